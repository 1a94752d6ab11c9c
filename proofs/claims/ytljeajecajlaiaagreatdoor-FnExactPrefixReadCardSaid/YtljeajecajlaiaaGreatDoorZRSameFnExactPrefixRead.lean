/- AddrRead: what the program reads is what the reference reads, for every text. Plain facts. -/
import Derived.Test.YtljeajecajlaiaaGreatDoorZRLawFnExactPrefixRead
namespace Go.Proofs.YtljeajecajlaiaaGreatDoor.RSame
open Go.RowKit Go.Lib Go.Shelf Go.Proofs.YtljeajecajlaiaaGreatDoorW.PrintWords Go.Proofs.YtljeajecajlaiaaGreatDoorW.PrintLast Go.Proofs.YtljeajecajlaiaaGreatDoorW.PrintMore Go.Proofs.YtljeajecajlaiaaGreatDoor.Frame Go.Proofs.YtljeajecajlaiaaGreatDoor.Base Go.Proofs.YtljeajecajlaiaaGreatDoor.Hex Go.Proofs.YtljeajecajlaiaaGreatDoor.Text Go.Proofs.YtljeajecajlaiaaGreatDoor.Spec Go.Proofs.YtljeajecajlaiaaGreatDoor.Pu Go.Proofs.YtljeajecajlaiaaGreatDoor.RPlain Go.Proofs.YtljeajecajlaiaaGreatDoor.Read Go.Proofs.YtljeajecajlaiaaGreatDoor.AddrLaw Go.Proofs.YtljeajecajlaiaaGreatDoor.RLaw Go.Proofs.YtljeajecajlaiaaGreatDoor.RText
set_option linter.unusedVariables false
set_option linter.unusedSimpArgs false
def implRead (s : ByteArray) : Int × Int × Int × Int × Int × Bool := finR s (implData s)
theorem hasCol_of {s : ByteArray} (h : (58 : UInt8) ∈ s.data.toList) : hasCol s = true := by
  unfold hasCol
  have := Lib.indexByte_ge s.data.toList 58
  refine decide_eq_true ?_
  by_cases e : Lib.indexByte s.data.toList 58 = -1
  · obtain ⟨k, hk⟩ := List.mem_iff_getElem?.1 h
    exact absurd hk (Lib.indexByte_none e k)
  · omega
theorem hasCol_no {s : ByteArray} (h : (58 : UInt8) ∉ s.data.toList) : hasCol s = false := by
  unfold hasCol
  refine decide_eq_false fun h0 => h ?_
  obtain ⟨n, hn⟩ := Int.eq_ofNat_of_zero_le h0
  exact List.mem_iff_getElem?.2 ⟨n, (Lib.indexByte_some hn).1⟩
theorem U8.get {xs : List Int} (h : U8 xs) {x : Int} (hx : x ∈ xs) : ∃ n : Nat, x = n ∧ n ≤ 255 := ⟨x.toNat, by have := h x hx; omega, by have := h x hx; omega⟩
theorem split_dot (s : ByteArray) : split dot s = (grp 46 s.data.toList).map ofL := splitB_grp 46 s
theorem split_col (s : ByteArray) : split col s = (grp 58 s.data.toList).map ofL := splitB_grp 58 s
theorem one_piece {c : UInt8} {s : ByteArray} (h : c ∉ s.data.toList) : (grp c s.data.toList).map ofL = [s] := by rw [grp_one _ h]; rfl
theorem flat_congr {α β : Type} {f g : α → List β} : ∀ (l : List α), (∀ x ∈ l, f x = g x) → l.flatMap f = l.flatMap g
  | [], _ => rfl
  | x :: r, h => by rw [List.flatMap_cons, List.flatMap_cons, h x (List.mem_cons_self ..), flat_congr r fun y hy => h y (List.mem_cons_of_mem _ hy)]
/-! four bytes -/
section
variable {b0 b1 b2 b3 : Int}
theorem addr4 (h : U8 [b0, b1, b2, b3]) : addrOf [b0, b1, b2, b3] = (4, 0, 0, 0, be4 [b0, b1, b2, b3] 0, true) ∧ addrBytes 4 0 0 0 (be4 [b0, b1, b2, b3] 0) = [b0, b1, b2, b3] := by
  have h0 := h b0 (by simp)
  have h1 := h b1 (by simp)
  have h2 := h b2 (by simp)
  have h3 := h b3 (by simp)
  have e : be4 [b0, b1, b2, b3] 0 = ((b0 * 256 + b1) * 256 + b2) * 256 + b3 := rfl
  refine ⟨rfl, ?_⟩
  rw [e]
  unfold addrBytes
  have hk : AddrOK 4 0 0 0 (((b0 * 256 + b1) * 256 + b2) * 256 + b3) := Or.inl ⟨rfl, rfl, rfl, rfl, by unfold Half; omega⟩
  rw [if_pos hk, if_pos rfl]
  unfold b4
  simp only [List.cons.injEq, and_true]
  refine ⟨?_, ?_, ?_, ?_⟩ <;> omega
theorem text4 (h : U8 [b0, b1, b2, b3]) : textOf [b0, b1, b2, b3] = strJ 46 ([b0, b1, b2, b3].map itoaS) := textOf4 rfl
theorem pieces4 (h : U8 [b0, b1, b2, b3]) : ∀ p ∈ [b0, b1, b2, b3].map itoaS, (46 : UInt8) ∉ p.data.toList ∧ (58 : UInt8) ∉ p.data.toList ∧ p.size ≤ 3 := by
  intro p hp
  obtain ⟨b, hb, rfl⟩ := List.mem_map.1 hp
  obtain ⟨n, rfl, hn⟩ := U8.get h hb
  refine ⟨(itoa_sep hn).1, (itoa_sep hn).2, ?_⟩
  show (Lib.itoa n).length ≤ 3
  rcases itoa_255 hn with ⟨_, e⟩ | ⟨_, _, e⟩ | ⟨_, e⟩ <;> rw [e] <;> simp
theorem noCol4 (h : U8 [b0, b1, b2, b3]) : (58 : UInt8) ∉ (textOf [b0, b1, b2, b3]).data.toList := by
  rw [text4 h]
  intro hm
  rcases mem_str hm with e | ⟨p, hp, e⟩
  · exact absurd e (by decide)
  · exact (pieces4 h p hp).2.1 e
theorem grp4 (h : U8 [b0, b1, b2, b3]) : (grp 46 (textOf [b0, b1, b2, b3]).data.toList).map ofL = [b0, b1, b2, b3].map itoaS := by
  rw [text4 h]
  exact grp_str (by simp) fun p hp => (pieces4 h p hp).1
theorem impl4 (h : U8 [b0, b1, b2, b3]) : implData (textOf [b0, b1, b2, b3]) = [b0, b1, b2, b3] := by
  unfold implData
  rw [hasCol_no (noCol4 h), if_neg Bool.false_ne_true, split_dot, grp4 h]
  have hp : ∀ b ∈ [b0, b1, b2, b3], f10 (itoaS b) = [b] := by
    intro b hb
    obtain ⟨n, rfl, hn⟩ := U8.get h hb
    unfold f10
    rw [pv10_itoa hn, Int.emod_eq_of_lt (by omega) (by omega)]
  show f10 (itoaS b0) ++ (f10 (itoaS b1) ++ (f10 (itoaS b2) ++ (f10 (itoaS b3) ++ []))) = _
  rw [hp b0 (by simp), hp b1 (by simp), hp b2 (by simp), hp b3 (by simp)]
  rfl
theorem go10_step {b : Int} (hb : 0 ≤ b ∧ b ≤ 255) (r : List ByteArray) (acc : List Int) : go10 (itoaS b :: r) acc = go10 r (acc ++ [b]) := by
  obtain ⟨n, rfl⟩ : ∃ n : Nat, b = n := ⟨b.toNat, by omega⟩
  show (if valS 10 (itoaS n) < 0 then none else if valS 10 (itoaS n) > 255 then none else go10 r (acc ++ [valS 10 (itoaS n) % 256])) = _
  rw [val_itoa (show n ≤ 255 by omega), if_neg (by omega), if_neg (by omega), Int.emod_eq_of_lt (by omega) (by omega)]
theorem size4 (h : U8 [b0, b1, b2, b3]) : (textOf [b0, b1, b2, b3]).size ≤ 39 := by
  have hp := pieces4 h
  rw [text4 h]
  have e0 := (hp (itoaS b0) (by simp)).2.2
  have e1 := (hp (itoaS b1) (by simp)).2.2
  have e2 := (hp (itoaS b2) (by simp)).2.2
  have e3 := (hp (itoaS b3) (by simp)).2.2
  have : (strJ 46 ([b0, b1, b2, b3].map itoaS)).size = (itoaS b0).size + (1 + (itoaS b1).size + (1 + (itoaS b2).size + (1 + (itoaS b3).size))) := by
    rw [Lib.size_eq]
    show (strJ 46 (itoaS b0 :: [itoaS b1, itoaS b2, itoaS b3])).data.toList.length = _
    rw [joined]
    simp only [Lib.joinTail, List.map_cons, List.map_nil, List.flatten_cons, List.flatten_nil, List.length_append, List.length_cons, List.length_nil, Lib.size_eq]
    omega
  omega
theorem spec4 (h : U8 [b0, b1, b2, b3]) : specRead (textOf [b0, b1, b2, b3]) = finR (textOf [b0, b1, b2, b3]) [b0, b1, b2, b3] := by
  have hs := size4 h
  unfold specRead
  rw [if_neg (by omega), grp4 h, one_piece (noCol4 h), if_pos (by rfl)]
  show end10 _ [itoaS b0, itoaS b1, itoaS b2, itoaS b3] _ _ = _
  unfold end10
  rw [go10_step (h b0 (by simp)), go10_step (h b1 (by simp)), go10_step (h b2 (by simp)), go10_step (h b3 (by simp))]
  show tail16 _ [textOf [b0, b1, b2, b3]] [b0, b1, b2, b3] = _
  unfold tail16
  rw [if_neg (by show ¬ ((1 : Nat) : Int) = 8; omega)]
end
/-! sixteen bytes -/
section
variable {b0 b1 b2 b3 b4 b5 b6 b7 b8 b9 b10 b11 b12 b13 b14 b15 : Int}
theorem addr16 (h : U8 [b0, b1, b2, b3, b4, b5, b6, b7, b8, b9, b10, b11, b12, b13, b14, b15]) : addrOf [b0, b1, b2, b3, b4, b5, b6, b7, b8, b9, b10, b11, b12, b13, b14, b15] = (6, be4 [b0, b1, b2, b3, b4, b5, b6, b7, b8, b9, b10, b11, b12, b13, b14, b15] 0, be4 [b0, b1, b2, b3, b4, b5, b6, b7, b8, b9, b10, b11, b12, b13, b14, b15] 4, be4 [b0, b1, b2, b3, b4, b5, b6, b7, b8, b9, b10, b11, b12, b13, b14, b15] 8, be4 [b0, b1, b2, b3, b4, b5, b6, b7, b8, b9, b10, b11, b12, b13, b14, b15] 12, true) ∧ addrBytes 6 (be4 [b0, b1, b2, b3, b4, b5, b6, b7, b8, b9, b10, b11, b12, b13, b14, b15] 0) (be4 [b0, b1, b2, b3, b4, b5, b6, b7, b8, b9, b10, b11, b12, b13, b14, b15] 4) (be4 [b0, b1, b2, b3, b4, b5, b6, b7, b8, b9, b10, b11, b12, b13, b14, b15] 8) (be4 [b0, b1, b2, b3, b4, b5, b6, b7, b8, b9, b10, b11, b12, b13, b14, b15] 12) = [b0, b1, b2, b3, b4, b5, b6, b7, b8, b9, b10, b11, b12, b13, b14, b15] := by
  have h0 := h b0 (by simp)
  have h1 := h b1 (by simp)
  have h2 := h b2 (by simp)
  have h3 := h b3 (by simp)
  have h4 := h b4 (by simp)
  have h5 := h b5 (by simp)
  have h6 := h b6 (by simp)
  have h7 := h b7 (by simp)
  have h8 := h b8 (by simp)
  have h9 := h b9 (by simp)
  have h10 := h b10 (by simp)
  have h11 := h b11 (by simp)
  have h12 := h b12 (by simp)
  have h13 := h b13 (by simp)
  have h14 := h b14 (by simp)
  have h15 := h b15 (by simp)
  have e0 : be4 [b0, b1, b2, b3, b4, b5, b6, b7, b8, b9, b10, b11, b12, b13, b14, b15] 0 = ((b0 * 256 + b1) * 256 + b2) * 256 + b3 := rfl
  have e1 : be4 [b0, b1, b2, b3, b4, b5, b6, b7, b8, b9, b10, b11, b12, b13, b14, b15] 4 = ((b4 * 256 + b5) * 256 + b6) * 256 + b7 := rfl
  have e2 : be4 [b0, b1, b2, b3, b4, b5, b6, b7, b8, b9, b10, b11, b12, b13, b14, b15] 8 = ((b8 * 256 + b9) * 256 + b10) * 256 + b11 := rfl
  have e3 : be4 [b0, b1, b2, b3, b4, b5, b6, b7, b8, b9, b10, b11, b12, b13, b14, b15] 12 = ((b12 * 256 + b13) * 256 + b14) * 256 + b15 := rfl
  refine ⟨rfl, ?_⟩
  rw [e0, e1, e2, e3]
  unfold addrBytes
  have hk : AddrOK 6 (((b0 * 256 + b1) * 256 + b2) * 256 + b3) (((b4 * 256 + b5) * 256 + b6) * 256 + b7) (((b8 * 256 + b9) * 256 + b10) * 256 + b11) (((b12 * 256 + b13) * 256 + b14) * 256 + b15) := Or.inr ⟨rfl, by unfold Half; omega, by unfold Half; omega, by unfold Half; omega, by unfold Half; omega⟩
  rw [if_pos hk, if_neg (by decide)]
  unfold Base.b4
  simp only [List.cons_append, List.nil_append, List.cons.injEq, and_true]
  refine ⟨?_, ?_, ?_, ?_, ?_, ?_, ?_, ?_, ?_, ?_, ?_, ?_, ?_, ?_, ?_, ?_⟩ <;> omega
def ws16 (b0 b1 b2 b3 b4 b5 b6 b7 b8 b9 b10 b11 b12 b13 b14 b15 : Int) : List Int := [(b0 * 256 + b1), (b2 * 256 + b3), (b4 * 256 + b5), (b6 * 256 + b7), (b8 * 256 + b9), (b10 * 256 + b11), (b12 * 256 + b13), (b14 * 256 + b15)]
theorem ws_word (h : U8 [b0, b1, b2, b3, b4, b5, b6, b7, b8, b9, b10, b11, b12, b13, b14, b15]) : ∀ w ∈ ws16 b0 b1 b2 b3 b4 b5 b6 b7 b8 b9 b10 b11 b12 b13 b14 b15, 0 ≤ w ∧ w ≤ 65535 := by
  have h0 := h b0 (by simp)
  have h1 := h b1 (by simp)
  have h2 := h b2 (by simp)
  have h3 := h b3 (by simp)
  have h4 := h b4 (by simp)
  have h5 := h b5 (by simp)
  have h6 := h b6 (by simp)
  have h7 := h b7 (by simp)
  have h8 := h b8 (by simp)
  have h9 := h b9 (by simp)
  have h10 := h b10 (by simp)
  have h11 := h b11 (by simp)
  have h12 := h b12 (by simp)
  have h13 := h b13 (by simp)
  have h14 := h b14 (by simp)
  have h15 := h b15 (by simp)
  intro w hw
  unfold ws16 at hw
  simp only [List.mem_cons, List.not_mem_nil, or_false] at hw
  omega
theorem text16 (h : U8 [b0, b1, b2, b3, b4, b5, b6, b7, b8, b9, b10, b11, b12, b13, b14, b15]) : textOf [b0, b1, b2, b3, b4, b5, b6, b7, b8, b9, b10, b11, b12, b13, b14, b15] = strJ 58 ((ws16 b0 b1 b2 b3 b4 b5 b6 b7 b8 b9 b10 b11 b12 b13 b14 b15).map hexS) := textOf6 rfl
theorem pieces16 (h : U8 [b0, b1, b2, b3, b4, b5, b6, b7, b8, b9, b10, b11, b12, b13, b14, b15]) : ∀ p ∈ (ws16 b0 b1 b2 b3 b4 b5 b6 b7 b8 b9 b10 b11 b12 b13 b14 b15).map hexS, (46 : UInt8) ∉ p.data.toList ∧ (58 : UInt8) ∉ p.data.toList ∧ p.size ≤ 4 := by
  intro p hp
  obtain ⟨w, hw, rfl⟩ := List.mem_map.1 hp
  have hb := ws_word h w hw
  refine ⟨(hex_sep hb.1 hb.2).1, (hex_sep hb.1 hb.2).2, ?_⟩
  rw [Lib.size_eq]
  rcases hex4 hb.1 hb.2 with ⟨_, e⟩ | ⟨_, _, e⟩ | ⟨_, _, e⟩ | ⟨_, e⟩ <;> rw [e] <;> simp
theorem col16 (h : U8 [b0, b1, b2, b3, b4, b5, b6, b7, b8, b9, b10, b11, b12, b13, b14, b15]) : (58 : UInt8) ∈ (textOf [b0, b1, b2, b3, b4, b5, b6, b7, b8, b9, b10, b11, b12, b13, b14, b15]).data.toList := by
  rw [text16 h]
  show (58 : UInt8) ∈ (strJ 58 (hexS (b0 * 256 + b1) :: (List.map hexS [(b2 * 256 + b3), (b4 * 256 + b5), (b6 * 256 + b7), (b8 * 256 + b9), (b10 * 256 + b11), (b12 * 256 + b13), (b14 * 256 + b15)]))).data.toList
  rw [joined, List.mem_append]
  exact Or.inr (List.mem_cons_self ..)
theorem noDot16 (h : U8 [b0, b1, b2, b3, b4, b5, b6, b7, b8, b9, b10, b11, b12, b13, b14, b15]) : (46 : UInt8) ∉ (textOf [b0, b1, b2, b3, b4, b5, b6, b7, b8, b9, b10, b11, b12, b13, b14, b15]).data.toList := by
  rw [text16 h]
  intro hm
  rcases mem_str hm with e | ⟨p, hp, e⟩
  · exact absurd e (by decide)
  · exact (pieces16 h p hp).1 e
theorem grp16 (h : U8 [b0, b1, b2, b3, b4, b5, b6, b7, b8, b9, b10, b11, b12, b13, b14, b15]) : (grp 58 (textOf [b0, b1, b2, b3, b4, b5, b6, b7, b8, b9, b10, b11, b12, b13, b14, b15]).data.toList).map ofL = (ws16 b0 b1 b2 b3 b4 b5 b6 b7 b8 b9 b10 b11 b12 b13 b14 b15).map hexS := by
  rw [text16 h]
  exact grp_str (by unfold ws16; simp) fun p hp => (pieces16 h p hp).2.1
theorem impl16 (h : U8 [b0, b1, b2, b3, b4, b5, b6, b7, b8, b9, b10, b11, b12, b13, b14, b15]) : implData (textOf [b0, b1, b2, b3, b4, b5, b6, b7, b8, b9, b10, b11, b12, b13, b14, b15]) = [b0, b1, b2, b3, b4, b5, b6, b7, b8, b9, b10, b11, b12, b13, b14, b15] := by
  have h0 := h b0 (by simp)
  have h1 := h b1 (by simp)
  have h2 := h b2 (by simp)
  have h3 := h b3 (by simp)
  have h4 := h b4 (by simp)
  have h5 := h b5 (by simp)
  have h6 := h b6 (by simp)
  have h7 := h b7 (by simp)
  have h8 := h b8 (by simp)
  have h9 := h b9 (by simp)
  have h10 := h b10 (by simp)
  have h11 := h b11 (by simp)
  have h12 := h b12 (by simp)
  have h13 := h b13 (by simp)
  have h14 := h b14 (by simp)
  have h15 := h b15 (by simp)
  unfold implData
  rw [hasCol_of (col16 h), if_pos rfl, split_col, grp16 h]
  have hp : ∀ w ∈ ws16 b0 b1 b2 b3 b4 b5 b6 b7 b8 b9 b10 b11 b12 b13 b14 b15, f16 (hexS w) = [w / 256 % 256, w % 256] := by
    intro w hw
    have hb := ws_word h w hw
    unfold f16
    rw [pv16_hex hb.1 hb.2]
  have : ((ws16 b0 b1 b2 b3 b4 b5 b6 b7 b8 b9 b10 b11 b12 b13 b14 b15).map hexS).flatMap f16 = (ws16 b0 b1 b2 b3 b4 b5 b6 b7 b8 b9 b10 b11 b12 b13 b14 b15).flatMap fun w => [w / 256 % 256, w % 256] := by
    rw [List.flatMap_map]
    exact flat_congr _ hp
  rw [this]
  unfold ws16
  simp only [List.flatMap_cons, List.flatMap_nil, List.cons_append, List.nil_append, List.cons.injEq, and_true]
  refine ⟨?_, ?_, ?_, ?_, ?_, ?_, ?_, ?_, ?_, ?_, ?_, ?_, ?_, ?_, ?_, ?_⟩ <;> omega
theorem go16_step {w : Int} (hb : 0 ≤ w ∧ w ≤ 65535) (r : List ByteArray) (acc : List Int) : go16 (hexS w :: r) acc = go16 r (acc ++ Base.b2 w) := by
  show (if valS 16 (hexS w) < 0 then none else go16 r (acc ++ Base.b2 (valS 16 (hexS w)))) = _
  rw [val_hex hb.1 hb.2, if_neg (by omega)]
theorem size16 (h : U8 [b0, b1, b2, b3, b4, b5, b6, b7, b8, b9, b10, b11, b12, b13, b14, b15]) : (textOf [b0, b1, b2, b3, b4, b5, b6, b7, b8, b9, b10, b11, b12, b13, b14, b15]).size ≤ 39 := by
  have hp := pieces16 h
  have hs : ∀ w ∈ ws16 b0 b1 b2 b3 b4 b5 b6 b7 b8 b9 b10 b11 b12 b13 b14 b15, (hexS w).size ≤ 4 := fun w hw => (hp _ (List.mem_map.2 ⟨w, hw, rfl⟩)).2.2
  rw [text16 h]
  unfold ws16 at hs ⊢
  have s0 := hs (b0 * 256 + b1) (by simp)
  have s1 := hs (b2 * 256 + b3) (by simp)
  have s2 := hs (b4 * 256 + b5) (by simp)
  have s3 := hs (b6 * 256 + b7) (by simp)
  have s4 := hs (b8 * 256 + b9) (by simp)
  have s5 := hs (b10 * 256 + b11) (by simp)
  have s6 := hs (b12 * 256 + b13) (by simp)
  have s7 := hs (b14 * 256 + b15) (by simp)
  have : (strJ 58 (List.map hexS [(b0 * 256 + b1), (b2 * 256 + b3), (b4 * 256 + b5), (b6 * 256 + b7), (b8 * 256 + b9), (b10 * 256 + b11), (b12 * 256 + b13), (b14 * 256 + b15)])).size = (hexS (b0 * 256 + b1)).size + 1 + (hexS (b2 * 256 + b3)).size + 1 + (hexS (b4 * 256 + b5)).size + 1 + (hexS (b6 * 256 + b7)).size + 1 + (hexS (b8 * 256 + b9)).size + 1 + (hexS (b10 * 256 + b11)).size + 1 + (hexS (b12 * 256 + b13)).size + 1 + (hexS (b14 * 256 + b15)).size := by
    rw [Lib.size_eq]
    show (strJ 58 (hexS (b0 * 256 + b1) :: (List.map hexS [(b2 * 256 + b3), (b4 * 256 + b5), (b6 * 256 + b7), (b8 * 256 + b9), (b10 * 256 + b11), (b12 * 256 + b13), (b14 * 256 + b15)]))).data.toList.length = _
    rw [joined]
    simp only [Lib.joinTail, List.map_cons, List.map_nil, List.flatten_cons, List.flatten_nil, List.length_append, List.length_cons, List.length_nil, Lib.size_eq]
    omega
  omega
theorem go16_all (h : U8 [b0, b1, b2, b3, b4, b5, b6, b7, b8, b9, b10, b11, b12, b13, b14, b15]) : go16 ((ws16 b0 b1 b2 b3 b4 b5 b6 b7 b8 b9 b10 b11 b12 b13 b14 b15).map hexS) [] = some [b0, b1, b2, b3, b4, b5, b6, b7, b8, b9, b10, b11, b12, b13, b14, b15] := by
  have h0 := h b0 (by simp)
  have h1 := h b1 (by simp)
  have h2 := h b2 (by simp)
  have h3 := h b3 (by simp)
  have h4 := h b4 (by simp)
  have h5 := h b5 (by simp)
  have h6 := h b6 (by simp)
  have h7 := h b7 (by simp)
  have h8 := h b8 (by simp)
  have h9 := h b9 (by simp)
  have h10 := h b10 (by simp)
  have h11 := h b11 (by simp)
  have h12 := h b12 (by simp)
  have h13 := h b13 (by simp)
  have h14 := h b14 (by simp)
  have h15 := h b15 (by simp)
  have hw := ws_word h
  unfold ws16 at hw ⊢
  simp only [List.map_cons, List.map_nil]
  rw [go16_step (hw (b0 * 256 + b1) (by simp)), go16_step (hw (b2 * 256 + b3) (by simp)), go16_step (hw (b4 * 256 + b5) (by simp)), go16_step (hw (b6 * 256 + b7) (by simp)), go16_step (hw (b8 * 256 + b9) (by simp)), go16_step (hw (b10 * 256 + b11) (by simp)), go16_step (hw (b12 * 256 + b13) (by simp)), go16_step (hw (b14 * 256 + b15) (by simp))]
  unfold go16 Base.b2
  simp only [List.cons_append, List.nil_append, Option.some.injEq, List.cons.injEq, and_true]
  refine ⟨?_, ?_, ?_, ?_, ?_, ?_, ?_, ?_, ?_, ?_, ?_, ?_, ?_, ?_, ?_, ?_⟩ <;> omega
theorem spec16 (h : U8 [b0, b1, b2, b3, b4, b5, b6, b7, b8, b9, b10, b11, b12, b13, b14, b15]) : specRead (textOf [b0, b1, b2, b3, b4, b5, b6, b7, b8, b9, b10, b11, b12, b13, b14, b15]) = finR (textOf [b0, b1, b2, b3, b4, b5, b6, b7, b8, b9, b10, b11, b12, b13, b14, b15]) [b0, b1, b2, b3, b4, b5, b6, b7, b8, b9, b10, b11, b12, b13, b14, b15] := by
  have hs := size16 h
  unfold specRead
  rw [if_neg (by omega), one_piece (noDot16 h), grp16 h, if_neg (by show ¬ ((1 : Nat) : Int) = 4; omega)]
  unfold tail16
  rw [if_pos (by rfl)]
  unfold end16
  rw [go16_all h]
end
/-! both sides -/
theorem fin_no {s : ByteArray} {d : List Int} (hd : U8 d) (h : ¬ ∃ d, U8 d ∧ (d.length = 4 ∨ d.length = 16) ∧ textOf d = s) : finR s d = Z := by
  unfold finR
  by_cases h4 : d.length = 4
  · match d, h4 with
    | [b0, b1, b2, b3], _ =>
      obtain ⟨e1, e2⟩ := addr4 hd
      rw [e1]
      simp only [if_true]
      rw [e2]
      exact if_neg fun e => h ⟨_, hd, Or.inl rfl, toList_inj e⟩
  · by_cases h16 : d.length = 16
    · match d, h16 with
      | [b0, b1, b2, b3, b4, b5, b6, b7, b8, b9, b10, b11, b12, b13, b14, b15], _ =>
        obtain ⟨e1, e2⟩ := addr16 hd
        rw [e1]
        simp only [if_true]
        rw [e2]
        exact if_neg fun e => h ⟨_, hd, Or.inr rfl, toList_inj e⟩
    · have : addrOf d = Z := by
        unfold addrOf
        rw [if_neg (by omega), if_neg (by omega)]
        rfl
      rw [this]
      exact if_neg Bool.false_ne_true
theorem go10_u8 : ∀ (F : List ByteArray) (acc d : List Int), U8 acc → go10 F acc = some d → U8 d
  | [], acc, d, ha, h => by
    obtain rfl := Option.some.inj h
    exact ha
  | p :: r, acc, d, ha, h => by
    unfold go10 at h
    split at h
    · cases h
    · split at h
      · cases h
      · exact go10_u8 r _ d (U8.app ha (U8.cons (by omega) (by omega) U8.nil)) h
theorem go16_u8 : ∀ (F : List ByteArray) (acc d : List Int), U8 acc → go16 F acc = some d → U8 d
  | [], acc, d, ha, h => by
    obtain rfl := Option.some.inj h
    exact ha
  | p :: r, acc, d, ha, h => by
    unfold go16 at h
    split at h
    · cases h
    · exact go16_u8 r _ d (U8.app ha (U8.two _)) h
theorem tail_no {s : ByteArray} {S : List ByteArray} {acc : List Int} (ha : U8 acc) (h : ¬ ∃ d, U8 d ∧ (d.length = 4 ∨ d.length = 16) ∧ textOf d = s) : tail16 s S acc = Z := by
  unfold tail16 end16
  split
  · cases e : go16 S acc with
    | none => rfl
    | some d => exact fin_no (go16_u8 S acc d ha e) h
  · exact fin_no ha h
theorem data_u8 (s : ByteArray) : U8 (implData s) := by
  intro x hx
  unfold implData at hx
  split at hx <;> obtain ⟨p, _, hp⟩ := List.mem_flatMap.1 hx
  · unfold f16 at hp
    simp only [List.mem_cons, List.not_mem_nil, or_false] at hp
    omega
  · unfold f10 at hp
    simp only [List.mem_cons, List.not_mem_nil, or_false] at hp
    omega
theorem same (s : ByteArray) : implRead s = specRead s := by
  by_cases h : ∃ d, U8 d ∧ (d.length = 4 ∨ d.length = 16) ∧ textOf d = s
  · obtain ⟨d, hd, hl, rfl⟩ := h
    rcases hl with h4 | h16
    · match d, h4 with
      | [b0, b1, b2, b3], _ => rw [spec4 hd, implRead, impl4 hd]
    · match d, h16 with
      | [b0, b1, b2, b3, b4, b5, b6, b7, b8, b9, b10, b11, b12, b13, b14, b15], _ => rw [spec16 hd, implRead, impl16 hd]
  · rw [implRead, fin_no (data_u8 s) h]
    unfold specRead
    split
    · rfl
    · split
      · unfold end10
        generalize hF : (grp 46 s.data.toList).map ofL = F
        cases e : go10 F [] with
        | none => rfl
        | some d => exact (tail_no (go10_u8 F [] d U8.nil e) h).symm
      · exact (tail_no U8.nil h).symm
end Go.Proofs.YtljeajecajlaiaaGreatDoor.RSame
