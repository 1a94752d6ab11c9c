/- strconv.ParseUint at base 16 and 32 bits: what it reads. Condition: the variables ErrSyntax and ErrRange hold error values. -/
import Derived.Test.YtljeajecajlaiaaGreatDoorZLayPFnExactPrefixRead
import Derived.Shelf.Pu.ParseUintPublic10
import Derived.Lib.ParseIntBCases
import Derived.Lib.AtoiErrMem
import Derived.Shelf.Pu.Lower
import Derived.Lib.Strings
import Derived.Lib.Walk
import Derived.Lib.ConvBytes
import Derived.Lib.ParseIntBMem
import Derived.Lib.Hide
import Derived.Laws.Strings3
import Derived.Laws.Closers25
import Derived.Laws.Closers25b
import Derived.WalkKit
import Derived.BigCall
import Derived.BigGuard
namespace Go.Proofs.YtljeajecajlaiaaGreatDoor.Pu
open Go.Shelf Go.RowKit
variable {P : Program} {ρ : Ren}
/-- The value of a digit at base 16, small or great letter. -/
def dig16 (c : UInt8) : Option Nat := if 48 ≤ c.toNat ∧ c.toNat ≤ 57 then some (c.toNat - 48) else (if 97 ≤ (bits .or .u8 (c.toNat : Int) 32) ∧ (bits .or .u8 (c.toNat : Int) 32) ≤ 102 then some ((bits .or .u8 (c.toNat : Int) 32).toNat - 87) else none)
def pu16 (acc : Nat) : List UInt8 → Lib.NumEnd Nat
  | [] => .ok acc
  | c :: r => match dig16 c with
    | none => .«syntax»
    | some d => if 4294967295 < acc * 16 + d then .range else pu16 (acc * 16 + d) r
theorem dig_num {c : UInt8} (h0 : 48 ≤ c.toNat) (h1 : c.toNat ≤ 57) : dig16 c = some (c.toNat - 48) := if_pos ⟨h0, h1⟩
theorem dig_let {c : UInt8} {lc : Int} (h : ¬ (48 ≤ c.toNat ∧ c.toNat ≤ 57)) (hl : bits .or .u8 (c.toNat : Int) 32 = lc) (h0 : 97 ≤ lc) (h1 : lc ≤ 102) : dig16 c = some (lc.toNat - 87) := by
  unfold dig16
  rw [if_neg h, hl, if_pos ⟨h0, h1⟩]
theorem dig_no {c : UInt8} {lc : Int} (h : ¬ (48 ≤ c.toNat ∧ c.toNat ≤ 57)) (hl : bits .or .u8 (c.toNat : Int) 32 = lc) (h0 : ¬ (97 ≤ lc ∧ lc ≤ 102)) : dig16 c = none := by
  unfold dig16
  rw [if_neg h, hl, if_neg h0]
set_option maxHeartbeats 32000000 in
set_option maxRecDepth 100000 in
theorem parse16in (L : LaysPu.n16 P ρ) (t : ByteArray) (hne : t.size ≠ 0) (hmax : t.size ≤ 9223372036854775806) (w : World) :
    Calls P (ρ.f 16) #[.string t, .int .i64 16, .int .i64 32] w fun e w' => e = .returned (Lib.uintTupleM (ρ.t 34) 4294967295 (pu16 0 t.data.toList)) ∧ w' = Lib.bytesWorld w (ρ.t 5) t := by
  have mixed := L.mixed
  have t9 := L.t9; have a9 := L.a9; have z9 := L.z9; have v9 := L.v9
  have t3 := L.t3; have a3 := L.a3; have z3 := L.z3; have v3 := L.v3
  have t22 := L.t22; have a22 := L.a22; have z22 := L.z22; have v22 := L.v22
  have t24 := L.t24; have a24 := L.a24; have z24 := L.z24; have v24 := L.v24
  have t4 := L.t4; have a4 := L.a4; have z4 := L.z4; have v4 := L.v4
  have t34 := L.t34; have a34 := L.a34; have z34 := L.z34; have v34 := L.v34
  have t5 := L.t5; have a5 := L.a5; have z5 := L.z5; have v5 := L.v5
  have t36 := L.t36; have a36 := L.a36; have z36 := L.z36; have v36 := L.v36
  have t37 := L.t37; have a37 := L.a37; have z37 := L.z37; have v37 := L.v37
  have t0 := L.t0; have a0 := L.a0; have z0 := L.z0; have v0 := L.v0
  have e19 : ∀ args w, (callFunc (ρ.f 19) args).run P w = .ok (.enter (ρ.f 19) args) w := enters_of L.f19 (by kernel_rfl) rfl
  have hemp : t.toList.isEmpty = false := by
    rw [← decide_eq_emptyBytes]
    exact decide_eq_false (fun h => hne (by rw [h]; rfl))
  have hcv := Lib.run_convert_string_bytes (P := P) w (ρ.t 9) (ρ.t 37) (ρ.t 5) t (u := .string) L.t9 L.t37 L.t5
  have hB : ∀ j, j < t.size → (Lib.bytesWorld w (ρ.t 5) t).cell? ⟨w.heap.size, j, none⟩ = some (.int .u8 (t.data.toList.getD j 0).toNat) := fun j hj => Lib.bytesWorld_cell w (ρ.t 5) t j hj
  obtain ⟨W1, hW1⟩ : ∃ W1, W1 = Lib.bytesWorld w (ρ.t 5) t := ⟨_, rfl⟩
  rw [← hW1] at hcv hB ⊢
  clear hW1
  obtain ⟨bs, hL⟩ : ∃ bs, bs = t.data.toList := ⟨_, rfl⟩
  have hLn : bs.length = t.size := by rw [hL, Lib.size_eq]
  rw [← hL] at hB ⊢
  clear hL
  -- 'maxVal := uint64(1)<<uint(bitSize) - 1': its value, for the walk to take
  have hmv : IntKind.u64.wrap (IntKind.u64.wrap 4294967296 - 1) = 4294967295 := by
    rw [IntKind.wrap_u64, IntKind.wrap_u64]
    decide
  go_enter L.f16, BodyPu.n16_ntmps ρ
  go_wp2
  go_loop [12, 13, 101] (fun vu vn vi => ∃ (k acc : Nat) (a : Int), vu = .bool false ∧ vn = .int .u64 a ∧ vi = .int .i64 k ∧ k ≤ t.size ∧ Hid (a = (acc : Int) ∧ acc ≤ 4294967295 ∧ pu16 0 bs = pu16 acc (bs.drop k)))
    (fun _ _ vi => t.size - (intOf vi).toNat)
  case atStart => exact ⟨0, 0, 0, rfl, rfl, rfl, by omega, rfl, by omega, rfl⟩
  case round =>
    obtain ⟨k, acc, a, rfl, rfl, rfl, hk, hh⟩ := hrel
    obtain ⟨ha, hacc, hdec⟩ := hh.out
    clear hh
    have a0 : 0 ≤ a := by omega
    have a1 : a ≤ 4294967295 := by omega
    by_cases hkn : k < t.size
    · have hc := hB k hkn
      have hdrop : bs.drop k = bs[k]'(by omega) :: bs.drop (k + 1) := List.drop_eq_getElem_cons (by omega)
      have hget : bs.getD k 0 = bs[k]'(by omega) := by simp [List.getD, List.getElem?_eq_getElem (show k < bs.length by omega)]
      rw [hdrop] at hdec
      rw [hget] at hc
      generalize bs[k]'(by omega) = c at hc hdec
      have hc256 : c.toNat < 256 := c.toNat_lt
      clear hB hdrop hget
      have hcut : ¬ 1152921504606846976 ≤ acc := by omega
      by_cases hdig : 48 ≤ c.toNat ∧ c.toNat ≤ 57
      · obtain ⟨hd0, hd1⟩ := hdig
        have hdg := dig_num hd0 hd1
        by_cases hov : 4294967295 < acc * 16 + (c.toNat - 48)
        · have hF : pu16 acc (c :: bs.drop (k + 1)) = .range := by simp only [pu16, hdg, if_pos hov]
          rw [hF] at hdec
          have iov : 4294967295 < a * 16 + ((c.toNat : Int) - 48) := by omega
          clear hcut hacc hF hov ha hdg
          go_wp2
          all_goals go_ret2
          all_goals first | exact ⟨rfl, rfl⟩ | exact ⟨by rw [hdec]; rfl, rfl⟩
        · have hF : pu16 acc (c :: bs.drop (k + 1)) = pu16 (acc * 16 + (c.toNat - 48)) (bs.drop (k + 1)) := by simp only [pu16, hdg, if_neg hov]
          have HN : Hid (a * 16 + ((c.toNat : Int) - 48) = ((acc * 16 + (c.toNat - 48) : Nat) : Int) ∧ acc * 16 + (c.toNat - 48) ≤ 4294967295 ∧ pu16 0 bs = pu16 (acc * 16 + (c.toNat - 48)) (bs.drop (k + 1))) := Lib.hid ⟨by omega, by omega, hdec.trans hF⟩
          have iov : a * 16 + ((c.toNat : Int) - 48) ≤ 4294967295 := by omega
          clear hcut hacc hF hov hdec ha hdg
          go_wp2
          all_goals refine ⟨⟨k + 1, acc * 16 + (c.toNat - 48), a * 16 + ((c.toNat : Int) - 48), rfl, (by first | rfl | (congr 1; omega)), (by first | rfl | (congr 1; omega)), by omega, HN⟩, by simp [intOf]; omega⟩
      · by_cases h95 : (c.toNat : Int) = 95
        · have hF : pu16 acc (c :: bs.drop (k + 1)) = .«syntax» := by simp only [pu16, dig_no hdig (show bits .or .u8 (c.toNat : Int) 32 = 127 by rw [h95]; decide) (by decide)]
          rw [hF] at hdec
          rw [h95] at hc
          have hlow : ∀ w, Calls P (ρ.f 19) #[.int .u8 95] w fun e w' => e = .returned (.int .u8 127) ∧ w' = w := fun w => AnyPu.internal_strconv_lower { L with } 95 w
          clear hacc hF ha hcut h95 hdig hc256
          go_wp2_with (go_at_fn (ρ.f 19); refine (hlow _).mono ?_; rintro e w' ⟨rfl, rfl⟩)
          all_goals go_ret2
          all_goals first | exact ⟨rfl, rfl⟩ | exact ⟨by rw [hdec]; rfl, rfl⟩
        have hv0 := bits_lo_u8 .or (c.toNat : Int) 32
        have hv1 := bits_hi_u8 .or (c.toNat : Int) 32
        obtain ⟨lc, hlc⟩ : ∃ lc, bits .or .u8 (c.toNat : Int) 32 = lc := ⟨_, rfl⟩
        have hlow : ∀ w, Calls P (ρ.f 19) #[.int .u8 (c.toNat : Int)] w fun e w' => e = .returned (.int .u8 lc) ∧ w' = w := fun w => hlc ▸ AnyPu.internal_strconv_lower { L with } _ _
        rw [hlc] at hv0 hv1
        by_cases hlet : 97 ≤ lc ∧ lc ≤ 102
        · obtain ⟨hl0, hl1⟩ := hlet
          have hdg := dig_let hdig hlc hl0 hl1
          clear hlc
          by_cases hov : 4294967295 < acc * 16 + (lc.toNat - 87)
          · have hF : pu16 acc (c :: bs.drop (k + 1)) = .range := by simp only [pu16, hdg, if_pos hov]
            rw [hF] at hdec
            have iov : 4294967295 < a * 16 + (lc - 87) := by omega
            clear hcut hacc hF hov ha hdg
            go_wp2_with (go_at_fn (ρ.f 19); refine (hlow _).mono ?_; rintro e w' ⟨rfl, rfl⟩)
            all_goals go_ret2
            all_goals first | exact ⟨rfl, rfl⟩ | exact ⟨by rw [hdec]; rfl, rfl⟩
          · have hF : pu16 acc (c :: bs.drop (k + 1)) = pu16 (acc * 16 + (lc.toNat - 87)) (bs.drop (k + 1)) := by simp only [pu16, hdg, if_neg hov]
            have HN : Hid (a * 16 + (lc - 87) = ((acc * 16 + (lc.toNat - 87) : Nat) : Int) ∧ acc * 16 + (lc.toNat - 87) ≤ 4294967295 ∧ pu16 0 bs = pu16 (acc * 16 + (lc.toNat - 87)) (bs.drop (k + 1))) := Lib.hid ⟨by omega, by omega, hdec.trans hF⟩
            have iov : a * 16 + (lc - 87) ≤ 4294967295 := by omega
            clear hcut hacc hF hov hdec ha hdg
            go_wp2_with (go_at_fn (ρ.f 19); refine (hlow _).mono ?_; rintro e w' ⟨rfl, rfl⟩)
            all_goals refine ⟨⟨k + 1, acc * 16 + (lc.toNat - 87), a * 16 + (lc - 87), rfl, (by first | rfl | (congr 1; omega)), (by first | rfl | (congr 1; omega)), by omega, HN⟩, by simp [intOf]; omega⟩
        · have hF : pu16 acc (c :: bs.drop (k + 1)) = .«syntax» := by simp only [pu16, dig_no hdig hlc hlet]
          rw [hF] at hdec
          clear hacc hF ha hcut hlc
          go_wp2_with (go_at_fn (ρ.f 19); refine (hlow _).mono ?_; rintro e w' ⟨rfl, rfl⟩)
          all_goals go_ret2
          all_goals first | exact ⟨rfl, rfl⟩ | exact ⟨by rw [hdec]; rfl, rfl⟩
    · -- THE BYTES ARE AT AN END
      have hkk : k = t.size := by omega
      subst hkk
      have hF : pu16 acc (bs.drop t.size) = .ok acc := by rw [List.drop_eq_nil_of_le (by omega)]; rfl
      rw [hF] at hdec
      subst ha
      clear hacc hF a0 a1
      go_wp2
      go_ret2
      exact ⟨rfl, rfl⟩


def pu16B (l : List UInt8) : Lib.NumEnd Nat := if l = [] then .«syntax» else pu16 0 l
theorem in16 (L : LaysPu.n16 P ρ) (t : ByteArray) (hmax : t.size ≤ 9223372036854775806) (w : World) :
    Calls P (ρ.f 16) #[.string t, .int .i64 16, .int .i64 32] w fun e w' => e = .returned (Lib.uintTupleM (ρ.t 34) 4294967295 (pu16B t.data.toList)) ∧ (w' = w ∨ w' = Lib.bytesWorld w (ρ.t 5) t) := by
  by_cases h0 : t.size = 0
  · have ht : t = ⟨#[]⟩ := by
      apply ByteArray.ext
      exact Array.eq_empty_of_size_eq_zero h0
    subst ht
    exact (AnyPu.internal_strconv_ParseUint_empty { L with } 16 32 w).mono fun e w' ⟨he, hw⟩ => ⟨he, Or.inl hw⟩
  · have hne : t.data.toList ≠ [] := fun h => h0 (by rw [Lib.size_eq, h]; rfl)
    refine (parse16in { L with } t h0 hmax w).mono fun e w' ⟨he, hw⟩ => ⟨?_, Or.inr hw⟩
    rw [he, pu16B, if_neg hne]
set_option maxHeartbeats 4000000 in
set_option maxRecDepth 100000 in
theorem pub16_ok (L : LaysPu.n14 P ρ) (s : ByteArray) (hmax : s.size ≤ 9223372036854775806) (u : Nat) (h : pu16B s.data.toList = .ok u) (w : World) :
    Calls P (ρ.f 14) #[.string s, .int .i64 16, .int .i64 32] w fun e w' => e = .returned (.tuple #[.int .u64 u, .nilIface]) ∧ (w' = w ∨ w' = Lib.bytesWorld w (ρ.t 5) s) := by
  have mixed := L.mixed
  have t9 := L.t9; have a9 := L.a9; have z9 := L.z9; have v9 := L.v9
  have t3 := L.t3; have a3 := L.a3; have z3 := L.z3; have v3 := L.v3
  have t22 := L.t22; have a22 := L.a22; have z22 := L.z22; have v22 := L.v22
  have t24 := L.t24; have a24 := L.a24; have z24 := L.z24; have v24 := L.v24
  have t25 := L.t25; have a25 := L.a25; have z25 := L.z25; have v25 := L.v25
  have t4 := L.t4; have a4 := L.a4; have z4 := L.z4; have v4 := L.v4
  have e16 : ∀ args w, (callFunc (ρ.f 16) args).run P w = .ok (.enter (ρ.f 16) args) w := enters_of L.f16 (by kernel_rfl) rfl
  have hI := in16 { L with } s hmax w
  rw [h] at hI
  have hI : Calls P (ρ.f 16) #[.string s, .int .i64 16, .int .i64 32] w fun e w' => e = .returned (.tuple #[.int .u64 u, .nilIface]) ∧ (w' = w ∨ w' = Lib.bytesWorld w (ρ.t 5) s) := hI
  clear h
  go_enter L.f14, BodyPu.n14_ntmps ρ
  go_wp2_with (go_at_fn (ρ.f 16); refine hI.mono ?_; rintro e W1 ⟨rfl, hW⟩)
  go_wp2
  go_ret2
  exact ⟨rfl, hW⟩
set_option maxHeartbeats 4000000 in
set_option maxRecDepth 100000 in
theorem pub16_syntax (L : LaysPu.n14 P ρ) (s : ByteArray) (hlim : s.size ≤ 281474976710656) (h : pu16B s.data.toList = .«syntax») (ev : Value) (w : World) (hv : w.cell? ⟨(ρ.g 0), 0, none⟩ = some ev) (hev : ev = .nilIface ∨ ∃ te pe, ev = .iface te pe) :
    Calls P (ρ.f 14) #[.string s, .int .i64 16, .int .i64 32] w fun e w' => ∃ N, e = .returned (.tuple #[.int .u64 0, .iface (ρ.t 39) (.pointer (some ⟨N, 0, none⟩))]) ∧ w.heap.size ≤ N ∧ w'.heap[N]? = some (.cells #[.string ⟨#[80, 97, 114, 115, 101, 85, 105, 110, 116]⟩, .string s, ev] (ρ.t 44) (0, 0)) ∧ Below w.heap.size w w' := by
  have mixed := L.mixed
  have t9 := L.t9; have a9 := L.a9; have z9 := L.z9; have v9 := L.v9
  have t3 := L.t3; have a3 := L.a3; have z3 := L.z3; have v3 := L.v3
  have t22 := L.t22; have a22 := L.a22; have z22 := L.z22; have v22 := L.v22
  have t24 := L.t24; have a24 := L.a24; have z24 := L.z24; have v24 := L.v24
  have t25 := L.t25; have a25 := L.a25; have z25 := L.z25; have v25 := L.v25
  have t4 := L.t4; have a4 := L.a4; have z4 := L.z4; have v4 := L.v4
  have e16 : ∀ args w, (callFunc (ρ.f 16) args).run P w = .ok (.enter (ρ.f 16) args) w := enters_of L.f16 (by kernel_rfl) rfl
  have e17 : ∀ args w, (callFunc (ρ.f 17) args).run P w = .ok (.enter (ρ.f 17) args) w := enters_of L.f17 (by kernel_rfl) rfl
  have hG : (ρ.g 0) < w.heap.size := Lib.lt_of_cell hv
  have hI := in16 { L with } s (by omega) w
  rw [h] at hI
  have hI : Calls P (ρ.f 16) #[.string s, .int .i64 16, .int .i64 32] w fun e w' => e = .returned (.tuple #[.int .u64 0, .iface (ρ.t 34) (.int .i64 2)]) ∧ (w' = w ∨ w' = Lib.bytesWorld w (ρ.t 5) s) := hI
  clear h
  go_enter L.f14, BodyPu.n14_ntmps ρ
  go_wp2_with (go_at_fn (ρ.f 16); refine hI.mono ?_)
  rintro e W1 ⟨rfl, hW⟩
  have hb1 : Below w.heap.size w W1 := by
    rcases hW with rfl | rfl
    · exact Below.refl _ _
    · exact Lib.bytesWorld_below _ _ _
  have hv1 : W1.cell? ⟨(ρ.g 0), 0, none⟩ = some ev := (hb1.cell (show (⟨(ρ.g 0), 0, none⟩ : Addr).block < w.heap.size from hG)).trans hv
  clear hW
  go_wp2_with (go_at_fn (ρ.f 17); refine (AnyPu.strconv_toError_syntax { L with } ⟨#[80, 97, 114, 115, 101, 85, 105, 110, 116]⟩ s 16 32 ev _ hlim ?_ hev).mono ?_)
  · exact hv1
  rintro e W2 ⟨N, rfl, h1, h2, h3⟩
  go_wp2
  go_ret2
  exact ⟨N, rfl, Nat.le_trans hb1.size h1, h2, hb1.trans (h3.mono hb1.size)⟩
set_option maxHeartbeats 4000000 in
set_option maxRecDepth 100000 in
theorem pub16_range (L : LaysPu.n14 P ρ) (s : ByteArray) (hlim : s.size ≤ 281474976710656) (h : pu16B s.data.toList = .range) (ev : Value) (w : World) (hv : w.cell? ⟨(ρ.g 1), 0, none⟩ = some ev) (hev : ev = .nilIface ∨ ∃ te pe, ev = .iface te pe) :
    Calls P (ρ.f 14) #[.string s, .int .i64 16, .int .i64 32] w fun e w' => ∃ N, e = .returned (.tuple #[.int .u64 4294967295, .iface (ρ.t 39) (.pointer (some ⟨N, 0, none⟩))]) ∧ w.heap.size ≤ N ∧ w'.heap[N]? = some (.cells #[.string ⟨#[80, 97, 114, 115, 101, 85, 105, 110, 116]⟩, .string s, ev] (ρ.t 44) (0, 0)) ∧ Below w.heap.size w w' := by
  have mixed := L.mixed
  have t9 := L.t9; have a9 := L.a9; have z9 := L.z9; have v9 := L.v9
  have t3 := L.t3; have a3 := L.a3; have z3 := L.z3; have v3 := L.v3
  have t22 := L.t22; have a22 := L.a22; have z22 := L.z22; have v22 := L.v22
  have t24 := L.t24; have a24 := L.a24; have z24 := L.z24; have v24 := L.v24
  have t25 := L.t25; have a25 := L.a25; have z25 := L.z25; have v25 := L.v25
  have t4 := L.t4; have a4 := L.a4; have z4 := L.z4; have v4 := L.v4
  have e16 : ∀ args w, (callFunc (ρ.f 16) args).run P w = .ok (.enter (ρ.f 16) args) w := enters_of L.f16 (by kernel_rfl) rfl
  have e17 : ∀ args w, (callFunc (ρ.f 17) args).run P w = .ok (.enter (ρ.f 17) args) w := enters_of L.f17 (by kernel_rfl) rfl
  have hG : (ρ.g 1) < w.heap.size := Lib.lt_of_cell hv
  have hI := in16 { L with } s (by omega) w
  rw [h] at hI
  have hI : Calls P (ρ.f 16) #[.string s, .int .i64 16, .int .i64 32] w fun e w' => e = .returned (.tuple #[.int .u64 4294967295, .iface (ρ.t 34) (.int .i64 1)]) ∧ (w' = w ∨ w' = Lib.bytesWorld w (ρ.t 5) s) := hI
  clear h
  go_enter L.f14, BodyPu.n14_ntmps ρ
  go_wp2_with (go_at_fn (ρ.f 16); refine hI.mono ?_)
  rintro e W1 ⟨rfl, hW⟩
  have hb1 : Below w.heap.size w W1 := by
    rcases hW with rfl | rfl
    · exact Below.refl _ _
    · exact Lib.bytesWorld_below _ _ _
  have hv1 : W1.cell? ⟨(ρ.g 1), 0, none⟩ = some ev := (hb1.cell (show (⟨(ρ.g 1), 0, none⟩ : Addr).block < w.heap.size from hG)).trans hv
  clear hW
  go_wp2_with (go_at_fn (ρ.f 17); refine (AnyPu.strconv_toError_range { L with } ⟨#[80, 97, 114, 115, 101, 85, 105, 110, 116]⟩ s 16 32 ev _ hlim ?_ hev).mono ?_)
  · exact hv1
  rintro e W2 ⟨N, rfl, h1, h2, h3⟩
  go_wp2
  go_ret2
  exact ⟨N, rfl, Nat.le_trans hb1.size h1, h2, hb1.trans (h3.mono hb1.size)⟩

/-- What ParseUint hands back, the number alone. -/
def numOf : Lib.NumEnd Nat → Int
  | .ok u => u
  | .«syntax» => 0
  | .range => 4294967295
def pv10 (t : ByteArray) : Int := numOf (Lib.parseUintB 32 t.data.toList)
def pv16 (t : ByteArray) : Int := numOf (pu16B t.data.toList)
theorem pu16_le : ∀ (l : List UInt8) (acc u : Nat), acc ≤ 4294967295 → pu16 acc l = .ok u → u ≤ 4294967295
  | [], acc, u, ha, h => by
    simp only [pu16] at h
    injection h with h
    omega
  | c :: r, acc, u, ha, h => by
    simp only [pu16] at h
    split at h
    · cases h
    · split at h
      · cases h
      · exact pu16_le r _ u (by omega) h
theorem pv10_le (t : ByteArray) : 0 ≤ pv10 t ∧ pv10 t ≤ 4294967295 := by
  unfold pv10
  generalize hp : Lib.parseUintB 32 t.data.toList = p
  cases p with
  | ok u =>
    have := Lib.parseUintB_le hp
    have e : (2 : Nat) ^ 32 - 1 = 4294967295 := by decide
    rw [e] at this
    simp only [numOf]
    omega
  | «syntax» => simp [numOf]
  | range => simp [numOf]
theorem pv16_le (t : ByteArray) : 0 ≤ pv16 t ∧ pv16 t ≤ 4294967295 := by
  unfold pv16
  generalize hp : pu16B t.data.toList = p
  cases p with
  | ok u =>
    have : u ≤ 4294967295 := by
      unfold pu16B at hp
      split at hp
      · cases hp
      · exact pu16_le _ 0 u (by omega) hp
    simp only [numOf]
    omega
  | «syntax» => simp [numOf]
  | range => simp [numOf]
/-- The two variables of the library hold error values (or nil). -/
def Errs (w : World) : Prop := (∃ e, w.cell? ⟨1, 0, none⟩ = some e ∧ (e = .nilIface ∨ ∃ te pe, e = .iface te pe)) ∧ ∃ e, w.cell? ⟨2, 0, none⟩ = some e ∧ (e = .nilIface ∨ ∃ te pe, e = .iface te pe)
theorem Errs.later {w W : World} (h : Errs w) (hb : Below w.heap.size w W) : Errs W := by
  obtain ⟨⟨e, h1, h2⟩, e', h3, h4⟩ := h
  exact ⟨⟨e, (hb.cell (World.block_lt_of_cell? w _ h1)).trans h1, h2⟩, e', (hb.cell (World.block_lt_of_cell? w _ h3)).trans h3, h4⟩
theorem below_bytes {w w' : World} {e : TypeId} {s : ByteArray} (h : w' = w ∨ w' = Lib.bytesWorld w e s) : Below w.heap.size w w' := by
  rcases h with rfl | rfl
  · exact Below.refl _ _
  · exact Lib.bytesWorld_below _ _ _
theorem parse10 (s : ByteArray) (hs : s.size ≤ 281474976710656) (w : World) (hE : Errs w) :
    Calls Tryz.prog 42 #[.string s, .int .i64 10, .int .i64 32] w fun e w' => ∃ X, e = .returned (.tuple #[.int .u64 (pv10 s), X]) ∧ Below w.heap.size w w' := by
  obtain ⟨⟨e0, h1, h2⟩, e1, h3, h4⟩ := hE
  unfold pv10
  generalize hp : Lib.parseUintB 32 s.data.toList = p
  cases p with
  | ok u => exact (Any.strconv_ParseUint_10_at32_ok Tryz.laysPu14 s (by omega) u hp w).mono (by rintro e w' ⟨rfl, hw⟩; exact ⟨_, rfl, below_bytes hw⟩)
  | «syntax» => exact (Any.strconv_ParseUint_10_at32_syntax Tryz.laysPu14 s hs hp e0 w h1 h2).mono (by rintro e w' ⟨_, rfl, _, _, hb⟩; exact ⟨_, rfl, hb⟩)
  | range => exact (Any.strconv_ParseUint_10_at32_range Tryz.laysPu14 s hs hp e1 w h3 h4).mono (by rintro e w' ⟨_, rfl, _, _, hb⟩; exact ⟨_, rfl, hb⟩)
theorem parse16 (s : ByteArray) (hs : s.size ≤ 281474976710656) (w : World) (hE : Errs w) :
    Calls Tryz.prog 42 #[.string s, .int .i64 16, .int .i64 32] w fun e w' => ∃ X, e = .returned (.tuple #[.int .u64 (pv16 s), X]) ∧ Below w.heap.size w w' := by
  obtain ⟨⟨e0, h1, h2⟩, e1, h3, h4⟩ := hE
  unfold pv16
  generalize hp : pu16B s.data.toList = p
  cases p with
  | ok u => exact (pub16_ok Tryz.laysPu14 s (by omega) u hp w).mono (by rintro e w' ⟨rfl, hw⟩; exact ⟨_, rfl, below_bytes hw⟩)
  | «syntax» => exact (pub16_syntax Tryz.laysPu14 s hs hp e0 w h1 h2).mono (by rintro e w' ⟨_, rfl, _, _, hb⟩; exact ⟨_, rfl, hb⟩)
  | range => exact (pub16_range Tryz.laysPu14 s hs hp e1 w h3 h4).mono (by rintro e w' ⟨_, rfl, _, _, hb⟩; exact ⟨_, rfl, hb⟩)
end Go.Proofs.YtljeajecajlaiaaGreatDoor.Pu
