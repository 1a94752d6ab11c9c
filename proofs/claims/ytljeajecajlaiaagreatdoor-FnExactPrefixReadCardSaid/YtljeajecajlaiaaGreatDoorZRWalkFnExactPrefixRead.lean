/- The law FnExactAddrRead: the program's AddrRead answers as the reference, for every text of at most 2^20 bytes (longer texts are let pass). Conditions: the tables lie as their initialisers lay them, the error variables hold errors, internal/bytealg.MaxLen holds a number. -/
import Derived.Test.YtljeajecajlaiaaGreatDoorZRSameFnExactPrefixRead
namespace Go.Proofs.YtljeajecajlaiaaGreatDoor.RWalk
open Go.RowKit Go.Lib Go.Shelf Go.Proofs.YtljeajecajlaiaaGreatDoorW.PrintWords Go.Proofs.YtljeajecajlaiaaGreatDoorW.PrintLast Go.Proofs.YtljeajecajlaiaaGreatDoorW.PrintMore Go.Proofs.YtljeajecajlaiaaGreatDoor.Frame Go.Proofs.YtljeajecajlaiaaGreatDoor.Base Go.Proofs.YtljeajecajlaiaaGreatDoor.Hex Go.Proofs.YtljeajecajlaiaaGreatDoor.Text Go.Proofs.YtljeajecajlaiaaGreatDoor.Spec Go.Proofs.YtljeajecajlaiaaGreatDoor.Pu Go.Proofs.YtljeajecajlaiaaGreatDoor.RPlain Go.Proofs.YtljeajecajlaiaaGreatDoor.Read Go.Proofs.YtljeajecajlaiaaGreatDoor.AddrLaw Go.Proofs.YtljeajecajlaiaaGreatDoor.RLaw Go.Proofs.YtljeajecajlaiaaGreatDoor.RSame Go.Proofs.YtljeajecajlaiaaGreatDoor.FFnExactPrefixRead
set_option linter.unusedVariables false
set_option linter.unusedSimpArgs false
theorem implAddrOf {xs : List Int} (hx : U8 xs) {k : Nat} (hk : 10 ≤ k) : impl_AddrOf.f k xs = some (addrOf xs) := by
  unfold impl_AddrOf.f addrOf
  by_cases h4 : (xs.length : Int) = 4
  · have h := beOf4i hx (i := 0) (j := 4) (by omega) (by omega) (by omega) hk
    rw [List.take_of_length_le (by omega)] at h
    rw [if_pos h4, if_pos h4, show impl_beOf.f k xs = some (be4 xs 0) from h]
    rfl
  · rw [if_neg h4, if_neg h4]
    by_cases h16 : (xs.length : Int) = 16
    · have h := beOf4i hx (i := 12) (j := 16) (by omega) (by omega) (by omega) hk
      rw [List.take_of_length_le (by omega)] at h
      rw [if_pos h16, if_pos h16, if_pos (by omega), show impl_beOf.f k (xs.take 4) = some (be4 xs 0) from beOf4i hx (i := 0) (j := 4) (by omega) (by omega) (by omega) hk]
      simp only [Option.bind_some]
      rw [if_pos (by omega), if_pos (by omega), show impl_beOf.f k ((xs.take 8).drop 4) = some (be4 xs 4) from beOf4i hx (i := 4) (j := 8) (by omega) (by omega) (by omega) hk]
      simp only [Option.bind_some]
      rw [if_pos (by omega), if_pos (by omega), show impl_beOf.f k ((xs.take 12).drop 8) = some (be4 xs 8) from beOf4i hx (i := 8) (j := 12) (by omega) (by omega) (by omega) hk, show impl_beOf.f k (xs.drop 12) = some (be4 xs 12) from h]
      rfl
    · rw [if_neg h16, if_neg h16]
theorem eqAddr (k a b c d : Int) : laws_eqAddr.f k a b c d k a b c d = some true := by
  unfold laws_eqAddr.f
  simp only [if_true]
theorem implC (s : ByteArray) (hs : s.size ≤ 1048576) (w : World) (hE : Errs w) (hM : MaxLen w) (htab : Lib.TabIs Tryz.prog w "internal/strconv.uint64pow10" .u64 Lib.pow10Tab) (hT : TabAt 7 Lib.deBruijn64tab w) (r1 r2 r3 r4 r5 : Int) (r6 : Bool) (h : implRead s = (r1, r2, r3, r4, r5, r6)) :
    Calls Tryz.prog 12 #[.string s] w fun e w' => e = .returned (.tuple #[.agg #[.int .i64 r1, .int .i64 r2, .int .i64 r3, .int .i64 r4, .int .i64 r5], .bool r6]) ∧ Below w.heap.size w w' := by
  have hA : impl_AddrOf.f 20 (implData s) = some (addrOf (implData s)) := implAddrOf (data_u8 s) (by omega)
  unfold implRead finR at h
  obtain ⟨⟨b0, b1, b2, b3, b4, ok⟩, hB⟩ : ∃ B, B = addrOf (implData s) := ⟨_, rfl⟩
  rw [← hB] at hA h
  clear hB
  simp only at h
  by_cases hcol : hasCol s = true
  · rw [show implData s = (split col s).flatMap f16 from if_pos hcol] at hA
    cases ok with
    | false =>
      rw [if_neg Bool.false_ne_true] at h
      cases h
      exact addrRead_100 s hs 20 _ _ _ _ _ hcol hA w hE hM htab hT
    | true =>
      rw [if_pos rfl] at h
      by_cases ht : (textOf (addrBytes b0 b1 b2 b3 b4)).toList = s.toList
      · rw [if_pos ht] at h
        cases h
        exact addrRead_111 s hs 20 _ _ _ _ _ hcol (toList_inj ht) hA w hE hM htab hT
      · rw [if_neg ht] at h
        cases h
        exact addrRead_110 s hs 20 _ _ _ _ _ hcol (fun e => ht (congrArg _ e)) hA w hE hM htab hT
  · rw [show implData s = (split dot s).flatMap f10 from if_neg hcol] at hA
    have hcol : hasCol s = false := by simpa using hcol
    cases ok with
    | false =>
      rw [if_neg Bool.false_ne_true] at h
      cases h
      exact addrRead_000 s hs 20 _ _ _ _ _ hcol hA w hE hM htab hT
    | true =>
      rw [if_pos rfl] at h
      by_cases ht : (textOf (addrBytes b0 b1 b2 b3 b4)).toList = s.toList
      · rw [if_pos ht] at h
        cases h
        exact addrRead_011 s hs 20 _ _ _ _ _ hcol (toList_inj ht) hA w hE hM htab hT
      · rw [if_neg ht] at h
        cases h
        exact addrRead_010 s hs 20 _ _ _ _ _ hcol (fun e => ht (congrArg _ e)) hA w hE hM htab hT
end Go.Proofs.YtljeajecajlaiaaGreatDoor.RWalk
