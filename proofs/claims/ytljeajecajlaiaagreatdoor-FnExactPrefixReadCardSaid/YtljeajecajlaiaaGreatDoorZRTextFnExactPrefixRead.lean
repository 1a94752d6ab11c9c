/- AddrText's two sides, told as one total function of the address. Conditions: as for AddrText. -/
import Derived.Test.YtljeajecajlaiaaGreatDoorZLawFnExactPrefixRead
namespace Go.Proofs.YtljeajecajlaiaaGreatDoor.RText
open Go.RowKit Go.Shelf Go.Proofs.YtljeajecajlaiaaGreatDoorW.PrintWords Go.Proofs.YtljeajecajlaiaaGreatDoorW.PrintLast Go.Proofs.YtljeajecajlaiaaGreatDoorW.PrintMore Go.Proofs.YtljeajecajlaiaaGreatDoor.Frame Go.Proofs.YtljeajecajlaiaaGreatDoor.Base Go.Proofs.YtljeajecajlaiaaGreatDoor.Hex Go.Proofs.YtljeajecajlaiaaGreatDoor.Text Go.Proofs.YtljeajecajlaiaaGreatDoor.Spec Go.Proofs.YtljeajecajlaiaaGreatDoor.AddrLaw Go.Proofs.YtljeajecajlaiaaGreatDoor.FFnExactPrefixRead
set_option linter.unusedVariables false
theorem textOf0 {r : List Int} (h : r.length = 0) : textOf r = ⟨#[]⟩ := by unfold textOf; rw [if_neg (by omega), if_neg (by omega)]
theorem textOf4 {r : List Int} (h : r.length = 4) : textOf r = strJ 46 (r.map itoaS) := by unfold textOf; rw [if_pos h]
theorem textOf6 {r : List Int} (h : r.length = 16) : textOf r = strJ 58 (hexW r 8) := by unfold textOf; rw [if_neg (by omega), if_pos h, h]
theorem specT (a0 : Int) (a1 : Int) (a2 : Int) (a3 : Int) (a4 : Int) (w : World) : Calls Tryz.prog 19 #[.agg #[.int .i64 a0, .int .i64 a1, .int .i64 a2, .int .i64 a3, .int .i64 a4]] w fun e w' => e = .returned (.string (textOf (addrBytes a0 a1 a2 a3 a4))) ∧ Below w.heap.size w w' := by
  have hsh := addrBytes_shape a0 a1 a2 a3 a4
  have hr : ∀ b ∈ addrBytes a0 a1 a2 a3 a4, 0 ≤ b ∧ b ≤ 255 := addrBytes_u8 a0 a1 a2 a3 a4
  have hs := specAddrBytes a0 a1 a2 a3 a4
  generalize addrBytes a0 a1 a2 a3 a4 = r at hsh hr hs
  have hnum : ∀ b : Int, 0 ≤ b → b ≤ 255 → spec_NumText.f 30 b = some (itoaS b) := fun b h0 h1 => spec_is b (by omega) (by omega)
  rcases hsh with h | ⟨hk, h⟩ | ⟨hk, h⟩
  · rw [textOf0 h]
    exact specText0 a0 a1 a2 a3 a4 r hs hr h w
  · rw [textOf4 h]
    exact specText4 30 a0 a1 a2 a3 a4 r hs hr h hnum w
  · rw [textOf6 h]
    exact specText6 10 a0 a1 a2 a3 a4 r hs hr h hexIs w
theorem implT (a0 : Int) (a1 : Int) (a2 : Int) (a3 : Int) (a4 : Int) (w : World) (htab : Lib.TabIs Tryz.prog w "internal/strconv.uint64pow10" .u64 Lib.pow10Tab) (hT : TabAt 7 Lib.deBruijn64tab w) : Calls Tryz.prog 30 #[.agg #[.int .i64 a0, .int .i64 a1, .int .i64 a2, .int .i64 a3, .int .i64 a4]] w fun e w' => e = .returned (.string (textOf (addrBytes a0 a1 a2 a3 a4))) ∧ Below w.heap.size w w' := by
  have hsh := addrBytes_shape a0 a1 a2 a3 a4
  have hu := addrBytes_u8 a0 a1 a2 a3 a4
  have hl := addrBytes_len a0 a1 a2 a3 a4
  have hi := implAddrBytes (show 30 ≤ 50 by omega) a0 a1 a2 a3 a4
  generalize addrBytes a0 a1 a2 a3 a4 = r at hsh hu hl hi
  have hr : ∀ b ∈ r, 0 ≤ b ∧ b ≤ 255 := hu
  have hbe : ∀ x : Int, 0 ≤ x → x + 2 ≤ r.length → impl_beOf.f 50 ((r.take (x + 2).toNat).drop x.toNat) = some (be2 r x) := fun x h0 h1 => beOf2i hu h0 rfl h1 (by omega)
  have hw : ∀ x : Int, 0 ≤ be2 r x ∧ be2 r x ≤ 65535 := fun x => be2_word hu x
  have hj4 : (Lib.join ((r.map itoaS).map (·.data.toList)) [46]).length ≤ 140737488355328 := strs_len 46 _ (fun p hp => by
    obtain ⟨q, hq, rfl⟩ := List.mem_map.1 hp
    exact itoaS_size (hr q hq).1 (hr q hq).2) (by rw [List.length_map]; omega)
  have hj6 : (Lib.join ((hexW r (r.length / 2)).map (·.data.toList)) [58]).length ≤ 140737488355328 := strs_len 58 _ (fun p hp => by
    unfold hexW at hp
    obtain ⟨q, hq, rfl⟩ := List.mem_map.1 hp
    exact hexS_size _) (by unfold hexW; rw [List.length_map, List.length_range]; omega)
  rcases hsh with h | ⟨hk, h⟩ | ⟨hk, h⟩
  · have hr0 : r = [] := List.eq_nil_of_length_eq_zero h
    rw [textOf0 h]
    by_cases hk : a0 = 4
    · have := addrText4 50 a0 a1 a2 a3 a4 r hk hi hr hl hj4 w htab
      rw [hr0] at this
      exact this
    · have := addrText6 50 50 a0 a1 a2 a3 a4 r hk hi hr hl (by omega) hbe hw hj6 w hT
      rw [hr0] at this
      exact this
  · rw [textOf4 h]
    exact addrText4 50 a0 a1 a2 a3 a4 r hk hi hr hl hj4 w htab
  · have := addrText6 50 50 a0 a1 a2 a3 a4 r hk hi hr hl (by omega) hbe hw hj6 w hT
    rw [h] at this
    rw [textOf6 h]
    exact this
end Go.Proofs.YtljeajecajlaiaaGreatDoor.RText
namespace Go.Proofs.YtljeajecajlaiaaGreatDoor.FFnExactPrefixRead
open Go.RowKit Go.Proofs.YtljeajecajlaiaaGreatDoorW.PrintWords Go.Proofs.YtljeajecajlaiaaGreatDoorW.PrintMore Go.Proofs.YtljeajecajlaiaaGreatDoor.Base Go.Proofs.YtljeajecajlaiaaGreatDoor.Spec Go.Proofs.YtljeajecajlaiaaGreatDoor.AddrLaw
set_option linter.unusedVariables false
def spec_AddrText.f (k : Nat) (a0 : Int) (a1 : Int) (a2 : Int) (a3 : Int) (a4 : Int) : Option (ByteArray) := some (textOf (addrBytes a0 a1 a2 a3 a4))
theorem spec_AddrText.mono : ∀ a0 a1 a2 a3 a4 k, LeO (spec_AddrText.f k a0 a1 a2 a3 a4) (spec_AddrText.f (k + 1) a0 a1 a2 a3 a4) := fun _ _ _ _ _ _ => LeO.refl _
theorem spec_AddrText.calls (k : Nat) (a0 : Int) (a1 : Int) (a2 : Int) (a3 : Int) (a4 : Int) (r : ByteArray) (w : World) (h : spec_AddrText.f k a0 a1 a2 a3 a4 = some r) :
    Calls Tryz.prog 19 #[.agg #[.int .i64 a0, .int .i64 a1, .int .i64 a2, .int .i64 a3, .int .i64 a4]] w fun e w' => e = .returned (.string r) ∧ Below w.heap.size w w' := by
  obtain rfl := Option.some.inj h
  exact RText.specT a0 a1 a2 a3 a4 w
end Go.Proofs.YtljeajecajlaiaaGreatDoor.FFnExactPrefixRead
