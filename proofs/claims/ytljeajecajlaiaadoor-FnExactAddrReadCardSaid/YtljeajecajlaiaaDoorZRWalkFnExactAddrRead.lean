/- The law FnExactAddrRead: the program's AddrRead answers as the reference, for every text of at most 2^20 bytes (longer texts are let pass). Conditions: the tables lie as their initialisers lay them, the error variables hold errors, internal/bytealg.MaxLen holds a number. -/
import Derived.Test.YtljeajecajlaiaaDoorZRSameFnExactAddrRead
namespace Go.Proofs.YtljeajecajlaiaaDoor.RWalk
open Go.RowKit Go.Lib Go.Shelf Go.Proofs.YtljeajecajlaiaaDoorW.PrintWords Go.Proofs.YtljeajecajlaiaaDoorW.PrintLast Go.Proofs.YtljeajecajlaiaaDoorW.PrintMore Go.Proofs.YtljeajecajlaiaaDoor.Frame Go.Proofs.YtljeajecajlaiaaDoor.Base Go.Proofs.YtljeajecajlaiaaDoor.Hex Go.Proofs.YtljeajecajlaiaaDoor.Text Go.Proofs.YtljeajecajlaiaaDoor.Spec Go.Proofs.YtljeajecajlaiaaDoor.Pu Go.Proofs.YtljeajecajlaiaaDoor.RPlain Go.Proofs.YtljeajecajlaiaaDoor.Read Go.Proofs.YtljeajecajlaiaaDoor.AddrLaw Go.Proofs.YtljeajecajlaiaaDoor.RLaw Go.Proofs.YtljeajecajlaiaaDoor.RSame Go.Proofs.YtljeajecajlaiaaDoor.FFnExactAddrText Go.Proofs.YtljeajecajlaiaaDoor.FFnExactAddrRead
set_option linter.unusedVariables false
set_option linter.unusedSimpArgs false
theorem implAddrOf {xs : List Int} (hx : U8 xs) {k : Nat} (hk : 10 ≤ k) : impl_AddrOf.f k xs = some (addrOf xs) := by
  unfold impl_AddrOf.f addrOf
  by_cases h4 : (xs.length : Int) = 4
  · have h := beOf4i hx (i := 0) (j := 4) (by omega) (by omega) (by omega) hk
    rw [List.take_of_length_le (by omega)] at h
    rw [if_pos h4, if_pos h4, show impl_beOf.f k xs = some (be4 xs 0) from h]
    rfl
  · rw [if_neg h4, if_neg h4]
    by_cases h16 : (xs.length : Int) = 16
    · have h := beOf4i hx (i := 12) (j := 16) (by omega) (by omega) (by omega) hk
      rw [List.take_of_length_le (by omega)] at h
      rw [if_pos h16, if_pos h16, if_pos (by omega), show impl_beOf.f k (xs.take 4) = some (be4 xs 0) from beOf4i hx (i := 0) (j := 4) (by omega) (by omega) (by omega) hk]
      simp only [Option.bind_some]
      rw [if_pos (by omega), if_pos (by omega), show impl_beOf.f k ((xs.take 8).drop 4) = some (be4 xs 4) from beOf4i hx (i := 4) (j := 8) (by omega) (by omega) (by omega) hk]
      simp only [Option.bind_some]
      rw [if_pos (by omega), if_pos (by omega), show impl_beOf.f k ((xs.take 12).drop 8) = some (be4 xs 8) from beOf4i hx (i := 8) (j := 12) (by omega) (by omega) (by omega) hk, show impl_beOf.f k (xs.drop 12) = some (be4 xs 12) from h]
      rfl
    · rw [if_neg h16, if_neg h16]
theorem eqAddr (k a b c d : Int) : laws_eqAddr.f k a b c d k a b c d = some true := by
  unfold laws_eqAddr.f
  simp only [if_true]
theorem implC (s : ByteArray) (hs : s.size ≤ 1048576) (w : World) (hE : Errs w) (hM : MaxLen w) (htab : Lib.TabIs Tryd.prog w "internal/strconv.uint64pow10" .u64 Lib.pow10Tab) (hT : TabAt 5 Lib.deBruijn64tab w) (r1 r2 r3 r4 r5 : Int) (r6 : Bool) (h : implRead s = (r1, r2, r3, r4, r5, r6)) :
    Calls Tryd.prog 13 #[.string s] w fun e w' => e = .returned (.tuple #[.agg #[.int .i64 r1, .int .i64 r2, .int .i64 r3, .int .i64 r4, .int .i64 r5], .bool r6]) ∧ Below w.heap.size w w' := by
  have hA : impl_AddrOf.f 20 (implData s) = some (addrOf (implData s)) := implAddrOf (data_u8 s) (by omega)
  unfold implRead finR at h
  obtain ⟨⟨b0, b1, b2, b3, b4, ok⟩, hB⟩ : ∃ B, B = addrOf (implData s) := ⟨_, rfl⟩
  rw [← hB] at hA h
  clear hB
  simp only at h
  by_cases hcol : hasCol s = true
  · rw [show implData s = (split col s).flatMap f16 from if_pos hcol] at hA
    cases ok with
    | false =>
      rw [if_neg Bool.false_ne_true] at h
      cases h
      exact addrRead_100 s hs 20 _ _ _ _ _ hcol hA w hE hM htab hT
    | true =>
      rw [if_pos rfl] at h
      by_cases ht : (textOf (addrBytes b0 b1 b2 b3 b4)).toList = s.toList
      · rw [if_pos ht] at h
        cases h
        exact addrRead_111 s hs 20 _ _ _ _ _ hcol (toList_inj ht) hA w hE hM htab hT
      · rw [if_neg ht] at h
        cases h
        exact addrRead_110 s hs 20 _ _ _ _ _ hcol (fun e => ht (congrArg _ e)) hA w hE hM htab hT
  · rw [show implData s = (split dot s).flatMap f10 from if_neg hcol] at hA
    have hcol : hasCol s = false := by simpa using hcol
    cases ok with
    | false =>
      rw [if_neg Bool.false_ne_true] at h
      cases h
      exact addrRead_000 s hs 20 _ _ _ _ _ hcol hA w hE hM htab hT
    | true =>
      rw [if_pos rfl] at h
      by_cases ht : (textOf (addrBytes b0 b1 b2 b3 b4)).toList = s.toList
      · rw [if_pos ht] at h
        cases h
        exact addrRead_011 s hs 20 _ _ _ _ _ hcol (toList_inj ht) hA w hE hM htab hT
      · rw [if_neg ht] at h
        cases h
        exact addrRead_010 s hs 20 _ _ _ _ _ hcol (fun e => ht (congrArg _ e)) hA w hE hM htab hT
set_option maxHeartbeats 8000000 in
set_option maxRecDepth 100000 in
theorem law (s : ByteArray) (w : World) (hE : Errs w) (hM : MaxLen w) (htab : Lib.TabIs Tryd.prog w "internal/strconv.uint64pow10" .u64 Lib.pow10Tab) (hT : TabAt 5 Lib.deBruijn64tab w) :
    Calls Tryd.prog 5 #[.string s] w fun e w' => e = .returned (.bool true) ∧ Below w.heap.size w w' := by
  have R25_ : IsRow Tryd.prog 25 5 := ⟨⟨_, Tryd.underlying25, rfl⟩, by kernel_rfl⟩
  have HF := Fr.start [25, 25] w
  have HE := Aside0.mk hE
  have HM := Aside0.mk hM
  have HTB := Aside0.mk htab
  have HTT := Aside0.mk hT
  clear hE hM htab hT
  by_cases c : (1048576 : Int) < (s.size : Int)
  · have c1 : decide ((1048576 : Int) < (s.size : Int)) = true := decide_eq_true c
    go_enter Tryd.func5, Tryd.ntmps5
    repeat' (first
      | ((with_reducible refine gate_region (id := 0) ?_); apply plain_region) <;>
        (apply lpure rfl rfl; (go_simp; with_reducible rfl); (simp only [Act.put, List.setIfInBounds_toArray, List.set_cons_zero, List.set_cons_succ, i64_w, i32_w, u8_wr, tmod_nat, Int.reduceToNat, e4, e16, e15, e15a, c1]; rfl)) <;>
        (apply lend)
      | ((with_reducible refine gate_region (id := 1) ?_); apply plain_region) <;>
        (apply lpure rfl rfl; (go_simp; with_reducible rfl); (simp only [Act.put, List.setIfInBounds_toArray, List.set_cons_zero, List.set_cons_succ, i64_w, i32_w, u8_wr, tmod_nat, Int.reduceToNat, e4, e16, e15, e15a, c1]; rfl)) <;>
        (apply lpure rfl rfl; (go_simp; with_reducible rfl); (simp only [Act.put, List.setIfInBounds_toArray, List.set_cons_zero, List.set_cons_succ, i64_w, i32_w, u8_wr, tmod_nat, Int.reduceToNat, e4, e16, e15, e15a, c1]; rfl)) <;>
        (apply lpure rfl rfl; (go_simp; with_reducible rfl); (simp only [Act.put, List.setIfInBounds_toArray, List.set_cons_zero, List.set_cons_succ, i64_w, i32_w, u8_wr, tmod_nat, Int.reduceToNat, e4, e16, e15, e15a, c1]; rfl)) <;>
        (apply lend)
      | ((with_reducible refine gate_region (id := 2) ?_); apply plain_region) <;>
        (apply lpure rfl rfl; (go_simp; with_reducible rfl); (simp only [Act.put, List.setIfInBounds_toArray, List.set_cons_zero, List.set_cons_succ, i64_w, i32_w, u8_wr, tmod_nat, Int.reduceToNat, e4, e16, e15, e15a, c1]; rfl)) <;>
        (apply lend)
      | go_step | fail)
    all_goals (go_ret; exact ⟨rfl, HF.below⟩)
  · have c1 : decide ((1048576 : Int) < (s.size : Int)) = false := decide_eq_false c
    have hs : s.size ≤ 1048576 := by omega
    obtain ⟨⟨r1, r2, r3, r4, r5, r6⟩, hB⟩ : ∃ B, B = specRead s := ⟨_, rfl⟩
    have hS : spec_AddrRead.f 1300 s = some (r1, r2, r3, r4, r5, r6) := (specIs s).trans (congrArg _ hB.symm)
    have hI : implRead s = (r1, r2, r3, r4, r5, r6) := (same s).trans hB.symm
    clear hB
    go_enter Tryd.func5, Tryd.ntmps5
    repeat' (first
      | ((with_reducible refine gate_region (id := 0) ?_); apply plain_region) <;>
        (apply lpure rfl rfl; (go_simp; with_reducible rfl); (simp only [Act.put, List.setIfInBounds_toArray, List.set_cons_zero, List.set_cons_succ, i64_w, i32_w, u8_wr, tmod_nat, Int.reduceToNat, e4, e16, e15, e15a, c1, bne_self_eq_false]; rfl)) <;>
        (apply lend)
      | ((with_reducible refine gate_region (id := 1) ?_); apply plain_region) <;>
        (apply lpure rfl rfl; (go_simp; with_reducible rfl); (simp only [Act.put, List.setIfInBounds_toArray, List.set_cons_zero, List.set_cons_succ, i64_w, i32_w, u8_wr, tmod_nat, Int.reduceToNat, e4, e16, e15, e15a, c1, bne_self_eq_false]; rfl)) <;>
        (apply lpure rfl rfl; (go_simp; with_reducible rfl); (simp only [Act.put, List.setIfInBounds_toArray, List.set_cons_zero, List.set_cons_succ, i64_w, i32_w, u8_wr, tmod_nat, Int.reduceToNat, e4, e16, e15, e15a, c1, bne_self_eq_false]; rfl)) <;>
        (apply lpure rfl rfl; (go_simp; with_reducible rfl); (simp only [Act.put, List.setIfInBounds_toArray, List.set_cons_zero, List.set_cons_succ, i64_w, i32_w, u8_wr, tmod_nat, Int.reduceToNat, e4, e16, e15, e15a, c1, bne_self_eq_false]; rfl)) <;>
        (apply lend)
      | ((with_reducible refine gate_region (id := 3) ?_); apply plain_region) <;>
        (apply lpure rfl rfl; (go_simp; with_reducible rfl); (simp only [Act.put, List.setIfInBounds_toArray, List.set_cons_zero, List.set_cons_succ, i64_w, i32_w, u8_wr, tmod_nat, Int.reduceToNat, e4, e16, e15, e15a, c1, bne_self_eq_false]; rfl)) <;>
        (apply lcall rfl rfl rfl Tryd.func12 (by kernel_rfl) rfl; (with_reducible apply Calls.mono); exact spec_AddrRead.calls 1300 s r1 r2 r3 r4 r5 r6 _ hS; rintro e w_ ⟨rfl, hb_⟩; refine ⟨_, rfl, ?_⟩; replace HF := HF.call hb_; clear hb_; rotate_left; (first | rfl | (simp only [List.map_toArray, List.map_cons, List.map_nil]; first | done | rfl)); (refine lnorm (a' := ?_) ?_ ?_; rotate_left; (simp only [Act.put, List.setIfInBounds_toArray, List.set_cons_zero, List.set_cons_succ, i64_w, i32_w, u8_wr, tmod_nat, Int.reduceToNat, e4, e16, e15, e15a, c1, bne_self_eq_false]; rfl))) <;>
        (apply lpure rfl rfl; (go_simp; with_reducible rfl); (simp only [Act.put, List.setIfInBounds_toArray, List.set_cons_zero, List.set_cons_succ, i64_w, i32_w, u8_wr, tmod_nat, Int.reduceToNat, e4, e16, e15, e15a, c1, bne_self_eq_false]; rfl)) <;>
        (apply lpure rfl rfl; (go_simp; with_reducible rfl); (simp only [Act.put, List.setIfInBounds_toArray, List.set_cons_zero, List.set_cons_succ, i64_w, i32_w, u8_wr, tmod_nat, Int.reduceToNat, e4, e16, e15, e15a, c1, bne_self_eq_false]; rfl)) <;>
        (apply lpure rfl rfl; (go_simp; with_reducible rfl); (simp only [Act.put, List.setIfInBounds_toArray, List.set_cons_zero, List.set_cons_succ, i64_w, i32_w, u8_wr, tmod_nat, Int.reduceToNat, e4, e16, e15, e15a, c1, bne_self_eq_false]; rfl)) <;>
        ((with_reducible apply Fr.lalloc HF rfl rfl rfl); (go_simp; rfl); decide; clear HF; intro g_ w_ HF; (refine lnorm (a' := ?_) ?_ ?_; rotate_left; (simp only [Act.put, List.setIfInBounds_toArray, List.set_cons_zero, List.set_cons_succ, i64_w, i32_w, u8_wr, tmod_nat, Int.reduceToNat, e4, e16, e15, e15a, c1, bne_self_eq_false]; rfl))) <;>
        ((with_reducible apply Fr.lstoreRow HF rfl rfl rfl); assumption; rfl; (go_simp; rfl); rfl; rfl; (repeat (first | apply At.head | apply At.tail)); (simp only [List.drop_succ_cons, List.drop_zero, List.drop_nil, List.take_succ_cons, List.take_zero, List.cons_append, List.nil_append, List.append_nil]; rfl); simp; clear HF; intro w_ HF) <;>
        (apply lpure rfl rfl; (go_simp; with_reducible rfl); (simp only [Act.put, List.setIfInBounds_toArray, List.set_cons_zero, List.set_cons_succ, i64_w, i32_w, u8_wr, tmod_nat, Int.reduceToNat, e4, e16, e15, e15a, c1, bne_self_eq_false]; rfl)) <;>
        (apply lend)
      | ((with_reducible refine gate_region (id := 4) ?_); apply plain_region) <;>
        (apply lpure rfl rfl; (go_simp; with_reducible rfl); (simp only [Act.put, List.setIfInBounds_toArray, List.set_cons_zero, List.set_cons_succ, i64_w, i32_w, u8_wr, tmod_nat, Int.reduceToNat, e4, e16, e15, e15a, c1, bne_self_eq_false]; rfl)) <;>
        (apply lcall rfl rfl rfl Tryd.func13 (by kernel_rfl) rfl; (with_reducible apply Calls.mono); exact implC s hs _ (HE.out.later HF.below) (HM.out.later HF.below) (Go.Joins.tab_stays gTab HTB.out HF.below (Nat.le_refl _)) (tab_later HTT.out HF.below) r1 r2 r3 r4 r5 r6 hI; rintro e w_ ⟨rfl, hb_⟩; refine ⟨_, rfl, ?_⟩; replace HF := HF.call hb_; clear hb_; rotate_left; (first | rfl | (simp only [List.map_toArray, List.map_cons, List.map_nil]; first | done | rfl)); (refine lnorm (a' := ?_) ?_ ?_; rotate_left; (simp only [Act.put, List.setIfInBounds_toArray, List.set_cons_zero, List.set_cons_succ, i64_w, i32_w, u8_wr, tmod_nat, Int.reduceToNat, e4, e16, e15, e15a, c1, bne_self_eq_false]; rfl))) <;>
        (apply lpure rfl rfl; (go_simp; with_reducible rfl); (simp only [Act.put, List.setIfInBounds_toArray, List.set_cons_zero, List.set_cons_succ, i64_w, i32_w, u8_wr, tmod_nat, Int.reduceToNat, e4, e16, e15, e15a, c1, bne_self_eq_false]; rfl)) <;>
        (apply lpure rfl rfl; (go_simp; with_reducible rfl); (simp only [Act.put, List.setIfInBounds_toArray, List.set_cons_zero, List.set_cons_succ, i64_w, i32_w, u8_wr, tmod_nat, Int.reduceToNat, e4, e16, e15, e15a, c1, bne_self_eq_false]; rfl)) <;>
        (apply lpure rfl rfl; (go_simp; with_reducible rfl); (simp only [Act.put, List.setIfInBounds_toArray, List.set_cons_zero, List.set_cons_succ, i64_w, i32_w, u8_wr, tmod_nat, Int.reduceToNat, e4, e16, e15, e15a, c1, bne_self_eq_false]; rfl)) <;>
        ((with_reducible apply Fr.lalloc HF rfl rfl rfl); (go_simp; rfl); decide; clear HF; intro g_ w_ HF; (refine lnorm (a' := ?_) ?_ ?_; rotate_left; (simp only [Act.put, List.setIfInBounds_toArray, List.set_cons_zero, List.set_cons_succ, i64_w, i32_w, u8_wr, tmod_nat, Int.reduceToNat, e4, e16, e15, e15a, c1, bne_self_eq_false]; rfl))) <;>
        ((with_reducible apply Fr.lstoreRow HF rfl rfl rfl); assumption; rfl; (go_simp; rfl); rfl; rfl; (repeat (first | apply At.head | apply At.tail)); (simp only [List.drop_succ_cons, List.drop_zero, List.drop_nil, List.take_succ_cons, List.take_zero, List.cons_append, List.nil_append, List.append_nil]; rfl); simp; clear HF; intro w_ HF) <;>
        (apply lpure rfl rfl; (go_simp; with_reducible rfl); (simp only [Act.put, List.setIfInBounds_toArray, List.set_cons_zero, List.set_cons_succ, i64_w, i32_w, u8_wr, tmod_nat, Int.reduceToNat, e4, e16, e15, e15a, c1, bne_self_eq_false]; rfl)) <;>
        (apply lend)
      | ((with_reducible refine gate_region (id := 5) ?_); apply plain_region) <;>
        (apply HF.lrow rfl rfl rfl R25_ rfl; (repeat (first | exact At.head | apply At.tail)); (simp only [List.drop_succ_cons, List.drop_zero, List.take_succ_cons, List.take_zero]; rfl); rfl; (simp only [Act.put, List.setIfInBounds_toArray, List.set_cons_zero, List.set_cons_succ, i64_w, i32_w, u8_wr, tmod_nat, Int.reduceToNat, e4, e16, e15, e15a, c1, bne_self_eq_false]; rfl)) <;>
        (apply HF.lrow rfl rfl rfl R25_ rfl; (repeat (first | exact At.head | apply At.tail)); (simp only [List.drop_succ_cons, List.drop_zero, List.take_succ_cons, List.take_zero]; rfl); rfl; (simp only [Act.put, List.setIfInBounds_toArray, List.set_cons_zero, List.set_cons_succ, i64_w, i32_w, u8_wr, tmod_nat, Int.reduceToNat, e4, e16, e15, e15a, c1, bne_self_eq_false]; rfl)) <;>
        (apply lcall rfl rfl rfl Tryd.func14 (by kernel_rfl) rfl; (with_reducible apply Calls.mono); exact laws_eqAddr.calls r1 r2 r3 r4 r5 r1 r2 r3 r4 r5 true _ (eqAddr _ _ _ _ _); rintro e w_ ⟨rfl, hb_⟩; refine ⟨_, rfl, ?_⟩; replace HF := HF.call hb_; clear hb_; rotate_left; (first | rfl | (simp only [List.map_toArray, List.map_cons, List.map_nil]; first | done | rfl)); (refine lnorm (a' := ?_) ?_ ?_; rotate_left; (simp only [Act.put, List.setIfInBounds_toArray, List.set_cons_zero, List.set_cons_succ, i64_w, i32_w, u8_wr, tmod_nat, Int.reduceToNat, e4, e16, e15, e15a, c1, bne_self_eq_false]; rfl))) <;>
        (apply lpure rfl rfl; (go_simp; with_reducible rfl); (simp only [Act.put, List.setIfInBounds_toArray, List.set_cons_zero, List.set_cons_succ, i64_w, i32_w, u8_wr, tmod_nat, Int.reduceToNat, e4, e16, e15, e15a, c1, bne_self_eq_false]; rfl)) <;>
        (apply lpure rfl rfl; (go_simp; with_reducible rfl); (simp only [Act.put, List.setIfInBounds_toArray, List.set_cons_zero, List.set_cons_succ, i64_w, i32_w, u8_wr, tmod_nat, Int.reduceToNat, e4, e16, e15, e15a, c1, bne_self_eq_false]; rfl)) <;>
        (apply lpure rfl rfl; (go_simp; with_reducible rfl); (simp only [Act.put, List.setIfInBounds_toArray, List.set_cons_zero, List.set_cons_succ, i64_w, i32_w, u8_wr, tmod_nat, Int.reduceToNat, e4, e16, e15, e15a, c1, bne_self_eq_false]; rfl)) <;>
        (apply lpure rfl rfl; (go_simp; with_reducible rfl); (simp only [Act.put, List.setIfInBounds_toArray, List.set_cons_zero, List.set_cons_succ, i64_w, i32_w, u8_wr, tmod_nat, Int.reduceToNat, e4, e16, e15, e15a, c1, bne_self_eq_false]; rfl)) <;>
        (apply lpure rfl rfl; (go_simp; with_reducible rfl); (simp only [Act.put, List.setIfInBounds_toArray, List.set_cons_zero, List.set_cons_succ, i64_w, i32_w, u8_wr, tmod_nat, Int.reduceToNat, e4, e16, e15, e15a, c1, bne_self_eq_false]; rfl)) <;>
        (apply lpure rfl rfl; (go_simp; with_reducible rfl); (simp only [Act.put, List.setIfInBounds_toArray, List.set_cons_zero, List.set_cons_succ, i64_w, i32_w, u8_wr, tmod_nat, Int.reduceToNat, e4, e16, e15, e15a, c1, bne_self_eq_false]; rfl)) <;>
        (apply lend)
      | ((with_reducible refine gate_region (id := 7) ?_); apply plain_region) <;>
        (apply lpure rfl rfl; (go_simp; with_reducible rfl); (simp only [Act.put, List.setIfInBounds_toArray, List.set_cons_zero, List.set_cons_succ, i64_w, i32_w, u8_wr, tmod_nat, Int.reduceToNat, e4, e16, e15, e15a, c1, bne_self_eq_false]; rfl)) <;>
        (apply lend)
      | go_step | fail)
    all_goals (go_ret; exact ⟨rfl, HF.below⟩)
end Go.Proofs.YtljeajecajlaiaaDoor.RWalk
