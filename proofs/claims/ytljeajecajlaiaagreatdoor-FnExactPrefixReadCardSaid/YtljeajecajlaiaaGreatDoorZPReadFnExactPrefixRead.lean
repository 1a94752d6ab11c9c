/- The law FnExactPrefixRead: the program's PrefixRead answers as the reference, for every text of at most 2^20 bytes (longer texts are let pass). Conditions: the tables lie as their initialisers lay them, the error variables hold errors, internal/bytealg.MaxLen holds a number. -/
import Derived.Test.YtljeajecajlaiaaGreatDoorZPSameFnExactPrefixRead
import Derived.Shelf.Strings.Cut
namespace Go.Proofs.YtljeajecajlaiaaGreatDoor.PRead
open Go.RowKit Go.Lib Go.Shelf Go.Proofs.YtljeajecajlaiaaGreatDoorW.PrintWords Go.Proofs.YtljeajecajlaiaaGreatDoorW.PrintLast Go.Proofs.YtljeajecajlaiaaGreatDoorW.PrintMore Go.Proofs.YtljeajecajlaiaaGreatDoor.Frame Go.Proofs.YtljeajecajlaiaaGreatDoor.Base Go.Proofs.YtljeajecajlaiaaGreatDoor.Hex Go.Proofs.YtljeajecajlaiaaGreatDoor.Text Go.Proofs.YtljeajecajlaiaaGreatDoor.Spec Go.Proofs.YtljeajecajlaiaaGreatDoor.Pu Go.Proofs.YtljeajecajlaiaaGreatDoor.RPlain Go.Proofs.YtljeajecajlaiaaGreatDoor.Read Go.Proofs.YtljeajecajlaiaaGreatDoor.AddrLaw Go.Proofs.YtljeajecajlaiaaGreatDoor.RLaw Go.Proofs.YtljeajecajlaiaaGreatDoor.RSame Go.Proofs.YtljeajecajlaiaaGreatDoor.RWalk Go.Proofs.YtljeajecajlaiaaGreatDoor.NRead Go.Proofs.YtljeajecajlaiaaGreatDoor.PrefixLaw Go.Proofs.YtljeajecajlaiaaGreatDoor.PSame Go.Proofs.YtljeajecajlaiaaGreatDoor.FFnExactPrefixRead
set_option linter.unusedVariables false
set_option linter.unusedSimpArgs false
theorem any_list : ANY.toList = [97, 110, 121] := by rw [ByteArray.toList_eq]; rfl
theorem any_yes {s : ByteArray} (h : s = ANY) : (s.toList == [97, 110, 121]) = true := by rw [h, any_list]; rfl
theorem any_not {s : ByteArray} (h : ¬ s = ANY) : (s.toList == [97, 110, 121]) = false := beq_eq_false_iff_ne.mpr fun e => h (toList_inj (e.trans any_list.symm))
theorem four {ok fine : Bool} {p : Prop} [Decidable p] {X G : Six} (h : X = if ok = true ∧ fine = true ∧ p then G else Z6) : (ok = true ∧ fine = true ∧ p ∧ X = G) ∨ (ok = true ∧ fine = true ∧ ¬ p ∧ X = Z6) ∨ (ok = true ∧ fine = false ∧ X = Z6) ∨ (ok = false ∧ X = Z6) := by
  cases ok
  · exact Or.inr (Or.inr (Or.inr ⟨rfl, h.trans (if_neg fun q => Bool.false_ne_true q.1)⟩))
  · cases fine
    · exact Or.inr (Or.inr (Or.inl ⟨rfl, rfl, h.trans (if_neg fun q => Bool.false_ne_true q.2.1)⟩))
    · by_cases hp : p
      · exact Or.inl ⟨rfl, rfl, hp, h.trans (if_pos ⟨rfl, rfl, hp⟩)⟩
      · exact Or.inr (Or.inl ⟨rfl, rfl, hp, h.trans (if_neg fun q => hp q.2.2)⟩)
theorem fourB {ok fine p : Bool} {X G : Six} (h : X = if ok = true ∧ fine = true ∧ p = true then G else Z6) : (ok = true ∧ fine = true ∧ p = true ∧ X = G) ∨ (ok = true ∧ fine = true ∧ p = false ∧ X = Z6) ∨ (ok = true ∧ fine = false ∧ X = Z6) ∨ (ok = false ∧ X = Z6) := by
  rcases four h with h | ⟨h1, h2, h3, h4⟩ | h | h
  · exact Or.inl h
  · exact Or.inr (Or.inl ⟨h1, h2, by simpa using h3, h4⟩)
  · exact Or.inr (Or.inr (Or.inl h))
  · exact Or.inr (Or.inr (Or.inr h))
theorem cut_le (l : List UInt8) : (Lib.cut l [47]).1.length ≤ l.length ∧ (Lib.cut l [47]).2.1.length ≤ l.length := by
  unfold Lib.cut
  split
  · simp only [List.length_take, List.length_drop]
    omega
  · simp
theorem cutA_le (s : ByteArray) : (cutA s).size ≤ s.size := by
  rw [Lib.size_eq s]
  exact (cut_le s.data.toList).1
theorem cutB_le (s : ByteArray) : (cutB s).size ≤ s.size := by
  rw [Lib.size_eq s]
  exact (cut_le s.data.toList).2
theorem cutC (s : ByteArray) (hs : s.size ≤ 1048576) (w : World) (hm : MaxLen w) : Calls Tryz.prog 11 #[.string s, .string ⟨#[47]⟩] w fun e w' => e = .returned (.tuple #[.string (cutA s), .string (cutB s), .bool (Lib.cut s.data.toList [47]).2.2]) ∧ Below w.heap.size w w' := by
  obtain ⟨m, hm⟩ := hm
  refine (Any.strings_Cut Tryz.lays145 s ⟨#[47]⟩ m w (by omega) hm).mono ?_
  rintro e w' ⟨rfl, n, rfl⟩
  exact ⟨rfl, pw_below_drewN (Below.refl _ _) n⟩
theorem numC (g : ByteArray) (hg : g.size ≤ 1048576) (n : Int) (fine : Bool) (h : numR g = (n, fine)) (w : World) (htab : Lib.TabIs Tryz.prog w "internal/strconv.uint64pow10" .u64 Lib.pow10Tab) (hE : Errs w) : Calls Tryz.prog 13 #[.string g] w fun e w' => e = .returned (.tuple #[.int .i64 n, .bool fine]) ∧ Below w.heap.size w w' := by
  have := impl_is g hg w htab hE
  rw [h] at this
  exact this
theorem text_le (a0 a1 a2 a3 a4 : Int) : (textOf (addrBytes a0 a1 a2 a3 a4)).size ≤ 1000 := by
  have hr := addrBytes_u8 a0 a1 a2 a3 a4
  rcases addrBytes_shape a0 a1 a2 a3 a4 with h | ⟨_, h⟩ | ⟨_, h⟩
  · rw [RText.textOf0 h]
    decide
  · rw [RText.textOf4 h]
    have := strJ_size 46 ((addrBytes a0 a1 a2 a3 a4).map itoaS) (fun p hp => by
      obtain ⟨q, hq, rfl⟩ := List.mem_map.1 hp
      exact itoaS_size (hr q hq).1 (hr q hq).2)
    rw [List.length_map] at this
    omega
  · rw [RText.textOf6 h]
    have := strJ_size 58 (hexW (addrBytes a0 a1 a2 a3 a4) 8) (fun p hp => by
      unfold hexW at hp
      obtain ⟨q, hq, rfl⟩ := List.mem_map.1 hp
      exact hexS_size _)
    have e : (hexW (addrBytes a0 a1 a2 a3 a4) 8).length = 8 := by unfold hexW; rw [List.length_map, List.length_range]
    omega
theorem ptextIs (a0 a1 a2 a3 a4 n : Int) (w : World) (htab : Lib.TabIs Tryz.prog w "internal/strconv.uint64pow10" .u64 Lib.pow10Tab) (hT : TabAt 7 Lib.deBruijn64tab w) : Calls Tryz.prog 14 #[.agg #[.int .i64 a0, .int .i64 a1, .int .i64 a2, .int .i64 a3, .int .i64 a4, .int .i64 n]] w fun e w' => e = .returned (.string (PSame.implT (a0, a1, a2, a3, a4, true) n)) ∧ Below w.heap.size w w' :=
  implPrefixText _ _ (textOf (addrBytes a0 a1 a2 a3 a4)) a0 a1 a2 a3 a4 n (text_le _ _ _ _ _) (implPrefixOk (Nat.le_refl 2000) a0 a1 a2 a3 a4 n) (implAny a0 a1 a2 a3 a4 n) prefix_len w htab (fun w1 hb => RText.implT a0 a1 a2 a3 a4 w1 (Go.Joins.tab_stays gTab htab hb (Nat.le_refl _)) (tab_later hT hb))
def tupP (x : Six) : Value := .tuple #[.agg #[.int .i64 x.1, .int .i64 x.2.1, .int .i64 x.2.2.1, .int .i64 x.2.2.2.1, .int .i64 x.2.2.2.2.1, .int .i64 x.2.2.2.2.2.1], .bool x.2.2.2.2.2.2]

set_option maxHeartbeats 8000000 in
set_option maxRecDepth 100000 in
theorem implPC (s : ByteArray) (hs : s.size ≤ 1048576) (w : World) (hE : Errs w) (hM : MaxLen w) (htab : Lib.TabIs Tryz.prog w "internal/strconv.uint64pow10" .u64 Lib.pow10Tab) (hT : TabAt 7 Lib.deBruijn64tab w) :
    Calls Tryz.prog 5 #[.string s] w fun e w' => e = .returned (tupP (implP s)) ∧ Below w.heap.size w w' := by
  have R23_ : IsRow Tryz.prog 23 5 := ⟨⟨_, Tryz.underlying23, rfl⟩, by kernel_rfl⟩
  have R25_ : IsRow Tryz.prog 25 6 := ⟨⟨_, Tryz.underlying25, rfl⟩, by kernel_rfl⟩
  have HF := Fr.start [23, 25] w
  have HE := Aside0.mk hE
  have HM := Aside0.mk hM
  have HTB := Aside0.mk htab
  have HTT := Aside0.mk hT
  clear hE hM htab hT
  by_cases ca : s = ANY
  · have HFIN := Aside0.mk (show implP s = A6 from if_pos ca)
    have cA := any_yes ca
    clear ca
    go_enter Tryz.func5, Tryz.ntmps5
    all_goals (repeat' (first
        | ((with_reducible refine gate_region (id := 0) ?_); apply plain_region) <;>
            ((with_reducible apply Fr.lalloc HF rfl rfl rfl); (go_simp; rfl); decide; clear HF; intro g_ w_ HF; (refine lnorm (a' := ?_) ?_ ?_; rotate_left; (simp only [Act.put, List.setIfInBounds_toArray, List.set_cons_zero, List.set_cons_succ, i64_w, i32_w, u8_wr, tmod_nat, Int.reduceToNat, e4, e16, e15, e15a, cA]; rfl))) <;>
            (apply lpure rfl rfl; (go_simp; with_reducible rfl); (simp only [Act.put, List.setIfInBounds_toArray, List.set_cons_zero, List.set_cons_succ, i64_w, i32_w, u8_wr, tmod_nat, Int.reduceToNat, e4, e16, e15, e15a, cA]; rfl)) <;>
            (apply lend)
        | ((with_reducible refine gate_region (id := 1) ?_); apply plain_region) <;>
            (apply lpure rfl rfl; (go_simp; with_reducible rfl); (simp only [Act.put, List.setIfInBounds_toArray, List.set_cons_zero, List.set_cons_succ, i64_w, i32_w, u8_wr, tmod_nat, Int.reduceToNat, e4, e16, e15, e15a, cA]; rfl)) <;>
            (apply lpure rfl rfl; (go_simp; with_reducible rfl); (simp only [Act.put, List.setIfInBounds_toArray, List.set_cons_zero, List.set_cons_succ, i64_w, i32_w, u8_wr, tmod_nat, Int.reduceToNat, e4, e16, e15, e15a, cA]; rfl)) <;>
            (apply lend)
        | ((with_reducible refine gate_region (id := 2) ?_); apply plain_region) <;>
            (apply lpure rfl rfl; (go_simp; with_reducible rfl); (simp only [Act.put, List.setIfInBounds_toArray, List.set_cons_zero, List.set_cons_succ, i64_w, i32_w, u8_wr, tmod_nat, Int.reduceToNat, e4, e16, e15, e15a, cA]; rfl)) <;>
            ((with_reducible apply Fr.lstoreRow HF rfl rfl rfl); assumption; rfl; (go_simp; rfl); rfl; rfl; (repeat (first | apply At.head | apply At.tail)); (simp only [List.drop_succ_cons, List.drop_zero, List.drop_nil, List.take_succ_cons, List.take_zero, List.cons_append, List.nil_append, List.append_nil]; rfl); simp; clear HF; intro w_ HF) <;>
            (apply lpure rfl rfl; (go_simp; with_reducible rfl); (simp only [Act.put, List.setIfInBounds_toArray, List.set_cons_zero, List.set_cons_succ, i64_w, i32_w, u8_wr, tmod_nat, Int.reduceToNat, e4, e16, e15, e15a, cA]; rfl)) <;>
            (apply lend)
        | go_step | fail))
    all_goals (refine bodyPost_ret (results_ct rfl _ _ _ 25 _ (0, 0) _ rfl (HF.get (by repeat (first | exact At.head | apply At.tail))) Tryz.underlying25 rfl (by kernel_rfl)) rfl ?_; exact ⟨by rw [HFIN.out]; rfl, HF.below⟩)
  · have cA := any_not ca
    have hcA : (cutA s).size ≤ 1048576 := Nat.le_trans (cutA_le s) hs
    have hcB : (cutB s).size ≤ 1048576 := Nat.le_trans (cutB_le s) hs
    obtain ⟨⟨a0, a1, a2, a3, a4, ok⟩, hA⟩ : ∃ A, specRead (cutA s) = A := ⟨_, rfl⟩
    obtain ⟨⟨n, fine⟩, hn⟩ : ∃ n, numR (cutB s) = n := ⟨_, rfl⟩
    have hfin : implP s = endI s (a0, a1, a2, a3, a4, ok) (n, fine) := (if_neg ca).trans (by rw [hA, hn])
    have HA := Aside0.mk ((same (cutA s)).trans hA)
    have HN := Aside0.mk hn
    obtain ⟨T, hTx⟩ : ∃ T, T = PSame.implT (a0, a1, a2, a3, a4, true) n := ⟨_, rfl⟩
    have ptextC := fun w => (hTx ▸ ptextIs a0 a1 a2 a3 a4 n w :)
    clear hA hn ca
    unfold endI at hfin
    rcases four hfin with ⟨rfl, rfl, h3, hz⟩ | ⟨rfl, rfl, h3, hz⟩ | ⟨rfl, rfl, hz⟩ | ⟨rfl, hz⟩
    all_goals (have HFIN := Aside0.mk hz; clear hz; have ct := cA)
    all_goals (try (have ct : (T.toList != s.toList) = false := by rw [show T = s from hTx.trans h3]; exact bne_self_eq_false _))
    all_goals (try (have ct : (T.toList != s.toList) = true := bne_iff_ne.mpr fun h => h3 (hTx.symm.trans (toList_inj h))))
    all_goals (try (have ct' : (T.toList == s.toList) = true := by rw [show T = s from hTx.trans h3]; exact beq_self_eq_true _))
    all_goals (try (have ct' : (T.toList == s.toList) = false := beq_eq_false_iff_ne.mpr fun h => h3 (hTx.symm.trans (toList_inj h))))
    all_goals (try clear h3)
    all_goals clear hfin hTx
    all_goals (go_enter Tryz.func5, Tryz.ntmps5)
    all_goals (repeat' (first
        | ((with_reducible refine gate_region (id := 0) ?_); apply plain_region) <;>
            ((with_reducible apply Fr.lalloc HF rfl rfl rfl); (go_simp; rfl); decide; clear HF; intro g_ w_ HF; (refine lnorm (a' := ?_) ?_ ?_; rotate_left; (simp only [Act.put, List.setIfInBounds_toArray, List.set_cons_zero, List.set_cons_succ, i64_w, i32_w, u8_wr, tmod_nat, Int.reduceToNat, e4, e16, e15, e15a, cA, ct]; rfl))) <;>
            (apply lpure rfl rfl; (go_simp; with_reducible rfl); (simp only [Act.put, List.setIfInBounds_toArray, List.set_cons_zero, List.set_cons_succ, i64_w, i32_w, u8_wr, tmod_nat, Int.reduceToNat, e4, e16, e15, e15a, cA, ct]; rfl)) <;>
            (apply lend)
        | ((with_reducible refine gate_region (id := 1) ?_); apply plain_region) <;>
            (apply lpure rfl rfl; (go_simp; with_reducible rfl); (simp only [Act.put, List.setIfInBounds_toArray, List.set_cons_zero, List.set_cons_succ, i64_w, i32_w, u8_wr, tmod_nat, Int.reduceToNat, e4, e16, e15, e15a, cA, ct]; rfl)) <;>
            (apply lpure rfl rfl; (go_simp; with_reducible rfl); (simp only [Act.put, List.setIfInBounds_toArray, List.set_cons_zero, List.set_cons_succ, i64_w, i32_w, u8_wr, tmod_nat, Int.reduceToNat, e4, e16, e15, e15a, cA, ct]; rfl)) <;>
            (apply lend)
        | ((with_reducible refine gate_region (id := 3) ?_); apply plain_region) <;>
            (apply lpure rfl rfl; (go_simp; with_reducible rfl); (simp only [Act.put, List.setIfInBounds_toArray, List.set_cons_zero, List.set_cons_succ, i64_w, i32_w, u8_wr, tmod_nat, Int.reduceToNat, e4, e16, e15, e15a, cA, ct]; rfl)) <;>
            (apply lcall rfl rfl rfl Tryz.func11 (by kernel_rfl) rfl; (with_reducible apply Calls.mono); exact cutC s hs _ (HM.out.later HF.below); rintro e w_ ⟨rfl, hb_⟩; refine ⟨_, rfl, ?_⟩; replace HF := HF.call hb_; clear hb_; rotate_left; (first | rfl | (simp only [List.map_toArray, List.map_cons, List.map_nil]; first | done | rfl)); (refine lnorm (a' := ?_) ?_ ?_; rotate_left; (simp only [Act.put, List.setIfInBounds_toArray, List.set_cons_zero, List.set_cons_succ, i64_w, i32_w, u8_wr, tmod_nat, Int.reduceToNat, e4, e16, e15, e15a, cA, ct]; rfl))) <;>
            (apply lpure rfl rfl; (go_simp; with_reducible rfl); (simp only [Act.put, List.setIfInBounds_toArray, List.set_cons_zero, List.set_cons_succ, i64_w, i32_w, u8_wr, tmod_nat, Int.reduceToNat, e4, e16, e15, e15a, cA, ct]; rfl)) <;>
            (apply lpure rfl rfl; (go_simp; with_reducible rfl); (simp only [Act.put, List.setIfInBounds_toArray, List.set_cons_zero, List.set_cons_succ, i64_w, i32_w, u8_wr, tmod_nat, Int.reduceToNat, e4, e16, e15, e15a, cA, ct]; rfl)) <;>
            (apply lpure rfl rfl; (go_simp; with_reducible rfl); (simp only [Act.put, List.setIfInBounds_toArray, List.set_cons_zero, List.set_cons_succ, i64_w, i32_w, u8_wr, tmod_nat, Int.reduceToNat, e4, e16, e15, e15a, cA, ct]; rfl)) <;>
            (apply lpure rfl rfl; (go_simp; with_reducible rfl); (simp only [Act.put, List.setIfInBounds_toArray, List.set_cons_zero, List.set_cons_succ, i64_w, i32_w, u8_wr, tmod_nat, Int.reduceToNat, e4, e16, e15, e15a, cA, ct]; rfl)) <;>
            (apply lpure rfl rfl; (go_simp; with_reducible rfl); (simp only [Act.put, List.setIfInBounds_toArray, List.set_cons_zero, List.set_cons_succ, i64_w, i32_w, u8_wr, tmod_nat, Int.reduceToNat, e4, e16, e15, e15a, cA, ct]; rfl)) <;>
            (apply lpure rfl rfl; (go_simp; with_reducible rfl); (simp only [Act.put, List.setIfInBounds_toArray, List.set_cons_zero, List.set_cons_succ, i64_w, i32_w, u8_wr, tmod_nat, Int.reduceToNat, e4, e16, e15, e15a, cA, ct]; rfl)) <;>
            (apply lpure rfl rfl; (go_simp; with_reducible rfl); (simp only [Act.put, List.setIfInBounds_toArray, List.set_cons_zero, List.set_cons_succ, i64_w, i32_w, u8_wr, tmod_nat, Int.reduceToNat, e4, e16, e15, e15a, cA, ct]; rfl)) <;>
            (apply lend)
        | ((with_reducible refine gate_region (id := 4) ?_); apply plain_region) <;>
            (apply lpure rfl rfl; (go_simp; with_reducible rfl); (simp only [Act.put, List.setIfInBounds_toArray, List.set_cons_zero, List.set_cons_succ, i64_w, i32_w, u8_wr, tmod_nat, Int.reduceToNat, e4, e16, e15, e15a, cA, ct]; rfl)) <;>
            (apply lcall rfl rfl rfl Tryz.func12 (by kernel_rfl) rfl; (with_reducible apply Calls.mono); exact implC (cutA s) hcA _ (HE.out.later HF.below) (HM.out.later HF.below) (Go.Joins.tab_stays gTab HTB.out HF.below (Nat.le_refl _)) (tab_later HTT.out HF.below) a0 a1 a2 a3 a4 _ HA.out; rintro e w_ ⟨rfl, hb_⟩; refine ⟨_, rfl, ?_⟩; replace HF := HF.call hb_; clear hb_; rotate_left; (first | rfl | (simp only [List.map_toArray, List.map_cons, List.map_nil]; first | done | rfl)); (refine lnorm (a' := ?_) ?_ ?_; rotate_left; (simp only [Act.put, List.setIfInBounds_toArray, List.set_cons_zero, List.set_cons_succ, i64_w, i32_w, u8_wr, tmod_nat, Int.reduceToNat, e4, e16, e15, e15a, cA, ct]; rfl))) <;>
            (apply lpure rfl rfl; (go_simp; with_reducible rfl); (simp only [Act.put, List.setIfInBounds_toArray, List.set_cons_zero, List.set_cons_succ, i64_w, i32_w, u8_wr, tmod_nat, Int.reduceToNat, e4, e16, e15, e15a, cA, ct]; rfl)) <;>
            (apply lpure rfl rfl; (go_simp; with_reducible rfl); (simp only [Act.put, List.setIfInBounds_toArray, List.set_cons_zero, List.set_cons_succ, i64_w, i32_w, u8_wr, tmod_nat, Int.reduceToNat, e4, e16, e15, e15a, cA, ct]; rfl)) <;>
            (apply lpure rfl rfl; (go_simp; with_reducible rfl); (simp only [Act.put, List.setIfInBounds_toArray, List.set_cons_zero, List.set_cons_succ, i64_w, i32_w, u8_wr, tmod_nat, Int.reduceToNat, e4, e16, e15, e15a, cA, ct]; rfl)) <;>
            ((with_reducible apply Fr.lalloc HF rfl rfl rfl); (go_simp; rfl); decide; clear HF; intro g_ w_ HF; (refine lnorm (a' := ?_) ?_ ?_; rotate_left; (simp only [Act.put, List.setIfInBounds_toArray, List.set_cons_zero, List.set_cons_succ, i64_w, i32_w, u8_wr, tmod_nat, Int.reduceToNat, e4, e16, e15, e15a, cA, ct]; rfl))) <;>
            ((with_reducible apply Fr.lstoreRow HF rfl rfl rfl); assumption; rfl; (go_simp; rfl); rfl; rfl; (repeat (first | apply At.head | apply At.tail)); (simp only [List.drop_succ_cons, List.drop_zero, List.drop_nil, List.take_succ_cons, List.take_zero, List.cons_append, List.nil_append, List.append_nil]; rfl); simp; clear HF; intro w_ HF) <;>
            (apply lpure rfl rfl; (go_simp; with_reducible rfl); (simp only [Act.put, List.setIfInBounds_toArray, List.set_cons_zero, List.set_cons_succ, i64_w, i32_w, u8_wr, tmod_nat, Int.reduceToNat, e4, e16, e15, e15a, cA, ct]; rfl)) <;>
            (apply lend)
        | ((with_reducible refine gate_region (id := 5) ?_); apply plain_region) <;>
            (apply lpure rfl rfl; (go_simp; with_reducible rfl); (simp only [Act.put, List.setIfInBounds_toArray, List.set_cons_zero, List.set_cons_succ, i64_w, i32_w, u8_wr, tmod_nat, Int.reduceToNat, e4, e16, e15, e15a, cA, ct]; rfl)) <;>
            (apply lcall rfl rfl rfl Tryz.func13 (by kernel_rfl) rfl; (with_reducible apply Calls.mono); exact numC (cutB s) hcB n _ HN.out _ (Go.Joins.tab_stays gTab HTB.out HF.below (Nat.le_refl _)) (HE.out.later HF.below); rintro e w_ ⟨rfl, hb_⟩; refine ⟨_, rfl, ?_⟩; replace HF := HF.call hb_; clear hb_; rotate_left; (first | rfl | (simp only [List.map_toArray, List.map_cons, List.map_nil]; first | done | rfl)); (refine lnorm (a' := ?_) ?_ ?_; rotate_left; (simp only [Act.put, List.setIfInBounds_toArray, List.set_cons_zero, List.set_cons_succ, i64_w, i32_w, u8_wr, tmod_nat, Int.reduceToNat, e4, e16, e15, e15a, cA, ct]; rfl))) <;>
            (apply lpure rfl rfl; (go_simp; with_reducible rfl); (simp only [Act.put, List.setIfInBounds_toArray, List.set_cons_zero, List.set_cons_succ, i64_w, i32_w, u8_wr, tmod_nat, Int.reduceToNat, e4, e16, e15, e15a, cA, ct]; rfl)) <;>
            (apply lpure rfl rfl; (go_simp; with_reducible rfl); (simp only [Act.put, List.setIfInBounds_toArray, List.set_cons_zero, List.set_cons_succ, i64_w, i32_w, u8_wr, tmod_nat, Int.reduceToNat, e4, e16, e15, e15a, cA, ct]; rfl)) <;>
            (apply lpure rfl rfl; (go_simp; with_reducible rfl); (simp only [Act.put, List.setIfInBounds_toArray, List.set_cons_zero, List.set_cons_succ, i64_w, i32_w, u8_wr, tmod_nat, Int.reduceToNat, e4, e16, e15, e15a, cA, ct]; rfl)) <;>
            (apply lpure rfl rfl; (go_simp; with_reducible rfl); (simp only [Act.put, List.setIfInBounds_toArray, List.set_cons_zero, List.set_cons_succ, i64_w, i32_w, u8_wr, tmod_nat, Int.reduceToNat, e4, e16, e15, e15a, cA, ct]; rfl)) <;>
            (apply lpure rfl rfl; (go_simp; with_reducible rfl); (simp only [Act.put, List.setIfInBounds_toArray, List.set_cons_zero, List.set_cons_succ, i64_w, i32_w, u8_wr, tmod_nat, Int.reduceToNat, e4, e16, e15, e15a, cA, ct]; rfl)) <;>
            (apply lend)
        | ((with_reducible refine gate_region (id := 6) ?_); apply plain_region) <;>
            (apply HF.lrow rfl rfl rfl R23_ rfl; (repeat (first | exact At.head | apply At.tail)); (simp only [List.drop_succ_cons, List.drop_zero, List.take_succ_cons, List.take_zero]; rfl); rfl; (simp only [Act.put, List.setIfInBounds_toArray, List.set_cons_zero, List.set_cons_succ, i64_w, i32_w, u8_wr, tmod_nat, Int.reduceToNat, e4, e16, e15, e15a, cA, ct]; rfl)) <;>
            (apply lpure rfl rfl; (go_simp; with_reducible rfl); (simp only [Act.put, List.setIfInBounds_toArray, List.set_cons_zero, List.set_cons_succ, i64_w, i32_w, u8_wr, tmod_nat, Int.reduceToNat, e4, e16, e15, e15a, cA, ct]; rfl)) <;>
            (apply lpure rfl rfl; (go_simp; with_reducible rfl); (simp only [Act.put, List.setIfInBounds_toArray, List.set_cons_zero, List.set_cons_succ, i64_w, i32_w, u8_wr, tmod_nat, Int.reduceToNat, e4, e16, e15, e15a, cA, ct]; rfl)) <;>
            ((with_reducible apply Fr.lalloc HF rfl rfl rfl); (go_simp; rfl); decide; clear HF; intro g_ w_ HF; (refine lnorm (a' := ?_) ?_ ?_; rotate_left; (simp only [Act.put, List.setIfInBounds_toArray, List.set_cons_zero, List.set_cons_succ, i64_w, i32_w, u8_wr, tmod_nat, Int.reduceToNat, e4, e16, e15, e15a, cA, ct]; rfl))) <;>
            ((with_reducible apply Fr.lstoreRow HF rfl rfl rfl); assumption; rfl; (go_simp; rfl); rfl; rfl; (repeat (first | apply At.head | apply At.tail)); (simp only [List.drop_succ_cons, List.drop_zero, List.drop_nil, List.take_succ_cons, List.take_zero, List.cons_append, List.nil_append, List.append_nil]; rfl); simp; clear HF; intro w_ HF) <;>
            (apply lend)
        | ((with_reducible refine gate_region (id := 7) ?_); apply plain_region) <;>
            (apply lpure rfl rfl; (go_simp; with_reducible rfl); (simp only [Act.put, List.setIfInBounds_toArray, List.set_cons_zero, List.set_cons_succ, i64_w, i32_w, u8_wr, tmod_nat, Int.reduceToNat, e4, e16, e15, e15a, cA, ct]; rfl)) <;>
            (apply lpure rfl rfl; (go_simp; with_reducible rfl); (simp only [Act.put, List.setIfInBounds_toArray, List.set_cons_zero, List.set_cons_succ, i64_w, i32_w, u8_wr, tmod_nat, Int.reduceToNat, e4, e16, e15, e15a, cA, ct]; rfl)) <;>
            (apply lpure rfl rfl; (go_simp; with_reducible rfl); (simp only [Act.put, List.setIfInBounds_toArray, List.set_cons_zero, List.set_cons_succ, i64_w, i32_w, u8_wr, tmod_nat, Int.reduceToNat, e4, e16, e15, e15a, cA, ct]; rfl)) <;>
            (first | (apply lpure rfl rfl; (go_simp; with_reducible rfl); (simp only [Act.put, List.setIfInBounds_toArray, List.set_cons_zero, List.set_cons_succ, i64_w, i32_w, u8_wr, tmod_nat, Int.reduceToNat, e4, e16, e15, e15a, cA, ct]; rfl)) | (apply loff rfl rfl; (simp only [Act.put, List.setIfInBounds_toArray, List.set_cons_zero, List.set_cons_succ, i64_w, i32_w, u8_wr, tmod_nat, Int.reduceToNat, e4, e16, e15, e15a, cA, ct]; rfl))) <;>
            (first | (apply lpure rfl rfl; (go_simp; with_reducible rfl); (simp only [Act.put, List.setIfInBounds_toArray, List.set_cons_zero, List.set_cons_succ, i64_w, i32_w, u8_wr, tmod_nat, Int.reduceToNat, e4, e16, e15, e15a, cA, ct]; rfl)) | (apply loff rfl rfl; (simp only [Act.put, List.setIfInBounds_toArray, List.set_cons_zero, List.set_cons_succ, i64_w, i32_w, u8_wr, tmod_nat, Int.reduceToNat, e4, e16, e15, e15a, cA, ct]; rfl))) <;>
            (apply lpure rfl rfl; (go_simp; with_reducible rfl); (simp only [Act.put, List.setIfInBounds_toArray, List.set_cons_zero, List.set_cons_succ, i64_w, i32_w, u8_wr, tmod_nat, Int.reduceToNat, e4, e16, e15, e15a, cA, ct]; rfl)) <;>
            (apply lpure rfl rfl; (go_simp; with_reducible rfl); (simp only [Act.put, List.setIfInBounds_toArray, List.set_cons_zero, List.set_cons_succ, i64_w, i32_w, u8_wr, tmod_nat, Int.reduceToNat, e4, e16, e15, e15a, cA, ct]; rfl)) <;>
            (first | (apply HF.lrow rfl rfl rfl R25_ rfl; (repeat (first | exact At.head | apply At.tail)); (simp only [List.drop_succ_cons, List.drop_zero, List.take_succ_cons, List.take_zero]; rfl); rfl; (simp only [Act.put, List.setIfInBounds_toArray, List.set_cons_zero, List.set_cons_succ, i64_w, i32_w, u8_wr, tmod_nat, Int.reduceToNat, e4, e16, e15, e15a, cA, ct]; rfl)) | (apply loff rfl rfl; (simp only [Act.put, List.setIfInBounds_toArray, List.set_cons_zero, List.set_cons_succ, i64_w, i32_w, u8_wr, tmod_nat, Int.reduceToNat, e4, e16, e15, e15a, cA, ct]; rfl))) <;>
            (first | (apply lcall rfl rfl rfl Tryz.func14 (by kernel_rfl) rfl; (with_reducible apply Calls.mono); exact ptextC _ (Go.Joins.tab_stays gTab HTB.out HF.below (Nat.le_refl _)) (tab_later HTT.out HF.below); rintro e w_ ⟨rfl, hb_⟩; refine ⟨_, rfl, ?_⟩; replace HF := HF.call hb_; clear hb_; rotate_left; (first | rfl | (simp only [List.map_toArray, List.map_cons, List.map_nil]; first | done | rfl)); (refine lnorm (a' := ?_) ?_ ?_; rotate_left; (simp only [Act.put, List.setIfInBounds_toArray, List.set_cons_zero, List.set_cons_succ, i64_w, i32_w, u8_wr, tmod_nat, Int.reduceToNat, e4, e16, e15, e15a, cA, ct]; rfl))) | (apply loff rfl rfl; (simp only [Act.put, List.setIfInBounds_toArray, List.set_cons_zero, List.set_cons_succ, i64_w, i32_w, u8_wr, tmod_nat, Int.reduceToNat, e4, e16, e15, e15a, cA, ct]; rfl))) <;>
            (first | (apply lpure rfl rfl; (go_simp; with_reducible rfl); (simp only [Act.put, List.setIfInBounds_toArray, List.set_cons_zero, List.set_cons_succ, i64_w, i32_w, u8_wr, tmod_nat, Int.reduceToNat, e4, e16, e15, e15a, cA, ct]; rfl)) | (apply loff rfl rfl; (simp only [Act.put, List.setIfInBounds_toArray, List.set_cons_zero, List.set_cons_succ, i64_w, i32_w, u8_wr, tmod_nat, Int.reduceToNat, e4, e16, e15, e15a, cA, ct]; rfl))) <;>
            (first | (apply lpure rfl rfl; (go_simp; with_reducible rfl); (simp only [Act.put, List.setIfInBounds_toArray, List.set_cons_zero, List.set_cons_succ, i64_w, i32_w, u8_wr, tmod_nat, Int.reduceToNat, e4, e16, e15, e15a, cA, ct]; rfl)) | (apply loff rfl rfl; (simp only [Act.put, List.setIfInBounds_toArray, List.set_cons_zero, List.set_cons_succ, i64_w, i32_w, u8_wr, tmod_nat, Int.reduceToNat, e4, e16, e15, e15a, cA, ct]; rfl))) <;>
            (apply lpure rfl rfl; (go_simp; with_reducible rfl); (simp only [Act.put, List.setIfInBounds_toArray, List.set_cons_zero, List.set_cons_succ, i64_w, i32_w, u8_wr, tmod_nat, Int.reduceToNat, e4, e16, e15, e15a, cA, ct]; rfl)) <;>
            (apply lend)
        | ((with_reducible refine gate_region (id := 8) ?_); apply plain_region) <;>
            (apply lpure rfl rfl; (go_simp; with_reducible rfl); (simp only [Act.put, List.setIfInBounds_toArray, List.set_cons_zero, List.set_cons_succ, i64_w, i32_w, u8_wr, tmod_nat, Int.reduceToNat, e4, e16, e15, e15a, cA, ct]; rfl)) <;>
            ((with_reducible apply Fr.lstoreRow HF rfl rfl rfl); assumption; rfl; (go_simp; rfl); rfl; rfl; (repeat (first | apply At.head | apply At.tail)); (simp only [List.drop_succ_cons, List.drop_zero, List.drop_nil, List.take_succ_cons, List.take_zero, List.cons_append, List.nil_append, List.append_nil]; rfl); simp; clear HF; intro w_ HF) <;>
            (apply lpure rfl rfl; (go_simp; with_reducible rfl); (simp only [Act.put, List.setIfInBounds_toArray, List.set_cons_zero, List.set_cons_succ, i64_w, i32_w, u8_wr, tmod_nat, Int.reduceToNat, e4, e16, e15, e15a, cA, ct]; rfl)) <;>
            (apply lend)
        | ((with_reducible refine gate_region (id := 9) ?_); apply plain_region) <;>
            (apply HF.lrow rfl rfl rfl R25_ rfl; (repeat (first | exact At.head | apply At.tail)); (simp only [List.drop_succ_cons, List.drop_zero, List.take_succ_cons, List.take_zero]; rfl); rfl; (simp only [Act.put, List.setIfInBounds_toArray, List.set_cons_zero, List.set_cons_succ, i64_w, i32_w, u8_wr, tmod_nat, Int.reduceToNat, e4, e16, e15, e15a, cA, ct]; rfl)) <;>
            ((with_reducible apply Fr.lstoreRow HF rfl rfl rfl); assumption; rfl; (go_simp; rfl); rfl; rfl; (repeat (first | apply At.head | apply At.tail)); (simp only [List.drop_succ_cons, List.drop_zero, List.drop_nil, List.take_succ_cons, List.take_zero, List.cons_append, List.nil_append, List.append_nil]; rfl); simp; clear HF; intro w_ HF) <;>
            (apply lpure rfl rfl; (go_simp; with_reducible rfl); (simp only [Act.put, List.setIfInBounds_toArray, List.set_cons_zero, List.set_cons_succ, i64_w, i32_w, u8_wr, tmod_nat, Int.reduceToNat, e4, e16, e15, e15a, cA, ct]; rfl)) <;>
            (apply lend)
        | go_step | fail))
    all_goals (refine bodyPost_ret (results_ct rfl _ _ _ 25 _ (0, 0) _ rfl (HF.get (by repeat (first | exact At.head | apply At.tail))) Tryz.underlying25 rfl (by kernel_rfl)) rfl ?_; exact ⟨by rw [HFIN.out]; rfl, HF.below⟩)

theorem specC (g : ByteArray) (a0 a1 a2 a3 a4 : Int) (ok : Bool) (h : specRead g = (a0, a1, a2, a3, a4, ok)) (w : World) : Calls Tryz.prog 8 #[.string g] w fun e w' => e = .returned (.tuple #[.agg #[.int .i64 a0, .int .i64 a1, .int .i64 a2, .int .i64 a3, .int .i64 a4], .bool ok]) ∧ Below w.heap.size w w' := by
  have := SRead.specIs g w
  rw [h] at this
  exact this
set_option maxHeartbeats 8000000 in
set_option maxRecDepth 100000 in
theorem specPC (s : ByteArray) (w : World) : Calls Tryz.prog 4 #[.string s] w fun e w' => e = .returned (tupP (specP s)) ∧ Below w.heap.size w w' := by
  have hu30 := Tryz.underlying30
  have z9_ : (Tryz.prog.info? 9).map (·.size) = some 1 := by kernel_rfl
  have O9_ : IsOne Tryz.prog 9 := ⟨⟨_, Tryz.underlying9, rfl⟩, by kernel_rfl⟩
  have R23_ : IsRow Tryz.prog 23 5 := ⟨⟨_, Tryz.underlying23, rfl⟩, by kernel_rfl⟩
  have R25_ : IsRow Tryz.prog 25 6 := ⟨⟨_, Tryz.underlying25, rfl⟩, by kernel_rfl⟩
  have HF := Fr.start [23, 25] w
  by_cases ca : s = ANY
  · have HFIN := Aside0.mk (show specP s = A6 from if_pos ca)
    have cA := any_yes ca
    clear ca
    go_enter Tryz.func4, Tryz.ntmps4
    all_goals (repeat' (first
        | ((with_reducible refine gate_region (id := 0) ?_); apply plain_region) <;>
            ((with_reducible apply Fr.lalloc HF rfl rfl rfl); (go_simp; rfl); decide; clear HF; intro g_ w_ HF; (refine lnorm (a' := ?_) ?_ ?_; rotate_left; (simp only [Act.put, List.setIfInBounds_toArray, List.set_cons_zero, List.set_cons_succ, i64_w, i32_w, u8_wr, tmod_nat, Int.reduceToNat, e4, e16, e15, e15a, cA]; rfl))) <;>
            (apply lpure rfl rfl; (go_simp; with_reducible rfl); (simp only [Act.put, List.setIfInBounds_toArray, List.set_cons_zero, List.set_cons_succ, i64_w, i32_w, u8_wr, tmod_nat, Int.reduceToNat, e4, e16, e15, e15a, cA]; rfl)) <;>
            (apply lend)
        | ((with_reducible refine gate_region (id := 1) ?_); apply plain_region) <;>
            (apply lpure rfl rfl; (go_simp; with_reducible rfl); (simp only [Act.put, List.setIfInBounds_toArray, List.set_cons_zero, List.set_cons_succ, i64_w, i32_w, u8_wr, tmod_nat, Int.reduceToNat, e4, e16, e15, e15a, cA]; rfl)) <;>
            (apply lpure rfl rfl; (go_simp; with_reducible rfl); (simp only [Act.put, List.setIfInBounds_toArray, List.set_cons_zero, List.set_cons_succ, i64_w, i32_w, u8_wr, tmod_nat, Int.reduceToNat, e4, e16, e15, e15a, cA]; rfl)) <;>
            (apply lend)
        | ((with_reducible refine gate_region (id := 2) ?_); apply plain_region) <;>
            (apply lpure rfl rfl; (go_simp; with_reducible rfl); (simp only [Act.put, List.setIfInBounds_toArray, List.set_cons_zero, List.set_cons_succ, i64_w, i32_w, u8_wr, tmod_nat, Int.reduceToNat, e4, e16, e15, e15a, cA]; rfl)) <;>
            ((with_reducible apply Fr.lstoreRow HF rfl rfl rfl); assumption; rfl; (go_simp; rfl); rfl; rfl; (repeat (first | apply At.head | apply At.tail)); (simp only [List.drop_succ_cons, List.drop_zero, List.drop_nil, List.take_succ_cons, List.take_zero, List.cons_append, List.nil_append, List.append_nil]; rfl); simp; clear HF; intro w_ HF) <;>
            (apply lpure rfl rfl; (go_simp; with_reducible rfl); (simp only [Act.put, List.setIfInBounds_toArray, List.set_cons_zero, List.set_cons_succ, i64_w, i32_w, u8_wr, tmod_nat, Int.reduceToNat, e4, e16, e15, e15a, cA]; rfl)) <;>
            (apply lend)
        | go_step | fail))
    all_goals (refine bodyPost_ret (results_ct rfl _ _ _ 25 _ (0, 0) _ rfl (HF.get (by repeat (first | exact At.head | apply At.tail))) Tryz.underlying25 rfl (by kernel_rfl)) rfl ?_; exact ⟨by rw [HFIN.out]; rfl, HF.below⟩)
  have cA := any_not ca
  have hfin := show specP s = _ from if_neg ca
  clear ca
  by_cases c43 : (s.size : Int) > 43
  · have d43 : decide ((43 : Int) < (s.size : Int)) = true := decide_eq_true c43
    have HFIN := Aside0.mk (hfin.trans (if_pos c43))
    clear hfin c43
    go_enter Tryz.func4, Tryz.ntmps4
    all_goals (repeat' (first
        | ((with_reducible refine gate_region (id := 0) ?_); apply plain_region) <;>
            ((with_reducible apply Fr.lalloc HF rfl rfl rfl); (go_simp; rfl); decide; clear HF; intro g_ w_ HF; (refine lnorm (a' := ?_) ?_ ?_; rotate_left; (simp only [Act.put, List.setIfInBounds_toArray, List.set_cons_zero, List.set_cons_succ, i64_w, i32_w, u8_wr, tmod_nat, Int.reduceToNat, e4, e16, e15, e15a, cA, d43]; rfl))) <;>
            (apply lpure rfl rfl; (go_simp; with_reducible rfl); (simp only [Act.put, List.setIfInBounds_toArray, List.set_cons_zero, List.set_cons_succ, i64_w, i32_w, u8_wr, tmod_nat, Int.reduceToNat, e4, e16, e15, e15a, cA, d43]; rfl)) <;>
            (apply lend)
        | ((with_reducible refine gate_region (id := 1) ?_); apply plain_region) <;>
            (apply lpure rfl rfl; (go_simp; with_reducible rfl); (simp only [Act.put, List.setIfInBounds_toArray, List.set_cons_zero, List.set_cons_succ, i64_w, i32_w, u8_wr, tmod_nat, Int.reduceToNat, e4, e16, e15, e15a, cA, d43]; rfl)) <;>
            (apply lpure rfl rfl; (go_simp; with_reducible rfl); (simp only [Act.put, List.setIfInBounds_toArray, List.set_cons_zero, List.set_cons_succ, i64_w, i32_w, u8_wr, tmod_nat, Int.reduceToNat, e4, e16, e15, e15a, cA, d43]; rfl)) <;>
            (apply lend)
        | ((with_reducible refine gate_region (id := 3) ?_); apply plain_region) <;>
            (apply lpure rfl rfl; (go_simp; with_reducible rfl); (simp only [Act.put, List.setIfInBounds_toArray, List.set_cons_zero, List.set_cons_succ, i64_w, i32_w, u8_wr, tmod_nat, Int.reduceToNat, e4, e16, e15, e15a, cA, d43]; rfl)) <;>
            (apply lpure rfl rfl; (go_simp; with_reducible rfl); (simp only [Act.put, List.setIfInBounds_toArray, List.set_cons_zero, List.set_cons_succ, i64_w, i32_w, u8_wr, tmod_nat, Int.reduceToNat, e4, e16, e15, e15a, cA, d43]; rfl)) <;>
            (apply lpure rfl rfl; (go_simp; with_reducible rfl); (simp only [Act.put, List.setIfInBounds_toArray, List.set_cons_zero, List.set_cons_succ, i64_w, i32_w, u8_wr, tmod_nat, Int.reduceToNat, e4, e16, e15, e15a, cA, d43]; rfl)) <;>
            (apply lend)
        | ((with_reducible refine gate_region (id := 4) ?_); apply plain_region) <;>
            (apply lpure rfl rfl; (go_simp; with_reducible rfl); (simp only [Act.put, List.setIfInBounds_toArray, List.set_cons_zero, List.set_cons_succ, i64_w, i32_w, u8_wr, tmod_nat, Int.reduceToNat, e4, e16, e15, e15a, cA, d43]; rfl)) <;>
            ((with_reducible apply Fr.lstoreRow HF rfl rfl rfl); assumption; rfl; (go_simp; rfl); rfl; rfl; (repeat (first | apply At.head | apply At.tail)); (simp only [List.drop_succ_cons, List.drop_zero, List.drop_nil, List.take_succ_cons, List.take_zero, List.cons_append, List.nil_append, List.append_nil]; rfl); simp; clear HF; intro w_ HF) <;>
            (apply lpure rfl rfl; (go_simp; with_reducible rfl); (simp only [Act.put, List.setIfInBounds_toArray, List.set_cons_zero, List.set_cons_succ, i64_w, i32_w, u8_wr, tmod_nat, Int.reduceToNat, e4, e16, e15, e15a, cA, d43]; rfl)) <;>
            (apply lend)
        | go_step | fail))
    all_goals (refine bodyPost_ret (results_ct rfl _ _ _ 25 _ (0, 0) _ rfl (HF.get (by repeat (first | exact At.head | apply At.tail))) Tryz.underlying25 rfl (by kernel_rfl)) rfl ?_; exact ⟨by rw [HFIN.out]; rfl, HF.below⟩)
  have d43 : decide ((43 : Int) < (s.size : Int)) = false := decide_eq_false c43
  replace hfin := hfin.trans (if_neg c43)
  have HGG := Aside0.mk (show spec_l03Group.f 1300 s 47 = some _ from group s 47 (by omega) (show 1001 ≤ 1300 by omega))
  generalize (grp 47 s.data.toList).map ofL = G at hfin HGG
  clear c43
  by_cases c2 : (G.length : Int) = 2
  · have d2 : ((G.length : Int) != 2) = false := bne_eq_false_iff_eq.mpr c2
    have l0 : (0 : Int) < (G.length : Int) := by omega
    have l1 : (1 : Int) < (G.length : Int) := by omega
    obtain ⟨b, hb⟩ : ∃ b, rdOf ByteArray.empty G 0 = b := ⟨_, rfl⟩
    obtain ⟨z, hz⟩ : ∃ z, rdOf ByteArray.empty G 1 = z := ⟨_, rfl⟩
    have eG : G = [b, z] := by
      match G, c2 with
      | [x, y], _ => rw [← hb, ← hz]; rfl
      | [], h => simp at h
      | [_], h => simp at h
      | _ :: _ :: _ :: _, h => simp only [List.length_cons] at h; omega
    have hfin2 : specP s = endS (specRead b) (numR z) := hfin.trans (by rw [eG]; rfl)
    clear hfin eG c2
    obtain ⟨⟨a0, a1, a2, a3, a4, ok⟩, hA⟩ : ∃ A, specRead b = A := ⟨_, rfl⟩
    obtain ⟨⟨n, fine⟩, hn⟩ : ∃ n, numR z = n := ⟨_, rfl⟩
    have hfin := hfin2.trans (show _ = endS (a0, a1, a2, a3, a4, ok) (n, fine) by rw [hA, hn])
    have HA := Aside0.mk hA
    have HN := Aside0.mk ((spec_read z).trans (congrArg some hn))
    obtain ⟨p, hp⟩ : ∃ p, prefixB a0 a1 a2 a3 a4 n = p := ⟨_, rfl⟩
    have HP := Aside0.mk ((specPrefixOk (Nat.le_refl 2000) a0 a1 a2 a3 a4 n).trans (congrArg some hp))
    clear hA hn hfin2
    replace hfin : specP s = if ok = true ∧ fine = true ∧ p = true then got (a0, a1, a2, a3, a4, ok) n else Z6 := by rw [← hp]; exact hfin
    clear hp
    rcases fourB hfin with ⟨rfl, rfl, rfl, hz⟩ | ⟨rfl, rfl, rfl, hz⟩ | ⟨rfl, rfl, hz⟩ | ⟨rfl, hz⟩
    all_goals (have HFIN := Aside0.mk hz; clear hz)
    all_goals clear hfin
    all_goals (go_enter Tryz.func4, Tryz.ntmps4)
    all_goals (repeat' (first
        | ((with_reducible refine gate_region (id := 0) ?_); apply plain_region) <;>
            ((with_reducible apply Fr.lalloc HF rfl rfl rfl); (go_simp; rfl); decide; clear HF; intro g_ w_ HF; (refine lnorm (a' := ?_) ?_ ?_; rotate_left; (simp only [Act.put, List.setIfInBounds_toArray, List.set_cons_zero, List.set_cons_succ, i64_w, i32_w, u8_wr, tmod_nat, Int.reduceToNat, e4, e16, e15, e15a, cA, d43, d2, hb, hz]; rfl))) <;>
            (apply lpure rfl rfl; (go_simp; with_reducible rfl); (simp only [Act.put, List.setIfInBounds_toArray, List.set_cons_zero, List.set_cons_succ, i64_w, i32_w, u8_wr, tmod_nat, Int.reduceToNat, e4, e16, e15, e15a, cA, d43, d2, hb, hz]; rfl)) <;>
            (apply lend)
        | ((with_reducible refine gate_region (id := 1) ?_); apply plain_region) <;>
            (apply lpure rfl rfl; (go_simp; with_reducible rfl); (simp only [Act.put, List.setIfInBounds_toArray, List.set_cons_zero, List.set_cons_succ, i64_w, i32_w, u8_wr, tmod_nat, Int.reduceToNat, e4, e16, e15, e15a, cA, d43, d2, hb, hz]; rfl)) <;>
            (apply lpure rfl rfl; (go_simp; with_reducible rfl); (simp only [Act.put, List.setIfInBounds_toArray, List.set_cons_zero, List.set_cons_succ, i64_w, i32_w, u8_wr, tmod_nat, Int.reduceToNat, e4, e16, e15, e15a, cA, d43, d2, hb, hz]; rfl)) <;>
            (apply lend)
        | ((with_reducible refine gate_region (id := 3) ?_); apply plain_region) <;>
            (apply lpure rfl rfl; (go_simp; with_reducible rfl); (simp only [Act.put, List.setIfInBounds_toArray, List.set_cons_zero, List.set_cons_succ, i64_w, i32_w, u8_wr, tmod_nat, Int.reduceToNat, e4, e16, e15, e15a, cA, d43, d2, hb, hz]; rfl)) <;>
            (apply lpure rfl rfl; (go_simp; with_reducible rfl); (simp only [Act.put, List.setIfInBounds_toArray, List.set_cons_zero, List.set_cons_succ, i64_w, i32_w, u8_wr, tmod_nat, Int.reduceToNat, e4, e16, e15, e15a, cA, d43, d2, hb, hz]; rfl)) <;>
            (apply lpure rfl rfl; (go_simp; with_reducible rfl); (simp only [Act.put, List.setIfInBounds_toArray, List.set_cons_zero, List.set_cons_succ, i64_w, i32_w, u8_wr, tmod_nat, Int.reduceToNat, e4, e16, e15, e15a, cA, d43, d2, hb, hz]; rfl)) <;>
            (apply lend)
        | ((with_reducible refine gate_region (id := 5) ?_); apply plain_region) <;>
            (apply lpure rfl rfl; (go_simp; with_reducible rfl); (simp only [Act.put, List.setIfInBounds_toArray, List.set_cons_zero, List.set_cons_succ, i64_w, i32_w, u8_wr, tmod_nat, Int.reduceToNat, e4, e16, e15, e15a, cA, d43, d2, hb, hz]; rfl)) <;>
            (apply lcall rfl rfl rfl Tryz.func7 (by kernel_rfl) rfl; (with_reducible apply Calls.mono); (with_reducible apply spec_l03Group.calls (h := HGG.out)); rintro e w_ ⟨v0_, rfl, ho_, hb_⟩; obtain ⟨AG, cG, rfl⟩ := Kd.R_slice ho_; have HOG := HF.row2 ho_; clear ho_; refine ⟨_, rfl, ?_⟩; replace HF := (HF.call hb_).mark; clear hb_; rotate_left; (first | rfl | (simp only [List.map_toArray, List.map_cons, List.map_nil]; first | done | rfl)); (refine lnorm (a' := ?_) ?_ ?_; rotate_left; (simp only [Act.put, List.setIfInBounds_toArray, List.set_cons_zero, List.set_cons_succ, i64_w, i32_w, u8_wr, tmod_nat, Int.reduceToNat, e4, e16, e15, e15a, cA, d43, d2, hb, hz]; rfl))) <;>
            (apply lpure rfl rfl; (go_simp; with_reducible rfl); (simp only [Act.put, List.setIfInBounds_toArray, List.set_cons_zero, List.set_cons_succ, i64_w, i32_w, u8_wr, tmod_nat, Int.reduceToNat, e4, e16, e15, e15a, cA, d43, d2, hb, hz]; rfl)) <;>
            (apply lend)
        | ((with_reducible refine gate_region (id := 6) ?_); apply plain_region) <;>
            (apply lpure rfl rfl; (go_simp; with_reducible rfl); (simp only [Act.put, List.setIfInBounds_toArray, List.set_cons_zero, List.set_cons_succ, i64_w, i32_w, u8_wr, tmod_nat, Int.reduceToNat, e4, e16, e15, e15a, cA, d43, d2, hb, hz]; rfl)) <;>
            (apply lpure rfl rfl; (go_simp; with_reducible rfl); (simp only [Act.put, List.setIfInBounds_toArray, List.set_cons_zero, List.set_cons_succ, i64_w, i32_w, u8_wr, tmod_nat, Int.reduceToNat, e4, e16, e15, e15a, cA, d43, d2, hb, hz]; rfl)) <;>
            (apply lpure rfl rfl; (go_simp; with_reducible rfl); (simp only [Act.put, List.setIfInBounds_toArray, List.set_cons_zero, List.set_cons_succ, i64_w, i32_w, u8_wr, tmod_nat, Int.reduceToNat, e4, e16, e15, e15a, cA, d43, d2, hb, hz]; rfl)) <;>
            (apply lend)
        | ((with_reducible refine gate_region (id := 8) ?_); apply plain_region) <;>
            (apply lpure rfl rfl; (go_simp; with_reducible rfl); (simp only [Act.put, List.setIfInBounds_toArray, List.set_cons_zero, List.set_cons_succ, i64_w, i32_w, u8_wr, tmod_nat, Int.reduceToNat, e4, e16, e15, e15a, cA, d43, d2, hb, hz]; rfl)) <;>
            (apply lpure rfl rfl; (exact run_idxS rfl rfl rfl hu30 z9_ (HF.rowC HOG (by simp) (by decide)).1 (by decide) l0); (simp only [Act.put, List.setIfInBounds_toArray, List.set_cons_zero, List.set_cons_succ, i64_w, i32_w, u8_wr, tmod_nat, Int.reduceToNat, e4, e16, e15, e15a, cA, d43, d2, hb, hz]; rfl)) <;>
            (apply lelt rfl rfl; exact run_eltS (y := 0) rfl rfl O9_ (HF.rowC HOG (by simp) (by decide)).1 (by decide) l0; (simp only [Act.put, List.setIfInBounds_toArray, List.set_cons_zero, List.set_cons_succ, i64_w, i32_w, u8_wr, tmod_nat, Int.reduceToNat, e4, e16, e15, e15a, cA, d43, d2, hb, hz]; rfl)) <;>
            (apply lcall rfl rfl rfl Tryz.func8 (by kernel_rfl) rfl; (with_reducible apply Calls.mono); exact specC b a0 a1 a2 a3 a4 _ HA.out _; rintro e w_ ⟨rfl, hb_⟩; refine ⟨_, rfl, ?_⟩; replace HF := HF.call hb_; clear hb_; rotate_left; (first | rfl | (simp only [List.map_toArray, List.map_cons, List.map_nil]; first | done | rfl)); (refine lnorm (a' := ?_) ?_ ?_; rotate_left; (simp only [Act.put, List.setIfInBounds_toArray, List.set_cons_zero, List.set_cons_succ, i64_w, i32_w, u8_wr, tmod_nat, Int.reduceToNat, e4, e16, e15, e15a, cA, d43, d2, hb, hz]; rfl))) <;>
            (apply lpure rfl rfl; (go_simp; with_reducible rfl); (simp only [Act.put, List.setIfInBounds_toArray, List.set_cons_zero, List.set_cons_succ, i64_w, i32_w, u8_wr, tmod_nat, Int.reduceToNat, e4, e16, e15, e15a, cA, d43, d2, hb, hz]; rfl)) <;>
            (apply lpure rfl rfl; (go_simp; with_reducible rfl); (simp only [Act.put, List.setIfInBounds_toArray, List.set_cons_zero, List.set_cons_succ, i64_w, i32_w, u8_wr, tmod_nat, Int.reduceToNat, e4, e16, e15, e15a, cA, d43, d2, hb, hz]; rfl)) <;>
            (apply lpure rfl rfl; (go_simp; with_reducible rfl); (simp only [Act.put, List.setIfInBounds_toArray, List.set_cons_zero, List.set_cons_succ, i64_w, i32_w, u8_wr, tmod_nat, Int.reduceToNat, e4, e16, e15, e15a, cA, d43, d2, hb, hz]; rfl)) <;>
            ((with_reducible apply Fr.lalloc HF rfl rfl rfl); (go_simp; rfl); decide; clear HF; intro g_ w_ HF; (refine lnorm (a' := ?_) ?_ ?_; rotate_left; (simp only [Act.put, List.setIfInBounds_toArray, List.set_cons_zero, List.set_cons_succ, i64_w, i32_w, u8_wr, tmod_nat, Int.reduceToNat, e4, e16, e15, e15a, cA, d43, d2, hb, hz]; rfl))) <;>
            ((with_reducible apply Fr.lstoreRow HF rfl rfl rfl); assumption; rfl; (go_simp; rfl); rfl; rfl; (repeat (first | apply At.head | apply At.tail)); (simp only [List.drop_succ_cons, List.drop_zero, List.drop_nil, List.take_succ_cons, List.take_zero, List.cons_append, List.nil_append, List.append_nil]; rfl); simp; clear HF; intro w_ HF) <;>
            (apply lpure rfl rfl; (go_simp; with_reducible rfl); (simp only [Act.put, List.setIfInBounds_toArray, List.set_cons_zero, List.set_cons_succ, i64_w, i32_w, u8_wr, tmod_nat, Int.reduceToNat, e4, e16, e15, e15a, cA, d43, d2, hb, hz]; rfl)) <;>
            (apply lend)
        | ((with_reducible refine gate_region (id := 9) ?_); apply plain_region) <;>
            (apply lpure rfl rfl; (go_simp; with_reducible rfl); (simp only [Act.put, List.setIfInBounds_toArray, List.set_cons_zero, List.set_cons_succ, i64_w, i32_w, u8_wr, tmod_nat, Int.reduceToNat, e4, e16, e15, e15a, cA, d43, d2, hb, hz]; rfl)) <;>
            (apply lpure rfl rfl; (exact run_idxS rfl rfl rfl hu30 z9_ (HF.rowC HOG (by simp) (by decide)).1 (by decide) l1); (simp only [Act.put, List.setIfInBounds_toArray, List.set_cons_zero, List.set_cons_succ, i64_w, i32_w, u8_wr, tmod_nat, Int.reduceToNat, e4, e16, e15, e15a, cA, d43, d2, hb, hz]; rfl)) <;>
            (apply lelt rfl rfl; exact run_eltS (y := 1) rfl rfl O9_ (HF.rowC HOG (by simp) (by decide)).1 (by decide) l1; (simp only [Act.put, List.setIfInBounds_toArray, List.set_cons_zero, List.set_cons_succ, i64_w, i32_w, u8_wr, tmod_nat, Int.reduceToNat, e4, e16, e15, e15a, cA, d43, d2, hb, hz]; rfl)) <;>
            (apply lcall rfl rfl rfl Tryz.func9 (by kernel_rfl) rfl; (with_reducible apply Calls.mono); exact spec_NumRead.calls 60 z n _ _ HN.out; rintro e w_ ⟨rfl, hb_⟩; refine ⟨_, rfl, ?_⟩; replace HF := HF.call hb_; clear hb_; rotate_left; (first | rfl | (simp only [List.map_toArray, List.map_cons, List.map_nil]; first | done | rfl)); (refine lnorm (a' := ?_) ?_ ?_; rotate_left; (simp only [Act.put, List.setIfInBounds_toArray, List.set_cons_zero, List.set_cons_succ, i64_w, i32_w, u8_wr, tmod_nat, Int.reduceToNat, e4, e16, e15, e15a, cA, d43, d2, hb, hz]; rfl))) <;>
            (apply lpure rfl rfl; (go_simp; with_reducible rfl); (simp only [Act.put, List.setIfInBounds_toArray, List.set_cons_zero, List.set_cons_succ, i64_w, i32_w, u8_wr, tmod_nat, Int.reduceToNat, e4, e16, e15, e15a, cA, d43, d2, hb, hz]; rfl)) <;>
            (apply lpure rfl rfl; (go_simp; with_reducible rfl); (simp only [Act.put, List.setIfInBounds_toArray, List.set_cons_zero, List.set_cons_succ, i64_w, i32_w, u8_wr, tmod_nat, Int.reduceToNat, e4, e16, e15, e15a, cA, d43, d2, hb, hz]; rfl)) <;>
            (apply lpure rfl rfl; (go_simp; with_reducible rfl); (simp only [Act.put, List.setIfInBounds_toArray, List.set_cons_zero, List.set_cons_succ, i64_w, i32_w, u8_wr, tmod_nat, Int.reduceToNat, e4, e16, e15, e15a, cA, d43, d2, hb, hz]; rfl)) <;>
            (apply lpure rfl rfl; (go_simp; with_reducible rfl); (simp only [Act.put, List.setIfInBounds_toArray, List.set_cons_zero, List.set_cons_succ, i64_w, i32_w, u8_wr, tmod_nat, Int.reduceToNat, e4, e16, e15, e15a, cA, d43, d2, hb, hz]; rfl)) <;>
            (apply lpure rfl rfl; (go_simp; with_reducible rfl); (simp only [Act.put, List.setIfInBounds_toArray, List.set_cons_zero, List.set_cons_succ, i64_w, i32_w, u8_wr, tmod_nat, Int.reduceToNat, e4, e16, e15, e15a, cA, d43, d2, hb, hz]; rfl)) <;>
            (apply lend)
        | ((with_reducible refine gate_region (id := 10) ?_); apply plain_region) <;>
            (apply HF.lrow rfl rfl rfl R23_ rfl; (repeat (first | exact At.head | apply At.tail)); (simp only [List.drop_succ_cons, List.drop_zero, List.take_succ_cons, List.take_zero]; rfl); rfl; (simp only [Act.put, List.setIfInBounds_toArray, List.set_cons_zero, List.set_cons_succ, i64_w, i32_w, u8_wr, tmod_nat, Int.reduceToNat, e4, e16, e15, e15a, cA, d43, d2, hb, hz]; rfl)) <;>
            (apply lpure rfl rfl; (go_simp; with_reducible rfl); (simp only [Act.put, List.setIfInBounds_toArray, List.set_cons_zero, List.set_cons_succ, i64_w, i32_w, u8_wr, tmod_nat, Int.reduceToNat, e4, e16, e15, e15a, cA, d43, d2, hb, hz]; rfl)) <;>
            (apply lpure rfl rfl; (go_simp; with_reducible rfl); (simp only [Act.put, List.setIfInBounds_toArray, List.set_cons_zero, List.set_cons_succ, i64_w, i32_w, u8_wr, tmod_nat, Int.reduceToNat, e4, e16, e15, e15a, cA, d43, d2, hb, hz]; rfl)) <;>
            ((with_reducible apply Fr.lalloc HF rfl rfl rfl); (go_simp; rfl); decide; clear HF; intro g_ w_ HF; (refine lnorm (a' := ?_) ?_ ?_; rotate_left; (simp only [Act.put, List.setIfInBounds_toArray, List.set_cons_zero, List.set_cons_succ, i64_w, i32_w, u8_wr, tmod_nat, Int.reduceToNat, e4, e16, e15, e15a, cA, d43, d2, hb, hz]; rfl))) <;>
            ((with_reducible apply Fr.lstoreRow HF rfl rfl rfl); assumption; rfl; (go_simp; rfl); rfl; rfl; (repeat (first | apply At.head | apply At.tail)); (simp only [List.drop_succ_cons, List.drop_zero, List.drop_nil, List.take_succ_cons, List.take_zero, List.cons_append, List.nil_append, List.append_nil]; rfl); simp; clear HF; intro w_ HF) <;>
            (apply lend)
        | ((with_reducible refine gate_region (id := 11) ?_); apply plain_region) <;>
            (apply lpure rfl rfl; (go_simp; with_reducible rfl); (simp only [Act.put, List.setIfInBounds_toArray, List.set_cons_zero, List.set_cons_succ, i64_w, i32_w, u8_wr, tmod_nat, Int.reduceToNat, e4, e16, e15, e15a, cA, d43, d2, hb, hz]; rfl)) <;>
            (apply lpure rfl rfl; (go_simp; with_reducible rfl); (simp only [Act.put, List.setIfInBounds_toArray, List.set_cons_zero, List.set_cons_succ, i64_w, i32_w, u8_wr, tmod_nat, Int.reduceToNat, e4, e16, e15, e15a, cA, d43, d2, hb, hz]; rfl)) <;>
            (apply lpure rfl rfl; (go_simp; with_reducible rfl); (simp only [Act.put, List.setIfInBounds_toArray, List.set_cons_zero, List.set_cons_succ, i64_w, i32_w, u8_wr, tmod_nat, Int.reduceToNat, e4, e16, e15, e15a, cA, d43, d2, hb, hz]; rfl)) <;>
            (first | (apply lpure rfl rfl; (go_simp; with_reducible rfl); (simp only [Act.put, List.setIfInBounds_toArray, List.set_cons_zero, List.set_cons_succ, i64_w, i32_w, u8_wr, tmod_nat, Int.reduceToNat, e4, e16, e15, e15a, cA, d43, d2, hb, hz]; rfl)) | (apply loff rfl rfl; (simp only [Act.put, List.setIfInBounds_toArray, List.set_cons_zero, List.set_cons_succ, i64_w, i32_w, u8_wr, tmod_nat, Int.reduceToNat, e4, e16, e15, e15a, cA, d43, d2, hb, hz]; rfl))) <;>
            (first | (apply lpure rfl rfl; (go_simp; with_reducible rfl); (simp only [Act.put, List.setIfInBounds_toArray, List.set_cons_zero, List.set_cons_succ, i64_w, i32_w, u8_wr, tmod_nat, Int.reduceToNat, e4, e16, e15, e15a, cA, d43, d2, hb, hz]; rfl)) | (apply loff rfl rfl; (simp only [Act.put, List.setIfInBounds_toArray, List.set_cons_zero, List.set_cons_succ, i64_w, i32_w, u8_wr, tmod_nat, Int.reduceToNat, e4, e16, e15, e15a, cA, d43, d2, hb, hz]; rfl))) <;>
            (apply lpure rfl rfl; (go_simp; with_reducible rfl); (simp only [Act.put, List.setIfInBounds_toArray, List.set_cons_zero, List.set_cons_succ, i64_w, i32_w, u8_wr, tmod_nat, Int.reduceToNat, e4, e16, e15, e15a, cA, d43, d2, hb, hz]; rfl)) <;>
            (apply lpure rfl rfl; (go_simp; with_reducible rfl); (simp only [Act.put, List.setIfInBounds_toArray, List.set_cons_zero, List.set_cons_succ, i64_w, i32_w, u8_wr, tmod_nat, Int.reduceToNat, e4, e16, e15, e15a, cA, d43, d2, hb, hz]; rfl)) <;>
            (first | (apply HF.lrow rfl rfl rfl R25_ rfl; (repeat (first | exact At.head | apply At.tail)); (simp only [List.drop_succ_cons, List.drop_zero, List.take_succ_cons, List.take_zero]; rfl); rfl; (simp only [Act.put, List.setIfInBounds_toArray, List.set_cons_zero, List.set_cons_succ, i64_w, i32_w, u8_wr, tmod_nat, Int.reduceToNat, e4, e16, e15, e15a, cA, d43, d2, hb, hz]; rfl)) | (apply loff rfl rfl; (simp only [Act.put, List.setIfInBounds_toArray, List.set_cons_zero, List.set_cons_succ, i64_w, i32_w, u8_wr, tmod_nat, Int.reduceToNat, e4, e16, e15, e15a, cA, d43, d2, hb, hz]; rfl))) <;>
            (first | (apply lcall rfl rfl rfl Tryz.func10 (by kernel_rfl) rfl; (with_reducible apply Calls.mono); exact spec_PrefixOk.calls 2000 a0 a1 a2 a3 a4 n _ _ HP.out; rintro e w_ ⟨rfl, hb_⟩; refine ⟨_, rfl, ?_⟩; replace HF := HF.call hb_; clear hb_; rotate_left; (first | rfl | (simp only [List.map_toArray, List.map_cons, List.map_nil]; first | done | rfl)); (refine lnorm (a' := ?_) ?_ ?_; rotate_left; (simp only [Act.put, List.setIfInBounds_toArray, List.set_cons_zero, List.set_cons_succ, i64_w, i32_w, u8_wr, tmod_nat, Int.reduceToNat, e4, e16, e15, e15a, cA, d43, d2, hb, hz]; rfl))) | (apply loff rfl rfl; (simp only [Act.put, List.setIfInBounds_toArray, List.set_cons_zero, List.set_cons_succ, i64_w, i32_w, u8_wr, tmod_nat, Int.reduceToNat, e4, e16, e15, e15a, cA, d43, d2, hb, hz]; rfl))) <;>
            (first | (apply lpure rfl rfl; (go_simp; with_reducible rfl); (simp only [Act.put, List.setIfInBounds_toArray, List.set_cons_zero, List.set_cons_succ, i64_w, i32_w, u8_wr, tmod_nat, Int.reduceToNat, e4, e16, e15, e15a, cA, d43, d2, hb, hz]; rfl)) | (apply loff rfl rfl; (simp only [Act.put, List.setIfInBounds_toArray, List.set_cons_zero, List.set_cons_succ, i64_w, i32_w, u8_wr, tmod_nat, Int.reduceToNat, e4, e16, e15, e15a, cA, d43, d2, hb, hz]; rfl))) <;>
            (apply lpure rfl rfl; (go_simp; with_reducible rfl); (simp only [Act.put, List.setIfInBounds_toArray, List.set_cons_zero, List.set_cons_succ, i64_w, i32_w, u8_wr, tmod_nat, Int.reduceToNat, e4, e16, e15, e15a, cA, d43, d2, hb, hz]; rfl)) <;>
            (apply lend)
        | ((with_reducible refine gate_region (id := 12) ?_); apply plain_region) <;>
            (apply lpure rfl rfl; (go_simp; with_reducible rfl); (simp only [Act.put, List.setIfInBounds_toArray, List.set_cons_zero, List.set_cons_succ, i64_w, i32_w, u8_wr, tmod_nat, Int.reduceToNat, e4, e16, e15, e15a, cA, d43, d2, hb, hz]; rfl)) <;>
            ((with_reducible apply Fr.lstoreRow HF rfl rfl rfl); assumption; rfl; (go_simp; rfl); rfl; rfl; (repeat (first | apply At.head | apply At.tail)); (simp only [List.drop_succ_cons, List.drop_zero, List.drop_nil, List.take_succ_cons, List.take_zero, List.cons_append, List.nil_append, List.append_nil]; rfl); simp; clear HF; intro w_ HF) <;>
            (apply lpure rfl rfl; (go_simp; with_reducible rfl); (simp only [Act.put, List.setIfInBounds_toArray, List.set_cons_zero, List.set_cons_succ, i64_w, i32_w, u8_wr, tmod_nat, Int.reduceToNat, e4, e16, e15, e15a, cA, d43, d2, hb, hz]; rfl)) <;>
            (apply lend)
        | ((with_reducible refine gate_region (id := 13) ?_); apply plain_region) <;>
            (apply HF.lrow rfl rfl rfl R25_ rfl; (repeat (first | exact At.head | apply At.tail)); (simp only [List.drop_succ_cons, List.drop_zero, List.take_succ_cons, List.take_zero]; rfl); rfl; (simp only [Act.put, List.setIfInBounds_toArray, List.set_cons_zero, List.set_cons_succ, i64_w, i32_w, u8_wr, tmod_nat, Int.reduceToNat, e4, e16, e15, e15a, cA, d43, d2, hb, hz]; rfl)) <;>
            ((with_reducible apply Fr.lstoreRow HF rfl rfl rfl); assumption; rfl; (go_simp; rfl); rfl; rfl; (repeat (first | apply At.head | apply At.tail)); (simp only [List.drop_succ_cons, List.drop_zero, List.drop_nil, List.take_succ_cons, List.take_zero, List.cons_append, List.nil_append, List.append_nil]; rfl); simp; clear HF; intro w_ HF) <;>
            (apply lpure rfl rfl; (go_simp; with_reducible rfl); (simp only [Act.put, List.setIfInBounds_toArray, List.set_cons_zero, List.set_cons_succ, i64_w, i32_w, u8_wr, tmod_nat, Int.reduceToNat, e4, e16, e15, e15a, cA, d43, d2, hb, hz]; rfl)) <;>
            (apply lend)
        | go_step | fail))
    all_goals (refine bodyPost_ret (results_ct rfl _ _ _ 25 _ (0, 0) _ rfl (HF.get (by repeat (first | exact At.head | apply At.tail))) Tryz.underlying25 rfl (by kernel_rfl)) rfl ?_; exact ⟨by rw [HFIN.out]; rfl, HF.below⟩)
  · have d2 : ((G.length : Int) != 2) = true := bne_iff_ne.mpr c2
    have HFIN := Aside0.mk (hfin.trans (show _ = Z6 by
      match G, c2 with
      | [], _ => rfl
      | [_], _ => rfl
      | [x, y], h => exact absurd rfl h
      | _ :: _ :: _ :: _, _ => rfl))
    clear hfin c2
    go_enter Tryz.func4, Tryz.ntmps4
    all_goals (repeat' (first
        | ((with_reducible refine gate_region (id := 0) ?_); apply plain_region) <;>
            ((with_reducible apply Fr.lalloc HF rfl rfl rfl); (go_simp; rfl); decide; clear HF; intro g_ w_ HF; (refine lnorm (a' := ?_) ?_ ?_; rotate_left; (simp only [Act.put, List.setIfInBounds_toArray, List.set_cons_zero, List.set_cons_succ, i64_w, i32_w, u8_wr, tmod_nat, Int.reduceToNat, e4, e16, e15, e15a, cA, d43, d2]; rfl))) <;>
            (apply lpure rfl rfl; (go_simp; with_reducible rfl); (simp only [Act.put, List.setIfInBounds_toArray, List.set_cons_zero, List.set_cons_succ, i64_w, i32_w, u8_wr, tmod_nat, Int.reduceToNat, e4, e16, e15, e15a, cA, d43, d2]; rfl)) <;>
            (apply lend)
        | ((with_reducible refine gate_region (id := 1) ?_); apply plain_region) <;>
            (apply lpure rfl rfl; (go_simp; with_reducible rfl); (simp only [Act.put, List.setIfInBounds_toArray, List.set_cons_zero, List.set_cons_succ, i64_w, i32_w, u8_wr, tmod_nat, Int.reduceToNat, e4, e16, e15, e15a, cA, d43, d2]; rfl)) <;>
            (apply lpure rfl rfl; (go_simp; with_reducible rfl); (simp only [Act.put, List.setIfInBounds_toArray, List.set_cons_zero, List.set_cons_succ, i64_w, i32_w, u8_wr, tmod_nat, Int.reduceToNat, e4, e16, e15, e15a, cA, d43, d2]; rfl)) <;>
            (apply lend)
        | ((with_reducible refine gate_region (id := 3) ?_); apply plain_region) <;>
            (apply lpure rfl rfl; (go_simp; with_reducible rfl); (simp only [Act.put, List.setIfInBounds_toArray, List.set_cons_zero, List.set_cons_succ, i64_w, i32_w, u8_wr, tmod_nat, Int.reduceToNat, e4, e16, e15, e15a, cA, d43, d2]; rfl)) <;>
            (apply lpure rfl rfl; (go_simp; with_reducible rfl); (simp only [Act.put, List.setIfInBounds_toArray, List.set_cons_zero, List.set_cons_succ, i64_w, i32_w, u8_wr, tmod_nat, Int.reduceToNat, e4, e16, e15, e15a, cA, d43, d2]; rfl)) <;>
            (apply lpure rfl rfl; (go_simp; with_reducible rfl); (simp only [Act.put, List.setIfInBounds_toArray, List.set_cons_zero, List.set_cons_succ, i64_w, i32_w, u8_wr, tmod_nat, Int.reduceToNat, e4, e16, e15, e15a, cA, d43, d2]; rfl)) <;>
            (apply lend)
        | ((with_reducible refine gate_region (id := 5) ?_); apply plain_region) <;>
            (apply lpure rfl rfl; (go_simp; with_reducible rfl); (simp only [Act.put, List.setIfInBounds_toArray, List.set_cons_zero, List.set_cons_succ, i64_w, i32_w, u8_wr, tmod_nat, Int.reduceToNat, e4, e16, e15, e15a, cA, d43, d2]; rfl)) <;>
            (apply lcall rfl rfl rfl Tryz.func7 (by kernel_rfl) rfl; (with_reducible apply Calls.mono); (with_reducible apply spec_l03Group.calls (h := HGG.out)); rintro e w_ ⟨v0_, rfl, ho_, hb_⟩; obtain ⟨AG, cG, rfl⟩ := Kd.R_slice ho_; have HOG := HF.row2 ho_; clear ho_; refine ⟨_, rfl, ?_⟩; replace HF := (HF.call hb_).mark; clear hb_; rotate_left; (first | rfl | (simp only [List.map_toArray, List.map_cons, List.map_nil]; first | done | rfl)); (refine lnorm (a' := ?_) ?_ ?_; rotate_left; (simp only [Act.put, List.setIfInBounds_toArray, List.set_cons_zero, List.set_cons_succ, i64_w, i32_w, u8_wr, tmod_nat, Int.reduceToNat, e4, e16, e15, e15a, cA, d43, d2]; rfl))) <;>
            (apply lpure rfl rfl; (go_simp; with_reducible rfl); (simp only [Act.put, List.setIfInBounds_toArray, List.set_cons_zero, List.set_cons_succ, i64_w, i32_w, u8_wr, tmod_nat, Int.reduceToNat, e4, e16, e15, e15a, cA, d43, d2]; rfl)) <;>
            (apply lend)
        | ((with_reducible refine gate_region (id := 6) ?_); apply plain_region) <;>
            (apply lpure rfl rfl; (go_simp; with_reducible rfl); (simp only [Act.put, List.setIfInBounds_toArray, List.set_cons_zero, List.set_cons_succ, i64_w, i32_w, u8_wr, tmod_nat, Int.reduceToNat, e4, e16, e15, e15a, cA, d43, d2]; rfl)) <;>
            (apply lpure rfl rfl; (go_simp; with_reducible rfl); (simp only [Act.put, List.setIfInBounds_toArray, List.set_cons_zero, List.set_cons_succ, i64_w, i32_w, u8_wr, tmod_nat, Int.reduceToNat, e4, e16, e15, e15a, cA, d43, d2]; rfl)) <;>
            (apply lpure rfl rfl; (go_simp; with_reducible rfl); (simp only [Act.put, List.setIfInBounds_toArray, List.set_cons_zero, List.set_cons_succ, i64_w, i32_w, u8_wr, tmod_nat, Int.reduceToNat, e4, e16, e15, e15a, cA, d43, d2]; rfl)) <;>
            (apply lend)
        | ((with_reducible refine gate_region (id := 7) ?_); apply plain_region) <;>
            (apply lpure rfl rfl; (go_simp; with_reducible rfl); (simp only [Act.put, List.setIfInBounds_toArray, List.set_cons_zero, List.set_cons_succ, i64_w, i32_w, u8_wr, tmod_nat, Int.reduceToNat, e4, e16, e15, e15a, cA, d43, d2]; rfl)) <;>
            ((with_reducible apply Fr.lstoreRow HF rfl rfl rfl); assumption; rfl; (go_simp; rfl); rfl; rfl; (repeat (first | apply At.head | apply At.tail)); (simp only [List.drop_succ_cons, List.drop_zero, List.drop_nil, List.take_succ_cons, List.take_zero, List.cons_append, List.nil_append, List.append_nil]; rfl); simp; clear HF; intro w_ HF) <;>
            (apply lpure rfl rfl; (go_simp; with_reducible rfl); (simp only [Act.put, List.setIfInBounds_toArray, List.set_cons_zero, List.set_cons_succ, i64_w, i32_w, u8_wr, tmod_nat, Int.reduceToNat, e4, e16, e15, e15a, cA, d43, d2]; rfl)) <;>
            (apply lend)
        | go_step | fail))
    all_goals (refine bodyPost_ret (results_ct rfl _ _ _ 25 _ (0, 0) _ rfl (HF.get (by repeat (first | exact At.head | apply At.tail))) Tryz.underlying25 rfl (by kernel_rfl)) rfl ?_; exact ⟨by rw [HFIN.out]; rfl, HF.below⟩)

theorem eqP (a b c d e f : Int) : laws_eqPrefix.f a b c d e f a b c d e f = some true := by
  unfold laws_eqPrefix.f laws_eqAddr.f
  simp
set_option maxHeartbeats 8000000 in
set_option maxRecDepth 100000 in
theorem law (s : ByteArray) (w : World) (hE : Errs w) (hM : MaxLen w) (htab : Lib.TabIs Tryz.prog w "internal/strconv.uint64pow10" .u64 Lib.pow10Tab) (hT : TabAt 7 Lib.deBruijn64tab w) :
    Calls Tryz.prog 3 #[.string s] w fun e w' => e = .returned (.bool true) ∧ Below w.heap.size w w' := by
  have R25_ : IsRow Tryz.prog 25 6 := ⟨⟨_, Tryz.underlying25, rfl⟩, by kernel_rfl⟩
  have HF := Fr.start [25, 25] w
  have HE := Aside0.mk hE
  have HM := Aside0.mk hM
  have HTB := Aside0.mk htab
  have HTT := Aside0.mk hT
  clear hE hM htab hT
  by_cases c : (1048576 : Int) < (s.size : Int)
  · have c1 : decide ((1048576 : Int) < (s.size : Int)) = true := decide_eq_true c
    go_enter Tryz.func3, Tryz.ntmps3
    all_goals (repeat' (first
        | ((with_reducible refine gate_region (id := 0) ?_); apply plain_region) <;>
            (apply lpure rfl rfl; (go_simp; with_reducible rfl); (simp only [Act.put, List.setIfInBounds_toArray, List.set_cons_zero, List.set_cons_succ, i64_w, i32_w, u8_wr, tmod_nat, Int.reduceToNat, e4, e16, e15, e15a, c1]; rfl)) <;>
            (apply lend)
        | ((with_reducible refine gate_region (id := 1) ?_); apply plain_region) <;>
            (apply lpure rfl rfl; (go_simp; with_reducible rfl); (simp only [Act.put, List.setIfInBounds_toArray, List.set_cons_zero, List.set_cons_succ, i64_w, i32_w, u8_wr, tmod_nat, Int.reduceToNat, e4, e16, e15, e15a, c1]; rfl)) <;>
            (apply lpure rfl rfl; (go_simp; with_reducible rfl); (simp only [Act.put, List.setIfInBounds_toArray, List.set_cons_zero, List.set_cons_succ, i64_w, i32_w, u8_wr, tmod_nat, Int.reduceToNat, e4, e16, e15, e15a, c1]; rfl)) <;>
            (apply lpure rfl rfl; (go_simp; with_reducible rfl); (simp only [Act.put, List.setIfInBounds_toArray, List.set_cons_zero, List.set_cons_succ, i64_w, i32_w, u8_wr, tmod_nat, Int.reduceToNat, e4, e16, e15, e15a, c1]; rfl)) <;>
            (apply lend)
        | ((with_reducible refine gate_region (id := 2) ?_); apply plain_region) <;>
            (apply lpure rfl rfl; (go_simp; with_reducible rfl); (simp only [Act.put, List.setIfInBounds_toArray, List.set_cons_zero, List.set_cons_succ, i64_w, i32_w, u8_wr, tmod_nat, Int.reduceToNat, e4, e16, e15, e15a, c1]; rfl)) <;>
            (apply lend)
        | go_step | fail))
    all_goals (go_ret; exact ⟨rfl, HF.below⟩)
  · have c1 : decide ((1048576 : Int) < (s.size : Int)) = false := decide_eq_false c
    have hs : s.size ≤ 1048576 := by omega
    have hI := fun w => implPC s hs w
    rw [sameP s] at hI
    have hS := specPC s
    obtain ⟨⟨r1, r2, r3, r4, r5, r6, r7⟩, hB⟩ : ∃ B, specP s = B := ⟨_, rfl⟩
    rw [hB] at hI hS
    unfold tupP at hI hS
    simp only at hI hS
    clear hB
    go_enter Tryz.func3, Tryz.ntmps3
    all_goals (repeat' (first
        | ((with_reducible refine gate_region (id := 0) ?_); apply plain_region) <;>
            (apply lpure rfl rfl; (go_simp; with_reducible rfl); (simp only [Act.put, List.setIfInBounds_toArray, List.set_cons_zero, List.set_cons_succ, i64_w, i32_w, u8_wr, tmod_nat, Int.reduceToNat, e4, e16, e15, e15a, c1, bne_self_eq_false]; rfl)) <;>
            (apply lend)
        | ((with_reducible refine gate_region (id := 1) ?_); apply plain_region) <;>
            (apply lpure rfl rfl; (go_simp; with_reducible rfl); (simp only [Act.put, List.setIfInBounds_toArray, List.set_cons_zero, List.set_cons_succ, i64_w, i32_w, u8_wr, tmod_nat, Int.reduceToNat, e4, e16, e15, e15a, c1, bne_self_eq_false]; rfl)) <;>
            (apply lpure rfl rfl; (go_simp; with_reducible rfl); (simp only [Act.put, List.setIfInBounds_toArray, List.set_cons_zero, List.set_cons_succ, i64_w, i32_w, u8_wr, tmod_nat, Int.reduceToNat, e4, e16, e15, e15a, c1, bne_self_eq_false]; rfl)) <;>
            (apply lpure rfl rfl; (go_simp; with_reducible rfl); (simp only [Act.put, List.setIfInBounds_toArray, List.set_cons_zero, List.set_cons_succ, i64_w, i32_w, u8_wr, tmod_nat, Int.reduceToNat, e4, e16, e15, e15a, c1, bne_self_eq_false]; rfl)) <;>
            (apply lend)
        | ((with_reducible refine gate_region (id := 3) ?_); apply plain_region) <;>
            (apply lpure rfl rfl; (go_simp; with_reducible rfl); (simp only [Act.put, List.setIfInBounds_toArray, List.set_cons_zero, List.set_cons_succ, i64_w, i32_w, u8_wr, tmod_nat, Int.reduceToNat, e4, e16, e15, e15a, c1, bne_self_eq_false]; rfl)) <;>
            (apply lcall rfl rfl rfl Tryz.func4 (by kernel_rfl) rfl; (with_reducible apply Calls.mono); exact hS _; rintro e w_ ⟨rfl, hb_⟩; refine ⟨_, rfl, ?_⟩; replace HF := HF.call hb_; clear hb_; rotate_left; (first | rfl | (simp only [List.map_toArray, List.map_cons, List.map_nil]; first | done | rfl)); (refine lnorm (a' := ?_) ?_ ?_; rotate_left; (simp only [Act.put, List.setIfInBounds_toArray, List.set_cons_zero, List.set_cons_succ, i64_w, i32_w, u8_wr, tmod_nat, Int.reduceToNat, e4, e16, e15, e15a, c1, bne_self_eq_false]; rfl))) <;>
            (apply lpure rfl rfl; (go_simp; with_reducible rfl); (simp only [Act.put, List.setIfInBounds_toArray, List.set_cons_zero, List.set_cons_succ, i64_w, i32_w, u8_wr, tmod_nat, Int.reduceToNat, e4, e16, e15, e15a, c1, bne_self_eq_false]; rfl)) <;>
            (apply lpure rfl rfl; (go_simp; with_reducible rfl); (simp only [Act.put, List.setIfInBounds_toArray, List.set_cons_zero, List.set_cons_succ, i64_w, i32_w, u8_wr, tmod_nat, Int.reduceToNat, e4, e16, e15, e15a, c1, bne_self_eq_false]; rfl)) <;>
            (apply lpure rfl rfl; (go_simp; with_reducible rfl); (simp only [Act.put, List.setIfInBounds_toArray, List.set_cons_zero, List.set_cons_succ, i64_w, i32_w, u8_wr, tmod_nat, Int.reduceToNat, e4, e16, e15, e15a, c1, bne_self_eq_false]; rfl)) <;>
            ((with_reducible apply Fr.lalloc HF rfl rfl rfl); (go_simp; rfl); decide; clear HF; intro g_ w_ HF; (refine lnorm (a' := ?_) ?_ ?_; rotate_left; (simp only [Act.put, List.setIfInBounds_toArray, List.set_cons_zero, List.set_cons_succ, i64_w, i32_w, u8_wr, tmod_nat, Int.reduceToNat, e4, e16, e15, e15a, c1, bne_self_eq_false]; rfl))) <;>
            ((with_reducible apply Fr.lstoreRow HF rfl rfl rfl); assumption; rfl; (go_simp; rfl); rfl; rfl; (repeat (first | apply At.head | apply At.tail)); (simp only [List.drop_succ_cons, List.drop_zero, List.drop_nil, List.take_succ_cons, List.take_zero, List.cons_append, List.nil_append, List.append_nil]; rfl); simp; clear HF; intro w_ HF) <;>
            (apply lpure rfl rfl; (go_simp; with_reducible rfl); (simp only [Act.put, List.setIfInBounds_toArray, List.set_cons_zero, List.set_cons_succ, i64_w, i32_w, u8_wr, tmod_nat, Int.reduceToNat, e4, e16, e15, e15a, c1, bne_self_eq_false]; rfl)) <;>
            (apply lend)
        | ((with_reducible refine gate_region (id := 4) ?_); apply plain_region) <;>
            (apply lpure rfl rfl; (go_simp; with_reducible rfl); (simp only [Act.put, List.setIfInBounds_toArray, List.set_cons_zero, List.set_cons_succ, i64_w, i32_w, u8_wr, tmod_nat, Int.reduceToNat, e4, e16, e15, e15a, c1, bne_self_eq_false]; rfl)) <;>
            (apply lcall rfl rfl rfl Tryz.func5 (by kernel_rfl) rfl; (with_reducible apply Calls.mono); exact hI _ (HE.out.later HF.below) (HM.out.later HF.below) (Go.Joins.tab_stays gTab HTB.out HF.below (Nat.le_refl _)) (tab_later HTT.out HF.below); rintro e w_ ⟨rfl, hb_⟩; refine ⟨_, rfl, ?_⟩; replace HF := HF.call hb_; clear hb_; rotate_left; (first | rfl | (simp only [List.map_toArray, List.map_cons, List.map_nil]; first | done | rfl)); (refine lnorm (a' := ?_) ?_ ?_; rotate_left; (simp only [Act.put, List.setIfInBounds_toArray, List.set_cons_zero, List.set_cons_succ, i64_w, i32_w, u8_wr, tmod_nat, Int.reduceToNat, e4, e16, e15, e15a, c1, bne_self_eq_false]; rfl))) <;>
            (apply lpure rfl rfl; (go_simp; with_reducible rfl); (simp only [Act.put, List.setIfInBounds_toArray, List.set_cons_zero, List.set_cons_succ, i64_w, i32_w, u8_wr, tmod_nat, Int.reduceToNat, e4, e16, e15, e15a, c1, bne_self_eq_false]; rfl)) <;>
            (apply lpure rfl rfl; (go_simp; with_reducible rfl); (simp only [Act.put, List.setIfInBounds_toArray, List.set_cons_zero, List.set_cons_succ, i64_w, i32_w, u8_wr, tmod_nat, Int.reduceToNat, e4, e16, e15, e15a, c1, bne_self_eq_false]; rfl)) <;>
            (apply lpure rfl rfl; (go_simp; with_reducible rfl); (simp only [Act.put, List.setIfInBounds_toArray, List.set_cons_zero, List.set_cons_succ, i64_w, i32_w, u8_wr, tmod_nat, Int.reduceToNat, e4, e16, e15, e15a, c1, bne_self_eq_false]; rfl)) <;>
            ((with_reducible apply Fr.lalloc HF rfl rfl rfl); (go_simp; rfl); decide; clear HF; intro g_ w_ HF; (refine lnorm (a' := ?_) ?_ ?_; rotate_left; (simp only [Act.put, List.setIfInBounds_toArray, List.set_cons_zero, List.set_cons_succ, i64_w, i32_w, u8_wr, tmod_nat, Int.reduceToNat, e4, e16, e15, e15a, c1, bne_self_eq_false]; rfl))) <;>
            ((with_reducible apply Fr.lstoreRow HF rfl rfl rfl); assumption; rfl; (go_simp; rfl); rfl; rfl; (repeat (first | apply At.head | apply At.tail)); (simp only [List.drop_succ_cons, List.drop_zero, List.drop_nil, List.take_succ_cons, List.take_zero, List.cons_append, List.nil_append, List.append_nil]; rfl); simp; clear HF; intro w_ HF) <;>
            (apply lpure rfl rfl; (go_simp; with_reducible rfl); (simp only [Act.put, List.setIfInBounds_toArray, List.set_cons_zero, List.set_cons_succ, i64_w, i32_w, u8_wr, tmod_nat, Int.reduceToNat, e4, e16, e15, e15a, c1, bne_self_eq_false]; rfl)) <;>
            (apply lend)
        | ((with_reducible refine gate_region (id := 5) ?_); apply plain_region) <;>
            (apply HF.lrow rfl rfl rfl R25_ rfl; (repeat (first | exact At.head | apply At.tail)); (simp only [List.drop_succ_cons, List.drop_zero, List.take_succ_cons, List.take_zero]; rfl); rfl; (simp only [Act.put, List.setIfInBounds_toArray, List.set_cons_zero, List.set_cons_succ, i64_w, i32_w, u8_wr, tmod_nat, Int.reduceToNat, e4, e16, e15, e15a, c1, bne_self_eq_false]; rfl)) <;>
            (apply HF.lrow rfl rfl rfl R25_ rfl; (repeat (first | exact At.head | apply At.tail)); (simp only [List.drop_succ_cons, List.drop_zero, List.take_succ_cons, List.take_zero]; rfl); rfl; (simp only [Act.put, List.setIfInBounds_toArray, List.set_cons_zero, List.set_cons_succ, i64_w, i32_w, u8_wr, tmod_nat, Int.reduceToNat, e4, e16, e15, e15a, c1, bne_self_eq_false]; rfl)) <;>
            (apply lcall rfl rfl rfl Tryz.func6 (by kernel_rfl) rfl; (with_reducible apply Calls.mono); exact laws_eqPrefix.calls r1 r2 r3 r4 r5 r6 r1 r2 r3 r4 r5 r6 true _ (eqP _ _ _ _ _ _); rintro e w_ ⟨rfl, hb_⟩; refine ⟨_, rfl, ?_⟩; replace HF := HF.call hb_; clear hb_; rotate_left; (first | rfl | (simp only [List.map_toArray, List.map_cons, List.map_nil]; first | done | rfl)); (refine lnorm (a' := ?_) ?_ ?_; rotate_left; (simp only [Act.put, List.setIfInBounds_toArray, List.set_cons_zero, List.set_cons_succ, i64_w, i32_w, u8_wr, tmod_nat, Int.reduceToNat, e4, e16, e15, e15a, c1, bne_self_eq_false]; rfl))) <;>
            (apply lpure rfl rfl; (go_simp; with_reducible rfl); (simp only [Act.put, List.setIfInBounds_toArray, List.set_cons_zero, List.set_cons_succ, i64_w, i32_w, u8_wr, tmod_nat, Int.reduceToNat, e4, e16, e15, e15a, c1, bne_self_eq_false]; rfl)) <;>
            (apply lpure rfl rfl; (go_simp; with_reducible rfl); (simp only [Act.put, List.setIfInBounds_toArray, List.set_cons_zero, List.set_cons_succ, i64_w, i32_w, u8_wr, tmod_nat, Int.reduceToNat, e4, e16, e15, e15a, c1, bne_self_eq_false]; rfl)) <;>
            (apply lpure rfl rfl; (go_simp; with_reducible rfl); (simp only [Act.put, List.setIfInBounds_toArray, List.set_cons_zero, List.set_cons_succ, i64_w, i32_w, u8_wr, tmod_nat, Int.reduceToNat, e4, e16, e15, e15a, c1, bne_self_eq_false]; rfl)) <;>
            (apply lpure rfl rfl; (go_simp; with_reducible rfl); (simp only [Act.put, List.setIfInBounds_toArray, List.set_cons_zero, List.set_cons_succ, i64_w, i32_w, u8_wr, tmod_nat, Int.reduceToNat, e4, e16, e15, e15a, c1, bne_self_eq_false]; rfl)) <;>
            (apply lpure rfl rfl; (go_simp; with_reducible rfl); (simp only [Act.put, List.setIfInBounds_toArray, List.set_cons_zero, List.set_cons_succ, i64_w, i32_w, u8_wr, tmod_nat, Int.reduceToNat, e4, e16, e15, e15a, c1, bne_self_eq_false]; rfl)) <;>
            (apply lpure rfl rfl; (go_simp; with_reducible rfl); (simp only [Act.put, List.setIfInBounds_toArray, List.set_cons_zero, List.set_cons_succ, i64_w, i32_w, u8_wr, tmod_nat, Int.reduceToNat, e4, e16, e15, e15a, c1, bne_self_eq_false]; rfl)) <;>
            (apply lend)
        | ((with_reducible refine gate_region (id := 7) ?_); apply plain_region) <;>
            (apply lpure rfl rfl; (go_simp; with_reducible rfl); (simp only [Act.put, List.setIfInBounds_toArray, List.set_cons_zero, List.set_cons_succ, i64_w, i32_w, u8_wr, tmod_nat, Int.reduceToNat, e4, e16, e15, e15a, c1, bne_self_eq_false]; rfl)) <;>
            (apply lend)
        | go_step | fail))
    all_goals (go_ret; exact ⟨rfl, HF.below⟩)
end Go.Proofs.YtljeajecajlaiaaGreatDoor.PRead
