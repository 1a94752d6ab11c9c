/- spec.AddrText: what its two loops add up is the words joined; and the law: both sides answer one string. Conditions: as for impl.AddrText. -/
import Derived.Test.YtljeajecajlaiaaGreatDoorGFnExactPrefixReadx4
import Derived.Test.YtljeajecajlaiaaGreatDoorGFnExactPrefixReadx3
import Derived.Test.YtljeajecajlaiaaGreatDoorGFnExactPrefixReadx5
import Derived.Test.YtljeajecajlaiaaGreatDoorZTextFnExactPrefixRead
import Derived.Laws.Concat
namespace Go.Proofs.YtljeajecajlaiaaGreatDoor.Spec
open Go.RowKit Go.Lib Go.Shelf Go.Proofs.YtljeajecajlaiaaGreatDoorW.PrintWords Go.Proofs.YtljeajecajlaiaaGreatDoorW.PrintLast Go.Proofs.YtljeajecajlaiaaGreatDoorW.PrintMore Go.Proofs.YtljeajecajlaiaaGreatDoor.Frame Go.Proofs.YtljeajecajlaiaaGreatDoor.Base Go.Proofs.YtljeajecajlaiaaGreatDoor.Hex Go.Proofs.YtljeajecajlaiaaGreatDoor.Text Go.Proofs.YtljeajecajlaiaaGreatDoor.FFnExactPrefixRead
set_option linter.unusedVariables false
set_option linter.unusedSimpArgs false
section
variable {P : Program} {a : Act} {W : World} {o : Oper} {t u : Nat} {x y : Operand} {b c : ByteArray}
theorem run_sadd (ho : o.op = .binOp .add t x y u) (hx : a.eval x = .string b) (hy : a.eval y = .string c) (ht : P.underlying t = some .string) (h : b.size + c.size ≤ 9223372036854775807) : (execOp a.eval o).run P W = .ok (.value (.string (b ++ c))) W := by
  have := run_string_add_sum (P := P) W b c h
  unfold execOp
  simp only [ho, hx, hy]
  go_simp
  first | done | simp [this, Result.andThen] | omega
end
/-- The words joined, as a string. -/
def strJ (c : UInt8) (ws : List ByteArray) : ByteArray := ⟨(Lib.join (ws.map (·.data.toList)) [c]).toArray⟩
theorem strJ_snoc (c : UInt8) (ws : List ByteArray) (p : ByteArray) (h : ws ≠ []) : strJ c (ws ++ [p]) = (strJ c ws ++ ⟨#[c]⟩) ++ p := by
  cases ws with
  | nil => exact absurd rfl h
  | cons x r =>
    unfold strJ
    have e : ∀ b : ByteArray, b = ⟨b.data.toList.toArray⟩ := fun b => by simp
    conv => rhs; rw [e p]
    rw [show (⟨#[c]⟩ : ByteArray) = ⟨([c] : List UInt8).toArray⟩ from rfl, ByteArray.mk_append_mk, ByteArray.mk_append_mk]
    congr 2
    simp only [List.cons_append, List.map_cons, List.map_append, List.map_nil, Lib.join_cons, Lib.joinTail, List.flatten_append, List.flatten_cons, List.flatten_nil, List.append_nil, List.append_assoc]
theorem strJ_one (c : UInt8) (p : ByteArray) : strJ c [p] = p := by
  unfold strJ
  simp [Lib.join_one]
theorem nil_app (p : ByteArray) : (⟨#[]⟩ : ByteArray) ++ p = p := ByteArray.ext (by simp [ByteArray.data_append])
theorem strJ_nil (c : UInt8) : strJ c [] = ⟨#[]⟩ := rfl
theorem tail_len (c : UInt8) : ∀ (ws : List ByteArray), (∀ p ∈ ws, p.size ≤ 20) → (Lib.joinTail [c] (ws.map (·.data.toList))).length ≤ 21 * ws.length
  | [], _ => Nat.le_refl _
  | x :: r, h => by
    have h1 := tail_len c r (fun q hq => h q (List.mem_cons_of_mem _ hq))
    have h2 := h x (List.mem_cons_self ..)
    have h3 : x.data.toList.length = x.size := Array.length_toList
    unfold Lib.joinTail at h1 ⊢
    simp only [List.map_cons, List.flatten_cons, List.length_append, List.length_cons, List.length_nil] at h1 ⊢
    omega
theorem strJ_size (c : UInt8) (ws : List ByteArray) (h : ∀ p ∈ ws, p.size ≤ 20) : (strJ c ws).size ≤ 21 * ws.length := by
  cases ws with
  | nil => exact Nat.le_refl _
  | cons x r =>
    have h1 := tail_len c r (fun q hq => h q (List.mem_cons_of_mem _ hq))
    have h2 := h x (List.mem_cons_self ..)
    have h3 : x.data.toList.length = x.size := Array.length_toList
    show ((Lib.join ((x :: r).map (·.data.toList)) [c]).toArray).size ≤ _
    rw [List.size_toArray, List.map_cons, Lib.join_cons, List.length_append, List.length_cons]
    omega
theorem itoaS_size {b : Int} (h0 : 0 ≤ b) (h1 : b ≤ 255) : (itoaS b).size ≤ 20 := by
  have : ∀ n : Fin 256, (itoaS (n.val : Int)).size ≤ 20 := by decide +kernel
  have := this ⟨b.toNat, by omega⟩
  simpa [Int.toNat_of_nonneg h0] using this
theorem hexN_len : ∀ (k : Nat) (u : Int), (hexN k u).length ≤ k
  | 0, _ => Nat.le_refl _
  | k + 1, u => by
    unfold hexN
    split
    · simp
    · rw [List.length_append]
      have := hexN_len k (u / 16)
      simp only [List.length_cons, List.length_nil]
      omega
theorem hexS_size (u : Int) : (hexS u).size ≤ 20 := by
  unfold hexS
  rw [strOfNums_size]
  have := hexN_len 4 u
  omega
/-- What AddrText answers of the bytes r. -/
def textOf (r : List Int) : ByteArray := if r.length = 4 then strJ 46 (r.map itoaS) else if r.length = 16 then strJ 58 (hexW r (r.length / 2)) else ⟨#[]⟩

set_option maxHeartbeats 8000000 in
set_option maxRecDepth 100000 in
theorem specText0 (a0 : Int) (a1 : Int) (a2 : Int) (a3 : Int) (a4 : Int) (r : List Int) (hb : spec_AddrBytes.f a0 a1 a2 a3 a4 = some r) (hr : ∀ b ∈ r, 0 ≤ b ∧ b ≤ 255) (hl : r.length = 0) (w : World) :
    Calls Tryz.prog 19 #[.agg #[.int .i64 a0, .int .i64 a1, .int .i64 a2, .int .i64 a3, .int .i64 a4]] w fun e w' => e = .returned (.string ⟨#[]⟩) ∧ Below w.heap.size w w' := by
  have hu9 := Tryz.underlying9
  have hu25 := Tryz.underlying23
  have hu39 := Tryz.underlying41
  have z5_ : (Tryz.prog.info? 5).map (·.size) = some 1 := by kernel_rfl
  have O5_ : IsOne Tryz.prog 5 := ⟨⟨_, Tryz.underlying5, rfl⟩, by kernel_rfl⟩
  have R25_ : IsRow Tryz.prog 23 5 := ⟨⟨_, Tryz.underlying23, rfl⟩, by kernel_rfl⟩
  have HF := Fr.start [23] w
  have HB := Aside0.mk hb
  have HR := Aside0.mk hr
  have c0 : ((r.length : Int) == 4) = false := beq_eq_false_iff_ne.mpr (by omega)
  have c1 : ((r.length : Int) == 16) = false := beq_eq_false_iff_ne.mpr (by omega)
  clear hb hr hl
  go_enter Tryz.func19, Tryz.ntmps19
  repeat' (first
      | ((with_reducible refine gate_region (id := 0) ?_); apply plain_region) <;>
        (((with_reducible apply Fr.lbox HF rfl rfl rfl); (go_simp; rfl); decide; clear HF; intro g_ w_ HF); (refine lnorm (a' := ?_) ?_ ?_; rotate_left; (simp only [Act.put, List.setIfInBounds_toArray, List.set_cons_zero, List.set_cons_succ, i64_w, i32_w, u8_wr, tmod_nat, Int.reduceToNat, e4, e16, e15, e15a]; rfl))) <;>
        (apply lpure rfl rfl; (go_simp; with_reducible rfl); (simp only [Act.put, List.setIfInBounds_toArray, List.set_cons_zero, List.set_cons_succ, i64_w, i32_w, u8_wr, tmod_nat, Int.reduceToNat, e4, e16, e15, e15a]; rfl)) <;>
        (apply lend)
      | ((with_reducible refine gate_region (id := 1) ?_); apply plain_region) <;>
        (apply HF.lrow rfl rfl rfl R25_ rfl; (repeat (first | exact At.head | apply At.tail)); (simp only [List.drop_succ_cons, List.drop_zero, List.take_succ_cons, List.take_zero]; rfl); rfl; (simp only [Act.put, List.setIfInBounds_toArray, List.set_cons_zero, List.set_cons_succ, i64_w, i32_w, u8_wr, tmod_nat, Int.reduceToNat, e4, e16, e15, e15a]; rfl)) <;>
        (apply lcall rfl rfl rfl Tryz.func38 (by kernel_rfl) rfl; (with_reducible apply Calls.mono); (with_reducible apply spec_AddrBytes.calls (h := HB.out)); rintro e w_ ⟨v0_, rfl, ho_, hb_⟩; obtain ⟨Ad, cd, rfl⟩ := Kd.R_slice ho_; have HOD := HF.row2 ho_; clear ho_; refine ⟨_, rfl, ?_⟩; replace HF := (HF.call hb_).mark; clear hb_; rotate_left; (first | rfl | (simp only [List.map_toArray, List.map_cons, List.map_nil]; first | done | rfl)); (refine lnorm (a' := ?_) ?_ ?_; rotate_left; (simp only [Act.put, List.setIfInBounds_toArray, List.set_cons_zero, List.set_cons_succ, i64_w, i32_w, u8_wr, tmod_nat, Int.reduceToNat, e4, e16, e15, e15a]; rfl))) <;>
        (apply lpure rfl rfl; (go_simp; with_reducible rfl); (simp only [Act.put, List.setIfInBounds_toArray, List.set_cons_zero, List.set_cons_succ, i64_w, i32_w, u8_wr, tmod_nat, Int.reduceToNat, e4, e16, e15, e15a]; rfl)) <;>
        (apply lend)
      | ((with_reducible refine gate_region (id := 2) ?_); apply plain_region) <;>
        (apply lpure rfl rfl; (go_simp; with_reducible rfl); (simp only [Act.put, List.setIfInBounds_toArray, List.set_cons_zero, List.set_cons_succ, i64_w, i32_w, u8_wr, tmod_nat, Int.reduceToNat, e4, e16, e15, e15a]; rfl)) <;>
        (apply lend)
      | ((with_reducible refine gate_region (id := 3) ?_); apply plain_region) <;>
        (apply lpure rfl rfl; (go_simp; with_reducible rfl); (simp only [Act.put, List.setIfInBounds_toArray, List.set_cons_zero, List.set_cons_succ, i64_w, i32_w, u8_wr, tmod_nat, Int.reduceToNat, e4, e16, e15, e15a]; rfl)) <;>
        (apply lpure rfl rfl; (go_simp; with_reducible rfl); (simp only [Act.put, List.setIfInBounds_toArray, List.set_cons_zero, List.set_cons_succ, i64_w, i32_w, u8_wr, tmod_nat, Int.reduceToNat, e4, e16, e15, e15a]; rfl)) <;>
        (apply lpure rfl rfl; (go_simp; with_reducible rfl); (simp only [Act.put, List.setIfInBounds_toArray, List.set_cons_zero, List.set_cons_succ, i64_w, i32_w, u8_wr, tmod_nat, Int.reduceToNat, e4, e16, e15, e15a]; rfl)) <;>
        (apply lend)
      | ((with_reducible refine gate_region (id := 10) ?_); apply plain_region) <;>
        (apply lpure rfl rfl; (go_simp; with_reducible rfl); (simp only [Act.put, List.setIfInBounds_toArray, List.set_cons_zero, List.set_cons_succ, i64_w, i32_w, u8_wr, tmod_nat, Int.reduceToNat, e4, e16, e15, e15a]; rfl)) <;>
        (apply lpure rfl rfl; (go_simp; with_reducible rfl); (simp only [Act.put, List.setIfInBounds_toArray, List.set_cons_zero, List.set_cons_succ, i64_w, i32_w, u8_wr, tmod_nat, Int.reduceToNat, e4, e16, e15, e15a]; rfl)) <;>
        (apply lpure rfl rfl; (go_simp; with_reducible rfl); (simp only [Act.put, List.setIfInBounds_toArray, List.set_cons_zero, List.set_cons_succ, i64_w, i32_w, u8_wr, tmod_nat, Int.reduceToNat, e4, e16, e15, e15a]; rfl)) <;>
        (apply lend)
      | ((with_reducible refine gate_region (id := 17) ?_); apply plain_region) <;>
        (apply lpure rfl rfl; (go_simp; with_reducible rfl); (simp only [Act.put, List.setIfInBounds_toArray, List.set_cons_zero, List.set_cons_succ, i64_w, i32_w, u8_wr, tmod_nat, Int.reduceToNat, e4, e16, e15, e15a]; rfl)) <;>
        (apply lpure rfl rfl; (go_simp; with_reducible rfl); (simp only [Act.put, List.setIfInBounds_toArray, List.set_cons_zero, List.set_cons_succ, i64_w, i32_w, u8_wr, tmod_nat, Int.reduceToNat, e4, e16, e15, e15a]; rfl)) <;>
        (apply lend)
      | go_step | fail)
  all_goals (go_ret; exact ⟨rfl, HF.below⟩)

set_option maxHeartbeats 8000000 in
set_option maxRecDepth 100000 in
theorem specText4 (kn : Nat) (a0 : Int) (a1 : Int) (a2 : Int) (a3 : Int) (a4 : Int) (r : List Int) (hb : spec_AddrBytes.f a0 a1 a2 a3 a4 = some r) (hr : ∀ b ∈ r, 0 ≤ b ∧ b ≤ 255) (hl : r.length = 4) (hnum : ∀ b : Int, 0 ≤ b → b ≤ 255 → spec_NumText.f kn b = some (itoaS b)) (w : World) :
    Calls Tryz.prog 19 #[.agg #[.int .i64 a0, .int .i64 a1, .int .i64 a2, .int .i64 a3, .int .i64 a4]] w fun e w' => e = .returned (.string (strJ 46 (r.map itoaS))) ∧ Below w.heap.size w w' := by
  have hu9 := Tryz.underlying9
  have hu25 := Tryz.underlying23
  have hu39 := Tryz.underlying41
  have z5_ : (Tryz.prog.info? 5).map (·.size) = some 1 := by kernel_rfl
  have O5_ : IsOne Tryz.prog 5 := ⟨⟨_, Tryz.underlying5, rfl⟩, by kernel_rfl⟩
  have R25_ : IsRow Tryz.prog 23 5 := ⟨⟨_, Tryz.underlying23, rfl⟩, by kernel_rfl⟩
  have HF := Fr.start [23] w
  have HB := Aside0.mk hb
  have HR := Aside0.mk hr
  have HN := Aside0.mk hnum
  have HL := Aside0.mk hl
  have c0 : ((r.length : Int) == 4) = true := beq_iff_eq.mpr (by omega)
  have cF : ((r.length : Int) == 16) = false := beq_eq_false_iff_ne.mpr (by omega)
  clear hb hr hl hnum
  go_enter Tryz.func19, Tryz.ntmps19
  repeat' (first
      | ((with_reducible refine gate_region (id := 0) ?_); apply plain_region) <;>
        (((with_reducible apply Fr.lbox HF rfl rfl rfl); (go_simp; rfl); decide; clear HF; intro g_ w_ HF); (refine lnorm (a' := ?_) ?_ ?_; rotate_left; (simp only [Act.put, List.setIfInBounds_toArray, List.set_cons_zero, List.set_cons_succ, i64_w, i32_w, u8_wr, tmod_nat, Int.reduceToNat, e4, e16, e15, e15a]; rfl))) <;>
        (apply lpure rfl rfl; (go_simp; with_reducible rfl); (simp only [Act.put, List.setIfInBounds_toArray, List.set_cons_zero, List.set_cons_succ, i64_w, i32_w, u8_wr, tmod_nat, Int.reduceToNat, e4, e16, e15, e15a]; rfl)) <;>
        (apply lend)
      | ((with_reducible refine gate_region (id := 1) ?_); apply plain_region) <;>
        (apply HF.lrow rfl rfl rfl R25_ rfl; (repeat (first | exact At.head | apply At.tail)); (simp only [List.drop_succ_cons, List.drop_zero, List.take_succ_cons, List.take_zero]; rfl); rfl; (simp only [Act.put, List.setIfInBounds_toArray, List.set_cons_zero, List.set_cons_succ, i64_w, i32_w, u8_wr, tmod_nat, Int.reduceToNat, e4, e16, e15, e15a]; rfl)) <;>
        (apply lcall rfl rfl rfl Tryz.func38 (by kernel_rfl) rfl; (with_reducible apply Calls.mono); (with_reducible apply spec_AddrBytes.calls (h := HB.out)); rintro e w_ ⟨v0_, rfl, ho_, hb_⟩; obtain ⟨Ad, cd, rfl⟩ := Kd.R_slice ho_; have HOD := HF.row2 ho_; clear ho_; refine ⟨_, rfl, ?_⟩; replace HF := (HF.call hb_).mark; clear hb_; rotate_left; (first | rfl | (simp only [List.map_toArray, List.map_cons, List.map_nil]; first | done | rfl)); (refine lnorm (a' := ?_) ?_ ?_; rotate_left; (simp only [Act.put, List.setIfInBounds_toArray, List.set_cons_zero, List.set_cons_succ, i64_w, i32_w, u8_wr, tmod_nat, Int.reduceToNat, e4, e16, e15, e15a]; rfl))) <;>
        (apply lpure rfl rfl; (go_simp; with_reducible rfl); (simp only [Act.put, List.setIfInBounds_toArray, List.set_cons_zero, List.set_cons_succ, i64_w, i32_w, u8_wr, tmod_nat, Int.reduceToNat, e4, e16, e15, e15a]; rfl)) <;>
        (apply lend)
      | ((with_reducible refine gate_region (id := 2) ?_); apply plain_region) <;>
        (apply lpure rfl rfl; (go_simp; with_reducible rfl); (simp only [Act.put, List.setIfInBounds_toArray, List.set_cons_zero, List.set_cons_succ, i64_w, i32_w, u8_wr, tmod_nat, Int.reduceToNat, e4, e16, e15, e15a]; rfl)) <;>
        (apply lend)
      | ((with_reducible refine gate_region (id := 3) ?_); apply plain_region) <;>
        (apply lpure rfl rfl; (go_simp; with_reducible rfl); (simp only [Act.put, List.setIfInBounds_toArray, List.set_cons_zero, List.set_cons_succ, i64_w, i32_w, u8_wr, tmod_nat, Int.reduceToNat, e4, e16, e15, e15a]; rfl)) <;>
        (apply lpure rfl rfl; (go_simp; with_reducible rfl); (simp only [Act.put, List.setIfInBounds_toArray, List.set_cons_zero, List.set_cons_succ, i64_w, i32_w, u8_wr, tmod_nat, Int.reduceToNat, e4, e16, e15, e15a]; rfl)) <;>
        (apply lpure rfl rfl; (go_simp; with_reducible rfl); (simp only [Act.put, List.setIfInBounds_toArray, List.set_cons_zero, List.set_cons_succ, i64_w, i32_w, u8_wr, tmod_nat, Int.reduceToNat, e4, e16, e15, e15a]; rfl)) <;>
        (apply lend)
      | ((with_reducible refine gate_region (id := 4) ?_); apply plain_region) <;>
        (apply lpure rfl rfl; (go_simp; with_reducible rfl); (simp only [Act.put, List.setIfInBounds_toArray, List.set_cons_zero, List.set_cons_succ, i64_w, i32_w, u8_wr, tmod_nat, Int.reduceToNat, e4, e16, e15, e15a]; rfl)) <;>
        (apply lend)
      | go_step | fail)
  all_goals (obtain ⟨LV_, HF2_, EL_⟩ := Fr_name HF; clear HF; have HF := HF2_; clear HF2_; go_loopg [4, 5] 4 (fun kq_ v4_ vi_ w_ => ∃ (x : Int) (s : ByteArray), v4_ = .string s ∧ vi_ = .int .i64 x ∧ Aside0 (s = strJ 46 ((r.take x.toNat).map itoaS)) ∧ Aside0 (0 ≤ x ∧ x ≤ 4) ∧ Aside0 ((4 - x).toNat ≤ kq_) ∧ Aside0 ((Kd.int .u8).R 5 w_ w.heap.size (fun _ => True) (.slice Ad r.length cd) r) ∧ Fr [23] w w_ LV_ [w_]))
  case atStart => exact ⟨0, _, rfl, rfl, ⟨rfl⟩, ⟨by omega⟩, ⟨by simp⟩, ⟨Kd.R_mono (HF.row_now HOD.out (by simp) (by decide)) (fun _ _ => trivial)⟩, Fr_now HF⟩
  case round =>
    clear HF HOD
    obtain ⟨x, s, rfl, rfl, EW, HX, HK, HOD, HF⟩ := hrel
    have hx0 := HX.out.1
    have hx1 := HX.out.2
    by_cases c : x < 4
    · have c1 : decide (x < 4) = true := decide_eq_true c
      have cl : x < (r.length : Int) := by rw [HL.out]; omega
      have hv := HR.out _ (rd_mem hx0 cl)
      have W1 : wrap64 (rd r x) = rd r x := w64 (by omega) (by omega)
      have W2 : wrap64 (x + 1) = x + 1 := w64 (by omega) (by omega)
      have hz := itoaS_size hv.1 hv.2
      have hs : s.size ≤ 2000 := by
        rw [EW.out]
        have := strJ_size 46 ((r.take x.toNat).map itoaS) (fun p hp => by
          obtain ⟨q, hq, rfl⟩ := List.mem_map.1 hp
          have := HR.out q (List.mem_of_mem_take hq)
          exact itoaS_size this.1 this.2)
        rw [List.length_map, List.length_take, HL.out] at this
        omega
      have hd1 : (⟨#[46]⟩ : ByteArray).size = 1 := rfl
      have hs1 : s.size + (⟨#[46]⟩ : ByteArray).size ≤ 9223372036854775807 := by rw [hd1]; omega
      have HW := Aside0.mk (words_succ r hx0 cl)
      rcases Decidable.em (x > 0) with hp | hp
      · have c2 : decide (x > 0) = true := decide_eq_true hp
        have c2' : decide (0 < x) = true := decide_eq_true hp
        have hs2 : (s ++ (⟨#[46]⟩ : ByteArray)).size + (itoaS (rd r x)).size ≤ 9223372036854775807 := by rw [ByteArray.size_append', hd1]; omega
        repeat' (first
        | ((with_reducible refine gate_region (id := 5) ?_); apply plain_region) <;>
        (apply lpure rfl rfl; (go_simp; with_reducible rfl); (simp only [Act.put, List.setIfInBounds_toArray, List.set_cons_zero, List.set_cons_succ, i64_w, i32_w, u8_wr, tmod_nat, Int.reduceToNat, e4, e16, e15, e15a, W1, W2]; rfl)) <;>
        (apply lpure rfl rfl; (go_simp; with_reducible rfl); (simp only [Act.put, List.setIfInBounds_toArray, List.set_cons_zero, List.set_cons_succ, i64_w, i32_w, u8_wr, tmod_nat, Int.reduceToNat, e4, e16, e15, e15a, W1, W2]; rfl)) <;>
        (apply lend)
        | ((with_reducible refine gate_region (id := 7) ?_); apply plain_region) <;>
        (apply lpure rfl rfl; (go_simp; with_reducible rfl); (simp only [Act.put, List.setIfInBounds_toArray, List.set_cons_zero, List.set_cons_succ, i64_w, i32_w, u8_wr, tmod_nat, Int.reduceToNat, e4, e16, e15, e15a, W1, W2]; rfl)) <;>
        (apply lpure rfl rfl; (go_simp; with_reducible rfl); (simp only [Act.put, List.setIfInBounds_toArray, List.set_cons_zero, List.set_cons_succ, i64_w, i32_w, u8_wr, tmod_nat, Int.reduceToNat, e4, e16, e15, e15a, W1, W2]; rfl)) <;>
        (apply lend)
        | ((with_reducible refine gate_region (id := 9) ?_); apply plain_region) <;>
        (apply lpure rfl rfl; (go_simp; with_reducible rfl); (simp only [Act.put, List.setIfInBounds_toArray, List.set_cons_zero, List.set_cons_succ, i64_w, i32_w, u8_wr, tmod_nat, Int.reduceToNat, e4, e16, e15, e15a, W1, W2]; rfl)) <;>
        (apply lpure rfl rfl; (go_simp; with_reducible rfl); (simp only [Act.put, List.setIfInBounds_toArray, List.set_cons_zero, List.set_cons_succ, i64_w, i32_w, u8_wr, tmod_nat, Int.reduceToNat, e4, e16, e15, e15a, W1, W2]; rfl)) <;>
        (apply lpure rfl rfl; (go_simp; with_reducible rfl); (simp only [Act.put, List.setIfInBounds_toArray, List.set_cons_zero, List.set_cons_succ, i64_w, i32_w, u8_wr, tmod_nat, Int.reduceToNat, e4, e16, e15, e15a, W1, W2]; rfl)) <;>
        (apply lpure rfl rfl; (exact run_idx rfl rfl rfl hu39 z5_ (HF.rowC HOD (by simp) (by decide)).1 hx0 cl); (simp only [Act.put, List.setIfInBounds_toArray, List.set_cons_zero, List.set_cons_succ, i64_w, i32_w, u8_wr, tmod_nat, Int.reduceToNat, e4, e16, e15, e15a, W1, W2]; rfl)) <;>
        (apply lelt rfl rfl; exact run_elt rfl rfl O5_ (HF.rowC HOD (by simp) (by decide)).1 hx0 cl; (simp only [Act.put, List.setIfInBounds_toArray, List.set_cons_zero, List.set_cons_succ, i64_w, i32_w, u8_wr, tmod_nat, Int.reduceToNat, e4, e16, e15, e15a, W1, W2]; rfl)) <;>
        (apply lpure rfl rfl; (go_simp; with_reducible rfl); (simp only [Act.put, List.setIfInBounds_toArray, List.set_cons_zero, List.set_cons_succ, i64_w, i32_w, u8_wr, tmod_nat, Int.reduceToNat, e4, e16, e15, e15a, W1, W2]; rfl)) <;>
        (apply lcall rfl rfl rfl Tryz.func20 (by kernel_rfl) rfl; (with_reducible apply Calls.mono); exact spec_NumText.calls kn (rd r x) _ _ (HN.out _ hv.1 hv.2); rintro e w_ ⟨rfl, hb_⟩; refine ⟨_, rfl, ?_⟩; replace HF := HF.call hb_; clear hb_; rotate_left; (first | rfl | (simp only [List.map_toArray, List.map_cons, List.map_nil]; first | done | rfl)); (refine lnorm (a' := ?_) ?_ ?_; rotate_left; (simp only [Act.put, List.setIfInBounds_toArray, List.set_cons_zero, List.set_cons_succ, i64_w, i32_w, u8_wr, tmod_nat, Int.reduceToNat, e4, e16, e15, e15a, W1, W2]; rfl))) <;>
        (apply lpure rfl rfl; (exact run_sadd rfl rfl rfl hu9 hs2); (simp only [Act.put, List.setIfInBounds_toArray, List.set_cons_zero, List.set_cons_succ, i64_w, i32_w, u8_wr, tmod_nat, Int.reduceToNat, e4, e16, e15, e15a, W1, W2]; rfl)) <;>
        (apply lpure rfl rfl; (go_simp; with_reducible rfl); (simp only [Act.put, List.setIfInBounds_toArray, List.set_cons_zero, List.set_cons_succ, i64_w, i32_w, u8_wr, tmod_nat, Int.reduceToNat, e4, e16, e15, e15a, W1, W2]; rfl)) <;>
        (apply lend)
        | ((with_reducible refine gate_region (id := 6) ?_); apply plain_region) <;>
        (apply lpure rfl rfl; (go_simp; with_reducible rfl); (simp only [Act.put, List.setIfInBounds_toArray, List.set_cons_zero, List.set_cons_succ, i64_w, i32_w, u8_wr, tmod_nat, Int.reduceToNat, e4, e16, e15, e15a, W1, W2]; rfl)) <;>
        (apply lpure rfl rfl; (go_simp; with_reducible rfl); (simp only [Act.put, List.setIfInBounds_toArray, List.set_cons_zero, List.set_cons_succ, i64_w, i32_w, u8_wr, tmod_nat, Int.reduceToNat, e4, e16, e15, e15a, W1, W2]; rfl)) <;>
        (apply lpure rfl rfl; (go_simp; with_reducible rfl); (simp only [Act.put, List.setIfInBounds_toArray, List.set_cons_zero, List.set_cons_succ, i64_w, i32_w, u8_wr, tmod_nat, Int.reduceToNat, e4, e16, e15, e15a, W1, W2]; rfl)) <;>
        (apply lend)
        | ((with_reducible refine gate_region (id := 8) ?_); apply plain_region) <;>
        (apply lpure rfl rfl; (go_simp; with_reducible rfl); (simp only [Act.put, List.setIfInBounds_toArray, List.set_cons_zero, List.set_cons_succ, i64_w, i32_w, u8_wr, tmod_nat, Int.reduceToNat, e4, e16, e15, e15a]; rfl)) <;>
        (apply lpure rfl rfl; (exact run_sadd rfl rfl rfl hu9 hs1); (simp only [Act.put, List.setIfInBounds_toArray, List.set_cons_zero, List.set_cons_succ, i64_w, i32_w, u8_wr, tmod_nat, Int.reduceToNat, e4, e16, e15, e15a]; rfl)) <;>
        (apply lpure rfl rfl; (go_simp; with_reducible rfl); (simp only [Act.put, List.setIfInBounds_toArray, List.set_cons_zero, List.set_cons_succ, i64_w, i32_w, u8_wr, tmod_nat, Int.reduceToNat, e4, e16, e15, e15a]; rfl)) <;>
        (apply lend)
        | go_step | fail)
        go_roundg (4 - (x + 1)).toNat
        case measure =>
          have := HK.out
          omega
        case rel => exact ⟨x + 1, _, rfl, rfl, ⟨by rw [HW.out, strJ_snoc _ _ _ (by intro h0; have := congrArg List.length h0; rw [List.length_map, List.length_take, List.length_nil] at this; omega), EW.out]⟩, ⟨by omega⟩, ⟨Nat.le_refl _⟩, ⟨HF.row_now HOD.out (by simp) (by decide)⟩, Fr_now (HF.part (by rw [EL_.out]; exact List.Sublist.refl _) (fun _ h_ => h_))⟩
      · have c2 : decide (x > 0) = false := decide_eq_false hp
        have c2' : decide (0 < x) = false := decide_eq_false hp
        have hs2 : s.size + (itoaS (rd r x)).size ≤ 9223372036854775807 := by omega
        repeat' (first
        | ((with_reducible refine gate_region (id := 5) ?_); apply plain_region) <;>
        (apply lpure rfl rfl; (go_simp; with_reducible rfl); (simp only [Act.put, List.setIfInBounds_toArray, List.set_cons_zero, List.set_cons_succ, i64_w, i32_w, u8_wr, tmod_nat, Int.reduceToNat, e4, e16, e15, e15a, W1, W2]; rfl)) <;>
        (apply lpure rfl rfl; (go_simp; with_reducible rfl); (simp only [Act.put, List.setIfInBounds_toArray, List.set_cons_zero, List.set_cons_succ, i64_w, i32_w, u8_wr, tmod_nat, Int.reduceToNat, e4, e16, e15, e15a, W1, W2]; rfl)) <;>
        (apply lend)
        | ((with_reducible refine gate_region (id := 7) ?_); apply plain_region) <;>
        (apply lpure rfl rfl; (go_simp; with_reducible rfl); (simp only [Act.put, List.setIfInBounds_toArray, List.set_cons_zero, List.set_cons_succ, i64_w, i32_w, u8_wr, tmod_nat, Int.reduceToNat, e4, e16, e15, e15a, W1, W2]; rfl)) <;>
        (apply lpure rfl rfl; (go_simp; with_reducible rfl); (simp only [Act.put, List.setIfInBounds_toArray, List.set_cons_zero, List.set_cons_succ, i64_w, i32_w, u8_wr, tmod_nat, Int.reduceToNat, e4, e16, e15, e15a, W1, W2]; rfl)) <;>
        (apply lend)
        | ((with_reducible refine gate_region (id := 9) ?_); apply plain_region) <;>
        (apply lpure rfl rfl; (go_simp; with_reducible rfl); (simp only [Act.put, List.setIfInBounds_toArray, List.set_cons_zero, List.set_cons_succ, i64_w, i32_w, u8_wr, tmod_nat, Int.reduceToNat, e4, e16, e15, e15a, W1, W2]; rfl)) <;>
        (apply lpure rfl rfl; (go_simp; with_reducible rfl); (simp only [Act.put, List.setIfInBounds_toArray, List.set_cons_zero, List.set_cons_succ, i64_w, i32_w, u8_wr, tmod_nat, Int.reduceToNat, e4, e16, e15, e15a, W1, W2]; rfl)) <;>
        (apply lpure rfl rfl; (go_simp; with_reducible rfl); (simp only [Act.put, List.setIfInBounds_toArray, List.set_cons_zero, List.set_cons_succ, i64_w, i32_w, u8_wr, tmod_nat, Int.reduceToNat, e4, e16, e15, e15a, W1, W2]; rfl)) <;>
        (apply lpure rfl rfl; (exact run_idx rfl rfl rfl hu39 z5_ (HF.rowC HOD (by simp) (by decide)).1 hx0 cl); (simp only [Act.put, List.setIfInBounds_toArray, List.set_cons_zero, List.set_cons_succ, i64_w, i32_w, u8_wr, tmod_nat, Int.reduceToNat, e4, e16, e15, e15a, W1, W2]; rfl)) <;>
        (apply lelt rfl rfl; exact run_elt rfl rfl O5_ (HF.rowC HOD (by simp) (by decide)).1 hx0 cl; (simp only [Act.put, List.setIfInBounds_toArray, List.set_cons_zero, List.set_cons_succ, i64_w, i32_w, u8_wr, tmod_nat, Int.reduceToNat, e4, e16, e15, e15a, W1, W2]; rfl)) <;>
        (apply lpure rfl rfl; (go_simp; with_reducible rfl); (simp only [Act.put, List.setIfInBounds_toArray, List.set_cons_zero, List.set_cons_succ, i64_w, i32_w, u8_wr, tmod_nat, Int.reduceToNat, e4, e16, e15, e15a, W1, W2]; rfl)) <;>
        (apply lcall rfl rfl rfl Tryz.func20 (by kernel_rfl) rfl; (with_reducible apply Calls.mono); exact spec_NumText.calls kn (rd r x) _ _ (HN.out _ hv.1 hv.2); rintro e w_ ⟨rfl, hb_⟩; refine ⟨_, rfl, ?_⟩; replace HF := HF.call hb_; clear hb_; rotate_left; (first | rfl | (simp only [List.map_toArray, List.map_cons, List.map_nil]; first | done | rfl)); (refine lnorm (a' := ?_) ?_ ?_; rotate_left; (simp only [Act.put, List.setIfInBounds_toArray, List.set_cons_zero, List.set_cons_succ, i64_w, i32_w, u8_wr, tmod_nat, Int.reduceToNat, e4, e16, e15, e15a, W1, W2]; rfl))) <;>
        (apply lpure rfl rfl; (exact run_sadd rfl rfl rfl hu9 hs2); (simp only [Act.put, List.setIfInBounds_toArray, List.set_cons_zero, List.set_cons_succ, i64_w, i32_w, u8_wr, tmod_nat, Int.reduceToNat, e4, e16, e15, e15a, W1, W2]; rfl)) <;>
        (apply lpure rfl rfl; (go_simp; with_reducible rfl); (simp only [Act.put, List.setIfInBounds_toArray, List.set_cons_zero, List.set_cons_succ, i64_w, i32_w, u8_wr, tmod_nat, Int.reduceToNat, e4, e16, e15, e15a, W1, W2]; rfl)) <;>
        (apply lend)
        | ((with_reducible refine gate_region (id := 6) ?_); apply plain_region) <;>
        (apply lpure rfl rfl; (go_simp; with_reducible rfl); (simp only [Act.put, List.setIfInBounds_toArray, List.set_cons_zero, List.set_cons_succ, i64_w, i32_w, u8_wr, tmod_nat, Int.reduceToNat, e4, e16, e15, e15a, W1, W2]; rfl)) <;>
        (apply lpure rfl rfl; (go_simp; with_reducible rfl); (simp only [Act.put, List.setIfInBounds_toArray, List.set_cons_zero, List.set_cons_succ, i64_w, i32_w, u8_wr, tmod_nat, Int.reduceToNat, e4, e16, e15, e15a, W1, W2]; rfl)) <;>
        (apply lpure rfl rfl; (go_simp; with_reducible rfl); (simp only [Act.put, List.setIfInBounds_toArray, List.set_cons_zero, List.set_cons_succ, i64_w, i32_w, u8_wr, tmod_nat, Int.reduceToNat, e4, e16, e15, e15a, W1, W2]; rfl)) <;>
        (apply lend)
        | go_step | fail)
        go_roundg (4 - (x + 1)).toNat
        case measure =>
          have := HK.out
          omega
        case rel => exact ⟨x + 1, _, rfl, rfl, ⟨by rw [HW.out, EW.out, show x.toNat = 0 by omega]; rw [List.take_zero, List.map_nil, List.nil_append, strJ_one, strJ_nil, nil_app]⟩, ⟨by omega⟩, ⟨Nat.le_refl _⟩, ⟨HF.row_now HOD.out (by simp) (by decide)⟩, Fr_now (HF.part (by rw [EL_.out]; exact List.Sublist.refl _) (fun _ h_ => h_))⟩
    · have c1 : decide (x < 4) = false := decide_eq_false c
      obtain rfl : x = 4 := by omega
      replace EW := Aside0.mk (show s = strJ 46 (r.map itoaS) by rw [EW.out, List.take_of_length_le (by rw [HL.out]; decide)])
      repeat' (first
      | ((with_reducible refine gate_region (id := 5) ?_); apply plain_region) <;>
        (apply lpure rfl rfl; (go_simp; with_reducible rfl); (simp only [Act.put, List.setIfInBounds_toArray, List.set_cons_zero, List.set_cons_succ, i64_w, i32_w, u8_wr, tmod_nat, Int.reduceToNat, e4, e16, e15, e15a]; rfl)) <;>
        (apply lpure rfl rfl; (go_simp; with_reducible rfl); (simp only [Act.put, List.setIfInBounds_toArray, List.set_cons_zero, List.set_cons_succ, i64_w, i32_w, u8_wr, tmod_nat, Int.reduceToNat, e4, e16, e15, e15a]; rfl)) <;>
        (apply lend)
      | ((with_reducible refine gate_region (id := 10) ?_); apply plain_region) <;>
        (apply lpure rfl rfl; (go_simp; with_reducible rfl); (simp only [Act.put, List.setIfInBounds_toArray, List.set_cons_zero, List.set_cons_succ, i64_w, i32_w, u8_wr, tmod_nat, Int.reduceToNat, e4, e16, e15, e15a]; rfl)) <;>
        (apply lpure rfl rfl; (go_simp; with_reducible rfl); (simp only [Act.put, List.setIfInBounds_toArray, List.set_cons_zero, List.set_cons_succ, i64_w, i32_w, u8_wr, tmod_nat, Int.reduceToNat, e4, e16, e15, e15a]; rfl)) <;>
        (apply lpure rfl rfl; (go_simp; with_reducible rfl); (simp only [Act.put, List.setIfInBounds_toArray, List.set_cons_zero, List.set_cons_succ, i64_w, i32_w, u8_wr, tmod_nat, Int.reduceToNat, e4, e16, e15, e15a]; rfl)) <;>
        (apply lend)
      | ((with_reducible refine gate_region (id := 17) ?_); apply plain_region) <;>
        (apply lpure rfl rfl; (go_simp; with_reducible rfl); (simp only [Act.put, List.setIfInBounds_toArray, List.set_cons_zero, List.set_cons_succ, i64_w, i32_w, u8_wr, tmod_nat, Int.reduceToNat, e4, e16, e15, e15a]; rfl)) <;>
        (apply lpure rfl rfl; (go_simp; with_reducible rfl); (simp only [Act.put, List.setIfInBounds_toArray, List.set_cons_zero, List.set_cons_succ, i64_w, i32_w, u8_wr, tmod_nat, Int.reduceToNat, e4, e16, e15, e15a]; rfl)) <;>
        (apply lend)
      | go_step | fail)
      go_ret
      exact ⟨by rw [← EW.out]; rfl, HF.below⟩

set_option maxHeartbeats 8000000 in
set_option maxRecDepth 100000 in
theorem specText6 (kx : Nat) (a0 : Int) (a1 : Int) (a2 : Int) (a3 : Int) (a4 : Int) (r : List Int) (hb : spec_AddrBytes.f a0 a1 a2 a3 a4 = some r) (hr : ∀ b ∈ r, 0 ≤ b ∧ b ≤ 255) (hl : r.length = 16) (hhex : ∀ v : Int, 0 ≤ v → v ≤ 65535 → spec_l03Hex.f kx v = some (hexS v)) (w : World) :
    Calls Tryz.prog 19 #[.agg #[.int .i64 a0, .int .i64 a1, .int .i64 a2, .int .i64 a3, .int .i64 a4]] w fun e w' => e = .returned (.string (strJ 58 (hexW r 8))) ∧ Below w.heap.size w w' := by
  have hu9 := Tryz.underlying9
  have hu25 := Tryz.underlying23
  have hu39 := Tryz.underlying41
  have z5_ : (Tryz.prog.info? 5).map (·.size) = some 1 := by kernel_rfl
  have O5_ : IsOne Tryz.prog 5 := ⟨⟨_, Tryz.underlying5, rfl⟩, by kernel_rfl⟩
  have R25_ : IsRow Tryz.prog 23 5 := ⟨⟨_, Tryz.underlying23, rfl⟩, by kernel_rfl⟩
  have HF := Fr.start [23] w
  have HB := Aside0.mk hb
  have HR := Aside0.mk hr
  have HN := Aside0.mk hhex
  have HL := Aside0.mk hl
  have c0 : ((r.length : Int) == 4) = false := beq_eq_false_iff_ne.mpr (by omega)
  have cF : ((r.length : Int) == 16) = true := beq_iff_eq.mpr (by omega)
  clear hb hr hl hhex
  go_enter Tryz.func19, Tryz.ntmps19
  repeat' (first
      | ((with_reducible refine gate_region (id := 0) ?_); apply plain_region) <;>
        (((with_reducible apply Fr.lbox HF rfl rfl rfl); (go_simp; rfl); decide; clear HF; intro g_ w_ HF); (refine lnorm (a' := ?_) ?_ ?_; rotate_left; (simp only [Act.put, List.setIfInBounds_toArray, List.set_cons_zero, List.set_cons_succ, i64_w, i32_w, u8_wr, tmod_nat, Int.reduceToNat, e4, e16, e15, e15a]; rfl))) <;>
        (apply lpure rfl rfl; (go_simp; with_reducible rfl); (simp only [Act.put, List.setIfInBounds_toArray, List.set_cons_zero, List.set_cons_succ, i64_w, i32_w, u8_wr, tmod_nat, Int.reduceToNat, e4, e16, e15, e15a]; rfl)) <;>
        (apply lend)
      | ((with_reducible refine gate_region (id := 1) ?_); apply plain_region) <;>
        (apply HF.lrow rfl rfl rfl R25_ rfl; (repeat (first | exact At.head | apply At.tail)); (simp only [List.drop_succ_cons, List.drop_zero, List.take_succ_cons, List.take_zero]; rfl); rfl; (simp only [Act.put, List.setIfInBounds_toArray, List.set_cons_zero, List.set_cons_succ, i64_w, i32_w, u8_wr, tmod_nat, Int.reduceToNat, e4, e16, e15, e15a]; rfl)) <;>
        (apply lcall rfl rfl rfl Tryz.func38 (by kernel_rfl) rfl; (with_reducible apply Calls.mono); (with_reducible apply spec_AddrBytes.calls (h := HB.out)); rintro e w_ ⟨v0_, rfl, ho_, hb_⟩; obtain ⟨Ad, cd, rfl⟩ := Kd.R_slice ho_; have HOD := HF.row2 ho_; clear ho_; refine ⟨_, rfl, ?_⟩; replace HF := (HF.call hb_).mark; clear hb_; rotate_left; (first | rfl | (simp only [List.map_toArray, List.map_cons, List.map_nil]; first | done | rfl)); (refine lnorm (a' := ?_) ?_ ?_; rotate_left; (simp only [Act.put, List.setIfInBounds_toArray, List.set_cons_zero, List.set_cons_succ, i64_w, i32_w, u8_wr, tmod_nat, Int.reduceToNat, e4, e16, e15, e15a]; rfl))) <;>
        (apply lpure rfl rfl; (go_simp; with_reducible rfl); (simp only [Act.put, List.setIfInBounds_toArray, List.set_cons_zero, List.set_cons_succ, i64_w, i32_w, u8_wr, tmod_nat, Int.reduceToNat, e4, e16, e15, e15a]; rfl)) <;>
        (apply lend)
      | ((with_reducible refine gate_region (id := 2) ?_); apply plain_region) <;>
        (apply lpure rfl rfl; (go_simp; with_reducible rfl); (simp only [Act.put, List.setIfInBounds_toArray, List.set_cons_zero, List.set_cons_succ, i64_w, i32_w, u8_wr, tmod_nat, Int.reduceToNat, e4, e16, e15, e15a]; rfl)) <;>
        (apply lend)
      | ((with_reducible refine gate_region (id := 3) ?_); apply plain_region) <;>
        (apply lpure rfl rfl; (go_simp; with_reducible rfl); (simp only [Act.put, List.setIfInBounds_toArray, List.set_cons_zero, List.set_cons_succ, i64_w, i32_w, u8_wr, tmod_nat, Int.reduceToNat, e4, e16, e15, e15a]; rfl)) <;>
        (apply lpure rfl rfl; (go_simp; with_reducible rfl); (simp only [Act.put, List.setIfInBounds_toArray, List.set_cons_zero, List.set_cons_succ, i64_w, i32_w, u8_wr, tmod_nat, Int.reduceToNat, e4, e16, e15, e15a]; rfl)) <;>
        (apply lpure rfl rfl; (go_simp; with_reducible rfl); (simp only [Act.put, List.setIfInBounds_toArray, List.set_cons_zero, List.set_cons_succ, i64_w, i32_w, u8_wr, tmod_nat, Int.reduceToNat, e4, e16, e15, e15a]; rfl)) <;>
        (apply lend)
      | ((with_reducible refine gate_region (id := 10) ?_); apply plain_region) <;>
        (apply lpure rfl rfl; (go_simp; with_reducible rfl); (simp only [Act.put, List.setIfInBounds_toArray, List.set_cons_zero, List.set_cons_succ, i64_w, i32_w, u8_wr, tmod_nat, Int.reduceToNat, e4, e16, e15, e15a]; rfl)) <;>
        (apply lpure rfl rfl; (go_simp; with_reducible rfl); (simp only [Act.put, List.setIfInBounds_toArray, List.set_cons_zero, List.set_cons_succ, i64_w, i32_w, u8_wr, tmod_nat, Int.reduceToNat, e4, e16, e15, e15a]; rfl)) <;>
        (apply lpure rfl rfl; (go_simp; with_reducible rfl); (simp only [Act.put, List.setIfInBounds_toArray, List.set_cons_zero, List.set_cons_succ, i64_w, i32_w, u8_wr, tmod_nat, Int.reduceToNat, e4, e16, e15, e15a]; rfl)) <;>
        (apply lend)
      | ((with_reducible refine gate_region (id := 11) ?_); apply plain_region) <;>
        (apply lpure rfl rfl; (go_simp; with_reducible rfl); (simp only [Act.put, List.setIfInBounds_toArray, List.set_cons_zero, List.set_cons_succ, i64_w, i32_w, u8_wr, tmod_nat, Int.reduceToNat, e4, e16, e15, e15a]; rfl)) <;>
        (apply lend)
      | go_step | fail)
  all_goals (obtain ⟨LV_, HF2_, EL_⟩ := Fr_name HF; clear HF; have HF := HF2_; clear HF2_; go_loopg [4, 6] 8 (fun kq_ v4_ vi_ w_ => ∃ (x : Int) (s : ByteArray), v4_ = .string s ∧ vi_ = .int .i64 x ∧ Aside0 (s = strJ 58 (hexW r x.toNat)) ∧ Aside0 (0 ≤ x ∧ x ≤ 8) ∧ Aside0 ((8 - x).toNat ≤ kq_) ∧ Aside0 ((Kd.int .u8).R 5 w_ w.heap.size (fun _ => True) (.slice Ad r.length cd) r) ∧ Fr [23] w w_ LV_ [w_]))
  case atStart => exact ⟨0, _, rfl, rfl, ⟨rfl⟩, ⟨by omega⟩, ⟨by simp⟩, ⟨Kd.R_mono (HF.row_now HOD.out (by simp) (by decide)) (fun _ _ => trivial)⟩, Fr_now HF⟩
  case round =>
    clear HF HOD
    obtain ⟨x, s, rfl, rfl, EW, HX, HK, HOD, HF⟩ := hrel
    have hx0 := HX.out.1
    have hx1 := HX.out.2
    by_cases c : x < 8
    · have c1 : decide (x < 8) = true := decide_eq_true c
      have cl : 2 * x < (r.length : Int) := by rw [HL.out]; omega
      have cl1 : 2 * x + 1 < (r.length : Int) := by rw [HL.out]; omega
      have hv := HR.out _ (rd_mem (by omega) cl)
      have hv1 := HR.out _ (rd_mem (by omega) cl1)
      have p0 : 0 ≤ 2 * x := by omega
      have p1 : 0 ≤ 2 * x + 1 := by omega
      have W1 : wrap64 (2 * x) = 2 * x := w64 (by omega) (by omega)
      have W2 : wrap64 (x + 1) = x + 1 := w64 (by omega) (by omega)
      have W3 : wrap64 (2 * x + 1) = 2 * x + 1 := w64 (by omega) (by omega)
      have W4 : wrap64 (rd r (2 * x)) = rd r (2 * x) := w64 (by omega) (by omega)
      have W5 : wrap64 (256 * rd r (2 * x)) = 256 * rd r (2 * x) := w64 (by omega) (by omega)
      have W6 : wrap64 (rd r (2 * x + 1)) = rd r (2 * x + 1) := w64 (by omega) (by omega)
      have hbe : 256 * rd r (2 * x) + rd r (2 * x + 1) = be2 r (2 * x) := by unfold be2; omega
      have W7 : wrap64 (256 * rd r (2 * x) + rd r (2 * x + 1)) = be2 r (2 * x) := by rw [← hbe]; exact w64 (by omega) (by omega)
      have hq := Aside0.mk (show 0 ≤ be2 r (2 * x) ∧ be2 r (2 * x) ≤ 65535 by rw [← hbe]; omega)
      clear hbe
      have hz := hexS_size (be2 r (2 * x))
      have hs : s.size ≤ 2000 := by
        rw [EW.out]
        have := strJ_size 58 (hexW r x.toNat) (fun p hp => by
          unfold hexW at hp
          obtain ⟨q, hq, rfl⟩ := List.mem_map.1 hp
          exact hexS_size _)
        unfold hexW at this ⊢
        rw [List.length_map, List.length_range] at this
        omega
      have hd1 : (⟨#[58]⟩ : ByteArray).size = 1 := rfl
      have hs1 : s.size + (⟨#[58]⟩ : ByteArray).size ≤ 9223372036854775807 := by rw [hd1]; omega
      have HW := Aside0.mk (hexW_succ r x.toNat)
      have e2 : (2 : Int) * ((x.toNat : Nat) : Int) = 2 * x := by omega
      rw [e2] at HW
      clear e2
      rcases Decidable.em (x > 0) with hp | hp
      · have c2 : decide (x > 0) = true := decide_eq_true hp
        have c2' : decide (0 < x) = true := decide_eq_true hp
        have hs2 : (s ++ (⟨#[58]⟩ : ByteArray)).size + (hexS (be2 r (2 * x))).size ≤ 9223372036854775807 := by rw [ByteArray.size_append', hd1]; omega
        repeat' (first
        | ((with_reducible refine gate_region (id := 12) ?_); apply plain_region) <;>
        (apply lpure rfl rfl; (go_simp; with_reducible rfl); (simp only [Act.put, List.setIfInBounds_toArray, List.set_cons_zero, List.set_cons_succ, i64_w, i32_w, u8_wr, tmod_nat, Int.reduceToNat, e4, e16, e15, e15a, W1, W2, W3, W4, W5, W6, W7]; rfl)) <;>
        (apply lpure rfl rfl; (go_simp; with_reducible rfl); (simp only [Act.put, List.setIfInBounds_toArray, List.set_cons_zero, List.set_cons_succ, i64_w, i32_w, u8_wr, tmod_nat, Int.reduceToNat, e4, e16, e15, e15a, W1, W2, W3, W4, W5, W6, W7]; rfl)) <;>
        (apply lend)
        | ((with_reducible refine gate_region (id := 14) ?_); apply plain_region) <;>
        (apply lpure rfl rfl; (go_simp; with_reducible rfl); (simp only [Act.put, List.setIfInBounds_toArray, List.set_cons_zero, List.set_cons_succ, i64_w, i32_w, u8_wr, tmod_nat, Int.reduceToNat, e4, e16, e15, e15a, W1, W2, W3, W4, W5, W6, W7]; rfl)) <;>
        (apply lpure rfl rfl; (go_simp; with_reducible rfl); (simp only [Act.put, List.setIfInBounds_toArray, List.set_cons_zero, List.set_cons_succ, i64_w, i32_w, u8_wr, tmod_nat, Int.reduceToNat, e4, e16, e15, e15a, W1, W2, W3, W4, W5, W6, W7]; rfl)) <;>
        (apply lend)
        | ((with_reducible refine gate_region (id := 16) ?_); have HG := HF; refine HG.region2 HF (by kernel_rfl) rfl ?_; clear HF HG; intro w_ HF HG) <;>
        (apply Fr.rpure 0 rfl rfl rfl (by kernel_rfl) (fun _ _ _ h => h); (intro w_; go_simp; with_reducible rfl); (simp only [Act.put, List.setIfInBounds_toArray, List.set_cons_zero, List.set_cons_succ, i64_w, i32_w, u8_wr, tmod_nat, Int.reduceToNat, e4, e16, e15, e15a, W1, W2, W3, W4, W5, W6, W7]; rfl)) <;>
        (apply Fr.rpure 1 rfl rfl rfl (by kernel_rfl) (fun _ _ _ h => h); (intro w_; go_simp; with_reducible rfl); (simp only [Act.put, List.setIfInBounds_toArray, List.set_cons_zero, List.set_cons_succ, i64_w, i32_w, u8_wr, tmod_nat, Int.reduceToNat, e4, e16, e15, e15a, W1, W2, W3, W4, W5, W6, W7]; rfl)) <;>
        (apply Fr.rpure 2 rfl rfl rfl (by kernel_rfl) (fun _ _ _ h => h); (intro w_; go_simp; with_reducible rfl); (simp only [Act.put, List.setIfInBounds_toArray, List.set_cons_zero, List.set_cons_succ, i64_w, i32_w, u8_wr, tmod_nat, Int.reduceToNat, e4, e16, e15, e15a, W1, W2, W3, W4, W5, W6, W7]; rfl)) <;>
        (apply Fr.rpure 3 rfl rfl rfl (by kernel_rfl) (fun _ _ _ h => h); (intro w_; go_simp; with_reducible rfl); (simp only [Act.put, List.setIfInBounds_toArray, List.set_cons_zero, List.set_cons_succ, i64_w, i32_w, u8_wr, tmod_nat, Int.reduceToNat, e4, e16, e15, e15a, W1, W2, W3, W4, W5, W6, W7]; rfl)) <;>
        (apply Fr.rpure 4 rfl rfl rfl (by kernel_rfl) (fun _ _ _ h => h); (intro w_; exact run_idx rfl rfl rfl hu39 z5_ (HG.rowC HOD (by simp) (by decide)).1 p0 cl); (simp only [Act.put, List.setIfInBounds_toArray, List.set_cons_zero, List.set_cons_succ, i64_w, i32_w, u8_wr, tmod_nat, Int.reduceToNat, e4, e16, e15, e15a, W1, W2, W3, W4, W5, W6, W7]; rfl)) <;>
        (apply relt HF 5 rfl rfl rfl (by kernel_rfl) (fun _ _ _ h => h); (intro w_ F_; exact run_elt rfl rfl O5_ (F_.rowC HOD (by simp) (by decide)).1 p0 cl); (simp only [Act.put, List.setIfInBounds_toArray, List.set_cons_zero, List.set_cons_succ, i64_w, i32_w, u8_wr, tmod_nat, Int.reduceToNat, e4, e16, e15, e15a, W1, W2, W3, W4, W5, W6, W7]; rfl)) <;>
        (apply Fr.rpure 6 rfl rfl rfl (by kernel_rfl) (fun _ _ _ h => h); (intro w_; go_simp; with_reducible rfl); (simp only [Act.put, List.setIfInBounds_toArray, List.set_cons_zero, List.set_cons_succ, i64_w, i32_w, u8_wr, tmod_nat, Int.reduceToNat, e4, e16, e15, e15a, W1, W2, W3, W4, W5, W6, W7]; rfl)) <;>
        (apply Fr.rpure 7 rfl rfl rfl (by kernel_rfl) (fun _ _ _ h => h); (intro w_; go_simp; with_reducible rfl); (simp only [Act.put, List.setIfInBounds_toArray, List.set_cons_zero, List.set_cons_succ, i64_w, i32_w, u8_wr, tmod_nat, Int.reduceToNat, e4, e16, e15, e15a, W1, W2, W3, W4, W5, W6, W7]; rfl)) <;>
        (apply Fr.rpure 8 rfl rfl rfl (by kernel_rfl) (fun _ _ _ h => h); (intro w_; go_simp; with_reducible rfl); (simp only [Act.put, List.setIfInBounds_toArray, List.set_cons_zero, List.set_cons_succ, i64_w, i32_w, u8_wr, tmod_nat, Int.reduceToNat, e4, e16, e15, e15a, W1, W2, W3, W4, W5, W6, W7]; rfl)) <;>
        (apply Fr.rpure 9 rfl rfl rfl (by kernel_rfl) (fun _ _ _ h => h); (intro w_; go_simp; with_reducible rfl); (simp only [Act.put, List.setIfInBounds_toArray, List.set_cons_zero, List.set_cons_succ, i64_w, i32_w, u8_wr, tmod_nat, Int.reduceToNat, e4, e16, e15, e15a, W1, W2, W3, W4, W5, W6, W7]; rfl)) <;>
        (apply Fr.rpure 10 rfl rfl rfl (by kernel_rfl) (fun _ _ _ h => h); (intro w_; go_simp; with_reducible rfl); (simp only [Act.put, List.setIfInBounds_toArray, List.set_cons_zero, List.set_cons_succ, i64_w, i32_w, u8_wr, tmod_nat, Int.reduceToNat, e4, e16, e15, e15a, W1, W2, W3, W4, W5, W6, W7]; rfl)) <;>
        (apply Fr.rpure 11 rfl rfl rfl (by kernel_rfl) (fun _ _ _ h => h); (intro w_; go_simp; with_reducible rfl); (simp only [Act.put, List.setIfInBounds_toArray, List.set_cons_zero, List.set_cons_succ, i64_w, i32_w, u8_wr, tmod_nat, Int.reduceToNat, e4, e16, e15, e15a, W1, W2, W3, W4, W5, W6, W7]; rfl)) <;>
        (apply Fr.rpure 12 rfl rfl rfl (by kernel_rfl) (fun _ _ _ h => h); (intro w_; exact run_idx rfl rfl rfl hu39 z5_ (HG.rowC HOD (by simp) (by decide)).1 p1 cl1); (simp only [Act.put, List.setIfInBounds_toArray, List.set_cons_zero, List.set_cons_succ, i64_w, i32_w, u8_wr, tmod_nat, Int.reduceToNat, e4, e16, e15, e15a, W1, W2, W3, W4, W5, W6, W7]; rfl)) <;>
        (apply relt HF 13 rfl rfl rfl (by kernel_rfl) (fun _ _ _ h => h); (intro w_ F_; exact run_elt rfl rfl O5_ (F_.rowC HOD (by simp) (by decide)).1 p1 cl1); (simp only [Act.put, List.setIfInBounds_toArray, List.set_cons_zero, List.set_cons_succ, i64_w, i32_w, u8_wr, tmod_nat, Int.reduceToNat, e4, e16, e15, e15a, W1, W2, W3, W4, W5, W6, W7]; rfl)) <;>
        (apply Fr.rpure 14 rfl rfl rfl (by kernel_rfl) (fun _ _ _ h => h); (intro w_; go_simp; with_reducible rfl); (simp only [Act.put, List.setIfInBounds_toArray, List.set_cons_zero, List.set_cons_succ, i64_w, i32_w, u8_wr, tmod_nat, Int.reduceToNat, e4, e16, e15, e15a, W1, W2, W3, W4, W5, W6, W7]; rfl)) <;>
        (apply Fr.rpure 15 rfl rfl rfl (by kernel_rfl) (fun _ _ _ h => h); (intro w_; go_simp; with_reducible rfl); (simp only [Act.put, List.setIfInBounds_toArray, List.set_cons_zero, List.set_cons_succ, i64_w, i32_w, u8_wr, tmod_nat, Int.reduceToNat, e4, e16, e15, e15a, W1, W2, W3, W4, W5, W6, W7]; rfl)) <;>
        (apply rcall 16 rfl rfl rfl rfl (by kernel_rfl) (by simp) Tryz.func39 (by kernel_rfl) rfl; (with_reducible apply Calls.mono); exact spec_l03Hex.calls kx (be2 r (2 * x)) _ _ (HN.out _ hq.out.1 hq.out.2); rintro e w_ ⟨rfl, hb_⟩; refine ⟨_, rfl, HF.call hb_, ?_⟩; replace HG := HG.call hb_; clear HF hb_; intro HF; rotate_left; (first | rfl | (simp only [List.map_toArray, List.map_cons, List.map_nil]; first | done | rfl)); (refine norm_ (a' := ?_) ?_ ?_; rotate_left; (simp only [Act.put, List.setIfInBounds_toArray, List.set_cons_zero, List.set_cons_succ, i64_w, i32_w, u8_wr, tmod_nat, Int.reduceToNat, e4, e16, e15, e15a, W1, W2, W3, W4, W5, W6, W7]; rfl))) <;>
        (apply Fr.rpure 17 rfl rfl rfl (by kernel_rfl) (fun _ _ _ h => h); (intro w_; exact run_sadd rfl rfl rfl hu9 hs2); (simp only [Act.put, List.setIfInBounds_toArray, List.set_cons_zero, List.set_cons_succ, i64_w, i32_w, u8_wr, tmod_nat, Int.reduceToNat, e4, e16, e15, e15a, W1, W2, W3, W4, W5, W6, W7]; rfl)) <;>
        (apply Fr.rpure 18 rfl rfl rfl (by kernel_rfl) (fun _ _ _ h => h); (intro w_; go_simp; with_reducible rfl); (simp only [Act.put, List.setIfInBounds_toArray, List.set_cons_zero, List.set_cons_succ, i64_w, i32_w, u8_wr, tmod_nat, Int.reduceToNat, e4, e16, e15, e15a, W1, W2, W3, W4, W5, W6, W7]; rfl)) <;>
        (refine done_ (by kernel_rfl) ?_; clear HF; have HF := HG; clear HG)
        | ((with_reducible refine gate_region (id := 13) ?_); apply plain_region) <;>
        (apply lpure rfl rfl; (go_simp; with_reducible rfl); (simp only [Act.put, List.setIfInBounds_toArray, List.set_cons_zero, List.set_cons_succ, i64_w, i32_w, u8_wr, tmod_nat, Int.reduceToNat, e4, e16, e15, e15a, W1, W2, W3, W4, W5, W6, W7]; rfl)) <;>
        (apply lpure rfl rfl; (go_simp; with_reducible rfl); (simp only [Act.put, List.setIfInBounds_toArray, List.set_cons_zero, List.set_cons_succ, i64_w, i32_w, u8_wr, tmod_nat, Int.reduceToNat, e4, e16, e15, e15a, W1, W2, W3, W4, W5, W6, W7]; rfl)) <;>
        (apply lpure rfl rfl; (go_simp; with_reducible rfl); (simp only [Act.put, List.setIfInBounds_toArray, List.set_cons_zero, List.set_cons_succ, i64_w, i32_w, u8_wr, tmod_nat, Int.reduceToNat, e4, e16, e15, e15a, W1, W2, W3, W4, W5, W6, W7]; rfl)) <;>
        (apply lend)
        | ((with_reducible refine gate_region (id := 15) ?_); apply plain_region) <;>
        (apply lpure rfl rfl; (go_simp; with_reducible rfl); (simp only [Act.put, List.setIfInBounds_toArray, List.set_cons_zero, List.set_cons_succ, i64_w, i32_w, u8_wr, tmod_nat, Int.reduceToNat, e4, e16, e15, e15a]; rfl)) <;>
        (apply lpure rfl rfl; (exact run_sadd rfl rfl rfl hu9 hs1); (simp only [Act.put, List.setIfInBounds_toArray, List.set_cons_zero, List.set_cons_succ, i64_w, i32_w, u8_wr, tmod_nat, Int.reduceToNat, e4, e16, e15, e15a]; rfl)) <;>
        (apply lpure rfl rfl; (go_simp; with_reducible rfl); (simp only [Act.put, List.setIfInBounds_toArray, List.set_cons_zero, List.set_cons_succ, i64_w, i32_w, u8_wr, tmod_nat, Int.reduceToNat, e4, e16, e15, e15a]; rfl)) <;>
        (apply lend)
        | go_step | fail)
        go_roundg (8 - (x + 1)).toNat
        case measure =>
          have := HK.out
          omega
        case rel => exact ⟨x + 1, _, rfl, rfl, ⟨by rw [show (x + 1).toNat = x.toNat + 1 by omega, HW.out, strJ_snoc _ _ _ (by intro h0; have := congrArg List.length h0; unfold hexW at this; rw [List.length_map, List.length_range, List.length_nil] at this; omega), EW.out]⟩, ⟨by omega⟩, ⟨Nat.le_refl _⟩, ⟨HF.row_now HOD.out (by simp) (by decide)⟩, Fr_now (HF.part (by rw [EL_.out]; exact List.Sublist.refl _) (fun _ h_ => h_))⟩
      · have c2 : decide (x > 0) = false := decide_eq_false hp
        have c2' : decide (0 < x) = false := decide_eq_false hp
        have hs2 : s.size + (hexS (be2 r (2 * x))).size ≤ 9223372036854775807 := by omega
        repeat' (first
        | ((with_reducible refine gate_region (id := 12) ?_); apply plain_region) <;>
        (apply lpure rfl rfl; (go_simp; with_reducible rfl); (simp only [Act.put, List.setIfInBounds_toArray, List.set_cons_zero, List.set_cons_succ, i64_w, i32_w, u8_wr, tmod_nat, Int.reduceToNat, e4, e16, e15, e15a, W1, W2, W3, W4, W5, W6, W7]; rfl)) <;>
        (apply lpure rfl rfl; (go_simp; with_reducible rfl); (simp only [Act.put, List.setIfInBounds_toArray, List.set_cons_zero, List.set_cons_succ, i64_w, i32_w, u8_wr, tmod_nat, Int.reduceToNat, e4, e16, e15, e15a, W1, W2, W3, W4, W5, W6, W7]; rfl)) <;>
        (apply lend)
        | ((with_reducible refine gate_region (id := 14) ?_); apply plain_region) <;>
        (apply lpure rfl rfl; (go_simp; with_reducible rfl); (simp only [Act.put, List.setIfInBounds_toArray, List.set_cons_zero, List.set_cons_succ, i64_w, i32_w, u8_wr, tmod_nat, Int.reduceToNat, e4, e16, e15, e15a, W1, W2, W3, W4, W5, W6, W7]; rfl)) <;>
        (apply lpure rfl rfl; (go_simp; with_reducible rfl); (simp only [Act.put, List.setIfInBounds_toArray, List.set_cons_zero, List.set_cons_succ, i64_w, i32_w, u8_wr, tmod_nat, Int.reduceToNat, e4, e16, e15, e15a, W1, W2, W3, W4, W5, W6, W7]; rfl)) <;>
        (apply lend)
        | ((with_reducible refine gate_region (id := 16) ?_); have HG := HF; refine HG.region2 HF (by kernel_rfl) rfl ?_; clear HF HG; intro w_ HF HG) <;>
        (apply Fr.rpure 0 rfl rfl rfl (by kernel_rfl) (fun _ _ _ h => h); (intro w_; go_simp; with_reducible rfl); (simp only [Act.put, List.setIfInBounds_toArray, List.set_cons_zero, List.set_cons_succ, i64_w, i32_w, u8_wr, tmod_nat, Int.reduceToNat, e4, e16, e15, e15a, W1, W2, W3, W4, W5, W6, W7]; rfl)) <;>
        (apply Fr.rpure 1 rfl rfl rfl (by kernel_rfl) (fun _ _ _ h => h); (intro w_; go_simp; with_reducible rfl); (simp only [Act.put, List.setIfInBounds_toArray, List.set_cons_zero, List.set_cons_succ, i64_w, i32_w, u8_wr, tmod_nat, Int.reduceToNat, e4, e16, e15, e15a, W1, W2, W3, W4, W5, W6, W7]; rfl)) <;>
        (apply Fr.rpure 2 rfl rfl rfl (by kernel_rfl) (fun _ _ _ h => h); (intro w_; go_simp; with_reducible rfl); (simp only [Act.put, List.setIfInBounds_toArray, List.set_cons_zero, List.set_cons_succ, i64_w, i32_w, u8_wr, tmod_nat, Int.reduceToNat, e4, e16, e15, e15a, W1, W2, W3, W4, W5, W6, W7]; rfl)) <;>
        (apply Fr.rpure 3 rfl rfl rfl (by kernel_rfl) (fun _ _ _ h => h); (intro w_; go_simp; with_reducible rfl); (simp only [Act.put, List.setIfInBounds_toArray, List.set_cons_zero, List.set_cons_succ, i64_w, i32_w, u8_wr, tmod_nat, Int.reduceToNat, e4, e16, e15, e15a, W1, W2, W3, W4, W5, W6, W7]; rfl)) <;>
        (apply Fr.rpure 4 rfl rfl rfl (by kernel_rfl) (fun _ _ _ h => h); (intro w_; exact run_idx rfl rfl rfl hu39 z5_ (HG.rowC HOD (by simp) (by decide)).1 p0 cl); (simp only [Act.put, List.setIfInBounds_toArray, List.set_cons_zero, List.set_cons_succ, i64_w, i32_w, u8_wr, tmod_nat, Int.reduceToNat, e4, e16, e15, e15a, W1, W2, W3, W4, W5, W6, W7]; rfl)) <;>
        (apply relt HF 5 rfl rfl rfl (by kernel_rfl) (fun _ _ _ h => h); (intro w_ F_; exact run_elt rfl rfl O5_ (F_.rowC HOD (by simp) (by decide)).1 p0 cl); (simp only [Act.put, List.setIfInBounds_toArray, List.set_cons_zero, List.set_cons_succ, i64_w, i32_w, u8_wr, tmod_nat, Int.reduceToNat, e4, e16, e15, e15a, W1, W2, W3, W4, W5, W6, W7]; rfl)) <;>
        (apply Fr.rpure 6 rfl rfl rfl (by kernel_rfl) (fun _ _ _ h => h); (intro w_; go_simp; with_reducible rfl); (simp only [Act.put, List.setIfInBounds_toArray, List.set_cons_zero, List.set_cons_succ, i64_w, i32_w, u8_wr, tmod_nat, Int.reduceToNat, e4, e16, e15, e15a, W1, W2, W3, W4, W5, W6, W7]; rfl)) <;>
        (apply Fr.rpure 7 rfl rfl rfl (by kernel_rfl) (fun _ _ _ h => h); (intro w_; go_simp; with_reducible rfl); (simp only [Act.put, List.setIfInBounds_toArray, List.set_cons_zero, List.set_cons_succ, i64_w, i32_w, u8_wr, tmod_nat, Int.reduceToNat, e4, e16, e15, e15a, W1, W2, W3, W4, W5, W6, W7]; rfl)) <;>
        (apply Fr.rpure 8 rfl rfl rfl (by kernel_rfl) (fun _ _ _ h => h); (intro w_; go_simp; with_reducible rfl); (simp only [Act.put, List.setIfInBounds_toArray, List.set_cons_zero, List.set_cons_succ, i64_w, i32_w, u8_wr, tmod_nat, Int.reduceToNat, e4, e16, e15, e15a, W1, W2, W3, W4, W5, W6, W7]; rfl)) <;>
        (apply Fr.rpure 9 rfl rfl rfl (by kernel_rfl) (fun _ _ _ h => h); (intro w_; go_simp; with_reducible rfl); (simp only [Act.put, List.setIfInBounds_toArray, List.set_cons_zero, List.set_cons_succ, i64_w, i32_w, u8_wr, tmod_nat, Int.reduceToNat, e4, e16, e15, e15a, W1, W2, W3, W4, W5, W6, W7]; rfl)) <;>
        (apply Fr.rpure 10 rfl rfl rfl (by kernel_rfl) (fun _ _ _ h => h); (intro w_; go_simp; with_reducible rfl); (simp only [Act.put, List.setIfInBounds_toArray, List.set_cons_zero, List.set_cons_succ, i64_w, i32_w, u8_wr, tmod_nat, Int.reduceToNat, e4, e16, e15, e15a, W1, W2, W3, W4, W5, W6, W7]; rfl)) <;>
        (apply Fr.rpure 11 rfl rfl rfl (by kernel_rfl) (fun _ _ _ h => h); (intro w_; go_simp; with_reducible rfl); (simp only [Act.put, List.setIfInBounds_toArray, List.set_cons_zero, List.set_cons_succ, i64_w, i32_w, u8_wr, tmod_nat, Int.reduceToNat, e4, e16, e15, e15a, W1, W2, W3, W4, W5, W6, W7]; rfl)) <;>
        (apply Fr.rpure 12 rfl rfl rfl (by kernel_rfl) (fun _ _ _ h => h); (intro w_; exact run_idx rfl rfl rfl hu39 z5_ (HG.rowC HOD (by simp) (by decide)).1 p1 cl1); (simp only [Act.put, List.setIfInBounds_toArray, List.set_cons_zero, List.set_cons_succ, i64_w, i32_w, u8_wr, tmod_nat, Int.reduceToNat, e4, e16, e15, e15a, W1, W2, W3, W4, W5, W6, W7]; rfl)) <;>
        (apply relt HF 13 rfl rfl rfl (by kernel_rfl) (fun _ _ _ h => h); (intro w_ F_; exact run_elt rfl rfl O5_ (F_.rowC HOD (by simp) (by decide)).1 p1 cl1); (simp only [Act.put, List.setIfInBounds_toArray, List.set_cons_zero, List.set_cons_succ, i64_w, i32_w, u8_wr, tmod_nat, Int.reduceToNat, e4, e16, e15, e15a, W1, W2, W3, W4, W5, W6, W7]; rfl)) <;>
        (apply Fr.rpure 14 rfl rfl rfl (by kernel_rfl) (fun _ _ _ h => h); (intro w_; go_simp; with_reducible rfl); (simp only [Act.put, List.setIfInBounds_toArray, List.set_cons_zero, List.set_cons_succ, i64_w, i32_w, u8_wr, tmod_nat, Int.reduceToNat, e4, e16, e15, e15a, W1, W2, W3, W4, W5, W6, W7]; rfl)) <;>
        (apply Fr.rpure 15 rfl rfl rfl (by kernel_rfl) (fun _ _ _ h => h); (intro w_; go_simp; with_reducible rfl); (simp only [Act.put, List.setIfInBounds_toArray, List.set_cons_zero, List.set_cons_succ, i64_w, i32_w, u8_wr, tmod_nat, Int.reduceToNat, e4, e16, e15, e15a, W1, W2, W3, W4, W5, W6, W7]; rfl)) <;>
        (apply rcall 16 rfl rfl rfl rfl (by kernel_rfl) (by simp) Tryz.func39 (by kernel_rfl) rfl; (with_reducible apply Calls.mono); exact spec_l03Hex.calls kx (be2 r (2 * x)) _ _ (HN.out _ hq.out.1 hq.out.2); rintro e w_ ⟨rfl, hb_⟩; refine ⟨_, rfl, HF.call hb_, ?_⟩; replace HG := HG.call hb_; clear HF hb_; intro HF; rotate_left; (first | rfl | (simp only [List.map_toArray, List.map_cons, List.map_nil]; first | done | rfl)); (refine norm_ (a' := ?_) ?_ ?_; rotate_left; (simp only [Act.put, List.setIfInBounds_toArray, List.set_cons_zero, List.set_cons_succ, i64_w, i32_w, u8_wr, tmod_nat, Int.reduceToNat, e4, e16, e15, e15a, W1, W2, W3, W4, W5, W6, W7]; rfl))) <;>
        (apply Fr.rpure 17 rfl rfl rfl (by kernel_rfl) (fun _ _ _ h => h); (intro w_; exact run_sadd rfl rfl rfl hu9 hs2); (simp only [Act.put, List.setIfInBounds_toArray, List.set_cons_zero, List.set_cons_succ, i64_w, i32_w, u8_wr, tmod_nat, Int.reduceToNat, e4, e16, e15, e15a, W1, W2, W3, W4, W5, W6, W7]; rfl)) <;>
        (apply Fr.rpure 18 rfl rfl rfl (by kernel_rfl) (fun _ _ _ h => h); (intro w_; go_simp; with_reducible rfl); (simp only [Act.put, List.setIfInBounds_toArray, List.set_cons_zero, List.set_cons_succ, i64_w, i32_w, u8_wr, tmod_nat, Int.reduceToNat, e4, e16, e15, e15a, W1, W2, W3, W4, W5, W6, W7]; rfl)) <;>
        (refine done_ (by kernel_rfl) ?_; clear HF; have HF := HG; clear HG)
        | ((with_reducible refine gate_region (id := 13) ?_); apply plain_region) <;>
        (apply lpure rfl rfl; (go_simp; with_reducible rfl); (simp only [Act.put, List.setIfInBounds_toArray, List.set_cons_zero, List.set_cons_succ, i64_w, i32_w, u8_wr, tmod_nat, Int.reduceToNat, e4, e16, e15, e15a, W1, W2, W3, W4, W5, W6, W7]; rfl)) <;>
        (apply lpure rfl rfl; (go_simp; with_reducible rfl); (simp only [Act.put, List.setIfInBounds_toArray, List.set_cons_zero, List.set_cons_succ, i64_w, i32_w, u8_wr, tmod_nat, Int.reduceToNat, e4, e16, e15, e15a, W1, W2, W3, W4, W5, W6, W7]; rfl)) <;>
        (apply lpure rfl rfl; (go_simp; with_reducible rfl); (simp only [Act.put, List.setIfInBounds_toArray, List.set_cons_zero, List.set_cons_succ, i64_w, i32_w, u8_wr, tmod_nat, Int.reduceToNat, e4, e16, e15, e15a, W1, W2, W3, W4, W5, W6, W7]; rfl)) <;>
        (apply lend)
        | go_step | fail)
        go_roundg (8 - (x + 1)).toNat
        case measure =>
          have := HK.out
          omega
        case rel => exact ⟨x + 1, _, rfl, rfl, ⟨by rw [show (x + 1).toNat = x.toNat + 1 by omega, HW.out, EW.out, show x.toNat = 0 by omega]; show _ = strJ 58 ([] ++ [_]); rw [List.nil_append, strJ_one]; exact nil_app _⟩, ⟨by omega⟩, ⟨Nat.le_refl _⟩, ⟨HF.row_now HOD.out (by simp) (by decide)⟩, Fr_now (HF.part (by rw [EL_.out]; exact List.Sublist.refl _) (fun _ h_ => h_))⟩
    · have c1 : decide (x < 8) = false := decide_eq_false c
      obtain rfl : x = 8 := by omega
      replace EW := Aside0.mk (show s = strJ 58 (hexW r 8) from EW.out)
      repeat' (first
      | ((with_reducible refine gate_region (id := 12) ?_); apply plain_region) <;>
        (apply lpure rfl rfl; (go_simp; with_reducible rfl); (simp only [Act.put, List.setIfInBounds_toArray, List.set_cons_zero, List.set_cons_succ, i64_w, i32_w, u8_wr, tmod_nat, Int.reduceToNat, e4, e16, e15, e15a]; rfl)) <;>
        (apply lpure rfl rfl; (go_simp; with_reducible rfl); (simp only [Act.put, List.setIfInBounds_toArray, List.set_cons_zero, List.set_cons_succ, i64_w, i32_w, u8_wr, tmod_nat, Int.reduceToNat, e4, e16, e15, e15a]; rfl)) <;>
        (apply lend)
      | ((with_reducible refine gate_region (id := 17) ?_); apply plain_region) <;>
        (apply lpure rfl rfl; (go_simp; with_reducible rfl); (simp only [Act.put, List.setIfInBounds_toArray, List.set_cons_zero, List.set_cons_succ, i64_w, i32_w, u8_wr, tmod_nat, Int.reduceToNat, e4, e16, e15, e15a]; rfl)) <;>
        (apply lpure rfl rfl; (go_simp; with_reducible rfl); (simp only [Act.put, List.setIfInBounds_toArray, List.set_cons_zero, List.set_cons_succ, i64_w, i32_w, u8_wr, tmod_nat, Int.reduceToNat, e4, e16, e15, e15a]; rfl)) <;>
        (apply lend)
      | go_step | fail)
      go_ret
      exact ⟨by rw [← EW.out]; rfl, HF.below⟩
end Go.Proofs.YtljeajecajlaiaaGreatDoor.Spec
