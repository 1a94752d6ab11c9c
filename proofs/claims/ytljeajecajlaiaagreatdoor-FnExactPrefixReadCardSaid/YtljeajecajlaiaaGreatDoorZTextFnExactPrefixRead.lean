/- impl.AddrText: the words of an address, joined: by the contracts of the library's strconv.Itoa, strings.Join and of strconv.FormatInt at base 16. Conditions: the tables of powers of ten and of trailing zeros lie as their initialisers lay them. -/
import Derived.Test.YtljeajecajlaiaaGreatDoorGFnExactPrefixReadx13
import Derived.Test.YtljeajecajlaiaaGreatDoorGFnExactPrefixReadx11
import Derived.Test.YtljeajecajlaiaaGreatDoorZHexFnExactPrefixRead
import Derived.Test.YtljeajecajlaiaaGreatDoorVFnExactPrefixRead
import Derived.Lib.AppendIntMem
import Derived.Lib.SmallJoins
namespace Go.Proofs.YtljeajecajlaiaaGreatDoor.Text
open Go.RowKit Go.Lib Go.Shelf Go.Proofs.YtljeajecajlaiaaGreatDoorW.PrintWords Go.Proofs.YtljeajecajlaiaaGreatDoorW.PrintLast Go.Proofs.YtljeajecajlaiaaGreatDoorW.PrintMore Go.Proofs.YtljeajecajlaiaaGreatDoor.Frame Go.Proofs.YtljeajecajlaiaaGreatDoor.Base Go.Proofs.YtljeajecajlaiaaGreatDoor.Hex Go.Proofs.YtljeajecajlaiaaGreatDoor.FFnExactPrefixRead
set_option linter.unusedVariables false
set_option linter.unusedSimpArgs false
theorem Tryz.extra : Builder.Extra Tryz.prog Tryz.lays156_ren where
  sizeBuilder := by kernel_rfl
  liesBuilder := by kernel_rfl
  t5 := Tryz.underlying5
  a5 := Tryz.isAgg5
  z5 := Tryz.sizeOf5
  v5 := Tryz.zeroValue5
  infoByte := by kernel_rfl
  cellsByte := by kernel_rfl
  sizeByte := by kernel_rfl
  neB5 := by decide
theorem gTab : Tryz.prog.globalNamed "internal/strconv.uint64pow10" = some 3 := by kernel_rfl
def itoaS (n : Int) : ByteArray := ⟨(Lib.itoa n).toArray⟩
set_option maxRecDepth 100000 in
theorem numText (n : Int) (h0 : -9223372036854775808 ≤ n) (h1 : n ≤ 9223372036854775807) (w : World) (htab : Lib.TabIs Tryz.prog w "internal/strconv.uint64pow10" .u64 Lib.pow10Tab) :
    Calls Tryz.prog 32 #[.int .i64 n] w fun e w' => e = .returned (.string (itoaS n)) ∧ Below w.heap.size w w' := by
  have hcon := Any.strconv_Itoa Tryz.laysM171 n h0 h1 w htab
  change Calls Tryz.prog 52 _ _ fun e w' => e = .returned (.string (itoaS n)) ∧ _ at hcon
  generalize itoaS n = s at hcon ⊢
  clear htab
  go_enter Tryz.func32, Tryz.ntmps32
  go_wp2_with (go_at_call 52; refine hcon.mono ?_; rintro e w' ⟨rfl, k, os, rfl⟩)
  go_ret
  exact ⟨rfl, below_grow _ _ (Nat.le_refl _) _ _⟩
theorem joinR {W : World} {base c : Nat} {ok : Nat → Prop} {A : Option Addr} {ws : List ByteArray} (sep : ByteArray) (HO : Kd.string.R 9 W base ok (.slice A ws.length c) ws) (hn : ws.length ≤ 1000) (hlen : (Lib.join (ws.map (·.data.toList)) sep.data.toList).length ≤ 140737488355328) :
    Calls Tryz.prog 48 #[.slice A ws.length c, .string sep] W fun e w' => e = .returned (.string ⟨(Lib.join (ws.map (·.data.toList)) sep.data.toList).toArray⟩) ∧ Below W.heap.size W w' := by
  obtain ⟨hl, hc, hC⟩ := Kd.R_reads' HO
  cases ws with
  | nil => exact (Any.strings_Join_none Tryz.lays156 Tryz.extra A c sep W).mono (by rintro e w' ⟨rfl, rfl⟩; exact ⟨rfl, Below.refl _ _⟩)
  | cons x y =>
    obtain ⟨g, cap, hv, hb0, hg, _⟩ := Kd.R_form HO (by simp)
    injection hv with hA _ hcap
    subst hA
    subst hcap
    refine Any.strings_Join Tryz.lays156 Tryz.extra g 0 c (x :: y) sep W (fun j z hj => ?_) hg (by omega) hc hlen
    have hjl : j < (x :: y).length := (List.getElem?_eq_some_iff.1 hj).1
    obtain ⟨ad, he, hcell⟩ := Kd.at_string hC (j : Int) (by omega) (by omega)
    injection he with he
    subst he
    have e : rdOf ByteArray.empty (x :: y) (j : Int) = z := by
      unfold rdOf
      rw [Int.toNat_natCast, List.getD_eq_getElem?_getD, hj]
      rfl
    rw [e] at hcell
    have e2 : (⟨g, 0, none⟩ : Addr).add (j : Int).toNat = ⟨g, 0 + j, none⟩ := by rw [Int.toNat_natCast]; unfold Addr.add; split <;> simp_all
    rw [e2] at hcell
    exact hcell
section
variable {T : List Nat} {w W w1 : World} {L : List Blk} {Ms : List World} {P : Program} {ops : Array Oper} {rest : List Oper} {o1 o2 : Oper} {a : Act} {Q : Exit → Act → World → Prop} {N1 N2 : Tmp} {s x : Operand} {t e bytes g : Nat} {z v v2 : Value} {p : ByteArray} {xs : List ByteArray} {ys : List Int} {ok ok2 : Nat → Prop}
theorem emptyR_row {W1 : World} (F : Fr T w W L Ms) (hg0 : W.heap.size ≤ g) (hg : W1.heap[g]? = some (.cells #[] e (0, 0))) : Aside0 (Kd.string.R e W1 w.heap.size (fun _ => True) (.slice (some ⟨g, 0, none⟩) ([] : List ByteArray).length 0) []) :=
  ⟨⟨fun _ _ => trivial, [], ⟨by simp, .inr ⟨g, 0, _, rfl, Nat.le_trans F.below.size hg0, hg, Nat.zero_le _, Nat.zero_le _, by simp, by simp⟩⟩, Reps.none _ _⟩⟩
/-- append(v, s): s a literal of one string, made the step before; a row of bytes stands by. -/
theorem lappStr (F : Fr T w W L Ms) (h1N : o1.dst = some N1) (h1w : Region.wanted o1 (yielded ops a.tmps) = true) (h1run : (execOp a.eval o1).run P W = .ok (.value (.slice (some ⟨W.heap.size, 0, none⟩) 1 1)) (W.alloc (.cells ([.string p] : List Value).toArray e (0, 0))))
    (h2N : o2.dst = some N2) (h2w : Region.wanted o2 (yielded ops (a.put (some N1) (.slice (some ⟨W.heap.size, 0, none⟩) 1 1)).tmps) = true) (ho2 : o2.op = .call { callee := .builtin .append, args := #[s, x], argTypes := #[t, t] })
    (ht : P.underlying t = some (.slice e)) (hinfo : (P.info? e).map (fun i => (i.zero, i.size, i.bytes)) = some (some z, 1, bytes)) (hz : z.cells.size = 1) (hb0 : 0 < bytes)
    (hs : (a.put (some N1) (.slice (some ⟨W.heap.size, 0, none⟩) 1 1)).eval s = v) (hx : (a.put (some N1) (.slice (some ⟨W.heap.size, 0, none⟩) 1 1)).eval x = .slice (some ⟨W.heap.size, 0, none⟩) 1 1)
    (HO : Kd.string.R e W w.heap.size ok v xs) (H2 : (Kd.int .u8).R 5 W w.heap.size ok2 v2 ys) (h5 : 5 ≠ e) (hT : e ∉ T) (hl : (xs.length + 1) * bytes ≤ 140737488355328)
    (h : ∀ v1 w1, Kd.string.R e w1 w.heap.size (fun _ => True) v1 (xs ++ [p]) → (Kd.int .u8).R 5 w1 w.heap.size (fun _ => True) v2 ys → Fr T w w1 L [w1] → GL P ops Q rest ((a.put (some N1) (.slice (some ⟨W.heap.size, 0, none⟩) 1 1)).put (some N2) v1) w1) : GL P ops Q (o1 :: o2 :: rest) a W := by
  refine ⟨wpList_step fun K hK => lon h1w ?_⟩
  unfold Oper.wp
  rw [h1run]
  show K (a.put o1.dst _) _
  rw [h1N]
  refine hK _ _ (wpList_step fun K2 hK2 => ?_)
  refine Kd.R_append_step Kd.string (w0 := w) w.heap.size h2w s x t e z bytes ho2 ht hinfo hz (by decide) hb0 v xs p [.string p] (fun _ => True) (fun _ => False) hs hx rfl (fun _ h => h.elim) (fun _ _ => trivial) (Kd.R_mono HO (fun _ _ => trivial)) F.below F.below.size hl ?_
  intro v1 w1 hR hb hg _
  rw [h2N]
  refine hK2 _ _ (h v1 w1 hR ?_ (F.grown2 hb hg (fun k hk => Kd.R_typed HO k hk) hT)).out
  exact Kd.R_mono (Kd.R_grown (Kd.R_apart' H2 (fun k hk => Kd.R_typed HO k hk) (fun q hq => by
    have : q = 5 := by simpa [Kd.int, Kd.scalar] using hq
    subst this
    exact h5)) hg (fun k hk => hk.2)) (fun _ _ => trivial)
end
def hexW (r : List Int) (m : Nat) : List ByteArray := (List.range m).map fun (i : Nat) => hexS (be2 r (2 * (i : Int)))
theorem hexW_succ (r : List Int) (m : Nat) : hexW r (m + 1) = hexW r m ++ [hexS (be2 r (2 * (m : Int)))] := by
  unfold hexW
  rw [List.range_succ, List.map_append]
  rfl
theorem words_succ (r : List Int) {x : Int} (h0 : 0 ≤ x) (h1 : x < r.length) : (r.take (x + 1).toNat).map itoaS = (r.take x.toNat).map itoaS ++ [itoaS (rd r x)] := by
  rw [show (x + 1).toNat = x.toNat + 1 by omega, List.take_add_one, List.map_append, rd_get? h0 h1]
  rfl

set_option maxHeartbeats 8000000 in
set_option maxRecDepth 100000 in
theorem addrText4 (k : Nat) (a0 : Int) (a1 : Int) (a2 : Int) (a3 : Int) (a4 : Int) (r : List Int) (h4 : a0 = 4) (hb : impl_AddrBytes.f k a0 a1 a2 a3 a4 = some r) (hr : ∀ b ∈ r, 0 ≤ b ∧ b ≤ 255) (hl : r.length ≤ 16) (hj : (Lib.join ((r.map itoaS).map (·.data.toList)) [46]).length ≤ 140737488355328) (w : World) (htab : Lib.TabIs Tryz.prog w "internal/strconv.uint64pow10" .u64 Lib.pow10Tab) :
    Calls Tryz.prog 30 #[.agg #[.int .i64 a0, .int .i64 a1, .int .i64 a2, .int .i64 a3, .int .i64 a4]] w fun e w' => e = .returned (.string ⟨(Lib.join ((r.map itoaS).map (·.data.toList)) [46]).toArray⟩) ∧ Below w.heap.size w w' := by
  have hu25 := Tryz.underlying23
  have hu39 := Tryz.underlying41
  have hu42 := Tryz.underlying30
  have z5_ : (Tryz.prog.info? 5).map (·.size) = some 1 := by kernel_rfl
  have info9 : (Tryz.prog.info? 9).map (fun i => (i.zero, i.size, i.bytes)) = some (some (.string ⟨#[]⟩), 1, 16) := by kernel_rfl
  have O5_ : IsOne Tryz.prog 5 := ⟨⟨_, Tryz.underlying5, rfl⟩, by kernel_rfl⟩
  have O3_ : IsOne Tryz.prog 3 := ⟨⟨_, Tryz.underlying3, rfl⟩, by kernel_rfl⟩
  have R25_ : IsRow Tryz.prog 23 5 := ⟨⟨_, Tryz.underlying23, rfl⟩, by kernel_rfl⟩
  have HF := Fr.start [23] w
  have HB := Aside0.mk hb
  have HR := Aside0.mk hr
  have HJ := Aside0.mk hj
  have HTB := Aside0.mk htab
  have c0 : (a0 == 4) = true := beq_iff_eq.mpr h4
  have c0' : (a0 != 4) = false := by simp [h4]
  clear hb hr hj htab h4
  go_enter Tryz.func30, Tryz.ntmps30
  repeat' (first
      | ((with_reducible refine gate_region (id := 0) ?_); apply plain_region) <;>
        (((with_reducible apply Fr.lbox HF rfl rfl rfl); (go_simp; rfl); decide; clear HF; intro g_ w_ HF); (refine lnorm (a' := ?_) ?_ ?_; rotate_left; (simp only [Act.put, List.setIfInBounds_toArray, List.set_cons_zero, List.set_cons_succ, i64_w, i32_w, u8_wr, tmod_nat, Int.reduceToNat, e4, e16, e15, e15a]; rfl))) <;>
        (apply lpure rfl rfl; (go_simp; with_reducible rfl); (simp only [Act.put, List.setIfInBounds_toArray, List.set_cons_zero, List.set_cons_succ, i64_w, i32_w, u8_wr, tmod_nat, Int.reduceToNat, e4, e16, e15, e15a]; rfl)) <;>
        (apply lend)
      | ((with_reducible refine gate_region (id := 1) ?_); apply plain_region) <;>
        (apply HF.lrow rfl rfl rfl R25_ rfl; (repeat (first | exact At.head | apply At.tail)); (simp only [List.drop_succ_cons, List.drop_zero, List.take_succ_cons, List.take_zero]; rfl); rfl; (simp only [Act.put, List.setIfInBounds_toArray, List.set_cons_zero, List.set_cons_succ, i64_w, i32_w, u8_wr, tmod_nat, Int.reduceToNat, e4, e16, e15, e15a]; rfl)) <;>
        (apply lcall rfl rfl rfl Tryz.func47 (by kernel_rfl) rfl; (with_reducible apply Calls.mono); (with_reducible apply impl_AddrBytes.calls (h := HB.out)); rintro e w_ ⟨v0_, rfl, ho_, hb_⟩; obtain ⟨Ad, cd, rfl⟩ := Kd.R_slice ho_; have HOD := HF.row2 ho_; clear ho_; refine ⟨_, rfl, ?_⟩; replace HF := (HF.call hb_).mark; clear hb_; rotate_left; (first | rfl | (simp only [List.map_toArray, List.map_cons, List.map_nil]; first | done | rfl)); (refine lnorm (a' := ?_) ?_ ?_; rotate_left; (simp only [Act.put, List.setIfInBounds_toArray, List.set_cons_zero, List.set_cons_succ, i64_w, i32_w, u8_wr, tmod_nat, Int.reduceToNat, e4, e16, e15, e15a]; rfl))) <;>
        (have HF0 := HF; apply HF.lempty rfl rfl; (go_simp; first | rfl | exact ⟨rfl, rfl⟩); clear HF; intro g2_ w_ hg_ hb_ hh_ HF; replace HF := HF.mark; have HOW := emptyR_row HF0 hg_ hh_; clear hg_ hb_ hh_ HF0; (refine lnorm (a' := ?_) ?_ ?_; rotate_left; (simp only [Act.put, List.setIfInBounds_toArray, List.set_cons_zero, List.set_cons_succ, i64_w, i32_w, u8_wr, tmod_nat, Int.reduceToNat, e4, e16, e15, e15a]; rfl))) <;>
        (apply lpure rfl rfl; (go_simp; with_reducible rfl); (simp only [Act.put, List.setIfInBounds_toArray, List.set_cons_zero, List.set_cons_succ, i64_w, i32_w, u8_wr, tmod_nat, Int.reduceToNat, e4, e16, e15, e15a]; rfl)) <;>
        (apply lpure rfl rfl; (go_simp; with_reducible rfl); (simp only [Act.put, List.setIfInBounds_toArray, List.set_cons_zero, List.set_cons_succ, i64_w, i32_w, u8_wr, tmod_nat, Int.reduceToNat, e4, e16, e15, e15a]; rfl)) <;>
        (apply lend)
      | ((with_reducible refine gate_region (id := 2) ?_); apply plain_region) <;>
        (apply lpure rfl rfl; (go_simp; with_reducible rfl); (simp only [Act.put, List.setIfInBounds_toArray, List.set_cons_zero, List.set_cons_succ, i64_w, i32_w, u8_wr, tmod_nat, Int.reduceToNat, e4, e16, e15, e15a]; rfl)) <;>
        (apply HF.lone rfl rfl rfl O3_ rfl; (repeat (first | exact At.head | apply At.tail)); rfl; (simp only [Act.put, List.setIfInBounds_toArray, List.set_cons_zero, List.set_cons_succ, i64_w, i32_w, u8_wr, tmod_nat, Int.reduceToNat, e4, e16, e15, e15a]; rfl)) <;>
        (apply lpure rfl rfl; (go_simp; with_reducible rfl); (simp only [Act.put, List.setIfInBounds_toArray, List.set_cons_zero, List.set_cons_succ, i64_w, i32_w, u8_wr, tmod_nat, Int.reduceToNat, e4, e16, e15, e15a]; rfl)) <;>
        (apply lend)
      | ((with_reducible refine gate_region (id := 3) ?_); apply plain_region) <;>
        (apply lpure rfl rfl; (go_simp; with_reducible rfl); (simp only [Act.put, List.setIfInBounds_toArray, List.set_cons_zero, List.set_cons_succ, i64_w, i32_w, u8_wr, tmod_nat, Int.reduceToNat, e4, e16, e15, e15a]; rfl)) <;>
        (apply lpure rfl rfl; (go_simp; with_reducible rfl); (simp only [Act.put, List.setIfInBounds_toArray, List.set_cons_zero, List.set_cons_succ, i64_w, i32_w, u8_wr, tmod_nat, Int.reduceToNat, e4, e16, e15, e15a]; rfl)) <;>
        (apply lpure rfl rfl; (go_simp; with_reducible rfl); (simp only [Act.put, List.setIfInBounds_toArray, List.set_cons_zero, List.set_cons_succ, i64_w, i32_w, u8_wr, tmod_nat, Int.reduceToNat, e4, e16, e15, e15a]; rfl)) <;>
        (apply lend)
      | go_step | fail)
  all_goals (obtain ⟨LV_, HF2_, EL_⟩ := Fr_name HF; clear HF; have HF := HF2_; clear HF2_; go_loopg [4, 16] r.length (fun kq_ v4_ vi_ w_ => ∃ (x : Int) (ws : List ByteArray) (Aw : Option Addr) (cw : Nat), v4_ = .slice Aw ws.length cw ∧ vi_ = .int .i64 x ∧ Aside0 (ws = (r.take x.toNat).map itoaS) ∧ Aside0 (0 ≤ x ∧ x ≤ r.length) ∧ Aside0 (((r.length : Int) - x).toNat ≤ kq_) ∧ Aside0 (Kd.string.R 9 w_ w.heap.size (fun _ => True) (.slice Aw ws.length cw) ws) ∧ Aside0 ((Kd.int .u8).R 5 w_ w.heap.size (fun _ => True) (.slice Ad r.length cd) r) ∧ Fr [23] w w_ LV_ [w_]))
  case atStart => exact ⟨0, [], _, _, (by first | rfl | simp), rfl, ⟨by simp⟩, ⟨by omega⟩, ⟨by simp⟩, ⟨HF.row_now HOW.out (by simp) (by decide)⟩, ⟨Kd.R_mono (HF.row_now HOD.out (by simp) (by decide)) (fun _ _ => trivial)⟩, Fr_now HF⟩
  case round =>
    clear HF HOW HOD
    obtain ⟨x, ws, Aw, cw, rfl, rfl, EW, HX, HK, HOW, HOD, HF⟩ := hrel
    have hx0 := HX.out.1
    have hx1 := HX.out.2
    by_cases c : x < (r.length : Int)
    · have c1 : decide (x < (r.length : Int)) = true := decide_eq_true c
      have hv := HR.out _ (rd_mem hx0 c)
      have hwl : ws.length ≤ 16 := by rw [EW.out, List.length_map, List.length_take]; omega
      have W1 : wrap64 (rd r x) = rd r x := w64 (by omega) (by omega)
      have W2 : wrap64 (x + 1) = x + 1 := w64 (by omega) (by omega)
      repeat' (first
      | ((with_reducible refine gate_region (id := 4) ?_); apply plain_region) <;>
        (apply lpure rfl rfl; (go_simp; with_reducible rfl); (simp only [Act.put, List.setIfInBounds_toArray, List.set_cons_zero, List.set_cons_succ, i64_w, i32_w, u8_wr, tmod_nat, Int.reduceToNat, e4, e16, e15, e15a, W1, W2]; rfl)) <;>
        (apply lend)
      | ((with_reducible refine gate_region (id := 5) ?_); apply plain_region) <;>
        (apply lpure rfl rfl; (exact run_idx rfl rfl rfl hu39 z5_ (HF.rowC HOD (by simp) (by decide)).1 hx0 c); (simp only [Act.put, List.setIfInBounds_toArray, List.set_cons_zero, List.set_cons_succ, i64_w, i32_w, u8_wr, tmod_nat, Int.reduceToNat, e4, e16, e15, e15a, W1, W2]; rfl)) <;>
        (apply lelt rfl rfl; exact run_elt rfl rfl O5_ (HF.rowC HOD (by simp) (by decide)).1 hx0 c; (simp only [Act.put, List.setIfInBounds_toArray, List.set_cons_zero, List.set_cons_succ, i64_w, i32_w, u8_wr, tmod_nat, Int.reduceToNat, e4, e16, e15, e15a, W1, W2]; rfl)) <;>
        (apply lpure rfl rfl; (go_simp; with_reducible rfl); (simp only [Act.put, List.setIfInBounds_toArray, List.set_cons_zero, List.set_cons_succ, i64_w, i32_w, u8_wr, tmod_nat, Int.reduceToNat, e4, e16, e15, e15a, W1, W2]; rfl)) <;>
        (apply lend)
      | ((with_reducible refine gate_region (id := 6) ?_); apply plain_region) <;>
        (apply lpure rfl rfl; (go_simp; with_reducible rfl); (simp only [Act.put, List.setIfInBounds_toArray, List.set_cons_zero, List.set_cons_succ, i64_w, i32_w, u8_wr, tmod_nat, Int.reduceToNat, e4, e16, e15, e15a, W1, W2]; rfl)) <;>
        (apply lpure rfl rfl; (go_simp; with_reducible rfl); (simp only [Act.put, List.setIfInBounds_toArray, List.set_cons_zero, List.set_cons_succ, i64_w, i32_w, u8_wr, tmod_nat, Int.reduceToNat, e4, e16, e15, e15a, W1, W2]; rfl)) <;>
        (apply lpure rfl rfl; (go_simp; with_reducible rfl); (simp only [Act.put, List.setIfInBounds_toArray, List.set_cons_zero, List.set_cons_succ, i64_w, i32_w, u8_wr, tmod_nat, Int.reduceToNat, e4, e16, e15, e15a, W1, W2]; rfl)) <;>
        (apply lcall rfl rfl rfl Tryz.func32 (by kernel_rfl) rfl; (with_reducible apply Calls.mono); exact numText (rd r x) (by omega) (by omega) _ (Go.Joins.tab_stays gTab HTB.out HF.below (Nat.le_refl _)); rintro e w_ ⟨rfl, hb_⟩; refine ⟨_, rfl, ?_⟩; replace HF := HF.call hb_; clear hb_; rotate_left; (first | rfl | (simp only [List.map_toArray, List.map_cons, List.map_nil]; first | done | rfl)); (refine lnorm (a' := ?_) ?_ ?_; rotate_left; (simp only [Act.put, List.setIfInBounds_toArray, List.set_cons_zero, List.set_cons_succ, i64_w, i32_w, u8_wr, tmod_nat, Int.reduceToNat, e4, e16, e15, e15a, W1, W2]; rfl))) <;>
        (apply lappStr HF rfl rfl ?_ rfl rfl rfl hu42 info9 rfl (by decide) rfl rfl (HF.row_now HOW.out (by simp) (by decide)) (HF.row_now HOD.out (by simp) (by decide)) (by decide) (by decide) (by omega) ?_; rotate_left; (go_simp; first | rfl | exact ⟨rfl, rfl⟩ | exact ⟨rfl, rfl, rfl⟩); intro v_ w_ ho_ hd_ HF1; clear HF HOW HOD; have HF := HF1; clear HF1; obtain ⟨ws2, ew_, ho2_⟩ := R_name ho_; clear ho_; obtain ⟨Aw2, cw2, rfl⟩ := Kd.R_slice ho2_; have HOW := Aside0.mk ho2_; have HOD := Aside0.mk hd_; have EW1 := Aside0.mk ew_; clear ho2_ hd_ ew_; (refine lnorm (a' := ?_) ?_ ?_; rotate_left; (simp only [Act.put, List.setIfInBounds_toArray, List.set_cons_zero, List.set_cons_succ, i64_w, i32_w, u8_wr, tmod_nat, Int.reduceToNat, e4, e16, e15, e15a, W1, W2]; rfl))) <;>
        (apply lpure rfl rfl; (go_simp; with_reducible rfl); (simp only [Act.put, List.setIfInBounds_toArray, List.set_cons_zero, List.set_cons_succ, i64_w, i32_w, u8_wr, tmod_nat, Int.reduceToNat, e4, e16, e15, e15a, W1, W2]; rfl)) <;>
        (apply lend)
      | ((with_reducible refine gate_region (id := 7) ?_); apply plain_region) <;>
        (apply lpure rfl rfl; (go_simp; with_reducible rfl); (simp only [Act.put, List.setIfInBounds_toArray, List.set_cons_zero, List.set_cons_succ, i64_w, i32_w, u8_wr, tmod_nat, Int.reduceToNat, e4, e16, e15, e15a, W1, W2]; rfl)) <;>
        (apply lpure rfl rfl; (go_simp; with_reducible rfl); (simp only [Act.put, List.setIfInBounds_toArray, List.set_cons_zero, List.set_cons_succ, i64_w, i32_w, u8_wr, tmod_nat, Int.reduceToNat, e4, e16, e15, e15a, W1, W2]; rfl)) <;>
        (apply lend)
      | go_step | fail)
      go_roundg ((r.length : Int) - (x + 1)).toNat
      case measure =>
        have := HK.out
        omega
      case rel => exact ⟨x + 1, ws2, _, _, rfl, rfl, ⟨by rw [← EW1.out, words_succ r hx0 c, EW.out]⟩, ⟨by omega⟩, ⟨Nat.le_refl _⟩, HOW, HOD, Fr_now (HF.part (by rw [EL_.out]; exact List.Sublist.refl _) (fun _ h_ => h_))⟩
    · have c1 : decide (x < (r.length : Int)) = false := decide_eq_false c
      have hwl : ws.length ≤ 16 := by rw [EW.out, List.length_map, List.length_take]; omega
      obtain rfl : x = r.length := by omega
      replace EW := Aside0.mk (show ws = r.map itoaS by rw [EW.out, Int.toNat_natCast, List.take_length])
      repeat' (first
      | ((with_reducible refine gate_region (id := 4) ?_); apply plain_region) <;>
        (apply lpure rfl rfl; (go_simp; with_reducible rfl); (simp only [Act.put, List.setIfInBounds_toArray, List.set_cons_zero, List.set_cons_succ, i64_w, i32_w, u8_wr, tmod_nat, Int.reduceToNat, e4, e16, e15, e15a]; rfl)) <;>
        (apply lend)
      | ((with_reducible refine gate_region (id := 8) ?_); apply plain_region) <;>
        (apply lpure rfl rfl; (go_simp; with_reducible rfl); (simp only [Act.put, List.setIfInBounds_toArray, List.set_cons_zero, List.set_cons_succ, i64_w, i32_w, u8_wr, tmod_nat, Int.reduceToNat, e4, e16, e15, e15a]; rfl)) <;>
        (apply lcall rfl rfl rfl Tryz.func48 (by kernel_rfl) rfl; (with_reducible apply Calls.mono); exact joinR ⟨#[46]⟩ (HF.row_now HOW.out (by simp) (by decide)) (by omega) (by rw [EW.out]; exact HJ.out); rintro e w_ ⟨rfl, hb_⟩; refine ⟨_, rfl, ?_⟩; replace HF := HF.call hb_; clear hb_; rotate_left; (first | rfl | (simp only [List.map_toArray, List.map_cons, List.map_nil]; first | done | rfl)); (refine lnorm (a' := ?_) ?_ ?_; rotate_left; (simp only [Act.put, List.setIfInBounds_toArray, List.set_cons_zero, List.set_cons_succ, i64_w, i32_w, u8_wr, tmod_nat, Int.reduceToNat, e4, e16, e15, e15a]; rfl))) <;>
        (apply lpure rfl rfl; (go_simp; with_reducible rfl); (simp only [Act.put, List.setIfInBounds_toArray, List.set_cons_zero, List.set_cons_succ, i64_w, i32_w, u8_wr, tmod_nat, Int.reduceToNat, e4, e16, e15, e15a]; rfl)) <;>
        (apply lend)
      | go_step | fail)
      go_ret
      exact ⟨by rw [← EW.out]; rfl, HF.below⟩

set_option maxHeartbeats 8000000 in
set_option maxRecDepth 100000 in
theorem addrText6 (k kb : Nat) (a0 : Int) (a1 : Int) (a2 : Int) (a3 : Int) (a4 : Int) (r : List Int) (h4 : a0 ≠ 4) (hb : impl_AddrBytes.f k a0 a1 a2 a3 a4 = some r) (hr : ∀ b ∈ r, 0 ≤ b ∧ b ≤ 255) (hl : r.length ≤ 16) (hev : r.length % 2 = 0)
    (hbe : ∀ x : Int, 0 ≤ x → x + 2 ≤ r.length → impl_beOf.f kb ((r.take (x + 2).toNat).drop x.toNat) = some (be2 r x)) (hw : ∀ x : Int, 0 ≤ be2 r x ∧ be2 r x ≤ 65535)
    (hj : (Lib.join ((hexW r (r.length / 2)).map (·.data.toList)) [58]).length ≤ 140737488355328) (w : World) (hT : TabAt 7 Lib.deBruijn64tab w) :
    Calls Tryz.prog 30 #[.agg #[.int .i64 a0, .int .i64 a1, .int .i64 a2, .int .i64 a3, .int .i64 a4]] w fun e w' => e = .returned (.string ⟨(Lib.join ((hexW r (r.length / 2)).map (·.data.toList)) [58]).toArray⟩) ∧ Below w.heap.size w w' := by
  have hu25 := Tryz.underlying23
  have hu39 := Tryz.underlying41
  have hu42 := Tryz.underlying30
  have z5_ : (Tryz.prog.info? 5).map (·.size) = some 1 := by kernel_rfl
  have info9 : (Tryz.prog.info? 9).map (fun i => (i.zero, i.size, i.bytes)) = some (some (.string ⟨#[]⟩), 1, 16) := by kernel_rfl
  have O5_ : IsOne Tryz.prog 5 := ⟨⟨_, Tryz.underlying5, rfl⟩, by kernel_rfl⟩
  have O3_ : IsOne Tryz.prog 3 := ⟨⟨_, Tryz.underlying3, rfl⟩, by kernel_rfl⟩
  have R25_ : IsRow Tryz.prog 23 5 := ⟨⟨_, Tryz.underlying23, rfl⟩, by kernel_rfl⟩
  have HF := Fr.start [23] w
  have HB := Aside0.mk hb
  have HR := Aside0.mk hr
  have HJ := Aside0.mk hj
  have HT := Aside0.mk hT
  have HE := Aside0.mk hbe
  have HV := Aside0.mk hw
  have c0 : (a0 == 4) = false := beq_eq_false_iff_ne.mpr h4
  clear hb hr hj hT h4 hbe hw
  go_enter Tryz.func30, Tryz.ntmps30
  repeat' (first
      | ((with_reducible refine gate_region (id := 0) ?_); apply plain_region) <;>
        (((with_reducible apply Fr.lbox HF rfl rfl rfl); (go_simp; rfl); decide; clear HF; intro g_ w_ HF); (refine lnorm (a' := ?_) ?_ ?_; rotate_left; (simp only [Act.put, List.setIfInBounds_toArray, List.set_cons_zero, List.set_cons_succ, i64_w, i32_w, u8_wr, tmod_nat, Int.reduceToNat, e4, e16, e15, e15a]; rfl))) <;>
        (apply lpure rfl rfl; (go_simp; with_reducible rfl); (simp only [Act.put, List.setIfInBounds_toArray, List.set_cons_zero, List.set_cons_succ, i64_w, i32_w, u8_wr, tmod_nat, Int.reduceToNat, e4, e16, e15, e15a]; rfl)) <;>
        (apply lend)
      | ((with_reducible refine gate_region (id := 1) ?_); apply plain_region) <;>
        (apply HF.lrow rfl rfl rfl R25_ rfl; (repeat (first | exact At.head | apply At.tail)); (simp only [List.drop_succ_cons, List.drop_zero, List.take_succ_cons, List.take_zero]; rfl); rfl; (simp only [Act.put, List.setIfInBounds_toArray, List.set_cons_zero, List.set_cons_succ, i64_w, i32_w, u8_wr, tmod_nat, Int.reduceToNat, e4, e16, e15, e15a]; rfl)) <;>
        (apply lcall rfl rfl rfl Tryz.func47 (by kernel_rfl) rfl; (with_reducible apply Calls.mono); (with_reducible apply impl_AddrBytes.calls (h := HB.out)); rintro e w_ ⟨v0_, rfl, ho_, hb_⟩; obtain ⟨Ad, cd, rfl⟩ := Kd.R_slice ho_; have HOD := HF.row2 ho_; clear ho_; refine ⟨_, rfl, ?_⟩; replace HF := (HF.call hb_).mark; clear hb_; rotate_left; (first | rfl | (simp only [List.map_toArray, List.map_cons, List.map_nil]; first | done | rfl)); (refine lnorm (a' := ?_) ?_ ?_; rotate_left; (simp only [Act.put, List.setIfInBounds_toArray, List.set_cons_zero, List.set_cons_succ, i64_w, i32_w, u8_wr, tmod_nat, Int.reduceToNat, e4, e16, e15, e15a]; rfl))) <;>
        (have HF0 := HF; apply HF.lempty rfl rfl; (go_simp; first | rfl | exact ⟨rfl, rfl⟩); clear HF; intro g2_ w_ hg_ hb_ hh_ HF; replace HF := HF.mark; have HOW := emptyR_row HF0 hg_ hh_; clear hg_ hb_ hh_ HF0; (refine lnorm (a' := ?_) ?_ ?_; rotate_left; (simp only [Act.put, List.setIfInBounds_toArray, List.set_cons_zero, List.set_cons_succ, i64_w, i32_w, u8_wr, tmod_nat, Int.reduceToNat, e4, e16, e15, e15a]; rfl))) <;>
        (apply lpure rfl rfl; (go_simp; with_reducible rfl); (simp only [Act.put, List.setIfInBounds_toArray, List.set_cons_zero, List.set_cons_succ, i64_w, i32_w, u8_wr, tmod_nat, Int.reduceToNat, e4, e16, e15, e15a]; rfl)) <;>
        (apply lpure rfl rfl; (go_simp; with_reducible rfl); (simp only [Act.put, List.setIfInBounds_toArray, List.set_cons_zero, List.set_cons_succ, i64_w, i32_w, u8_wr, tmod_nat, Int.reduceToNat, e4, e16, e15, e15a]; rfl)) <;>
        (apply lend)
      | ((with_reducible refine gate_region (id := 2) ?_); apply plain_region) <;>
        (apply lpure rfl rfl; (go_simp; with_reducible rfl); (simp only [Act.put, List.setIfInBounds_toArray, List.set_cons_zero, List.set_cons_succ, i64_w, i32_w, u8_wr, tmod_nat, Int.reduceToNat, e4, e16, e15, e15a]; rfl)) <;>
        (apply HF.lone rfl rfl rfl O3_ rfl; (repeat (first | exact At.head | apply At.tail)); rfl; (simp only [Act.put, List.setIfInBounds_toArray, List.set_cons_zero, List.set_cons_succ, i64_w, i32_w, u8_wr, tmod_nat, Int.reduceToNat, e4, e16, e15, e15a]; rfl)) <;>
        (apply lpure rfl rfl; (go_simp; with_reducible rfl); (simp only [Act.put, List.setIfInBounds_toArray, List.set_cons_zero, List.set_cons_succ, i64_w, i32_w, u8_wr, tmod_nat, Int.reduceToNat, e4, e16, e15, e15a]; rfl)) <;>
        (apply lend)
      | ((with_reducible refine gate_region (id := 9) ?_); apply plain_region) <;>
        (apply lpure rfl rfl; (go_simp; with_reducible rfl); (simp only [Act.put, List.setIfInBounds_toArray, List.set_cons_zero, List.set_cons_succ, i64_w, i32_w, u8_wr, tmod_nat, Int.reduceToNat, e4, e16, e15, e15a]; rfl)) <;>
        (apply lend)
      | go_step | fail)
  all_goals (obtain ⟨LV_, HF2_, EL_⟩ := Fr_name HF; clear HF; have HF := HF2_; clear HF2_; go_loopg [4, 7] r.length (fun kq_ v4_ vi_ w_ => ∃ (x : Int) (m : Nat) (ws : List ByteArray) (Aw : Option Addr) (cw : Nat), v4_ = .slice Aw ws.length cw ∧ vi_ = .int .i64 x ∧ Aside0 (ws = hexW r m) ∧ Aside0 (0 ≤ x ∧ x ≤ r.length ∧ x = 2 * (m : Int)) ∧ Aside0 (((r.length : Int) - x).toNat ≤ kq_) ∧ Aside0 (Kd.string.R 9 w_ w.heap.size (fun _ => True) (.slice Aw ws.length cw) ws) ∧ Aside0 ((Kd.int .u8).R 5 w_ w.heap.size (fun _ => True) (.slice Ad r.length cd) r) ∧ Fr [23] w w_ LV_ [w_]))
  case atStart => exact ⟨0, 0, [], _, _, (by first | rfl | simp), rfl, ⟨rfl⟩, ⟨by omega, by omega, rfl⟩, ⟨by simp⟩, ⟨HF.row_now HOW.out (by simp) (by decide)⟩, ⟨Kd.R_mono (HF.row_now HOD.out (by simp) (by decide)) (fun _ _ => trivial)⟩, Fr_now HF⟩
  case round =>
    clear HF HOW HOD
    obtain ⟨x, m, ws, Aw, cw, rfl, rfl, EW, HX, HK, HOW, HOD, HF⟩ := hrel
    have hx0 := HX.out.1
    have hx1 := HX.out.2.1
    have hwl : ws.length ≤ 16 := by have hxm := HX.out.2.2; rw [EW.out]; unfold hexW; rw [List.length_map, List.length_range]; omega
    by_cases c : x < (r.length : Int)
    · have c1 : decide (x < (r.length : Int)) = true := decide_eq_true c
      have W2 : wrap64 (x + 2) = x + 2 := w64 (by omega) (by omega)
      have q1 : x ≤ x + 2 := by omega
      have q2 : x + 2 ≤ (r.length : Int) := by have hxm := HX.out.2.2; omega
      repeat' (first
      | ((with_reducible refine gate_region (id := 10) ?_); apply plain_region) <;>
        (apply lpure rfl rfl; (go_simp; with_reducible rfl); (simp only [Act.put, List.setIfInBounds_toArray, List.set_cons_zero, List.set_cons_succ, i64_w, i32_w, u8_wr, tmod_nat, Int.reduceToNat, e4, e16, e15, e15a, W2]; rfl)) <;>
        (apply lpure rfl rfl; (go_simp; with_reducible rfl); (simp only [Act.put, List.setIfInBounds_toArray, List.set_cons_zero, List.set_cons_succ, i64_w, i32_w, u8_wr, tmod_nat, Int.reduceToNat, e4, e16, e15, e15a, W2]; rfl)) <;>
        (apply lpure rfl rfl; (go_simp; with_reducible rfl); (simp only [Act.put, List.setIfInBounds_toArray, List.set_cons_zero, List.set_cons_succ, i64_w, i32_w, u8_wr, tmod_nat, Int.reduceToNat, e4, e16, e15, e15a, W2]; rfl)) <;>
        (apply lpure rfl rfl; (go_simp; with_reducible rfl); (simp only [Act.put, List.setIfInBounds_toArray, List.set_cons_zero, List.set_cons_succ, i64_w, i32_w, u8_wr, tmod_nat, Int.reduceToNat, e4, e16, e15, e15a, W2]; rfl)) <;>
        (apply lend)
      | ((with_reducible refine gate_region (id := 12) ?_); apply plain_region) <;>
        (apply lpure rfl rfl; (go_simp; with_reducible rfl); (simp only [Act.put, List.setIfInBounds_toArray, List.set_cons_zero, List.set_cons_succ, i64_w, i32_w, u8_wr, tmod_nat, Int.reduceToNat, e4, e16, e15, e15a, W2]; rfl)) <;>
        (apply lpure rfl rfl; (go_simp; with_reducible rfl); (simp only [Act.put, List.setIfInBounds_toArray, List.set_cons_zero, List.set_cons_succ, i64_w, i32_w, u8_wr, tmod_nat, Int.reduceToNat, e4, e16, e15, e15a, W2]; rfl)) <;>
        (apply lpure rfl rfl; (go_simp; with_reducible rfl); (simp only [Act.put, List.setIfInBounds_toArray, List.set_cons_zero, List.set_cons_succ, i64_w, i32_w, u8_wr, tmod_nat, Int.reduceToNat, e4, e16, e15, e15a, W2]; rfl)) <;>
        (apply lpure rfl rfl; (go_simp; with_reducible rfl); (simp only [Act.put, List.setIfInBounds_toArray, List.set_cons_zero, List.set_cons_succ, i64_w, i32_w, u8_wr, tmod_nat, Int.reduceToNat, e4, e16, e15, e15a, W2]; rfl)) <;>
        (apply lpure rfl rfl; (go_simp; with_reducible rfl); (simp only [Act.put, List.setIfInBounds_toArray, List.set_cons_zero, List.set_cons_succ, i64_w, i32_w, u8_wr, tmod_nat, Int.reduceToNat, e4, e16, e15, e15a, W2]; rfl)) <;>
        (apply lpure rfl rfl; (exact run_mid rfl rfl rfl rfl hu39 z5_ (HF.rowC HOD (by simp) (by decide)).2 hx0 q1 q2); (simp only [Act.put, List.setIfInBounds_toArray, List.set_cons_zero, List.set_cons_succ, i64_w, i32_w, u8_wr, tmod_nat, Int.reduceToNat, e4, e16, e15, e15a, W2]; rfl)) <;>
        (apply lcall rfl rfl rfl Tryz.func46 (by kernel_rfl) rfl; (with_reducible apply Calls.mono); (with_reducible apply impl_beOf.calls (h := HE.out x hx0 q2)); exact (C_drop (C_take (HF.rowC HOD (by simp) (by decide)).1 _) (L_take (HF.rowC HOD (by simp) (by decide)).2 _) _); exact (L_drop (L_take (HF.rowC HOD (by simp) (by decide)).2 _) _); rintro e w_ ⟨rfl, hb_⟩; refine ⟨_, rfl, ?_⟩; replace HF := HF.drawn hb_; clear hb_; rotate_left; (first | rfl | (simp only [List.map_toArray, List.map_cons, List.map_nil]; first | done | rfl)); (refine lnorm (a' := ?_) ?_ ?_; rotate_left; (simp only [Act.put, List.setIfInBounds_toArray, List.set_cons_zero, List.set_cons_succ, i64_w, i32_w, u8_wr, tmod_nat, Int.reduceToNat, e4, e16, e15, e15a, W2]; rfl))) <;>
        (apply lcall rfl rfl rfl Tryz.func49 (by kernel_rfl) rfl; (with_reducible apply Calls.mono); exact FormatInt (be2 r x) (HV.out x).1 (HV.out x).2 _ (tab_later HT.out HF.below); rintro e w_ ⟨rfl, hb_⟩; refine ⟨_, rfl, ?_⟩; replace HF := HF.call hb_; clear hb_; rotate_left; (first | rfl | (simp only [List.map_toArray, List.map_cons, List.map_nil]; first | done | rfl)); (refine lnorm (a' := ?_) ?_ ?_; rotate_left; (simp only [Act.put, List.setIfInBounds_toArray, List.set_cons_zero, List.set_cons_succ, i64_w, i32_w, u8_wr, tmod_nat, Int.reduceToNat, e4, e16, e15, e15a, W2]; rfl))) <;>
        (apply lappStr HF rfl rfl ?_ rfl rfl rfl hu42 info9 rfl (by decide) rfl rfl (HF.row_now HOW.out (by simp) (by decide)) (HF.row_now HOD.out (by simp) (by decide)) (by decide) (by decide) (by omega) ?_; rotate_left; (go_simp; first | rfl | exact ⟨rfl, rfl⟩ | exact ⟨rfl, rfl, rfl⟩); intro v_ w_ ho_ hd_ HF1; clear HF HOW HOD; have HF := HF1; clear HF1; obtain ⟨ws2, ew_, ho2_⟩ := R_name ho_; clear ho_; obtain ⟨Aw2, cw2, rfl⟩ := Kd.R_slice ho2_; have HOW := Aside0.mk ho2_; have HOD := Aside0.mk hd_; have EW1 := Aside0.mk ew_; clear ho2_ hd_ ew_; (refine lnorm (a' := ?_) ?_ ?_; rotate_left; (simp only [Act.put, List.setIfInBounds_toArray, List.set_cons_zero, List.set_cons_succ, i64_w, i32_w, u8_wr, tmod_nat, Int.reduceToNat, e4, e16, e15, e15a, W2]; rfl))) <;>
        (apply lpure rfl rfl; (go_simp; with_reducible rfl); (simp only [Act.put, List.setIfInBounds_toArray, List.set_cons_zero, List.set_cons_succ, i64_w, i32_w, u8_wr, tmod_nat, Int.reduceToNat, e4, e16, e15, e15a, W2]; rfl)) <;>
        (apply lend)
      | ((with_reducible refine gate_region (id := 11) ?_); apply plain_region) <;>
        (apply lpure rfl rfl; (go_simp; with_reducible rfl); (simp only [Act.put, List.setIfInBounds_toArray, List.set_cons_zero, List.set_cons_succ, i64_w, i32_w, u8_wr, tmod_nat, Int.reduceToNat, e4, e16, e15, e15a, W2]; rfl)) <;>
        (apply lpure rfl rfl; (go_simp; with_reducible rfl); (simp only [Act.put, List.setIfInBounds_toArray, List.set_cons_zero, List.set_cons_succ, i64_w, i32_w, u8_wr, tmod_nat, Int.reduceToNat, e4, e16, e15, e15a, W2]; rfl)) <;>
        (apply lpure rfl rfl; (go_simp; with_reducible rfl); (simp only [Act.put, List.setIfInBounds_toArray, List.set_cons_zero, List.set_cons_succ, i64_w, i32_w, u8_wr, tmod_nat, Int.reduceToNat, e4, e16, e15, e15a, W2]; rfl)) <;>
        (apply lend)
      | go_step | fail)
      go_roundg ((r.length : Int) - (x + 2)).toNat
      case measure =>
        have := HK.out
        omega
      case rel => exact ⟨x + 2, m + 1, ws2, _, _, rfl, rfl, ⟨by rw [← EW1.out, hexW_succ, EW.out, HX.out.2.2]⟩, ⟨by omega, by omega, by have := HX.out.2.2; omega⟩, ⟨Nat.le_refl _⟩, HOW, HOD, Fr_now (HF.part (by rw [EL_.out]; exact List.Sublist.refl _) (fun _ h_ => h_))⟩
    · have c1 : decide (x < (r.length : Int)) = false := decide_eq_false c
      replace EW := Aside0.mk (show ws = hexW r (r.length / 2) by rw [EW.out, show m = r.length / 2 by have := HX.out.2.2; omega])
      repeat' (first
      | ((with_reducible refine gate_region (id := 10) ?_); apply plain_region) <;>
        (apply lpure rfl rfl; (go_simp; with_reducible rfl); (simp only [Act.put, List.setIfInBounds_toArray, List.set_cons_zero, List.set_cons_succ, i64_w, i32_w, u8_wr, tmod_nat, Int.reduceToNat, e4, e16, e15, e15a]; rfl)) <;>
        (apply lpure rfl rfl; (go_simp; with_reducible rfl); (simp only [Act.put, List.setIfInBounds_toArray, List.set_cons_zero, List.set_cons_succ, i64_w, i32_w, u8_wr, tmod_nat, Int.reduceToNat, e4, e16, e15, e15a]; rfl)) <;>
        (apply lpure rfl rfl; (go_simp; with_reducible rfl); (simp only [Act.put, List.setIfInBounds_toArray, List.set_cons_zero, List.set_cons_succ, i64_w, i32_w, u8_wr, tmod_nat, Int.reduceToNat, e4, e16, e15, e15a]; rfl)) <;>
        (apply lpure rfl rfl; (go_simp; with_reducible rfl); (simp only [Act.put, List.setIfInBounds_toArray, List.set_cons_zero, List.set_cons_succ, i64_w, i32_w, u8_wr, tmod_nat, Int.reduceToNat, e4, e16, e15, e15a]; rfl)) <;>
        (apply lend)
      | ((with_reducible refine gate_region (id := 13) ?_); apply plain_region) <;>
        (apply lpure rfl rfl; (go_simp; with_reducible rfl); (simp only [Act.put, List.setIfInBounds_toArray, List.set_cons_zero, List.set_cons_succ, i64_w, i32_w, u8_wr, tmod_nat, Int.reduceToNat, e4, e16, e15, e15a]; rfl)) <;>
        (apply lcall rfl rfl rfl Tryz.func48 (by kernel_rfl) rfl; (with_reducible apply Calls.mono); exact joinR ⟨#[58]⟩ (HF.row_now HOW.out (by simp) (by decide)) (by omega) (by rw [EW.out]; exact HJ.out); rintro e w_ ⟨rfl, hb_⟩; refine ⟨_, rfl, ?_⟩; replace HF := HF.call hb_; clear hb_; rotate_left; (first | rfl | (simp only [List.map_toArray, List.map_cons, List.map_nil]; first | done | rfl)); (refine lnorm (a' := ?_) ?_ ?_; rotate_left; (simp only [Act.put, List.setIfInBounds_toArray, List.set_cons_zero, List.set_cons_succ, i64_w, i32_w, u8_wr, tmod_nat, Int.reduceToNat, e4, e16, e15, e15a]; rfl))) <;>
        (apply lpure rfl rfl; (go_simp; with_reducible rfl); (simp only [Act.put, List.setIfInBounds_toArray, List.set_cons_zero, List.set_cons_succ, i64_w, i32_w, u8_wr, tmod_nat, Int.reduceToNat, e4, e16, e15, e15a]; rfl)) <;>
        (apply lend)
      | go_step | fail)
      go_ret
      exact ⟨by rw [← EW.out]; rfl, HF.below⟩
end Go.Proofs.YtljeajecajlaiaaGreatDoor.Text
