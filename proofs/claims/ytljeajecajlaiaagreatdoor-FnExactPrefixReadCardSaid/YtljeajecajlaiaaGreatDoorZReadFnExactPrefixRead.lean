/- impl.AddrRead: what it reads, by the contracts of the library's strings.Split, strings.Contains and strconv.ParseUint. Conditions: the tables lie as their initialisers lay them, the error variables hold errors. -/
import Derived.Test.YtljeajecajlaiaaGreatDoorGFnExactPrefixReadx12
import Derived.Test.YtljeajecajlaiaaGreatDoorGFnExactPrefixReadx15
import Derived.Test.YtljeajecajlaiaaGreatDoorZRTextFnExactPrefixRead
import Derived.Test.YtljeajecajlaiaaGreatDoorZPuFnExactPrefixRead
namespace Go.Proofs.YtljeajecajlaiaaGreatDoor.Read
open Go.RowKit Go.Lib Go.Shelf Go.Proofs.YtljeajecajlaiaaGreatDoorW.PrintWords Go.Proofs.YtljeajecajlaiaaGreatDoorW.PrintLast Go.Proofs.YtljeajecajlaiaaGreatDoorW.PrintMore Go.Proofs.YtljeajecajlaiaaGreatDoor.Frame Go.Proofs.YtljeajecajlaiaaGreatDoor.Base Go.Proofs.YtljeajecajlaiaaGreatDoor.Hex Go.Proofs.YtljeajecajlaiaaGreatDoor.Text Go.Proofs.YtljeajecajlaiaaGreatDoor.Spec Go.Proofs.YtljeajecajlaiaaGreatDoor.RText Go.Proofs.YtljeajecajlaiaaGreatDoor.Pu Go.Proofs.YtljeajecajlaiaaGreatDoor.FFnExactPrefixRead
set_option linter.unusedVariables false
set_option linter.unusedSimpArgs false
section
variable {P : Program} {a : Act} {W W' : World} {o : Oper} {t e : Nat} {s x p : Operand} {kl : IntKind} {y : Int} {l : List ByteArray} {c : Nat} {A : Option Addr} {ty : TypeId}
theorem run_idxS (ho : o.op = .indexAddr t s x) (hs : a.eval s = .slice A l.length c) (hx : a.eval x = .int kl y) (ht : P.underlying t = some (.slice e)) (hinfo : (P.info? e).map (·.size) = some 1) (hC : Kd.string.C W A l.length l) (h0 : 0 ≤ y) (h1 : y < l.length) :
    (execOp a.eval o).run P W' = .ok (.value (.pointer (A.map (·.add y.toNat)))) W' := by
  obtain ⟨i, hi, hsz⟩ := Option.map_eq_some_iff.1 hinfo
  obtain ⟨ad, rfl, _⟩ := Kd.at_string hC y h0 h1
  have hel : P.elem t = e := by simp [Program.elem, ht]
  have hu : P.underlying t = some (.slice (P.elem t)) := by rw [hel]; exact ht
  unfold execOp
  simp only [ho, hs, hx, Sem.run_bind, Sem.run_pure, run_indexAt_slice (h := hu), if_pos (show 0 ≤ y ∧ y < (l.length : Int) from ⟨h0, h1⟩), hel]
  simp [sizeOf, typeInfo, hi, hsz, Result.andThen]
theorem run_eltS (ho : o.op = .load ty p) (hp : a.eval p = .pointer (A.map (·.add y.toNat))) (h1 : IsOne P ty) (hC : Kd.string.C W A l.length l) (h0 : 0 ≤ y) (h2 : y < l.length) : (execOp a.eval o).run P W = .ok (.value (.string (rdOf ByteArray.empty l y))) W := by
  obtain ⟨ad, rfl, hc⟩ := Kd.at_string hC y h0 h2
  have hl := run_agg_one (P := P) h1 W
  unfold execOp
  simp [ho, hp, Instr.loadAt, Instr.sureAddr, Sem.run_bind, loadVar, hl, hc]
end
theorem C_strs (w : World) (ws : List ByteArray) (hn : ws.length ≤ 9223372036854775807) : Kd.string.C (w.alloc (.cells (ws.map Value.string).toArray 9)) (some ⟨w.heap.size, 0, none⟩) ws.length ws := by
  refine ⟨rfl, hn, fun _ => ⟨_, rfl, fun j p hj => ⟨[.string p], rfl, rfl, fun i u hi => ?_⟩⟩⟩
  have hi0 : i = 0 := by
    have := (List.getElem?_eq_some_iff.1 hi).1
    simp only [List.length_cons, List.length_nil] at this
    omega
  subst hi0
  have hu : u = .string p := by simpa using hi.symm
  subst hu
  have e2 : (⟨w.heap.size, 0, none⟩ : Addr).add (j * Kd.string.sz + 0) = ⟨w.heap.size, 0 + j, none⟩ := by
    show (⟨w.heap.size, 0, none⟩ : Addr).add (j * 1 + 0) = _
    rw [Nat.mul_one, Nat.add_zero]
    unfold Addr.add
    split <;> simp_all
  rw [e2, Nat.zero_add, blk_cell (blk_new w _) j, List.getElem?_toArray, List.getElem?_map, hj]
  rfl
theorem take_flat {α β : Type} (f : α → List β) {l : List α} {x : Int} {d : α} (h0 : 0 ≤ x) (h1 : x < l.length) : (l.take (x + 1).toNat).flatMap f = (l.take x.toNat).flatMap f ++ f (rdOf d l x) := by
  rw [show (x + 1).toNat = x.toNat + 1 by omega, List.take_add_one, List.flatMap_append]
  congr 1
  unfold rdOf
  rw [List.getD_eq_getElem?_getD]
  have : x.toNat < l.length := by omega
  simp [List.getElem?_eq_getElem this]
theorem flat_len {α β : Type} (f : α → List β) (hf : ∀ x, (f x).length ≤ 2) : ∀ l : List α, (l.flatMap f).length ≤ 2 * l.length
  | [] => Nat.le_refl _
  | x :: r => by
    have := flat_len f hf r
    have := hf x
    simp only [List.flatMap_cons, List.length_append, List.length_cons]
    omega

set_option maxHeartbeats 8000000 in
set_option maxRecDepth 100000 in
theorem bytesRead (b m : Int) (pv : ByteArray → Int) (pf : Int → List Int) (hpv : ∀ t, 0 ≤ pv t ∧ pv t ≤ 4294967295) (hput : ∀ n : Int, 0 ≤ n → n ≤ 4294967295 → impl_put.f 10 n m = some (pf n)) (hlen : ∀ n, (pf n).length ≤ 2) (w : World)
    (hp : ∀ (t : ByteArray) (W : World), t.size ≤ 1048576 → Below w.heap.size w W → Calls Tryz.prog 42 #[.string t, .int .i64 b, .int .i64 32] W fun e w' => ∃ X, e = .returned (.tuple #[.int .u64 (pv t), X]) ∧ Below W.heap.size W w')
    (ws : List ByteArray) (hws : ∀ x ∈ ws, x.size ≤ 1048576) (hn : ws.length ≤ 1048577) (A : Option Addr) (c : Nat) (hC : Kd.string.C w A ws.length ws) :
    Calls Tryz.prog 26 #[.slice A ws.length c, .int .i64 b, .int .i64 m] w fun e w' => ∃ v, e = .returned v ∧ (Kd.int .u8).R 5 w' w.heap.size (fun _ => True) v (ws.flatMap fun t => pf (pv t)) ∧ Below w.heap.size w w' := by
  have hu39 := Tryz.underlying41
  have hu42 := Tryz.underlying30
  have z9_ : (Tryz.prog.info? 9).map (·.size) = some 1 := by kernel_rfl
  have info5_ : (Tryz.prog.info? 5).map (fun i => (i.zero, i.size, i.bytes)) = some (some (.int .u8 0), 1, 1) := by kernel_rfl
  have O9_ : IsOne Tryz.prog 9 := ⟨⟨_, Tryz.underlying9, rfl⟩, by kernel_rfl⟩
  have HF := Fr.start [] w
  have HPR := Aside0.mk hp
  have HCW := Aside0.mk hC
  have HWS := Aside0.mk hws
  have HPV := Aside0.mk hpv
  have HPT := Aside0.mk hput
  have HLN := Aside0.mk hlen
  clear hp hC hws hpv hput hlen
  obtain ⟨f, hf⟩ : ∃ f : ByteArray → List Int, f = fun t => pf (pv t) := ⟨_, rfl⟩
  have HFL := Aside0.mk (show ∀ t, (f t).length ≤ 2 from fun t => by rw [hf]; exact HLN.out _)
  have HFE := Aside0.mk (show ∀ t, pf (pv t) = f t from fun t => by rw [hf])
  rw [← hf]
  clear hf
  go_enter Tryz.func26, Tryz.ntmps26
  repeat' (first
      | ((with_reducible refine gate_region (id := 0) ?_); apply plain_region) <;>
        (apply lpure rfl rfl; (go_simp; with_reducible rfl); (simp only [Act.put, List.setIfInBounds_toArray, List.set_cons_zero, List.set_cons_succ, i64_w, i32_w, u8_wr, tmod_nat, Int.reduceToNat, e4, e16, e15, e15a]; rfl)) <;>
        (apply lend)
      | ((with_reducible refine gate_region (id := 1) ?_); apply plain_region) <;>
        (have HF0 := HF; apply HF.lempty rfl rfl; (go_simp; first | rfl | exact ⟨rfl, rfl⟩); clear HF; intro g2_ w_ hg_ hb_ hh_ HF; replace HF := HF.mark; have HOD := empty_row (k := .u8) HF0 hg_ hh_; clear hg_ hb_ hh_ HF0; (refine lnorm (a' := ?_) ?_ ?_; rotate_left; (simp only [Act.put, List.setIfInBounds_toArray, List.set_cons_zero, List.set_cons_succ, i64_w, i32_w, u8_wr, tmod_nat, Int.reduceToNat, e4, e16, e15, e15a]; rfl))) <;>
        (apply lpure rfl rfl; (go_simp; with_reducible rfl); (simp only [Act.put, List.setIfInBounds_toArray, List.set_cons_zero, List.set_cons_succ, i64_w, i32_w, u8_wr, tmod_nat, Int.reduceToNat, e4, e16, e15, e15a]; rfl)) <;>
        (apply lend)
      | ((with_reducible refine gate_region (id := 2) ?_); apply plain_region) <;>
        (apply lpure rfl rfl; (go_simp; with_reducible rfl); (simp only [Act.put, List.setIfInBounds_toArray, List.set_cons_zero, List.set_cons_succ, i64_w, i32_w, u8_wr, tmod_nat, Int.reduceToNat, e4, e16, e15, e15a]; rfl)) <;>
        (apply lpure rfl rfl; (go_simp; with_reducible rfl); (simp only [Act.put, List.setIfInBounds_toArray, List.set_cons_zero, List.set_cons_succ, i64_w, i32_w, u8_wr, tmod_nat, Int.reduceToNat, e4, e16, e15, e15a]; rfl)) <;>
        (apply lpure rfl rfl; (go_simp; with_reducible rfl); (simp only [Act.put, List.setIfInBounds_toArray, List.set_cons_zero, List.set_cons_succ, i64_w, i32_w, u8_wr, tmod_nat, Int.reduceToNat, e4, e16, e15, e15a]; rfl)) <;>
        (apply lend)
      | go_step | fail)
  all_goals (obtain ⟨LV_, HF2_, EL_⟩ := Fr_name HF; clear HF; have HF := HF2_; clear HF2_; go_loopg [7, 15] ws.length (fun kq_ v7_ vi_ w_ => ∃ (x : Int) (ds : List Int) (Ad : Option Addr) (cd : Nat), v7_ = .slice Ad ds.length cd ∧ vi_ = .int .i64 x ∧ Aside0 (ds = (ws.take x.toNat).flatMap f) ∧ Aside0 (0 ≤ x ∧ x ≤ ws.length) ∧ Aside0 (((ws.length : Int) - x).toNat ≤ kq_) ∧ Aside0 ((Kd.int .u8).R 5 w_ w.heap.size (fun _ => True) (.slice Ad ds.length cd) ds) ∧ Fr [] w w_ LV_ [w_]))
  case atStart => exact ⟨0, [], _, _, (by first | rfl | simp), rfl, ⟨by simp⟩, ⟨by omega⟩, ⟨by simp⟩, ⟨Kd.R_mono (HF.row_now HOD.out (by simp) (by decide)) (fun _ _ => trivial)⟩, Fr_now HF⟩
  case round =>
    clear HF HOD
    obtain ⟨x, ds, Ad, cd, rfl, rfl, EW, HX, HK, HOD, HF⟩ := hrel
    have hx0 := HX.out.1
    have hx1 := HX.out.2
    by_cases c : x < (ws.length : Int)
    · have c1 : decide (x < (ws.length : Int)) = true := decide_eq_true c
      have hX : (rdOf ByteArray.empty ws x).size ≤ 1048576 := HWS.out _ (by
        unfold rdOf
        rw [List.getD_eq_getElem?_getD, List.getElem?_eq_getElem (show x.toNat < ws.length by omega)]
        exact List.getElem_mem _)
      have hv := HPV.out (rdOf ByteArray.empty ws x)
      have HPUT := Aside0.mk (HPT.out (pv (rdOf ByteArray.empty ws x)) hv.1 hv.2)
      have hpl := HLN.out (pv (rdOf ByteArray.empty ws x))
      have hdl : ds.length ≤ 2097154 := by
        rw [EW.out]
        have := flat_len f HFL.out (ws.take x.toNat)
        rw [List.length_take] at this
        omega
      have HTF := Aside0.mk (take_flat f (d := ByteArray.empty) hx0 c)
      have W1 : wrap64 (pv (rdOf ByteArray.empty ws x)) = pv (rdOf ByteArray.empty ws x) := w64 (by omega) (by omega)
      have W2 : wrap64 (x + 1) = x + 1 := w64 (by omega) (by omega)
      repeat' (first
      | ((with_reducible refine gate_region (id := 3) ?_); apply plain_region) <;>
        (apply lpure rfl rfl; (go_simp; with_reducible rfl); (simp only [Act.put, List.setIfInBounds_toArray, List.set_cons_zero, List.set_cons_succ, i64_w, i32_w, u8_wr, tmod_nat, Int.reduceToNat, e4, e16, e15, e15a, W1, W2]; rfl)) <;>
        (apply lend)
      | ((with_reducible refine gate_region (id := 4) ?_); apply plain_region) <;>
        (apply lpure rfl rfl; (exact run_idxS rfl rfl rfl hu42 z9_ (Kd.C_below HCW.out HF.below) hx0 c); (simp only [Act.put, List.setIfInBounds_toArray, List.set_cons_zero, List.set_cons_succ, i64_w, i32_w, u8_wr, tmod_nat, Int.reduceToNat, e4, e16, e15, e15a, W1, W2]; rfl)) <;>
        (apply lelt rfl rfl; exact run_eltS rfl rfl O9_ (Kd.C_below HCW.out HF.below) hx0 c; (simp only [Act.put, List.setIfInBounds_toArray, List.set_cons_zero, List.set_cons_succ, i64_w, i32_w, u8_wr, tmod_nat, Int.reduceToNat, e4, e16, e15, e15a, W1, W2]; rfl)) <;>
        (apply lpure rfl rfl; (go_simp; with_reducible rfl); (simp only [Act.put, List.setIfInBounds_toArray, List.set_cons_zero, List.set_cons_succ, i64_w, i32_w, u8_wr, tmod_nat, Int.reduceToNat, e4, e16, e15, e15a, W1, W2]; rfl)) <;>
        (apply lend)
      | ((with_reducible refine gate_region (id := 5) ?_); apply plain_region) <;>
        (apply lpure rfl rfl; (go_simp; with_reducible rfl); (simp only [Act.put, List.setIfInBounds_toArray, List.set_cons_zero, List.set_cons_succ, i64_w, i32_w, u8_wr, tmod_nat, Int.reduceToNat, e4, e16, e15, e15a, W1, W2]; rfl)) <;>
        (apply lpure rfl rfl; (go_simp; with_reducible rfl); (simp only [Act.put, List.setIfInBounds_toArray, List.set_cons_zero, List.set_cons_succ, i64_w, i32_w, u8_wr, tmod_nat, Int.reduceToNat, e4, e16, e15, e15a, W1, W2]; rfl)) <;>
        (apply lcall rfl rfl rfl Tryz.func42 (by kernel_rfl) rfl; (with_reducible apply Calls.mono); exact HPR.out _ _ hX HF.below; rintro e w_ ⟨X_, rfl, hb_⟩; refine ⟨_, rfl, ?_⟩; replace HF := HF.call hb_; clear hb_; rotate_left; (first | rfl | (simp only [List.map_toArray, List.map_cons, List.map_nil]; first | done | rfl)); (refine lnorm (a' := ?_) ?_ ?_; rotate_left; (simp only [Act.put, List.setIfInBounds_toArray, List.set_cons_zero, List.set_cons_succ, i64_w, i32_w, u8_wr, tmod_nat, Int.reduceToNat, e4, e16, e15, e15a, W1, W2]; rfl))) <;>
        (apply lpure rfl rfl; (go_simp; with_reducible rfl); (simp only [Act.put, List.setIfInBounds_toArray, List.set_cons_zero, List.set_cons_succ, i64_w, i32_w, u8_wr, tmod_nat, Int.reduceToNat, e4, e16, e15, e15a, W1, W2]; rfl)) <;>
        (apply lpure rfl rfl; (go_simp; with_reducible rfl); (simp only [Act.put, List.setIfInBounds_toArray, List.set_cons_zero, List.set_cons_succ, i64_w, i32_w, u8_wr, tmod_nat, Int.reduceToNat, e4, e16, e15, e15a, W1, W2]; rfl)) <;>
        (apply lpure rfl rfl; (go_simp; with_reducible rfl); (simp only [Act.put, List.setIfInBounds_toArray, List.set_cons_zero, List.set_cons_succ, i64_w, i32_w, u8_wr, tmod_nat, Int.reduceToNat, e4, e16, e15, e15a, W1, W2]; rfl)) <;>
        (apply lpure rfl rfl; (go_simp; with_reducible rfl); (simp only [Act.put, List.setIfInBounds_toArray, List.set_cons_zero, List.set_cons_succ, i64_w, i32_w, u8_wr, tmod_nat, Int.reduceToNat, e4, e16, e15, e15a, W1, W2]; rfl)) <;>
        (apply lpure rfl rfl; (go_simp; with_reducible rfl); (simp only [Act.put, List.setIfInBounds_toArray, List.set_cons_zero, List.set_cons_succ, i64_w, i32_w, u8_wr, tmod_nat, Int.reduceToNat, e4, e16, e15, e15a, W1, W2]; rfl)) <;>
        (apply lend)
      | ((with_reducible refine gate_region (id := 6) ?_); apply plain_region) <;>
        (apply lpure rfl rfl; (go_simp; with_reducible rfl); (simp only [Act.put, List.setIfInBounds_toArray, List.set_cons_zero, List.set_cons_succ, i64_w, i32_w, u8_wr, tmod_nat, Int.reduceToNat, e4, e16, e15, e15a, W1, W2]; rfl)) <;>
        (apply lpure rfl rfl; (go_simp; with_reducible rfl); (simp only [Act.put, List.setIfInBounds_toArray, List.set_cons_zero, List.set_cons_succ, i64_w, i32_w, u8_wr, tmod_nat, Int.reduceToNat, e4, e16, e15, e15a, W1, W2]; rfl)) <;>
        (apply lpure rfl rfl; (go_simp; with_reducible rfl); (simp only [Act.put, List.setIfInBounds_toArray, List.set_cons_zero, List.set_cons_succ, i64_w, i32_w, u8_wr, tmod_nat, Int.reduceToNat, e4, e16, e15, e15a, W1, W2]; rfl)) <;>
        (apply lpure rfl rfl; (go_simp; with_reducible rfl); (simp only [Act.put, List.setIfInBounds_toArray, List.set_cons_zero, List.set_cons_succ, i64_w, i32_w, u8_wr, tmod_nat, Int.reduceToNat, e4, e16, e15, e15a, W1, W2]; rfl)) <;>
        (apply lcall rfl rfl rfl Tryz.func43 (by kernel_rfl) rfl; (with_reducible apply Calls.mono); (with_reducible apply impl_put.calls (h := HPUT.out)); rintro e w_ ⟨v0_, rfl, ho_, hb_⟩; obtain ⟨Ap, cp, rfl⟩ := Kd.R_slice ho_; have HOP := HF.row2 ho_; clear ho_; refine ⟨_, rfl, ?_⟩; replace HF := (HF.call hb_).mark; clear hb_; rotate_left; (first | rfl | (simp only [List.map_toArray, List.map_cons, List.map_nil]; first | done | rfl)); (refine lnorm (a' := ?_) ?_ ?_; rotate_left; (simp only [Act.put, List.setIfInBounds_toArray, List.set_cons_zero, List.set_cons_succ, i64_w, i32_w, u8_wr, tmod_nat, Int.reduceToNat, e4, e16, e15, e15a, W1, W2]; rfl))) <;>
        (refine ⟨wpList_step fun K_ hK_ => ?_⟩; refine run_append (k := .u8) HF rfl rfl rfl hu39 info5_ (by decide) rfl rfl (HF.row_now HOD.out (by simp) (by decide)) (by decide) (HF.rowC HOP (by simp) (by decide)).1 (by omega) ?_; intro v_ w_ ho_ HF1; clear HF HOD; have HF := HF1; clear HF1; obtain ⟨ds2, ed_, ho2_⟩ := R_name ho_; clear ho_; obtain ⟨Ad2, cd2, rfl⟩ := Kd.R_slice ho2_; have HOD := Aside0.mk ho2_; have ED := Aside0.mk ed_; clear ho2_ ed_; refine (hK_ _ _ (GL.out ?_)); clear hK_; (refine lnorm (a' := ?_) ?_ ?_; rotate_left; (simp only [Act.put, List.setIfInBounds_toArray, List.set_cons_zero, List.set_cons_succ, i64_w, i32_w, u8_wr, tmod_nat, Int.reduceToNat, e4, e16, e15, e15a, W1, W2]; rfl))) <;>
        (apply lpure rfl rfl; (go_simp; with_reducible rfl); (simp only [Act.put, List.setIfInBounds_toArray, List.set_cons_zero, List.set_cons_succ, i64_w, i32_w, u8_wr, tmod_nat, Int.reduceToNat, e4, e16, e15, e15a, W1, W2]; rfl)) <;>
        (apply lend)
      | ((with_reducible refine gate_region (id := 7) ?_); apply plain_region) <;>
        (apply lpure rfl rfl; (go_simp; with_reducible rfl); (simp only [Act.put, List.setIfInBounds_toArray, List.set_cons_zero, List.set_cons_succ, i64_w, i32_w, u8_wr, tmod_nat, Int.reduceToNat, e4, e16, e15, e15a, W1, W2]; rfl)) <;>
        (apply lpure rfl rfl; (go_simp; with_reducible rfl); (simp only [Act.put, List.setIfInBounds_toArray, List.set_cons_zero, List.set_cons_succ, i64_w, i32_w, u8_wr, tmod_nat, Int.reduceToNat, e4, e16, e15, e15a, W1, W2]; rfl)) <;>
        (apply lend)
      | go_step | fail)
      go_roundg ((ws.length : Int) - (x + 1)).toNat
      case measure =>
        have := HK.out
        omega
      case rel => exact ⟨x + 1, ds2, _, _, rfl, rfl, ⟨by rw [← ED.out, HTF.out, EW.out, HFE.out]⟩, ⟨by omega⟩, ⟨Nat.le_refl _⟩, HOD, Fr_now (HF.part (by rw [EL_.out]; exact List.Sublist.refl _) (fun _ h_ => h_))⟩
    · have c1 : decide (x < (ws.length : Int)) = false := decide_eq_false c
      obtain rfl : x = ws.length := by omega
      replace EW := Aside0.mk (show ds = ws.flatMap f by rw [EW.out, Int.toNat_natCast, List.take_length])
      repeat' (first
      | ((with_reducible refine gate_region (id := 3) ?_); apply plain_region) <;>
        (apply lpure rfl rfl; (go_simp; with_reducible rfl); (simp only [Act.put, List.setIfInBounds_toArray, List.set_cons_zero, List.set_cons_succ, i64_w, i32_w, u8_wr, tmod_nat, Int.reduceToNat, e4, e16, e15, e15a]; rfl)) <;>
        (apply lend)
      | ((with_reducible refine gate_region (id := 8) ?_); apply plain_region) <;>
        (apply lpure rfl rfl; (go_simp; with_reducible rfl); (simp only [Act.put, List.setIfInBounds_toArray, List.set_cons_zero, List.set_cons_succ, i64_w, i32_w, u8_wr, tmod_nat, Int.reduceToNat, e4, e16, e15, e15a]; rfl)) <;>
        (apply lpure rfl rfl; (go_simp; with_reducible rfl); (simp only [Act.put, List.setIfInBounds_toArray, List.set_cons_zero, List.set_cons_succ, i64_w, i32_w, u8_wr, tmod_nat, Int.reduceToNat, e4, e16, e15, e15a]; rfl)) <;>
        (apply lend)
      | go_step | fail)
      go_ret
      exact ⟨_, rfl, by rw [← EW.out]; exact Kd.R_mono (HF.row_now HOD.out (by simp) (by decide)) (fun _ _ => trivial), HF.below⟩

def dot : ByteArray := ⟨#[46]⟩
def col : ByteArray := ⟨#[58]⟩
/-- The pieces between the bytes c. -/
def split (c : ByteArray) (s : ByteArray) : List ByteArray := Lib.splitB c 0 (Lib.countB s c) s
def f10 (t : ByteArray) : List Int := [pv10 t % 256]
def f16 (t : ByteArray) : List Int := [pv16 t / 256 % 256, pv16 t % 256]
def hasCol (s : ByteArray) : Bool := decide (0 ≤ Lib.indexByte s.data.toList 58)
/-- The bytes that impl.AddrRead reads. -/
def implData (s : ByteArray) : List Int := if hasCol s = true then (split col s).flatMap f16 else (split dot s).flatMap f10
theorem split_len (c s : ByteArray) (h : c.size = 1) : (split c s).length = Lib.countB s c + 1 := (Lib.splitB_all c (by omega) 0 _ s rfl)
theorem putOne {k : Nat} (hk : 10 ≤ k) {a : Int} : impl_put.f k a 1 = some [a % 256] := by
  obtain ⟨k, rfl⟩ : ∃ q, k = q + 10 := ⟨k - 10, by omega⟩
  have e : impl_put.f (k + 10) a 1 = impl_put.l0 (k + 10) a 1 [0] 1 0 := rfl
  rw [e, AddrLaw.put_step _ a 1 [0] 1 0 0 (by decide) (by decide) (by decide) (by decide) (by decide) (by decide)]
  rw [AddrLaw.put_end _ a 1 _ 1 _ (by decide)]
  simp

theorem piece_le (sep : ByteArray) : ∀ (k : Nat) (s : ByteArray), ∀ x ∈ Lib.splitB sep 0 k s, x.size ≤ s.size
  | 0, s, x, hx => by
    rw [Lib.splitB_zero, List.mem_singleton] at hx
    rw [hx]
    exact Nat.le_refl _
  | k + 1, s, x, hx => by
    rcases Lib.indexB_cases s sep with h | ⟨i, h, hr⟩
    · rw [Lib.splitB_miss _ _ _ _ h, List.mem_singleton] at hx
      rw [hx]
      exact Nat.le_refl _
    · rw [Lib.splitB_hit _ _ _ _ i h, List.mem_cons] at hx
      rcases hx with rfl | hx
      · rw [ByteArray.size_extract]
        omega
      · have := piece_le sep k _ x hx
        rw [ByteArray.size_extract] at this
        omega
def MaxLen (w : World) : Prop := ∃ m, w.cell? ⟨0, 0, none⟩ = some (.int .i64 m)
theorem MaxLen.later {w W : World} (h : MaxLen w) (hb : Below w.heap.size w W) : MaxLen W := by
  obtain ⟨e, h1⟩ := h
  exact ⟨e, (hb.cell (World.block_lt_of_cell? w _ h1)).trans h1⟩
theorem splitC (c s : ByteArray) (hc : c.size = 1) (hs : s.size ≤ 1048576) (w : World) (hm : MaxLen w) : Calls Tryz.prog 27 #[.string s, .string c] w fun e w' => ∃ g : Nat, e = .returned (.slice (some ⟨g, 0, none⟩) (split c s).length (split c s).length) ∧ Kd.string.C w' (some ⟨g, 0, none⟩) (split c s).length (split c s) ∧ Below w.heap.size w w' := by
  obtain ⟨m, hm⟩ := hm
  have hl := split_len c s hc
  have hle := Lib.countB_le c (by omega) s.size s (Nat.le_refl _)
  refine (Any.strings_Split { Tryz.laysM146 with } Tryz.laysM146.i9 s c m w (by omega) hm (by omega)).mono ?_
  rintro e w' ⟨rfl, rfl⟩
  refine ⟨w.heap.size, ?_, C_strs w (split c s) (by omega), Below.alloc (Below.refl _ _) (Nat.le_refl _) _⟩
  rw [hl]
theorem containsC (s : ByteArray) (w : World) : Calls Tryz.prog 28 #[.string s, .string col] w fun e w' => e = .returned (.bool (hasCol s)) ∧ Below w.heap.size w w' :=
  (Any.strings_Contains_one Tryz.lays144 s 58 w).mono (by rintro e w' ⟨rfl, rfl⟩; exact ⟨rfl, Below.refl _ _⟩)
theorem put2' {a : Int} : impl_put.f 10 a 2 = some [a / 256 % 256, a % 256] := AddrLaw.put2 (Nat.le_refl _)
theorem bytes10 (c s : ByteArray) (hc : c.size = 1) (hs : s.size ≤ 1048576) (w : World) (hE : Errs w) (A : Option Addr) (hC : Kd.string.C w A (split c s).length (split c s)) :
    Calls Tryz.prog 26 #[.slice A (split c s).length (split c s).length, .int .i64 10, .int .i64 1] w fun e w' => ∃ v, e = .returned v ∧ (Kd.int .u8).R 5 w' w.heap.size (fun _ => True) v ((split c s).flatMap f10) ∧ Below w.heap.size w w' :=
  bytesRead 10 1 pv10 (fun n => [n % 256]) pv10_le (fun n _ _ => putOne (Nat.le_refl _)) (fun _ => by simp) w (fun t W ht hb => parse10 t (by omega) W (hE.later hb)) (split c s) (fun x hx => Nat.le_trans (piece_le c _ s x hx) hs) (by
    have := split_len c s hc
    have := Lib.countB_le c (by omega) s.size s (Nat.le_refl _)
    omega) A _ hC
theorem bytes16 (c s : ByteArray) (hc : c.size = 1) (hs : s.size ≤ 1048576) (w : World) (hE : Errs w) (A : Option Addr) (hC : Kd.string.C w A (split c s).length (split c s)) :
    Calls Tryz.prog 26 #[.slice A (split c s).length (split c s).length, .int .i64 16, .int .i64 2] w fun e w' => ∃ v, e = .returned v ∧ (Kd.int .u8).R 5 w' w.heap.size (fun _ => True) v ((split c s).flatMap f16) ∧ Below w.heap.size w w' :=
  bytesRead 16 2 pv16 (fun n => [n / 256 % 256, n % 256]) pv16_le (fun n _ _ => put2') (fun _ => by simp) w (fun t W ht hb => parse16 t (by omega) W (hE.later hb)) (split c s) (fun x hx => Nat.le_trans (piece_le c _ s x hx) hs) (by
    have := split_len c s hc
    have := Lib.countB_le c (by omega) s.size s (Nat.le_refl _)
    omega) A _ hC

theorem toList_inj {a b : ByteArray} (h : a.toList = b.toList) : a = b := by
  rw [ByteArray.toList_eq, ByteArray.toList_eq] at h
  exact ByteArray.ext (Array.toList_inj.mp h)

set_option maxHeartbeats 8000000 in
set_option maxRecDepth 100000 in
theorem addrRead_000 (s : ByteArray) (hs : s.size ≤ 1048576) (k : Nat) (b0 b1 b2 b3 b4 : Int) (hcol : hasCol s = false) (hA : impl_AddrOf.f k ((split dot s).flatMap f10) = some (b0, b1, b2, b3, b4, false)) (w : World) (hE : Errs w) (hM : MaxLen w) (htab : Lib.TabIs Tryz.prog w "internal/strconv.uint64pow10" .u64 Lib.pow10Tab) (hT : TabAt 7 Lib.deBruijn64tab w) :
    Calls Tryz.prog 12 #[.string s] w fun e w' => e = .returned (.tuple #[.agg #[.int .i64 0, .int .i64 0, .int .i64 0, .int .i64 0, .int .i64 0], .bool false]) ∧ Below w.heap.size w w' := by
  have R25_ : IsRow Tryz.prog 23 5 := ⟨⟨_, Tryz.underlying23, rfl⟩, by kernel_rfl⟩
  have HF := Fr.start [23] w
  have HE := Aside0.mk hE
  have HM := Aside0.mk hM
  have HTB := Aside0.mk htab
  have HTT := Aside0.mk hT
  have HA := Aside0.mk hA
  clear hE hM htab hT hA
  go_enter Tryz.func12, Tryz.ntmps12
  repeat' (first
      | ((with_reducible refine gate_region (id := 0) ?_); apply plain_region) <;>
        ((with_reducible apply Fr.lalloc HF rfl rfl rfl); (go_simp; rfl); decide; clear HF; intro g_ w_ HF; (refine lnorm (a' := ?_) ?_ ?_; rotate_left; (simp only [Act.put, List.setIfInBounds_toArray, List.set_cons_zero, List.set_cons_succ, i64_w, i32_w, u8_wr, tmod_nat, Int.reduceToNat, e4, e16, e15, e15a, hcol]; rfl))) <;>
        (apply lpure rfl rfl; (go_simp; with_reducible rfl); (simp only [Act.put, List.setIfInBounds_toArray, List.set_cons_zero, List.set_cons_succ, i64_w, i32_w, u8_wr, tmod_nat, Int.reduceToNat, e4, e16, e15, e15a, hcol]; rfl)) <;>
        (apply lend)
      | ((with_reducible refine gate_region (id := 1) ?_); apply plain_region) <;>
        (apply lpure rfl rfl; (go_simp; with_reducible rfl); (simp only [Act.put, List.setIfInBounds_toArray, List.set_cons_zero, List.set_cons_succ, i64_w, i32_w, u8_wr, tmod_nat, Int.reduceToNat, e4, e16, e15, e15a, hcol]; rfl)) <;>
        (apply lcall rfl rfl rfl Tryz.func27 (by kernel_rfl) rfl; (with_reducible apply Calls.mono); exact splitC dot s rfl hs _ (HM.out.later HF.below); rintro e w_ ⟨gs_, rfl, hc_, hb_⟩; refine ⟨_, rfl, ?_⟩; replace HF := HF.call hb_; clear hb_; have HC := Aside0.mk hc_; clear hc_; rotate_left; (first | rfl | (simp only [List.map_toArray, List.map_cons, List.map_nil]; first | done | rfl)); (refine lnorm (a' := ?_) ?_ ?_; rotate_left; (simp only [Act.put, List.setIfInBounds_toArray, List.set_cons_zero, List.set_cons_succ, i64_w, i32_w, u8_wr, tmod_nat, Int.reduceToNat, e4, e16, e15, e15a, hcol]; rfl))) <;>
        (apply lcall rfl rfl rfl Tryz.func26 (by kernel_rfl) rfl; (with_reducible apply Calls.mono); exact bytes10 dot s rfl hs _ (HE.out.later HF.below) _ HC.out; rintro e w_ ⟨v0_, rfl, ho_, hb_⟩; obtain ⟨D_, ed_, ho2_⟩ := R_name ho_; clear ho_; (try rw [ed_] at HA); clear ed_; obtain ⟨Ad, cd, rfl⟩ := Kd.R_slice ho2_; have HOD := HF.row2 ho2_; clear ho2_ HC; refine ⟨_, rfl, ?_⟩; replace HF := (HF.call hb_).mark; clear hb_; rotate_left; (first | rfl | (simp only [List.map_toArray, List.map_cons, List.map_nil]; first | done | rfl)); (refine lnorm (a' := ?_) ?_ ?_; rotate_left; (simp only [Act.put, List.setIfInBounds_toArray, List.set_cons_zero, List.set_cons_succ, i64_w, i32_w, u8_wr, tmod_nat, Int.reduceToNat, e4, e16, e15, e15a, hcol]; rfl))) <;>
        (apply lpure rfl rfl; (go_simp; with_reducible rfl); (simp only [Act.put, List.setIfInBounds_toArray, List.set_cons_zero, List.set_cons_succ, i64_w, i32_w, u8_wr, tmod_nat, Int.reduceToNat, e4, e16, e15, e15a, hcol]; rfl)) <;>
        (apply lend)
      | ((with_reducible refine gate_region (id := 2) ?_); apply plain_region) <;>
        (apply lpure rfl rfl; (go_simp; with_reducible rfl); (simp only [Act.put, List.setIfInBounds_toArray, List.set_cons_zero, List.set_cons_succ, i64_w, i32_w, u8_wr, tmod_nat, Int.reduceToNat, e4, e16, e15, e15a, hcol]; rfl)) <;>
        (apply lcall rfl rfl rfl Tryz.func28 (by kernel_rfl) rfl; (with_reducible apply Calls.mono); exact containsC s _; rintro e w_ ⟨rfl, hb_⟩; refine ⟨_, rfl, ?_⟩; replace HF := HF.call hb_; clear hb_; rotate_left; (first | rfl | (simp only [List.map_toArray, List.map_cons, List.map_nil]; first | done | rfl)); (refine lnorm (a' := ?_) ?_ ?_; rotate_left; (simp only [Act.put, List.setIfInBounds_toArray, List.set_cons_zero, List.set_cons_succ, i64_w, i32_w, u8_wr, tmod_nat, Int.reduceToNat, e4, e16, e15, e15a, hcol]; rfl))) <;>
        (apply lend)
      | ((with_reducible refine gate_region (id := 4) ?_); apply plain_region) <;>
        (apply lpure rfl rfl; (go_simp; with_reducible rfl); (simp only [Act.put, List.setIfInBounds_toArray, List.set_cons_zero, List.set_cons_succ, i64_w, i32_w, u8_wr, tmod_nat, Int.reduceToNat, e4, e16, e15, e15a, hcol]; rfl)) <;>
        (apply lcall rfl rfl rfl Tryz.func29 (by kernel_rfl) rfl; (with_reducible apply Calls.mono); (with_reducible apply impl_AddrOf.calls (h := HA.out)); exact (HF.rowC HOD (by simp) (by decide)).1; exact (HF.rowC HOD (by simp) (by decide)).2; rintro e w_ ⟨rfl, hb_⟩; refine ⟨_, rfl, ?_⟩; replace HF := HF.call hb_; clear hb_; rotate_left; (first | rfl | (simp only [List.map_toArray, List.map_cons, List.map_nil]; first | done | rfl)); (refine lnorm (a' := ?_) ?_ ?_; rotate_left; (simp only [Act.put, List.setIfInBounds_toArray, List.set_cons_zero, List.set_cons_succ, i64_w, i32_w, u8_wr, tmod_nat, Int.reduceToNat, e4, e16, e15, e15a, hcol]; rfl))) <;>
        (apply lpure rfl rfl; (go_simp; with_reducible rfl); (simp only [Act.put, List.setIfInBounds_toArray, List.set_cons_zero, List.set_cons_succ, i64_w, i32_w, u8_wr, tmod_nat, Int.reduceToNat, e4, e16, e15, e15a, hcol]; rfl)) <;>
        (apply lpure rfl rfl; (go_simp; with_reducible rfl); (simp only [Act.put, List.setIfInBounds_toArray, List.set_cons_zero, List.set_cons_succ, i64_w, i32_w, u8_wr, tmod_nat, Int.reduceToNat, e4, e16, e15, e15a, hcol]; rfl)) <;>
        (apply lpure rfl rfl; (go_simp; with_reducible rfl); (simp only [Act.put, List.setIfInBounds_toArray, List.set_cons_zero, List.set_cons_succ, i64_w, i32_w, u8_wr, tmod_nat, Int.reduceToNat, e4, e16, e15, e15a, hcol]; rfl)) <;>
        ((with_reducible apply Fr.lalloc HF rfl rfl rfl); (go_simp; rfl); decide; clear HF; intro g_ w_ HF; (refine lnorm (a' := ?_) ?_ ?_; rotate_left; (simp only [Act.put, List.setIfInBounds_toArray, List.set_cons_zero, List.set_cons_succ, i64_w, i32_w, u8_wr, tmod_nat, Int.reduceToNat, e4, e16, e15, e15a, hcol]; rfl))) <;>
        ((with_reducible apply Fr.lstoreRow HF rfl rfl rfl); assumption; rfl; (go_simp; rfl); rfl; rfl; (repeat (first | apply At.head | apply At.tail)); (simp only [List.drop_succ_cons, List.drop_zero, List.drop_nil, List.take_succ_cons, List.take_zero, List.cons_append, List.nil_append, List.append_nil]; rfl); simp; clear HF; intro w_ HF) <;>
        (apply lpure rfl rfl; (go_simp; with_reducible rfl); (simp only [Act.put, List.setIfInBounds_toArray, List.set_cons_zero, List.set_cons_succ, i64_w, i32_w, u8_wr, tmod_nat, Int.reduceToNat, e4, e16, e15, e15a, hcol]; rfl)) <;>
        (apply lend)
      | ((with_reducible refine gate_region (id := 5) ?_); apply plain_region) <;>
        (apply lpure rfl rfl; (go_simp; with_reducible rfl); (simp only [Act.put, List.setIfInBounds_toArray, List.set_cons_zero, List.set_cons_succ, i64_w, i32_w, u8_wr, tmod_nat, Int.reduceToNat, e4, e16, e15, e15a, hcol]; rfl)) <;>
        (apply lpure rfl rfl; (go_simp; with_reducible rfl); (simp only [Act.put, List.setIfInBounds_toArray, List.set_cons_zero, List.set_cons_succ, i64_w, i32_w, u8_wr, tmod_nat, Int.reduceToNat, e4, e16, e15, e15a, hcol]; rfl)) <;>
        (apply lpure rfl rfl; (go_simp; with_reducible rfl); (simp only [Act.put, List.setIfInBounds_toArray, List.set_cons_zero, List.set_cons_succ, i64_w, i32_w, u8_wr, tmod_nat, Int.reduceToNat, e4, e16, e15, e15a, hcol]; rfl)) <;>
        (apply loff rfl rfl; (simp only [Act.put, List.setIfInBounds_toArray, List.set_cons_zero, List.set_cons_succ, i64_w, i32_w, u8_wr, tmod_nat, Int.reduceToNat, e4, e16, e15, e15a, hcol]; rfl)) <;>
        (apply loff rfl rfl; (simp only [Act.put, List.setIfInBounds_toArray, List.set_cons_zero, List.set_cons_succ, i64_w, i32_w, u8_wr, tmod_nat, Int.reduceToNat, e4, e16, e15, e15a, hcol]; rfl)) <;>
        (apply loff rfl rfl; (simp only [Act.put, List.setIfInBounds_toArray, List.set_cons_zero, List.set_cons_succ, i64_w, i32_w, u8_wr, tmod_nat, Int.reduceToNat, e4, e16, e15, e15a, hcol]; rfl)) <;>
        (apply loff rfl rfl; (simp only [Act.put, List.setIfInBounds_toArray, List.set_cons_zero, List.set_cons_succ, i64_w, i32_w, u8_wr, tmod_nat, Int.reduceToNat, e4, e16, e15, e15a, hcol]; rfl)) <;>
        (apply lpure rfl rfl; (go_simp; with_reducible rfl); (simp only [Act.put, List.setIfInBounds_toArray, List.set_cons_zero, List.set_cons_succ, i64_w, i32_w, u8_wr, tmod_nat, Int.reduceToNat, e4, e16, e15, e15a, hcol]; rfl)) <;>
        (apply lend)
      | ((with_reducible refine gate_region (id := 6) ?_); apply plain_region) <;>
        (apply lpure rfl rfl; (go_simp; with_reducible rfl); (simp only [Act.put, List.setIfInBounds_toArray, List.set_cons_zero, List.set_cons_succ, i64_w, i32_w, u8_wr, tmod_nat, Int.reduceToNat, e4, e16, e15, e15a, hcol]; rfl)) <;>
        ((with_reducible apply Fr.lstoreRow HF rfl rfl rfl); assumption; rfl; (go_simp; rfl); rfl; rfl; (repeat (first | apply At.head | apply At.tail)); (simp only [List.drop_succ_cons, List.drop_zero, List.drop_nil, List.take_succ_cons, List.take_zero, List.cons_append, List.nil_append, List.append_nil]; rfl); simp; clear HF; intro w_ HF) <;>
        (apply lpure rfl rfl; (go_simp; with_reducible rfl); (simp only [Act.put, List.setIfInBounds_toArray, List.set_cons_zero, List.set_cons_succ, i64_w, i32_w, u8_wr, tmod_nat, Int.reduceToNat, e4, e16, e15, e15a, hcol]; rfl)) <;>
        (apply lend)
      | go_step | fail)
  all_goals (refine bodyPost_ret (results_ct rfl _ _ _ 23 _ (0, 0) _ rfl (HF.get (by repeat (first | exact At.head | apply At.tail))) Tryz.underlying23 rfl (by kernel_rfl)) rfl ?_; exact ⟨rfl, HF.below⟩)

set_option maxHeartbeats 8000000 in
set_option maxRecDepth 100000 in
theorem addrRead_010 (s : ByteArray) (hs : s.size ≤ 1048576) (k : Nat) (b0 b1 b2 b3 b4 : Int) (hcol : hasCol s = false) (htx : textOf (addrBytes b0 b1 b2 b3 b4) ≠ s) (hA : impl_AddrOf.f k ((split dot s).flatMap f10) = some (b0, b1, b2, b3, b4, true)) (w : World) (hE : Errs w) (hM : MaxLen w) (htab : Lib.TabIs Tryz.prog w "internal/strconv.uint64pow10" .u64 Lib.pow10Tab) (hT : TabAt 7 Lib.deBruijn64tab w) :
    Calls Tryz.prog 12 #[.string s] w fun e w' => e = .returned (.tuple #[.agg #[.int .i64 0, .int .i64 0, .int .i64 0, .int .i64 0, .int .i64 0], .bool false]) ∧ Below w.heap.size w w' := by
  have R25_ : IsRow Tryz.prog 23 5 := ⟨⟨_, Tryz.underlying23, rfl⟩, by kernel_rfl⟩
  have HF := Fr.start [23] w
  have HE := Aside0.mk hE
  have HM := Aside0.mk hM
  have HTB := Aside0.mk htab
  have HTT := Aside0.mk hT
  have HA := Aside0.mk hA
  obtain ⟨T, hTx⟩ : ∃ T, T = textOf (addrBytes b0 b1 b2 b3 b4) := ⟨_, rfl⟩
  have implT := fun w => (hTx ▸ RText.implT b0 b1 b2 b3 b4 w :)
  rw [← hTx] at htx
  have ct : (T.toList != s.toList) = true := by exact bne_iff_ne.mpr (fun h => htx (toList_inj h))
  have ct' : (T.toList == s.toList) = false := by exact beq_eq_false_iff_ne.mpr (fun h => htx (toList_inj h))
  clear hTx htx
  clear hE hM htab hT hA
  go_enter Tryz.func12, Tryz.ntmps12
  repeat' (first
      | ((with_reducible refine gate_region (id := 0) ?_); apply plain_region) <;>
        ((with_reducible apply Fr.lalloc HF rfl rfl rfl); (go_simp; rfl); decide; clear HF; intro g_ w_ HF; (refine lnorm (a' := ?_) ?_ ?_; rotate_left; (simp only [Act.put, List.setIfInBounds_toArray, List.set_cons_zero, List.set_cons_succ, i64_w, i32_w, u8_wr, tmod_nat, Int.reduceToNat, e4, e16, e15, e15a, hcol]; rfl))) <;>
        (apply lpure rfl rfl; (go_simp; with_reducible rfl); (simp only [Act.put, List.setIfInBounds_toArray, List.set_cons_zero, List.set_cons_succ, i64_w, i32_w, u8_wr, tmod_nat, Int.reduceToNat, e4, e16, e15, e15a, hcol]; rfl)) <;>
        (apply lend)
      | ((with_reducible refine gate_region (id := 1) ?_); apply plain_region) <;>
        (apply lpure rfl rfl; (go_simp; with_reducible rfl); (simp only [Act.put, List.setIfInBounds_toArray, List.set_cons_zero, List.set_cons_succ, i64_w, i32_w, u8_wr, tmod_nat, Int.reduceToNat, e4, e16, e15, e15a, hcol]; rfl)) <;>
        (apply lcall rfl rfl rfl Tryz.func27 (by kernel_rfl) rfl; (with_reducible apply Calls.mono); exact splitC dot s rfl hs _ (HM.out.later HF.below); rintro e w_ ⟨gs_, rfl, hc_, hb_⟩; refine ⟨_, rfl, ?_⟩; replace HF := HF.call hb_; clear hb_; have HC := Aside0.mk hc_; clear hc_; rotate_left; (first | rfl | (simp only [List.map_toArray, List.map_cons, List.map_nil]; first | done | rfl)); (refine lnorm (a' := ?_) ?_ ?_; rotate_left; (simp only [Act.put, List.setIfInBounds_toArray, List.set_cons_zero, List.set_cons_succ, i64_w, i32_w, u8_wr, tmod_nat, Int.reduceToNat, e4, e16, e15, e15a, hcol]; rfl))) <;>
        (apply lcall rfl rfl rfl Tryz.func26 (by kernel_rfl) rfl; (with_reducible apply Calls.mono); exact bytes10 dot s rfl hs _ (HE.out.later HF.below) _ HC.out; rintro e w_ ⟨v0_, rfl, ho_, hb_⟩; obtain ⟨D_, ed_, ho2_⟩ := R_name ho_; clear ho_; (try rw [ed_] at HA); clear ed_; obtain ⟨Ad, cd, rfl⟩ := Kd.R_slice ho2_; have HOD := HF.row2 ho2_; clear ho2_ HC; refine ⟨_, rfl, ?_⟩; replace HF := (HF.call hb_).mark; clear hb_; rotate_left; (first | rfl | (simp only [List.map_toArray, List.map_cons, List.map_nil]; first | done | rfl)); (refine lnorm (a' := ?_) ?_ ?_; rotate_left; (simp only [Act.put, List.setIfInBounds_toArray, List.set_cons_zero, List.set_cons_succ, i64_w, i32_w, u8_wr, tmod_nat, Int.reduceToNat, e4, e16, e15, e15a, hcol]; rfl))) <;>
        (apply lpure rfl rfl; (go_simp; with_reducible rfl); (simp only [Act.put, List.setIfInBounds_toArray, List.set_cons_zero, List.set_cons_succ, i64_w, i32_w, u8_wr, tmod_nat, Int.reduceToNat, e4, e16, e15, e15a, hcol]; rfl)) <;>
        (apply lend)
      | ((with_reducible refine gate_region (id := 2) ?_); apply plain_region) <;>
        (apply lpure rfl rfl; (go_simp; with_reducible rfl); (simp only [Act.put, List.setIfInBounds_toArray, List.set_cons_zero, List.set_cons_succ, i64_w, i32_w, u8_wr, tmod_nat, Int.reduceToNat, e4, e16, e15, e15a, hcol]; rfl)) <;>
        (apply lcall rfl rfl rfl Tryz.func28 (by kernel_rfl) rfl; (with_reducible apply Calls.mono); exact containsC s _; rintro e w_ ⟨rfl, hb_⟩; refine ⟨_, rfl, ?_⟩; replace HF := HF.call hb_; clear hb_; rotate_left; (first | rfl | (simp only [List.map_toArray, List.map_cons, List.map_nil]; first | done | rfl)); (refine lnorm (a' := ?_) ?_ ?_; rotate_left; (simp only [Act.put, List.setIfInBounds_toArray, List.set_cons_zero, List.set_cons_succ, i64_w, i32_w, u8_wr, tmod_nat, Int.reduceToNat, e4, e16, e15, e15a, hcol]; rfl))) <;>
        (apply lend)
      | ((with_reducible refine gate_region (id := 4) ?_); apply plain_region) <;>
        (apply lpure rfl rfl; (go_simp; with_reducible rfl); (simp only [Act.put, List.setIfInBounds_toArray, List.set_cons_zero, List.set_cons_succ, i64_w, i32_w, u8_wr, tmod_nat, Int.reduceToNat, e4, e16, e15, e15a, hcol]; rfl)) <;>
        (apply lcall rfl rfl rfl Tryz.func29 (by kernel_rfl) rfl; (with_reducible apply Calls.mono); (with_reducible apply impl_AddrOf.calls (h := HA.out)); exact (HF.rowC HOD (by simp) (by decide)).1; exact (HF.rowC HOD (by simp) (by decide)).2; rintro e w_ ⟨rfl, hb_⟩; refine ⟨_, rfl, ?_⟩; replace HF := HF.call hb_; clear hb_; rotate_left; (first | rfl | (simp only [List.map_toArray, List.map_cons, List.map_nil]; first | done | rfl)); (refine lnorm (a' := ?_) ?_ ?_; rotate_left; (simp only [Act.put, List.setIfInBounds_toArray, List.set_cons_zero, List.set_cons_succ, i64_w, i32_w, u8_wr, tmod_nat, Int.reduceToNat, e4, e16, e15, e15a, hcol]; rfl))) <;>
        (apply lpure rfl rfl; (go_simp; with_reducible rfl); (simp only [Act.put, List.setIfInBounds_toArray, List.set_cons_zero, List.set_cons_succ, i64_w, i32_w, u8_wr, tmod_nat, Int.reduceToNat, e4, e16, e15, e15a, hcol]; rfl)) <;>
        (apply lpure rfl rfl; (go_simp; with_reducible rfl); (simp only [Act.put, List.setIfInBounds_toArray, List.set_cons_zero, List.set_cons_succ, i64_w, i32_w, u8_wr, tmod_nat, Int.reduceToNat, e4, e16, e15, e15a, hcol]; rfl)) <;>
        (apply lpure rfl rfl; (go_simp; with_reducible rfl); (simp only [Act.put, List.setIfInBounds_toArray, List.set_cons_zero, List.set_cons_succ, i64_w, i32_w, u8_wr, tmod_nat, Int.reduceToNat, e4, e16, e15, e15a, hcol]; rfl)) <;>
        ((with_reducible apply Fr.lalloc HF rfl rfl rfl); (go_simp; rfl); decide; clear HF; intro g_ w_ HF; (refine lnorm (a' := ?_) ?_ ?_; rotate_left; (simp only [Act.put, List.setIfInBounds_toArray, List.set_cons_zero, List.set_cons_succ, i64_w, i32_w, u8_wr, tmod_nat, Int.reduceToNat, e4, e16, e15, e15a, hcol]; rfl))) <;>
        ((with_reducible apply Fr.lstoreRow HF rfl rfl rfl); assumption; rfl; (go_simp; rfl); rfl; rfl; (repeat (first | apply At.head | apply At.tail)); (simp only [List.drop_succ_cons, List.drop_zero, List.drop_nil, List.take_succ_cons, List.take_zero, List.cons_append, List.nil_append, List.append_nil]; rfl); simp; clear HF; intro w_ HF) <;>
        (apply lpure rfl rfl; (go_simp; with_reducible rfl); (simp only [Act.put, List.setIfInBounds_toArray, List.set_cons_zero, List.set_cons_succ, i64_w, i32_w, u8_wr, tmod_nat, Int.reduceToNat, e4, e16, e15, e15a, hcol]; rfl)) <;>
        (apply lend)
      | ((with_reducible refine gate_region (id := 5) ?_); apply plain_region) <;>
        (apply lpure rfl rfl; (go_simp; with_reducible rfl); (simp only [Act.put, List.setIfInBounds_toArray, List.set_cons_zero, List.set_cons_succ, i64_w, i32_w, u8_wr, tmod_nat, Int.reduceToNat, e4, e16, e15, e15a, hcol]; rfl)) <;>
        (apply lpure rfl rfl; (go_simp; with_reducible rfl); (simp only [Act.put, List.setIfInBounds_toArray, List.set_cons_zero, List.set_cons_succ, i64_w, i32_w, u8_wr, tmod_nat, Int.reduceToNat, e4, e16, e15, e15a, hcol]; rfl)) <;>
        (apply lpure rfl rfl; (go_simp; with_reducible rfl); (simp only [Act.put, List.setIfInBounds_toArray, List.set_cons_zero, List.set_cons_succ, i64_w, i32_w, u8_wr, tmod_nat, Int.reduceToNat, e4, e16, e15, e15a, hcol]; rfl)) <;>
        (apply HF.lrow rfl rfl rfl R25_ rfl; (repeat (first | exact At.head | apply At.tail)); (simp only [List.drop_succ_cons, List.drop_zero, List.take_succ_cons, List.take_zero]; rfl); rfl; (simp only [Act.put, List.setIfInBounds_toArray, List.set_cons_zero, List.set_cons_succ, i64_w, i32_w, u8_wr, tmod_nat, Int.reduceToNat, e4, e16, e15, e15a, hcol]; rfl)) <;>
        (apply lcall rfl rfl rfl Tryz.func30 (by kernel_rfl) rfl; (with_reducible apply Calls.mono); exact implT _ (Go.Joins.tab_stays gTab HTB.out HF.below (Nat.le_refl _)) (tab_later HTT.out HF.below); rintro e w_ ⟨rfl, hb_⟩; refine ⟨_, rfl, ?_⟩; replace HF := HF.call hb_; clear hb_; rotate_left; (first | rfl | (simp only [List.map_toArray, List.map_cons, List.map_nil]; first | done | rfl)); (refine lnorm (a' := ?_) ?_ ?_; rotate_left; (simp only [Act.put, List.setIfInBounds_toArray, List.set_cons_zero, List.set_cons_succ, i64_w, i32_w, u8_wr, tmod_nat, Int.reduceToNat, e4, e16, e15, e15a, hcol]; rfl))) <;>
        (apply lpure rfl rfl; (go_simp; with_reducible rfl); (simp only [Act.put, List.setIfInBounds_toArray, List.set_cons_zero, List.set_cons_succ, i64_w, i32_w, u8_wr, tmod_nat, Int.reduceToNat, e4, e16, e15, e15a, hcol]; rfl)) <;>
        (apply lpure rfl rfl; (go_simp; with_reducible rfl); (simp only [Act.put, List.setIfInBounds_toArray, List.set_cons_zero, List.set_cons_succ, i64_w, i32_w, u8_wr, tmod_nat, Int.reduceToNat, e4, e16, e15, e15a, hcol]; rfl)) <;>
        (apply lpure rfl rfl; (go_simp; with_reducible rfl); (simp only [Act.put, List.setIfInBounds_toArray, List.set_cons_zero, List.set_cons_succ, i64_w, i32_w, u8_wr, tmod_nat, Int.reduceToNat, e4, e16, e15, e15a, hcol]; rfl)) <;>
        (apply lend)
      | ((with_reducible refine gate_region (id := 6) ?_); apply plain_region) <;>
        (apply lpure rfl rfl; (go_simp; with_reducible rfl); (simp only [Act.put, List.setIfInBounds_toArray, List.set_cons_zero, List.set_cons_succ, i64_w, i32_w, u8_wr, tmod_nat, Int.reduceToNat, e4, e16, e15, e15a, hcol]; rfl)) <;>
        ((with_reducible apply Fr.lstoreRow HF rfl rfl rfl); assumption; rfl; (go_simp; rfl); rfl; rfl; (repeat (first | apply At.head | apply At.tail)); (simp only [List.drop_succ_cons, List.drop_zero, List.drop_nil, List.take_succ_cons, List.take_zero, List.cons_append, List.nil_append, List.append_nil]; rfl); simp; clear HF; intro w_ HF) <;>
        (apply lpure rfl rfl; (go_simp; with_reducible rfl); (simp only [Act.put, List.setIfInBounds_toArray, List.set_cons_zero, List.set_cons_succ, i64_w, i32_w, u8_wr, tmod_nat, Int.reduceToNat, e4, e16, e15, e15a, hcol]; rfl)) <;>
        (apply lend)
      | go_step | fail)
  all_goals (refine bodyPost_ret (results_ct rfl _ _ _ 23 _ (0, 0) _ rfl (HF.get (by repeat (first | exact At.head | apply At.tail))) Tryz.underlying23 rfl (by kernel_rfl)) rfl ?_; exact ⟨rfl, HF.below⟩)

set_option maxHeartbeats 8000000 in
set_option maxRecDepth 100000 in
theorem addrRead_011 (s : ByteArray) (hs : s.size ≤ 1048576) (k : Nat) (b0 b1 b2 b3 b4 : Int) (hcol : hasCol s = false) (htx : textOf (addrBytes b0 b1 b2 b3 b4) = s) (hA : impl_AddrOf.f k ((split dot s).flatMap f10) = some (b0, b1, b2, b3, b4, true)) (w : World) (hE : Errs w) (hM : MaxLen w) (htab : Lib.TabIs Tryz.prog w "internal/strconv.uint64pow10" .u64 Lib.pow10Tab) (hT : TabAt 7 Lib.deBruijn64tab w) :
    Calls Tryz.prog 12 #[.string s] w fun e w' => e = .returned (.tuple #[.agg #[.int .i64 b0, .int .i64 b1, .int .i64 b2, .int .i64 b3, .int .i64 b4], .bool true]) ∧ Below w.heap.size w w' := by
  have R25_ : IsRow Tryz.prog 23 5 := ⟨⟨_, Tryz.underlying23, rfl⟩, by kernel_rfl⟩
  have HF := Fr.start [23] w
  have HE := Aside0.mk hE
  have HM := Aside0.mk hM
  have HTB := Aside0.mk htab
  have HTT := Aside0.mk hT
  have HA := Aside0.mk hA
  obtain ⟨T, hTx⟩ : ∃ T, T = textOf (addrBytes b0 b1 b2 b3 b4) := ⟨_, rfl⟩
  have implT := fun w => (hTx ▸ RText.implT b0 b1 b2 b3 b4 w :)
  rw [← hTx] at htx
  have ct : (T.toList != s.toList) = false := by rw [htx]; exact bne_self_eq_false _
  have ct' : (T.toList == s.toList) = true := by rw [htx]; exact beq_self_eq_true _
  clear hTx htx
  clear hE hM htab hT hA
  go_enter Tryz.func12, Tryz.ntmps12
  repeat' (first
      | ((with_reducible refine gate_region (id := 0) ?_); apply plain_region) <;>
        ((with_reducible apply Fr.lalloc HF rfl rfl rfl); (go_simp; rfl); decide; clear HF; intro g_ w_ HF; (refine lnorm (a' := ?_) ?_ ?_; rotate_left; (simp only [Act.put, List.setIfInBounds_toArray, List.set_cons_zero, List.set_cons_succ, i64_w, i32_w, u8_wr, tmod_nat, Int.reduceToNat, e4, e16, e15, e15a, hcol]; rfl))) <;>
        (apply lpure rfl rfl; (go_simp; with_reducible rfl); (simp only [Act.put, List.setIfInBounds_toArray, List.set_cons_zero, List.set_cons_succ, i64_w, i32_w, u8_wr, tmod_nat, Int.reduceToNat, e4, e16, e15, e15a, hcol]; rfl)) <;>
        (apply lend)
      | ((with_reducible refine gate_region (id := 1) ?_); apply plain_region) <;>
        (apply lpure rfl rfl; (go_simp; with_reducible rfl); (simp only [Act.put, List.setIfInBounds_toArray, List.set_cons_zero, List.set_cons_succ, i64_w, i32_w, u8_wr, tmod_nat, Int.reduceToNat, e4, e16, e15, e15a, hcol]; rfl)) <;>
        (apply lcall rfl rfl rfl Tryz.func27 (by kernel_rfl) rfl; (with_reducible apply Calls.mono); exact splitC dot s rfl hs _ (HM.out.later HF.below); rintro e w_ ⟨gs_, rfl, hc_, hb_⟩; refine ⟨_, rfl, ?_⟩; replace HF := HF.call hb_; clear hb_; have HC := Aside0.mk hc_; clear hc_; rotate_left; (first | rfl | (simp only [List.map_toArray, List.map_cons, List.map_nil]; first | done | rfl)); (refine lnorm (a' := ?_) ?_ ?_; rotate_left; (simp only [Act.put, List.setIfInBounds_toArray, List.set_cons_zero, List.set_cons_succ, i64_w, i32_w, u8_wr, tmod_nat, Int.reduceToNat, e4, e16, e15, e15a, hcol]; rfl))) <;>
        (apply lcall rfl rfl rfl Tryz.func26 (by kernel_rfl) rfl; (with_reducible apply Calls.mono); exact bytes10 dot s rfl hs _ (HE.out.later HF.below) _ HC.out; rintro e w_ ⟨v0_, rfl, ho_, hb_⟩; obtain ⟨D_, ed_, ho2_⟩ := R_name ho_; clear ho_; (try rw [ed_] at HA); clear ed_; obtain ⟨Ad, cd, rfl⟩ := Kd.R_slice ho2_; have HOD := HF.row2 ho2_; clear ho2_ HC; refine ⟨_, rfl, ?_⟩; replace HF := (HF.call hb_).mark; clear hb_; rotate_left; (first | rfl | (simp only [List.map_toArray, List.map_cons, List.map_nil]; first | done | rfl)); (refine lnorm (a' := ?_) ?_ ?_; rotate_left; (simp only [Act.put, List.setIfInBounds_toArray, List.set_cons_zero, List.set_cons_succ, i64_w, i32_w, u8_wr, tmod_nat, Int.reduceToNat, e4, e16, e15, e15a, hcol]; rfl))) <;>
        (apply lpure rfl rfl; (go_simp; with_reducible rfl); (simp only [Act.put, List.setIfInBounds_toArray, List.set_cons_zero, List.set_cons_succ, i64_w, i32_w, u8_wr, tmod_nat, Int.reduceToNat, e4, e16, e15, e15a, hcol]; rfl)) <;>
        (apply lend)
      | ((with_reducible refine gate_region (id := 2) ?_); apply plain_region) <;>
        (apply lpure rfl rfl; (go_simp; with_reducible rfl); (simp only [Act.put, List.setIfInBounds_toArray, List.set_cons_zero, List.set_cons_succ, i64_w, i32_w, u8_wr, tmod_nat, Int.reduceToNat, e4, e16, e15, e15a, hcol]; rfl)) <;>
        (apply lcall rfl rfl rfl Tryz.func28 (by kernel_rfl) rfl; (with_reducible apply Calls.mono); exact containsC s _; rintro e w_ ⟨rfl, hb_⟩; refine ⟨_, rfl, ?_⟩; replace HF := HF.call hb_; clear hb_; rotate_left; (first | rfl | (simp only [List.map_toArray, List.map_cons, List.map_nil]; first | done | rfl)); (refine lnorm (a' := ?_) ?_ ?_; rotate_left; (simp only [Act.put, List.setIfInBounds_toArray, List.set_cons_zero, List.set_cons_succ, i64_w, i32_w, u8_wr, tmod_nat, Int.reduceToNat, e4, e16, e15, e15a, hcol]; rfl))) <;>
        (apply lend)
      | ((with_reducible refine gate_region (id := 4) ?_); apply plain_region) <;>
        (apply lpure rfl rfl; (go_simp; with_reducible rfl); (simp only [Act.put, List.setIfInBounds_toArray, List.set_cons_zero, List.set_cons_succ, i64_w, i32_w, u8_wr, tmod_nat, Int.reduceToNat, e4, e16, e15, e15a, hcol]; rfl)) <;>
        (apply lcall rfl rfl rfl Tryz.func29 (by kernel_rfl) rfl; (with_reducible apply Calls.mono); (with_reducible apply impl_AddrOf.calls (h := HA.out)); exact (HF.rowC HOD (by simp) (by decide)).1; exact (HF.rowC HOD (by simp) (by decide)).2; rintro e w_ ⟨rfl, hb_⟩; refine ⟨_, rfl, ?_⟩; replace HF := HF.call hb_; clear hb_; rotate_left; (first | rfl | (simp only [List.map_toArray, List.map_cons, List.map_nil]; first | done | rfl)); (refine lnorm (a' := ?_) ?_ ?_; rotate_left; (simp only [Act.put, List.setIfInBounds_toArray, List.set_cons_zero, List.set_cons_succ, i64_w, i32_w, u8_wr, tmod_nat, Int.reduceToNat, e4, e16, e15, e15a, hcol]; rfl))) <;>
        (apply lpure rfl rfl; (go_simp; with_reducible rfl); (simp only [Act.put, List.setIfInBounds_toArray, List.set_cons_zero, List.set_cons_succ, i64_w, i32_w, u8_wr, tmod_nat, Int.reduceToNat, e4, e16, e15, e15a, hcol]; rfl)) <;>
        (apply lpure rfl rfl; (go_simp; with_reducible rfl); (simp only [Act.put, List.setIfInBounds_toArray, List.set_cons_zero, List.set_cons_succ, i64_w, i32_w, u8_wr, tmod_nat, Int.reduceToNat, e4, e16, e15, e15a, hcol]; rfl)) <;>
        (apply lpure rfl rfl; (go_simp; with_reducible rfl); (simp only [Act.put, List.setIfInBounds_toArray, List.set_cons_zero, List.set_cons_succ, i64_w, i32_w, u8_wr, tmod_nat, Int.reduceToNat, e4, e16, e15, e15a, hcol]; rfl)) <;>
        ((with_reducible apply Fr.lalloc HF rfl rfl rfl); (go_simp; rfl); decide; clear HF; intro g_ w_ HF; (refine lnorm (a' := ?_) ?_ ?_; rotate_left; (simp only [Act.put, List.setIfInBounds_toArray, List.set_cons_zero, List.set_cons_succ, i64_w, i32_w, u8_wr, tmod_nat, Int.reduceToNat, e4, e16, e15, e15a, hcol]; rfl))) <;>
        ((with_reducible apply Fr.lstoreRow HF rfl rfl rfl); assumption; rfl; (go_simp; rfl); rfl; rfl; (repeat (first | apply At.head | apply At.tail)); (simp only [List.drop_succ_cons, List.drop_zero, List.drop_nil, List.take_succ_cons, List.take_zero, List.cons_append, List.nil_append, List.append_nil]; rfl); simp; clear HF; intro w_ HF) <;>
        (apply lpure rfl rfl; (go_simp; with_reducible rfl); (simp only [Act.put, List.setIfInBounds_toArray, List.set_cons_zero, List.set_cons_succ, i64_w, i32_w, u8_wr, tmod_nat, Int.reduceToNat, e4, e16, e15, e15a, hcol]; rfl)) <;>
        (apply lend)
      | ((with_reducible refine gate_region (id := 5) ?_); apply plain_region) <;>
        (apply lpure rfl rfl; (go_simp; with_reducible rfl); (simp only [Act.put, List.setIfInBounds_toArray, List.set_cons_zero, List.set_cons_succ, i64_w, i32_w, u8_wr, tmod_nat, Int.reduceToNat, e4, e16, e15, e15a, hcol]; rfl)) <;>
        (apply lpure rfl rfl; (go_simp; with_reducible rfl); (simp only [Act.put, List.setIfInBounds_toArray, List.set_cons_zero, List.set_cons_succ, i64_w, i32_w, u8_wr, tmod_nat, Int.reduceToNat, e4, e16, e15, e15a, hcol]; rfl)) <;>
        (apply lpure rfl rfl; (go_simp; with_reducible rfl); (simp only [Act.put, List.setIfInBounds_toArray, List.set_cons_zero, List.set_cons_succ, i64_w, i32_w, u8_wr, tmod_nat, Int.reduceToNat, e4, e16, e15, e15a, hcol]; rfl)) <;>
        (apply HF.lrow rfl rfl rfl R25_ rfl; (repeat (first | exact At.head | apply At.tail)); (simp only [List.drop_succ_cons, List.drop_zero, List.take_succ_cons, List.take_zero]; rfl); rfl; (simp only [Act.put, List.setIfInBounds_toArray, List.set_cons_zero, List.set_cons_succ, i64_w, i32_w, u8_wr, tmod_nat, Int.reduceToNat, e4, e16, e15, e15a, hcol]; rfl)) <;>
        (apply lcall rfl rfl rfl Tryz.func30 (by kernel_rfl) rfl; (with_reducible apply Calls.mono); exact implT _ (Go.Joins.tab_stays gTab HTB.out HF.below (Nat.le_refl _)) (tab_later HTT.out HF.below); rintro e w_ ⟨rfl, hb_⟩; refine ⟨_, rfl, ?_⟩; replace HF := HF.call hb_; clear hb_; rotate_left; (first | rfl | (simp only [List.map_toArray, List.map_cons, List.map_nil]; first | done | rfl)); (refine lnorm (a' := ?_) ?_ ?_; rotate_left; (simp only [Act.put, List.setIfInBounds_toArray, List.set_cons_zero, List.set_cons_succ, i64_w, i32_w, u8_wr, tmod_nat, Int.reduceToNat, e4, e16, e15, e15a, hcol]; rfl))) <;>
        (apply lpure rfl rfl; (go_simp; with_reducible rfl); (simp only [Act.put, List.setIfInBounds_toArray, List.set_cons_zero, List.set_cons_succ, i64_w, i32_w, u8_wr, tmod_nat, Int.reduceToNat, e4, e16, e15, e15a, hcol]; rfl)) <;>
        (apply lpure rfl rfl; (go_simp; with_reducible rfl); (simp only [Act.put, List.setIfInBounds_toArray, List.set_cons_zero, List.set_cons_succ, i64_w, i32_w, u8_wr, tmod_nat, Int.reduceToNat, e4, e16, e15, e15a, hcol]; rfl)) <;>
        (apply lpure rfl rfl; (go_simp; with_reducible rfl); (simp only [Act.put, List.setIfInBounds_toArray, List.set_cons_zero, List.set_cons_succ, i64_w, i32_w, u8_wr, tmod_nat, Int.reduceToNat, e4, e16, e15, e15a, hcol]; rfl)) <;>
        (apply lend)
      | ((with_reducible refine gate_region (id := 7) ?_); apply plain_region) <;>
        (apply HF.lrow rfl rfl rfl R25_ rfl; (repeat (first | exact At.head | apply At.tail)); (simp only [List.drop_succ_cons, List.drop_zero, List.take_succ_cons, List.take_zero]; rfl); rfl; (simp only [Act.put, List.setIfInBounds_toArray, List.set_cons_zero, List.set_cons_succ, i64_w, i32_w, u8_wr, tmod_nat, Int.reduceToNat, e4, e16, e15, e15a, hcol]; rfl)) <;>
        ((with_reducible apply Fr.lstoreRow HF rfl rfl rfl); assumption; rfl; (go_simp; rfl); rfl; rfl; (repeat (first | apply At.head | apply At.tail)); (simp only [List.drop_succ_cons, List.drop_zero, List.drop_nil, List.take_succ_cons, List.take_zero, List.cons_append, List.nil_append, List.append_nil]; rfl); simp; clear HF; intro w_ HF) <;>
        (apply lpure rfl rfl; (go_simp; with_reducible rfl); (simp only [Act.put, List.setIfInBounds_toArray, List.set_cons_zero, List.set_cons_succ, i64_w, i32_w, u8_wr, tmod_nat, Int.reduceToNat, e4, e16, e15, e15a, hcol]; rfl)) <;>
        (apply lend)
      | go_step | fail)
  all_goals (refine bodyPost_ret (results_ct rfl _ _ _ 23 _ (0, 0) _ rfl (HF.get (by repeat (first | exact At.head | apply At.tail))) Tryz.underlying23 rfl (by kernel_rfl)) rfl ?_; exact ⟨rfl, HF.below⟩)

set_option maxHeartbeats 8000000 in
set_option maxRecDepth 100000 in
theorem addrRead_100 (s : ByteArray) (hs : s.size ≤ 1048576) (k : Nat) (b0 b1 b2 b3 b4 : Int) (hcol : hasCol s = true) (hA : impl_AddrOf.f k ((split col s).flatMap f16) = some (b0, b1, b2, b3, b4, false)) (w : World) (hE : Errs w) (hM : MaxLen w) (htab : Lib.TabIs Tryz.prog w "internal/strconv.uint64pow10" .u64 Lib.pow10Tab) (hT : TabAt 7 Lib.deBruijn64tab w) :
    Calls Tryz.prog 12 #[.string s] w fun e w' => e = .returned (.tuple #[.agg #[.int .i64 0, .int .i64 0, .int .i64 0, .int .i64 0, .int .i64 0], .bool false]) ∧ Below w.heap.size w w' := by
  have R25_ : IsRow Tryz.prog 23 5 := ⟨⟨_, Tryz.underlying23, rfl⟩, by kernel_rfl⟩
  have HF := Fr.start [23] w
  have HE := Aside0.mk hE
  have HM := Aside0.mk hM
  have HTB := Aside0.mk htab
  have HTT := Aside0.mk hT
  have HA := Aside0.mk hA
  clear hE hM htab hT hA
  go_enter Tryz.func12, Tryz.ntmps12
  repeat' (first
      | ((with_reducible refine gate_region (id := 0) ?_); apply plain_region) <;>
        ((with_reducible apply Fr.lalloc HF rfl rfl rfl); (go_simp; rfl); decide; clear HF; intro g_ w_ HF; (refine lnorm (a' := ?_) ?_ ?_; rotate_left; (simp only [Act.put, List.setIfInBounds_toArray, List.set_cons_zero, List.set_cons_succ, i64_w, i32_w, u8_wr, tmod_nat, Int.reduceToNat, e4, e16, e15, e15a, hcol]; rfl))) <;>
        (apply lpure rfl rfl; (go_simp; with_reducible rfl); (simp only [Act.put, List.setIfInBounds_toArray, List.set_cons_zero, List.set_cons_succ, i64_w, i32_w, u8_wr, tmod_nat, Int.reduceToNat, e4, e16, e15, e15a, hcol]; rfl)) <;>
        (apply lend)
      | ((with_reducible refine gate_region (id := 1) ?_); apply plain_region) <;>
        (apply lpure rfl rfl; (go_simp; with_reducible rfl); (simp only [Act.put, List.setIfInBounds_toArray, List.set_cons_zero, List.set_cons_succ, i64_w, i32_w, u8_wr, tmod_nat, Int.reduceToNat, e4, e16, e15, e15a, hcol]; rfl)) <;>
        (apply lcall rfl rfl rfl Tryz.func27 (by kernel_rfl) rfl; (with_reducible apply Calls.mono); exact splitC dot s rfl hs _ (HM.out.later HF.below); rintro e w_ ⟨gs_, rfl, hc_, hb_⟩; refine ⟨_, rfl, ?_⟩; replace HF := HF.call hb_; clear hb_; have HC := Aside0.mk hc_; clear hc_; rotate_left; (first | rfl | (simp only [List.map_toArray, List.map_cons, List.map_nil]; first | done | rfl)); (refine lnorm (a' := ?_) ?_ ?_; rotate_left; (simp only [Act.put, List.setIfInBounds_toArray, List.set_cons_zero, List.set_cons_succ, i64_w, i32_w, u8_wr, tmod_nat, Int.reduceToNat, e4, e16, e15, e15a, hcol]; rfl))) <;>
        (apply lcall rfl rfl rfl Tryz.func26 (by kernel_rfl) rfl; (with_reducible apply Calls.mono); exact bytes10 dot s rfl hs _ (HE.out.later HF.below) _ HC.out; rintro e w_ ⟨v0_, rfl, ho_, hb_⟩; obtain ⟨D_, ed_, ho2_⟩ := R_name ho_; clear ho_; (try rw [ed_] at HA); clear ed_; obtain ⟨Ad, cd, rfl⟩ := Kd.R_slice ho2_; have HOD := HF.row2 ho2_; clear ho2_ HC; refine ⟨_, rfl, ?_⟩; replace HF := (HF.call hb_).mark; clear hb_; rotate_left; (first | rfl | (simp only [List.map_toArray, List.map_cons, List.map_nil]; first | done | rfl)); (refine lnorm (a' := ?_) ?_ ?_; rotate_left; (simp only [Act.put, List.setIfInBounds_toArray, List.set_cons_zero, List.set_cons_succ, i64_w, i32_w, u8_wr, tmod_nat, Int.reduceToNat, e4, e16, e15, e15a, hcol]; rfl))) <;>
        (apply lpure rfl rfl; (go_simp; with_reducible rfl); (simp only [Act.put, List.setIfInBounds_toArray, List.set_cons_zero, List.set_cons_succ, i64_w, i32_w, u8_wr, tmod_nat, Int.reduceToNat, e4, e16, e15, e15a, hcol]; rfl)) <;>
        (apply lend)
      | ((with_reducible refine gate_region (id := 2) ?_); apply plain_region) <;>
        (apply lpure rfl rfl; (go_simp; with_reducible rfl); (simp only [Act.put, List.setIfInBounds_toArray, List.set_cons_zero, List.set_cons_succ, i64_w, i32_w, u8_wr, tmod_nat, Int.reduceToNat, e4, e16, e15, e15a, hcol]; rfl)) <;>
        (apply lcall rfl rfl rfl Tryz.func28 (by kernel_rfl) rfl; (with_reducible apply Calls.mono); exact containsC s _; rintro e w_ ⟨rfl, hb_⟩; refine ⟨_, rfl, ?_⟩; replace HF := HF.call hb_; clear hb_; rotate_left; (first | rfl | (simp only [List.map_toArray, List.map_cons, List.map_nil]; first | done | rfl)); (refine lnorm (a' := ?_) ?_ ?_; rotate_left; (simp only [Act.put, List.setIfInBounds_toArray, List.set_cons_zero, List.set_cons_succ, i64_w, i32_w, u8_wr, tmod_nat, Int.reduceToNat, e4, e16, e15, e15a, hcol]; rfl))) <;>
        (apply lend)
      | ((with_reducible refine gate_region (id := 3) ?_); apply plain_region) <;>
        (apply lpure rfl rfl; (go_simp; with_reducible rfl); (simp only [Act.put, List.setIfInBounds_toArray, List.set_cons_zero, List.set_cons_succ, i64_w, i32_w, u8_wr, tmod_nat, Int.reduceToNat, e4, e16, e15, e15a, hcol]; rfl)) <;>
        (apply lcall rfl rfl rfl Tryz.func27 (by kernel_rfl) rfl; (with_reducible apply Calls.mono); exact splitC col s rfl hs _ (HM.out.later HF.below); rintro e w_ ⟨gs_, rfl, hc_, hb_⟩; refine ⟨_, rfl, ?_⟩; replace HF := HF.call hb_; clear hb_; have HC := Aside0.mk hc_; clear hc_; rotate_left; (first | rfl | (simp only [List.map_toArray, List.map_cons, List.map_nil]; first | done | rfl)); (refine lnorm (a' := ?_) ?_ ?_; rotate_left; (simp only [Act.put, List.setIfInBounds_toArray, List.set_cons_zero, List.set_cons_succ, i64_w, i32_w, u8_wr, tmod_nat, Int.reduceToNat, e4, e16, e15, e15a, hcol]; rfl))) <;>
        (apply lcall rfl rfl rfl Tryz.func26 (by kernel_rfl) rfl; (with_reducible apply Calls.mono); exact bytes16 col s rfl hs _ (HE.out.later HF.below) _ HC.out; rintro e w_ ⟨v0_, rfl, ho_, hb_⟩; obtain ⟨D_, ed_, ho2_⟩ := R_name ho_; clear ho_; (try rw [ed_] at HA); clear ed_; obtain ⟨Ad, cd, rfl⟩ := Kd.R_slice ho2_; have HOD := HF.row2 ho2_; clear ho2_ HC; refine ⟨_, rfl, ?_⟩; replace HF := (HF.call hb_).mark; clear hb_; rotate_left; (first | rfl | (simp only [List.map_toArray, List.map_cons, List.map_nil]; first | done | rfl)); (refine lnorm (a' := ?_) ?_ ?_; rotate_left; (simp only [Act.put, List.setIfInBounds_toArray, List.set_cons_zero, List.set_cons_succ, i64_w, i32_w, u8_wr, tmod_nat, Int.reduceToNat, e4, e16, e15, e15a, hcol]; rfl))) <;>
        (apply lpure rfl rfl; (go_simp; with_reducible rfl); (simp only [Act.put, List.setIfInBounds_toArray, List.set_cons_zero, List.set_cons_succ, i64_w, i32_w, u8_wr, tmod_nat, Int.reduceToNat, e4, e16, e15, e15a, hcol]; rfl)) <;>
        (apply lend)
      | ((with_reducible refine gate_region (id := 4) ?_); apply plain_region) <;>
        (apply lpure rfl rfl; (go_simp; with_reducible rfl); (simp only [Act.put, List.setIfInBounds_toArray, List.set_cons_zero, List.set_cons_succ, i64_w, i32_w, u8_wr, tmod_nat, Int.reduceToNat, e4, e16, e15, e15a, hcol]; rfl)) <;>
        (apply lcall rfl rfl rfl Tryz.func29 (by kernel_rfl) rfl; (with_reducible apply Calls.mono); (with_reducible apply impl_AddrOf.calls (h := HA.out)); exact (HF.rowC HOD (by simp) (by decide)).1; exact (HF.rowC HOD (by simp) (by decide)).2; rintro e w_ ⟨rfl, hb_⟩; refine ⟨_, rfl, ?_⟩; replace HF := HF.call hb_; clear hb_; rotate_left; (first | rfl | (simp only [List.map_toArray, List.map_cons, List.map_nil]; first | done | rfl)); (refine lnorm (a' := ?_) ?_ ?_; rotate_left; (simp only [Act.put, List.setIfInBounds_toArray, List.set_cons_zero, List.set_cons_succ, i64_w, i32_w, u8_wr, tmod_nat, Int.reduceToNat, e4, e16, e15, e15a, hcol]; rfl))) <;>
        (apply lpure rfl rfl; (go_simp; with_reducible rfl); (simp only [Act.put, List.setIfInBounds_toArray, List.set_cons_zero, List.set_cons_succ, i64_w, i32_w, u8_wr, tmod_nat, Int.reduceToNat, e4, e16, e15, e15a, hcol]; rfl)) <;>
        (apply lpure rfl rfl; (go_simp; with_reducible rfl); (simp only [Act.put, List.setIfInBounds_toArray, List.set_cons_zero, List.set_cons_succ, i64_w, i32_w, u8_wr, tmod_nat, Int.reduceToNat, e4, e16, e15, e15a, hcol]; rfl)) <;>
        (apply lpure rfl rfl; (go_simp; with_reducible rfl); (simp only [Act.put, List.setIfInBounds_toArray, List.set_cons_zero, List.set_cons_succ, i64_w, i32_w, u8_wr, tmod_nat, Int.reduceToNat, e4, e16, e15, e15a, hcol]; rfl)) <;>
        ((with_reducible apply Fr.lalloc HF rfl rfl rfl); (go_simp; rfl); decide; clear HF; intro g_ w_ HF; (refine lnorm (a' := ?_) ?_ ?_; rotate_left; (simp only [Act.put, List.setIfInBounds_toArray, List.set_cons_zero, List.set_cons_succ, i64_w, i32_w, u8_wr, tmod_nat, Int.reduceToNat, e4, e16, e15, e15a, hcol]; rfl))) <;>
        ((with_reducible apply Fr.lstoreRow HF rfl rfl rfl); assumption; rfl; (go_simp; rfl); rfl; rfl; (repeat (first | apply At.head | apply At.tail)); (simp only [List.drop_succ_cons, List.drop_zero, List.drop_nil, List.take_succ_cons, List.take_zero, List.cons_append, List.nil_append, List.append_nil]; rfl); simp; clear HF; intro w_ HF) <;>
        (apply lpure rfl rfl; (go_simp; with_reducible rfl); (simp only [Act.put, List.setIfInBounds_toArray, List.set_cons_zero, List.set_cons_succ, i64_w, i32_w, u8_wr, tmod_nat, Int.reduceToNat, e4, e16, e15, e15a, hcol]; rfl)) <;>
        (apply lend)
      | ((with_reducible refine gate_region (id := 5) ?_); apply plain_region) <;>
        (apply lpure rfl rfl; (go_simp; with_reducible rfl); (simp only [Act.put, List.setIfInBounds_toArray, List.set_cons_zero, List.set_cons_succ, i64_w, i32_w, u8_wr, tmod_nat, Int.reduceToNat, e4, e16, e15, e15a, hcol]; rfl)) <;>
        (apply lpure rfl rfl; (go_simp; with_reducible rfl); (simp only [Act.put, List.setIfInBounds_toArray, List.set_cons_zero, List.set_cons_succ, i64_w, i32_w, u8_wr, tmod_nat, Int.reduceToNat, e4, e16, e15, e15a, hcol]; rfl)) <;>
        (apply lpure rfl rfl; (go_simp; with_reducible rfl); (simp only [Act.put, List.setIfInBounds_toArray, List.set_cons_zero, List.set_cons_succ, i64_w, i32_w, u8_wr, tmod_nat, Int.reduceToNat, e4, e16, e15, e15a, hcol]; rfl)) <;>
        (apply loff rfl rfl; (simp only [Act.put, List.setIfInBounds_toArray, List.set_cons_zero, List.set_cons_succ, i64_w, i32_w, u8_wr, tmod_nat, Int.reduceToNat, e4, e16, e15, e15a, hcol]; rfl)) <;>
        (apply loff rfl rfl; (simp only [Act.put, List.setIfInBounds_toArray, List.set_cons_zero, List.set_cons_succ, i64_w, i32_w, u8_wr, tmod_nat, Int.reduceToNat, e4, e16, e15, e15a, hcol]; rfl)) <;>
        (apply loff rfl rfl; (simp only [Act.put, List.setIfInBounds_toArray, List.set_cons_zero, List.set_cons_succ, i64_w, i32_w, u8_wr, tmod_nat, Int.reduceToNat, e4, e16, e15, e15a, hcol]; rfl)) <;>
        (apply loff rfl rfl; (simp only [Act.put, List.setIfInBounds_toArray, List.set_cons_zero, List.set_cons_succ, i64_w, i32_w, u8_wr, tmod_nat, Int.reduceToNat, e4, e16, e15, e15a, hcol]; rfl)) <;>
        (apply lpure rfl rfl; (go_simp; with_reducible rfl); (simp only [Act.put, List.setIfInBounds_toArray, List.set_cons_zero, List.set_cons_succ, i64_w, i32_w, u8_wr, tmod_nat, Int.reduceToNat, e4, e16, e15, e15a, hcol]; rfl)) <;>
        (apply lend)
      | ((with_reducible refine gate_region (id := 6) ?_); apply plain_region) <;>
        (apply lpure rfl rfl; (go_simp; with_reducible rfl); (simp only [Act.put, List.setIfInBounds_toArray, List.set_cons_zero, List.set_cons_succ, i64_w, i32_w, u8_wr, tmod_nat, Int.reduceToNat, e4, e16, e15, e15a, hcol]; rfl)) <;>
        ((with_reducible apply Fr.lstoreRow HF rfl rfl rfl); assumption; rfl; (go_simp; rfl); rfl; rfl; (repeat (first | apply At.head | apply At.tail)); (simp only [List.drop_succ_cons, List.drop_zero, List.drop_nil, List.take_succ_cons, List.take_zero, List.cons_append, List.nil_append, List.append_nil]; rfl); simp; clear HF; intro w_ HF) <;>
        (apply lpure rfl rfl; (go_simp; with_reducible rfl); (simp only [Act.put, List.setIfInBounds_toArray, List.set_cons_zero, List.set_cons_succ, i64_w, i32_w, u8_wr, tmod_nat, Int.reduceToNat, e4, e16, e15, e15a, hcol]; rfl)) <;>
        (apply lend)
      | go_step | fail)
  all_goals (refine bodyPost_ret (results_ct rfl _ _ _ 23 _ (0, 0) _ rfl (HF.get (by repeat (first | exact At.head | apply At.tail))) Tryz.underlying23 rfl (by kernel_rfl)) rfl ?_; exact ⟨rfl, HF.below⟩)

set_option maxHeartbeats 8000000 in
set_option maxRecDepth 100000 in
theorem addrRead_110 (s : ByteArray) (hs : s.size ≤ 1048576) (k : Nat) (b0 b1 b2 b3 b4 : Int) (hcol : hasCol s = true) (htx : textOf (addrBytes b0 b1 b2 b3 b4) ≠ s) (hA : impl_AddrOf.f k ((split col s).flatMap f16) = some (b0, b1, b2, b3, b4, true)) (w : World) (hE : Errs w) (hM : MaxLen w) (htab : Lib.TabIs Tryz.prog w "internal/strconv.uint64pow10" .u64 Lib.pow10Tab) (hT : TabAt 7 Lib.deBruijn64tab w) :
    Calls Tryz.prog 12 #[.string s] w fun e w' => e = .returned (.tuple #[.agg #[.int .i64 0, .int .i64 0, .int .i64 0, .int .i64 0, .int .i64 0], .bool false]) ∧ Below w.heap.size w w' := by
  have R25_ : IsRow Tryz.prog 23 5 := ⟨⟨_, Tryz.underlying23, rfl⟩, by kernel_rfl⟩
  have HF := Fr.start [23] w
  have HE := Aside0.mk hE
  have HM := Aside0.mk hM
  have HTB := Aside0.mk htab
  have HTT := Aside0.mk hT
  have HA := Aside0.mk hA
  obtain ⟨T, hTx⟩ : ∃ T, T = textOf (addrBytes b0 b1 b2 b3 b4) := ⟨_, rfl⟩
  have implT := fun w => (hTx ▸ RText.implT b0 b1 b2 b3 b4 w :)
  rw [← hTx] at htx
  have ct : (T.toList != s.toList) = true := by exact bne_iff_ne.mpr (fun h => htx (toList_inj h))
  have ct' : (T.toList == s.toList) = false := by exact beq_eq_false_iff_ne.mpr (fun h => htx (toList_inj h))
  clear hTx htx
  clear hE hM htab hT hA
  go_enter Tryz.func12, Tryz.ntmps12
  repeat' (first
      | ((with_reducible refine gate_region (id := 0) ?_); apply plain_region) <;>
        ((with_reducible apply Fr.lalloc HF rfl rfl rfl); (go_simp; rfl); decide; clear HF; intro g_ w_ HF; (refine lnorm (a' := ?_) ?_ ?_; rotate_left; (simp only [Act.put, List.setIfInBounds_toArray, List.set_cons_zero, List.set_cons_succ, i64_w, i32_w, u8_wr, tmod_nat, Int.reduceToNat, e4, e16, e15, e15a, hcol]; rfl))) <;>
        (apply lpure rfl rfl; (go_simp; with_reducible rfl); (simp only [Act.put, List.setIfInBounds_toArray, List.set_cons_zero, List.set_cons_succ, i64_w, i32_w, u8_wr, tmod_nat, Int.reduceToNat, e4, e16, e15, e15a, hcol]; rfl)) <;>
        (apply lend)
      | ((with_reducible refine gate_region (id := 1) ?_); apply plain_region) <;>
        (apply lpure rfl rfl; (go_simp; with_reducible rfl); (simp only [Act.put, List.setIfInBounds_toArray, List.set_cons_zero, List.set_cons_succ, i64_w, i32_w, u8_wr, tmod_nat, Int.reduceToNat, e4, e16, e15, e15a, hcol]; rfl)) <;>
        (apply lcall rfl rfl rfl Tryz.func27 (by kernel_rfl) rfl; (with_reducible apply Calls.mono); exact splitC dot s rfl hs _ (HM.out.later HF.below); rintro e w_ ⟨gs_, rfl, hc_, hb_⟩; refine ⟨_, rfl, ?_⟩; replace HF := HF.call hb_; clear hb_; have HC := Aside0.mk hc_; clear hc_; rotate_left; (first | rfl | (simp only [List.map_toArray, List.map_cons, List.map_nil]; first | done | rfl)); (refine lnorm (a' := ?_) ?_ ?_; rotate_left; (simp only [Act.put, List.setIfInBounds_toArray, List.set_cons_zero, List.set_cons_succ, i64_w, i32_w, u8_wr, tmod_nat, Int.reduceToNat, e4, e16, e15, e15a, hcol]; rfl))) <;>
        (apply lcall rfl rfl rfl Tryz.func26 (by kernel_rfl) rfl; (with_reducible apply Calls.mono); exact bytes10 dot s rfl hs _ (HE.out.later HF.below) _ HC.out; rintro e w_ ⟨v0_, rfl, ho_, hb_⟩; obtain ⟨D_, ed_, ho2_⟩ := R_name ho_; clear ho_; (try rw [ed_] at HA); clear ed_; obtain ⟨Ad, cd, rfl⟩ := Kd.R_slice ho2_; have HOD := HF.row2 ho2_; clear ho2_ HC; refine ⟨_, rfl, ?_⟩; replace HF := (HF.call hb_).mark; clear hb_; rotate_left; (first | rfl | (simp only [List.map_toArray, List.map_cons, List.map_nil]; first | done | rfl)); (refine lnorm (a' := ?_) ?_ ?_; rotate_left; (simp only [Act.put, List.setIfInBounds_toArray, List.set_cons_zero, List.set_cons_succ, i64_w, i32_w, u8_wr, tmod_nat, Int.reduceToNat, e4, e16, e15, e15a, hcol]; rfl))) <;>
        (apply lpure rfl rfl; (go_simp; with_reducible rfl); (simp only [Act.put, List.setIfInBounds_toArray, List.set_cons_zero, List.set_cons_succ, i64_w, i32_w, u8_wr, tmod_nat, Int.reduceToNat, e4, e16, e15, e15a, hcol]; rfl)) <;>
        (apply lend)
      | ((with_reducible refine gate_region (id := 2) ?_); apply plain_region) <;>
        (apply lpure rfl rfl; (go_simp; with_reducible rfl); (simp only [Act.put, List.setIfInBounds_toArray, List.set_cons_zero, List.set_cons_succ, i64_w, i32_w, u8_wr, tmod_nat, Int.reduceToNat, e4, e16, e15, e15a, hcol]; rfl)) <;>
        (apply lcall rfl rfl rfl Tryz.func28 (by kernel_rfl) rfl; (with_reducible apply Calls.mono); exact containsC s _; rintro e w_ ⟨rfl, hb_⟩; refine ⟨_, rfl, ?_⟩; replace HF := HF.call hb_; clear hb_; rotate_left; (first | rfl | (simp only [List.map_toArray, List.map_cons, List.map_nil]; first | done | rfl)); (refine lnorm (a' := ?_) ?_ ?_; rotate_left; (simp only [Act.put, List.setIfInBounds_toArray, List.set_cons_zero, List.set_cons_succ, i64_w, i32_w, u8_wr, tmod_nat, Int.reduceToNat, e4, e16, e15, e15a, hcol]; rfl))) <;>
        (apply lend)
      | ((with_reducible refine gate_region (id := 3) ?_); apply plain_region) <;>
        (apply lpure rfl rfl; (go_simp; with_reducible rfl); (simp only [Act.put, List.setIfInBounds_toArray, List.set_cons_zero, List.set_cons_succ, i64_w, i32_w, u8_wr, tmod_nat, Int.reduceToNat, e4, e16, e15, e15a, hcol]; rfl)) <;>
        (apply lcall rfl rfl rfl Tryz.func27 (by kernel_rfl) rfl; (with_reducible apply Calls.mono); exact splitC col s rfl hs _ (HM.out.later HF.below); rintro e w_ ⟨gs_, rfl, hc_, hb_⟩; refine ⟨_, rfl, ?_⟩; replace HF := HF.call hb_; clear hb_; have HC := Aside0.mk hc_; clear hc_; rotate_left; (first | rfl | (simp only [List.map_toArray, List.map_cons, List.map_nil]; first | done | rfl)); (refine lnorm (a' := ?_) ?_ ?_; rotate_left; (simp only [Act.put, List.setIfInBounds_toArray, List.set_cons_zero, List.set_cons_succ, i64_w, i32_w, u8_wr, tmod_nat, Int.reduceToNat, e4, e16, e15, e15a, hcol]; rfl))) <;>
        (apply lcall rfl rfl rfl Tryz.func26 (by kernel_rfl) rfl; (with_reducible apply Calls.mono); exact bytes16 col s rfl hs _ (HE.out.later HF.below) _ HC.out; rintro e w_ ⟨v0_, rfl, ho_, hb_⟩; obtain ⟨D_, ed_, ho2_⟩ := R_name ho_; clear ho_; (try rw [ed_] at HA); clear ed_; obtain ⟨Ad, cd, rfl⟩ := Kd.R_slice ho2_; have HOD := HF.row2 ho2_; clear ho2_ HC; refine ⟨_, rfl, ?_⟩; replace HF := (HF.call hb_).mark; clear hb_; rotate_left; (first | rfl | (simp only [List.map_toArray, List.map_cons, List.map_nil]; first | done | rfl)); (refine lnorm (a' := ?_) ?_ ?_; rotate_left; (simp only [Act.put, List.setIfInBounds_toArray, List.set_cons_zero, List.set_cons_succ, i64_w, i32_w, u8_wr, tmod_nat, Int.reduceToNat, e4, e16, e15, e15a, hcol]; rfl))) <;>
        (apply lpure rfl rfl; (go_simp; with_reducible rfl); (simp only [Act.put, List.setIfInBounds_toArray, List.set_cons_zero, List.set_cons_succ, i64_w, i32_w, u8_wr, tmod_nat, Int.reduceToNat, e4, e16, e15, e15a, hcol]; rfl)) <;>
        (apply lend)
      | ((with_reducible refine gate_region (id := 4) ?_); apply plain_region) <;>
        (apply lpure rfl rfl; (go_simp; with_reducible rfl); (simp only [Act.put, List.setIfInBounds_toArray, List.set_cons_zero, List.set_cons_succ, i64_w, i32_w, u8_wr, tmod_nat, Int.reduceToNat, e4, e16, e15, e15a, hcol]; rfl)) <;>
        (apply lcall rfl rfl rfl Tryz.func29 (by kernel_rfl) rfl; (with_reducible apply Calls.mono); (with_reducible apply impl_AddrOf.calls (h := HA.out)); exact (HF.rowC HOD (by simp) (by decide)).1; exact (HF.rowC HOD (by simp) (by decide)).2; rintro e w_ ⟨rfl, hb_⟩; refine ⟨_, rfl, ?_⟩; replace HF := HF.call hb_; clear hb_; rotate_left; (first | rfl | (simp only [List.map_toArray, List.map_cons, List.map_nil]; first | done | rfl)); (refine lnorm (a' := ?_) ?_ ?_; rotate_left; (simp only [Act.put, List.setIfInBounds_toArray, List.set_cons_zero, List.set_cons_succ, i64_w, i32_w, u8_wr, tmod_nat, Int.reduceToNat, e4, e16, e15, e15a, hcol]; rfl))) <;>
        (apply lpure rfl rfl; (go_simp; with_reducible rfl); (simp only [Act.put, List.setIfInBounds_toArray, List.set_cons_zero, List.set_cons_succ, i64_w, i32_w, u8_wr, tmod_nat, Int.reduceToNat, e4, e16, e15, e15a, hcol]; rfl)) <;>
        (apply lpure rfl rfl; (go_simp; with_reducible rfl); (simp only [Act.put, List.setIfInBounds_toArray, List.set_cons_zero, List.set_cons_succ, i64_w, i32_w, u8_wr, tmod_nat, Int.reduceToNat, e4, e16, e15, e15a, hcol]; rfl)) <;>
        (apply lpure rfl rfl; (go_simp; with_reducible rfl); (simp only [Act.put, List.setIfInBounds_toArray, List.set_cons_zero, List.set_cons_succ, i64_w, i32_w, u8_wr, tmod_nat, Int.reduceToNat, e4, e16, e15, e15a, hcol]; rfl)) <;>
        ((with_reducible apply Fr.lalloc HF rfl rfl rfl); (go_simp; rfl); decide; clear HF; intro g_ w_ HF; (refine lnorm (a' := ?_) ?_ ?_; rotate_left; (simp only [Act.put, List.setIfInBounds_toArray, List.set_cons_zero, List.set_cons_succ, i64_w, i32_w, u8_wr, tmod_nat, Int.reduceToNat, e4, e16, e15, e15a, hcol]; rfl))) <;>
        ((with_reducible apply Fr.lstoreRow HF rfl rfl rfl); assumption; rfl; (go_simp; rfl); rfl; rfl; (repeat (first | apply At.head | apply At.tail)); (simp only [List.drop_succ_cons, List.drop_zero, List.drop_nil, List.take_succ_cons, List.take_zero, List.cons_append, List.nil_append, List.append_nil]; rfl); simp; clear HF; intro w_ HF) <;>
        (apply lpure rfl rfl; (go_simp; with_reducible rfl); (simp only [Act.put, List.setIfInBounds_toArray, List.set_cons_zero, List.set_cons_succ, i64_w, i32_w, u8_wr, tmod_nat, Int.reduceToNat, e4, e16, e15, e15a, hcol]; rfl)) <;>
        (apply lend)
      | ((with_reducible refine gate_region (id := 5) ?_); apply plain_region) <;>
        (apply lpure rfl rfl; (go_simp; with_reducible rfl); (simp only [Act.put, List.setIfInBounds_toArray, List.set_cons_zero, List.set_cons_succ, i64_w, i32_w, u8_wr, tmod_nat, Int.reduceToNat, e4, e16, e15, e15a, hcol]; rfl)) <;>
        (apply lpure rfl rfl; (go_simp; with_reducible rfl); (simp only [Act.put, List.setIfInBounds_toArray, List.set_cons_zero, List.set_cons_succ, i64_w, i32_w, u8_wr, tmod_nat, Int.reduceToNat, e4, e16, e15, e15a, hcol]; rfl)) <;>
        (apply lpure rfl rfl; (go_simp; with_reducible rfl); (simp only [Act.put, List.setIfInBounds_toArray, List.set_cons_zero, List.set_cons_succ, i64_w, i32_w, u8_wr, tmod_nat, Int.reduceToNat, e4, e16, e15, e15a, hcol]; rfl)) <;>
        (apply HF.lrow rfl rfl rfl R25_ rfl; (repeat (first | exact At.head | apply At.tail)); (simp only [List.drop_succ_cons, List.drop_zero, List.take_succ_cons, List.take_zero]; rfl); rfl; (simp only [Act.put, List.setIfInBounds_toArray, List.set_cons_zero, List.set_cons_succ, i64_w, i32_w, u8_wr, tmod_nat, Int.reduceToNat, e4, e16, e15, e15a, hcol]; rfl)) <;>
        (apply lcall rfl rfl rfl Tryz.func30 (by kernel_rfl) rfl; (with_reducible apply Calls.mono); exact implT _ (Go.Joins.tab_stays gTab HTB.out HF.below (Nat.le_refl _)) (tab_later HTT.out HF.below); rintro e w_ ⟨rfl, hb_⟩; refine ⟨_, rfl, ?_⟩; replace HF := HF.call hb_; clear hb_; rotate_left; (first | rfl | (simp only [List.map_toArray, List.map_cons, List.map_nil]; first | done | rfl)); (refine lnorm (a' := ?_) ?_ ?_; rotate_left; (simp only [Act.put, List.setIfInBounds_toArray, List.set_cons_zero, List.set_cons_succ, i64_w, i32_w, u8_wr, tmod_nat, Int.reduceToNat, e4, e16, e15, e15a, hcol]; rfl))) <;>
        (apply lpure rfl rfl; (go_simp; with_reducible rfl); (simp only [Act.put, List.setIfInBounds_toArray, List.set_cons_zero, List.set_cons_succ, i64_w, i32_w, u8_wr, tmod_nat, Int.reduceToNat, e4, e16, e15, e15a, hcol]; rfl)) <;>
        (apply lpure rfl rfl; (go_simp; with_reducible rfl); (simp only [Act.put, List.setIfInBounds_toArray, List.set_cons_zero, List.set_cons_succ, i64_w, i32_w, u8_wr, tmod_nat, Int.reduceToNat, e4, e16, e15, e15a, hcol]; rfl)) <;>
        (apply lpure rfl rfl; (go_simp; with_reducible rfl); (simp only [Act.put, List.setIfInBounds_toArray, List.set_cons_zero, List.set_cons_succ, i64_w, i32_w, u8_wr, tmod_nat, Int.reduceToNat, e4, e16, e15, e15a, hcol]; rfl)) <;>
        (apply lend)
      | ((with_reducible refine gate_region (id := 6) ?_); apply plain_region) <;>
        (apply lpure rfl rfl; (go_simp; with_reducible rfl); (simp only [Act.put, List.setIfInBounds_toArray, List.set_cons_zero, List.set_cons_succ, i64_w, i32_w, u8_wr, tmod_nat, Int.reduceToNat, e4, e16, e15, e15a, hcol]; rfl)) <;>
        ((with_reducible apply Fr.lstoreRow HF rfl rfl rfl); assumption; rfl; (go_simp; rfl); rfl; rfl; (repeat (first | apply At.head | apply At.tail)); (simp only [List.drop_succ_cons, List.drop_zero, List.drop_nil, List.take_succ_cons, List.take_zero, List.cons_append, List.nil_append, List.append_nil]; rfl); simp; clear HF; intro w_ HF) <;>
        (apply lpure rfl rfl; (go_simp; with_reducible rfl); (simp only [Act.put, List.setIfInBounds_toArray, List.set_cons_zero, List.set_cons_succ, i64_w, i32_w, u8_wr, tmod_nat, Int.reduceToNat, e4, e16, e15, e15a, hcol]; rfl)) <;>
        (apply lend)
      | go_step | fail)
  all_goals (refine bodyPost_ret (results_ct rfl _ _ _ 23 _ (0, 0) _ rfl (HF.get (by repeat (first | exact At.head | apply At.tail))) Tryz.underlying23 rfl (by kernel_rfl)) rfl ?_; exact ⟨rfl, HF.below⟩)

set_option maxHeartbeats 8000000 in
set_option maxRecDepth 100000 in
theorem addrRead_111 (s : ByteArray) (hs : s.size ≤ 1048576) (k : Nat) (b0 b1 b2 b3 b4 : Int) (hcol : hasCol s = true) (htx : textOf (addrBytes b0 b1 b2 b3 b4) = s) (hA : impl_AddrOf.f k ((split col s).flatMap f16) = some (b0, b1, b2, b3, b4, true)) (w : World) (hE : Errs w) (hM : MaxLen w) (htab : Lib.TabIs Tryz.prog w "internal/strconv.uint64pow10" .u64 Lib.pow10Tab) (hT : TabAt 7 Lib.deBruijn64tab w) :
    Calls Tryz.prog 12 #[.string s] w fun e w' => e = .returned (.tuple #[.agg #[.int .i64 b0, .int .i64 b1, .int .i64 b2, .int .i64 b3, .int .i64 b4], .bool true]) ∧ Below w.heap.size w w' := by
  have R25_ : IsRow Tryz.prog 23 5 := ⟨⟨_, Tryz.underlying23, rfl⟩, by kernel_rfl⟩
  have HF := Fr.start [23] w
  have HE := Aside0.mk hE
  have HM := Aside0.mk hM
  have HTB := Aside0.mk htab
  have HTT := Aside0.mk hT
  have HA := Aside0.mk hA
  obtain ⟨T, hTx⟩ : ∃ T, T = textOf (addrBytes b0 b1 b2 b3 b4) := ⟨_, rfl⟩
  have implT := fun w => (hTx ▸ RText.implT b0 b1 b2 b3 b4 w :)
  rw [← hTx] at htx
  have ct : (T.toList != s.toList) = false := by rw [htx]; exact bne_self_eq_false _
  have ct' : (T.toList == s.toList) = true := by rw [htx]; exact beq_self_eq_true _
  clear hTx htx
  clear hE hM htab hT hA
  go_enter Tryz.func12, Tryz.ntmps12
  repeat' (first
      | ((with_reducible refine gate_region (id := 0) ?_); apply plain_region) <;>
        ((with_reducible apply Fr.lalloc HF rfl rfl rfl); (go_simp; rfl); decide; clear HF; intro g_ w_ HF; (refine lnorm (a' := ?_) ?_ ?_; rotate_left; (simp only [Act.put, List.setIfInBounds_toArray, List.set_cons_zero, List.set_cons_succ, i64_w, i32_w, u8_wr, tmod_nat, Int.reduceToNat, e4, e16, e15, e15a, hcol]; rfl))) <;>
        (apply lpure rfl rfl; (go_simp; with_reducible rfl); (simp only [Act.put, List.setIfInBounds_toArray, List.set_cons_zero, List.set_cons_succ, i64_w, i32_w, u8_wr, tmod_nat, Int.reduceToNat, e4, e16, e15, e15a, hcol]; rfl)) <;>
        (apply lend)
      | ((with_reducible refine gate_region (id := 1) ?_); apply plain_region) <;>
        (apply lpure rfl rfl; (go_simp; with_reducible rfl); (simp only [Act.put, List.setIfInBounds_toArray, List.set_cons_zero, List.set_cons_succ, i64_w, i32_w, u8_wr, tmod_nat, Int.reduceToNat, e4, e16, e15, e15a, hcol]; rfl)) <;>
        (apply lcall rfl rfl rfl Tryz.func27 (by kernel_rfl) rfl; (with_reducible apply Calls.mono); exact splitC dot s rfl hs _ (HM.out.later HF.below); rintro e w_ ⟨gs_, rfl, hc_, hb_⟩; refine ⟨_, rfl, ?_⟩; replace HF := HF.call hb_; clear hb_; have HC := Aside0.mk hc_; clear hc_; rotate_left; (first | rfl | (simp only [List.map_toArray, List.map_cons, List.map_nil]; first | done | rfl)); (refine lnorm (a' := ?_) ?_ ?_; rotate_left; (simp only [Act.put, List.setIfInBounds_toArray, List.set_cons_zero, List.set_cons_succ, i64_w, i32_w, u8_wr, tmod_nat, Int.reduceToNat, e4, e16, e15, e15a, hcol]; rfl))) <;>
        (apply lcall rfl rfl rfl Tryz.func26 (by kernel_rfl) rfl; (with_reducible apply Calls.mono); exact bytes10 dot s rfl hs _ (HE.out.later HF.below) _ HC.out; rintro e w_ ⟨v0_, rfl, ho_, hb_⟩; obtain ⟨D_, ed_, ho2_⟩ := R_name ho_; clear ho_; (try rw [ed_] at HA); clear ed_; obtain ⟨Ad, cd, rfl⟩ := Kd.R_slice ho2_; have HOD := HF.row2 ho2_; clear ho2_ HC; refine ⟨_, rfl, ?_⟩; replace HF := (HF.call hb_).mark; clear hb_; rotate_left; (first | rfl | (simp only [List.map_toArray, List.map_cons, List.map_nil]; first | done | rfl)); (refine lnorm (a' := ?_) ?_ ?_; rotate_left; (simp only [Act.put, List.setIfInBounds_toArray, List.set_cons_zero, List.set_cons_succ, i64_w, i32_w, u8_wr, tmod_nat, Int.reduceToNat, e4, e16, e15, e15a, hcol]; rfl))) <;>
        (apply lpure rfl rfl; (go_simp; with_reducible rfl); (simp only [Act.put, List.setIfInBounds_toArray, List.set_cons_zero, List.set_cons_succ, i64_w, i32_w, u8_wr, tmod_nat, Int.reduceToNat, e4, e16, e15, e15a, hcol]; rfl)) <;>
        (apply lend)
      | ((with_reducible refine gate_region (id := 2) ?_); apply plain_region) <;>
        (apply lpure rfl rfl; (go_simp; with_reducible rfl); (simp only [Act.put, List.setIfInBounds_toArray, List.set_cons_zero, List.set_cons_succ, i64_w, i32_w, u8_wr, tmod_nat, Int.reduceToNat, e4, e16, e15, e15a, hcol]; rfl)) <;>
        (apply lcall rfl rfl rfl Tryz.func28 (by kernel_rfl) rfl; (with_reducible apply Calls.mono); exact containsC s _; rintro e w_ ⟨rfl, hb_⟩; refine ⟨_, rfl, ?_⟩; replace HF := HF.call hb_; clear hb_; rotate_left; (first | rfl | (simp only [List.map_toArray, List.map_cons, List.map_nil]; first | done | rfl)); (refine lnorm (a' := ?_) ?_ ?_; rotate_left; (simp only [Act.put, List.setIfInBounds_toArray, List.set_cons_zero, List.set_cons_succ, i64_w, i32_w, u8_wr, tmod_nat, Int.reduceToNat, e4, e16, e15, e15a, hcol]; rfl))) <;>
        (apply lend)
      | ((with_reducible refine gate_region (id := 3) ?_); apply plain_region) <;>
        (apply lpure rfl rfl; (go_simp; with_reducible rfl); (simp only [Act.put, List.setIfInBounds_toArray, List.set_cons_zero, List.set_cons_succ, i64_w, i32_w, u8_wr, tmod_nat, Int.reduceToNat, e4, e16, e15, e15a, hcol]; rfl)) <;>
        (apply lcall rfl rfl rfl Tryz.func27 (by kernel_rfl) rfl; (with_reducible apply Calls.mono); exact splitC col s rfl hs _ (HM.out.later HF.below); rintro e w_ ⟨gs_, rfl, hc_, hb_⟩; refine ⟨_, rfl, ?_⟩; replace HF := HF.call hb_; clear hb_; have HC := Aside0.mk hc_; clear hc_; rotate_left; (first | rfl | (simp only [List.map_toArray, List.map_cons, List.map_nil]; first | done | rfl)); (refine lnorm (a' := ?_) ?_ ?_; rotate_left; (simp only [Act.put, List.setIfInBounds_toArray, List.set_cons_zero, List.set_cons_succ, i64_w, i32_w, u8_wr, tmod_nat, Int.reduceToNat, e4, e16, e15, e15a, hcol]; rfl))) <;>
        (apply lcall rfl rfl rfl Tryz.func26 (by kernel_rfl) rfl; (with_reducible apply Calls.mono); exact bytes16 col s rfl hs _ (HE.out.later HF.below) _ HC.out; rintro e w_ ⟨v0_, rfl, ho_, hb_⟩; obtain ⟨D_, ed_, ho2_⟩ := R_name ho_; clear ho_; (try rw [ed_] at HA); clear ed_; obtain ⟨Ad, cd, rfl⟩ := Kd.R_slice ho2_; have HOD := HF.row2 ho2_; clear ho2_ HC; refine ⟨_, rfl, ?_⟩; replace HF := (HF.call hb_).mark; clear hb_; rotate_left; (first | rfl | (simp only [List.map_toArray, List.map_cons, List.map_nil]; first | done | rfl)); (refine lnorm (a' := ?_) ?_ ?_; rotate_left; (simp only [Act.put, List.setIfInBounds_toArray, List.set_cons_zero, List.set_cons_succ, i64_w, i32_w, u8_wr, tmod_nat, Int.reduceToNat, e4, e16, e15, e15a, hcol]; rfl))) <;>
        (apply lpure rfl rfl; (go_simp; with_reducible rfl); (simp only [Act.put, List.setIfInBounds_toArray, List.set_cons_zero, List.set_cons_succ, i64_w, i32_w, u8_wr, tmod_nat, Int.reduceToNat, e4, e16, e15, e15a, hcol]; rfl)) <;>
        (apply lend)
      | ((with_reducible refine gate_region (id := 4) ?_); apply plain_region) <;>
        (apply lpure rfl rfl; (go_simp; with_reducible rfl); (simp only [Act.put, List.setIfInBounds_toArray, List.set_cons_zero, List.set_cons_succ, i64_w, i32_w, u8_wr, tmod_nat, Int.reduceToNat, e4, e16, e15, e15a, hcol]; rfl)) <;>
        (apply lcall rfl rfl rfl Tryz.func29 (by kernel_rfl) rfl; (with_reducible apply Calls.mono); (with_reducible apply impl_AddrOf.calls (h := HA.out)); exact (HF.rowC HOD (by simp) (by decide)).1; exact (HF.rowC HOD (by simp) (by decide)).2; rintro e w_ ⟨rfl, hb_⟩; refine ⟨_, rfl, ?_⟩; replace HF := HF.call hb_; clear hb_; rotate_left; (first | rfl | (simp only [List.map_toArray, List.map_cons, List.map_nil]; first | done | rfl)); (refine lnorm (a' := ?_) ?_ ?_; rotate_left; (simp only [Act.put, List.setIfInBounds_toArray, List.set_cons_zero, List.set_cons_succ, i64_w, i32_w, u8_wr, tmod_nat, Int.reduceToNat, e4, e16, e15, e15a, hcol]; rfl))) <;>
        (apply lpure rfl rfl; (go_simp; with_reducible rfl); (simp only [Act.put, List.setIfInBounds_toArray, List.set_cons_zero, List.set_cons_succ, i64_w, i32_w, u8_wr, tmod_nat, Int.reduceToNat, e4, e16, e15, e15a, hcol]; rfl)) <;>
        (apply lpure rfl rfl; (go_simp; with_reducible rfl); (simp only [Act.put, List.setIfInBounds_toArray, List.set_cons_zero, List.set_cons_succ, i64_w, i32_w, u8_wr, tmod_nat, Int.reduceToNat, e4, e16, e15, e15a, hcol]; rfl)) <;>
        (apply lpure rfl rfl; (go_simp; with_reducible rfl); (simp only [Act.put, List.setIfInBounds_toArray, List.set_cons_zero, List.set_cons_succ, i64_w, i32_w, u8_wr, tmod_nat, Int.reduceToNat, e4, e16, e15, e15a, hcol]; rfl)) <;>
        ((with_reducible apply Fr.lalloc HF rfl rfl rfl); (go_simp; rfl); decide; clear HF; intro g_ w_ HF; (refine lnorm (a' := ?_) ?_ ?_; rotate_left; (simp only [Act.put, List.setIfInBounds_toArray, List.set_cons_zero, List.set_cons_succ, i64_w, i32_w, u8_wr, tmod_nat, Int.reduceToNat, e4, e16, e15, e15a, hcol]; rfl))) <;>
        ((with_reducible apply Fr.lstoreRow HF rfl rfl rfl); assumption; rfl; (go_simp; rfl); rfl; rfl; (repeat (first | apply At.head | apply At.tail)); (simp only [List.drop_succ_cons, List.drop_zero, List.drop_nil, List.take_succ_cons, List.take_zero, List.cons_append, List.nil_append, List.append_nil]; rfl); simp; clear HF; intro w_ HF) <;>
        (apply lpure rfl rfl; (go_simp; with_reducible rfl); (simp only [Act.put, List.setIfInBounds_toArray, List.set_cons_zero, List.set_cons_succ, i64_w, i32_w, u8_wr, tmod_nat, Int.reduceToNat, e4, e16, e15, e15a, hcol]; rfl)) <;>
        (apply lend)
      | ((with_reducible refine gate_region (id := 5) ?_); apply plain_region) <;>
        (apply lpure rfl rfl; (go_simp; with_reducible rfl); (simp only [Act.put, List.setIfInBounds_toArray, List.set_cons_zero, List.set_cons_succ, i64_w, i32_w, u8_wr, tmod_nat, Int.reduceToNat, e4, e16, e15, e15a, hcol]; rfl)) <;>
        (apply lpure rfl rfl; (go_simp; with_reducible rfl); (simp only [Act.put, List.setIfInBounds_toArray, List.set_cons_zero, List.set_cons_succ, i64_w, i32_w, u8_wr, tmod_nat, Int.reduceToNat, e4, e16, e15, e15a, hcol]; rfl)) <;>
        (apply lpure rfl rfl; (go_simp; with_reducible rfl); (simp only [Act.put, List.setIfInBounds_toArray, List.set_cons_zero, List.set_cons_succ, i64_w, i32_w, u8_wr, tmod_nat, Int.reduceToNat, e4, e16, e15, e15a, hcol]; rfl)) <;>
        (apply HF.lrow rfl rfl rfl R25_ rfl; (repeat (first | exact At.head | apply At.tail)); (simp only [List.drop_succ_cons, List.drop_zero, List.take_succ_cons, List.take_zero]; rfl); rfl; (simp only [Act.put, List.setIfInBounds_toArray, List.set_cons_zero, List.set_cons_succ, i64_w, i32_w, u8_wr, tmod_nat, Int.reduceToNat, e4, e16, e15, e15a, hcol]; rfl)) <;>
        (apply lcall rfl rfl rfl Tryz.func30 (by kernel_rfl) rfl; (with_reducible apply Calls.mono); exact implT _ (Go.Joins.tab_stays gTab HTB.out HF.below (Nat.le_refl _)) (tab_later HTT.out HF.below); rintro e w_ ⟨rfl, hb_⟩; refine ⟨_, rfl, ?_⟩; replace HF := HF.call hb_; clear hb_; rotate_left; (first | rfl | (simp only [List.map_toArray, List.map_cons, List.map_nil]; first | done | rfl)); (refine lnorm (a' := ?_) ?_ ?_; rotate_left; (simp only [Act.put, List.setIfInBounds_toArray, List.set_cons_zero, List.set_cons_succ, i64_w, i32_w, u8_wr, tmod_nat, Int.reduceToNat, e4, e16, e15, e15a, hcol]; rfl))) <;>
        (apply lpure rfl rfl; (go_simp; with_reducible rfl); (simp only [Act.put, List.setIfInBounds_toArray, List.set_cons_zero, List.set_cons_succ, i64_w, i32_w, u8_wr, tmod_nat, Int.reduceToNat, e4, e16, e15, e15a, hcol]; rfl)) <;>
        (apply lpure rfl rfl; (go_simp; with_reducible rfl); (simp only [Act.put, List.setIfInBounds_toArray, List.set_cons_zero, List.set_cons_succ, i64_w, i32_w, u8_wr, tmod_nat, Int.reduceToNat, e4, e16, e15, e15a, hcol]; rfl)) <;>
        (apply lpure rfl rfl; (go_simp; with_reducible rfl); (simp only [Act.put, List.setIfInBounds_toArray, List.set_cons_zero, List.set_cons_succ, i64_w, i32_w, u8_wr, tmod_nat, Int.reduceToNat, e4, e16, e15, e15a, hcol]; rfl)) <;>
        (apply lend)
      | ((with_reducible refine gate_region (id := 7) ?_); apply plain_region) <;>
        (apply HF.lrow rfl rfl rfl R25_ rfl; (repeat (first | exact At.head | apply At.tail)); (simp only [List.drop_succ_cons, List.drop_zero, List.take_succ_cons, List.take_zero]; rfl); rfl; (simp only [Act.put, List.setIfInBounds_toArray, List.set_cons_zero, List.set_cons_succ, i64_w, i32_w, u8_wr, tmod_nat, Int.reduceToNat, e4, e16, e15, e15a, hcol]; rfl)) <;>
        ((with_reducible apply Fr.lstoreRow HF rfl rfl rfl); assumption; rfl; (go_simp; rfl); rfl; rfl; (repeat (first | apply At.head | apply At.tail)); (simp only [List.drop_succ_cons, List.drop_zero, List.drop_nil, List.take_succ_cons, List.take_zero, List.cons_append, List.nil_append, List.append_nil]; rfl); simp; clear HF; intro w_ HF) <;>
        (apply lpure rfl rfl; (go_simp; with_reducible rfl); (simp only [Act.put, List.setIfInBounds_toArray, List.set_cons_zero, List.set_cons_succ, i64_w, i32_w, u8_wr, tmod_nat, Int.reduceToNat, e4, e16, e15, e15a, hcol]; rfl)) <;>
        (apply lend)
      | go_step | fail)
  all_goals (refine bodyPost_ret (results_ct rfl _ _ _ 23 _ (0, 0) _ rfl (HF.get (by repeat (first | exact At.head | apply At.tail))) Tryz.underlying23 rfl (by kernel_rfl)) rfl ?_; exact ⟨rfl, HF.below⟩)
end Go.Proofs.YtljeajecajlaiaaGreatDoor.Read
