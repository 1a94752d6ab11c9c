/- spec.AddrRead: it answers as the total function specRead says. No condition. -/
import Derived.Test.YtljeajecajlaiaaGreatDoorZRSameFnExactPrefixRead
namespace Go.Proofs.YtljeajecajlaiaaGreatDoor.SRead
open Go.RowKit Go.Lib Go.Shelf Go.Proofs.YtljeajecajlaiaaGreatDoorW.PrintWords Go.Proofs.YtljeajecajlaiaaGreatDoorW.PrintLast Go.Proofs.YtljeajecajlaiaaGreatDoorW.PrintMore Go.Proofs.YtljeajecajlaiaaGreatDoor.Frame Go.Proofs.YtljeajecajlaiaaGreatDoor.Base Go.Proofs.YtljeajecajlaiaaGreatDoor.Hex Go.Proofs.YtljeajecajlaiaaGreatDoor.Text Go.Proofs.YtljeajecajlaiaaGreatDoor.Spec Go.Proofs.YtljeajecajlaiaaGreatDoor.Pu Go.Proofs.YtljeajecajlaiaaGreatDoor.RPlain Go.Proofs.YtljeajecajlaiaaGreatDoor.Read Go.Proofs.YtljeajecajlaiaaGreatDoor.AddrLaw Go.Proofs.YtljeajecajlaiaaGreatDoor.RLaw Go.Proofs.YtljeajecajlaiaaGreatDoor.RText Go.Proofs.YtljeajecajlaiaaGreatDoor.FFnExactPrefixRead
set_option linter.unusedVariables false
set_option linter.unusedSimpArgs false
section
variable {P : Program} {ops : Array Oper} {rest : List Oper} {oi : Oper} {a : Act} {Q : Exit → Act → World → Prop} {T : List Nat} {w W : World} {L : List Blk} {Ms : List World} {N : Tmp} {k : IntKind} {A : Option Addr} {c : Nat} {l : List Int}
theorem keptS {e e2 : Nat} {ok ok2 : Nat → Prop} {v v2 : Value} {xs : List Int} {ys : List ByteArray} {w1 : World} {row : Option Nat} {base : Nat} (HO : (Kd.int k).R e W base ok v xs) (H2 : Kd.string.R e2 W base ok2 v2 ys) (hne : e2 ≠ e) (hg : W.grownBy w1 row) (hr : row = v.ownBlock) : Kd.string.R e2 w1 base (fun _ => True) v2 ys :=
  Kd.R_mono (Kd.R_grown (Kd.R_apart' H2 (fun q hq => R_typed HO q hq) (fun q hq => by
    have : q = e2 := by simpa [Kd.string, Kd.scalar] using hq
    subst this
    exact hne)) hg (fun q hq => by subst hr; exact hq.2)) (fun _ _ => trivial)
theorem run_app2 {bytes : Nat} {K : Act → World → Prop} {s x : Operand} {t e : TypeId} {ok ok2 ok3 : Nat → Prop} {v v2 v3 : Value} {xs : List Int} {ys zs : List ByteArray} (F : Fr T w W L Ms) (hw : Region.wanted oi (yielded ops a.tmps) = true) (ho : oi.op = .call { callee := .builtin .append, args := #[s, x], argTypes := #[t, t] }) (hN : oi.dst = some N) (hu : P.underlying t = some (.slice e)) (hinfo : (P.info? e).map (fun i => (i.zero, i.size, i.bytes)) = some (some (Value.int k 0), 1, bytes)) (hb : 0 < bytes)
    (hs : a.eval s = v) (hx : a.eval x = .slice A l.length c) (HO : (Kd.int k).R e W w.heap.size ok v xs) (H2 : Kd.string.R 9 W w.heap.size ok2 v2 ys) (H3 : Kd.string.R 9 W w.heap.size ok3 v3 zs) (ht : e ∉ T ∧ 9 ≠ e) (hC : (Kd.int k).C W A l.length l) (hl : (xs.length + l.length) * bytes ≤ 140737488355328)
    (h : ∀ v1 w1, (Kd.int k).R e w1 w.heap.size (fun _ => True) v1 (xs ++ l) → Kd.string.R 9 w1 w.heap.size (fun _ => True) v2 ys → Kd.string.R 9 w1 w.heap.size (fun _ => True) v3 zs → Fr T w w1 L [w1] → K (a.put (some N) v1) w1) : if Region.wanted oi (yielded ops a.tmps) = true then Oper.wp P oi a W K Q else K (a.put oi.dst undef) W := by
  rw [← hN] at h
  have hO := Kd.R_mono HO (fun _ _ => True.intro)
  refine Kd.R_append_rows_step (Kd.int k) (w0 := w) w.heap.size hw s x t e (.int k 0) bytes ho hu hinfo rfl (show 0 < 1 by decide) hb v xs l _ _ _ (fun _ => True) (fun _ => False) hs hx hO hC (fun _ _ h => h) (fun _ h => h.elim) (fun _ _ => trivial) F.below F.below.size (by simpa using hl) ?_
  intro v1 w1 h1 h2 h3 _
  exact h v1 w1 h1 (keptS HO H2 ht.2 h3 rfl) (keptS HO H3 ht.2 h3 rfl) (F.grown2 h2 h3 (R_typed HO) ht.1)
theorem run_app1 {bytes : Nat} {K : Act → World → Prop} {s x : Operand} {t e : TypeId} {ok ok2 : Nat → Prop} {v v2 : Value} {xs : List Int} {ys : List ByteArray} (F : Fr T w W L Ms) (hw : Region.wanted oi (yielded ops a.tmps) = true) (ho : oi.op = .call { callee := .builtin .append, args := #[s, x], argTypes := #[t, t] }) (hN : oi.dst = some N) (hu : P.underlying t = some (.slice e)) (hinfo : (P.info? e).map (fun i => (i.zero, i.size, i.bytes)) = some (some (Value.int k 0), 1, bytes)) (hb : 0 < bytes)
    (hs : a.eval s = v) (hx : a.eval x = .slice A l.length c) (HO : (Kd.int k).R e W w.heap.size ok v xs) (H2 : Kd.string.R 9 W w.heap.size ok2 v2 ys) (ht : e ∉ T ∧ 9 ≠ e) (hC : (Kd.int k).C W A l.length l) (hl : (xs.length + l.length) * bytes ≤ 140737488355328)
    (h : ∀ v1 w1, (Kd.int k).R e w1 w.heap.size (fun _ => True) v1 (xs ++ l) → Kd.string.R 9 w1 w.heap.size (fun _ => True) v2 ys → Fr T w w1 L [w1] → K (a.put (some N) v1) w1) : if Region.wanted oi (yielded ops a.tmps) = true then Oper.wp P oi a W K Q else K (a.put oi.dst undef) W :=
  run_app2 F hw ho hN hu hinfo hb hs hx HO H2 H2 ht hC hl (fun v1 w1 h1 h2 _ h4 => h v1 w1 h1 h2 h4)
end
theorem b2_len (n : Int) : (Base.b2 n).length = 2 := rfl
theorem go10_step {s : ByteArray} {F S r : List ByteArray} {ds : List Int} {p : ByteArray} {v : Int} (e : F = p :: r) (hv : valS 10 p = v) : end10 s F S ds = if v < 0 then Z else if v > 255 then Z else end10 s r S (ds ++ [v % 256]) := by
  subst e
  subst hv
  unfold end10
  rw [show go10 (p :: r) ds = if valS 10 p < 0 then none else if valS 10 p > 255 then none else go10 r (ds ++ [valS 10 p % 256]) from rfl]
  by_cases c : valS 10 p < 0
  · rw [if_pos c, if_pos c]
  · rw [if_neg c, if_neg c]
    by_cases d : valS 10 p > 255
    · rw [if_pos d, if_pos d]
    · rw [if_neg d, if_neg d]
theorem go16_step {s : ByteArray} {S r : List ByteArray} {ds : List Int} {p : ByteArray} {v : Int} (e : S = p :: r) (hv : valS 16 p = v) : end16 s S ds = if v < 0 then Z else end16 s r (ds ++ Base.b2 v) := by
  subst e
  subst hv
  unfold end16
  rw [show go16 (p :: r) ds = if valS 16 p < 0 then none else go16 r (ds ++ Base.b2 (valS 16 p)) from rfl]
  by_cases c : valS 16 p < 0
  · rw [if_pos c, if_pos c]
  · rw [if_neg c, if_neg c]
theorem finCases {s : ByteArray} {X : List Int} (h : specRead s = finR s X) (hd : U8 X) (hl : X.length ≤ 100) : ∃ b0 b1 b2 b3 b4 ok, spec_AddrOf.f 1300 X = some (b0, b1, b2, b3, b4, ok) ∧ ((ok = false ∧ specRead s = Z) ∨ (ok = true ∧ ((textOf (addrBytes b0 b1 b2 b3 b4)).toList ≠ s.toList ∧ specRead s = Z)) ∨ (ok = true ∧ ((textOf (addrBytes b0 b1 b2 b3 b4)).toList = s.toList ∧ specRead s = (b0, b1, b2, b3, b4, true)))) := by
  have hA := specAddrOf hd (by omega) (show 10 ≤ 1300 by omega)
  unfold finR at h
  obtain ⟨⟨b0, b1, b2, b3, b4, ok⟩, hB⟩ : ∃ B, B = addrOf X := ⟨_, rfl⟩
  rw [← hB] at hA h
  refine ⟨b0, b1, b2, b3, b4, ok, hA, ?_⟩
  cases ok with
  | false => exact Or.inl ⟨rfl, h.trans (if_neg Bool.false_ne_true)⟩
  | true =>
    replace h := h.trans (if_pos rfl)
    by_cases ht : (textOf (addrBytes b0 b1 b2 b3 b4)).toList = s.toList
    · exact Or.inr (Or.inr ⟨rfl, ht, h.trans (if_pos ht)⟩)
    · exact Or.inr (Or.inl ⟨rfl, ht, h.trans (if_neg ht)⟩)
def tupV (x : Int × Int × Int × Int × Int × Bool) : Value := .tuple #[.agg #[.int .i64 x.1, .int .i64 x.2.1, .int .i64 x.2.2.1, .int .i64 x.2.2.2.1, .int .i64 x.2.2.2.2.1], .bool x.2.2.2.2.2]

set_option maxHeartbeats 16000000 in
set_option maxRecDepth 100000 in
theorem specIs (s : ByteArray) (w : World) : Calls Tryz.prog 8 #[.string s] w fun e w' => e = .returned (tupV (specRead s)) ∧ Below w.heap.size w w' := by
  have hu30 := Tryz.underlying30
  have hu41 := Tryz.underlying41
  have z9_ : (Tryz.prog.info? 9).map (·.size) = some 1 := by kernel_rfl
  have info5_ : (Tryz.prog.info? 5).map (fun i => (i.zero, i.size, i.bytes)) = some (some (.int .u8 0), 1, 1) := by kernel_rfl
  have O9_ : IsOne Tryz.prog 9 := ⟨⟨_, Tryz.underlying9, rfl⟩, by kernel_rfl⟩
  have R23_ : IsRow Tryz.prog 23 5 := ⟨⟨_, Tryz.underlying23, rfl⟩, by kernel_rfl⟩
  have HF := Fr.start [23] w
  obtain ⟨B, hB⟩ : ∃ B, specRead s = B := ⟨_, rfl⟩
  have HFIN := Aside0.mk hB
  by_cases c39 : (s.size : Int) > 39
  case pos =>
    have d39 : decide ((39 : Int) < (s.size : Int)) = true := decide_eq_true c39
    replace HFIN := Aside0.mk (show specRead s = Z from if_pos c39)
    go_enter Tryz.func8, Tryz.ntmps8
    all_goals (repeat' (first
        | ((with_reducible refine gate_region (id := 0) ?_); apply plain_region) <;>
            ((with_reducible apply Fr.lalloc HF rfl rfl rfl); (go_simp; rfl); decide; clear HF; intro g_ w_ HF; (refine lnorm (a' := ?_) ?_ ?_; rotate_left; (simp only [Act.put, List.setIfInBounds_toArray, List.set_cons_zero, List.set_cons_succ, i64_w, i32_w, u8_wr, tmod_nat, Int.reduceToNat, e4, e16, e15, e15a, d39]; rfl))) <;>
            (apply lpure rfl rfl; (go_simp; with_reducible rfl); (simp only [Act.put, List.setIfInBounds_toArray, List.set_cons_zero, List.set_cons_succ, i64_w, i32_w, u8_wr, tmod_nat, Int.reduceToNat, e4, e16, e15, e15a, d39]; rfl)) <;>
            (apply lend)
        | ((with_reducible refine gate_region (id := 1) ?_); apply plain_region) <;>
            (apply lpure rfl rfl; (go_simp; with_reducible rfl); (simp only [Act.put, List.setIfInBounds_toArray, List.set_cons_zero, List.set_cons_succ, i64_w, i32_w, u8_wr, tmod_nat, Int.reduceToNat, e4, e16, e15, e15a, d39]; rfl)) <;>
            (apply lpure rfl rfl; (go_simp; with_reducible rfl); (simp only [Act.put, List.setIfInBounds_toArray, List.set_cons_zero, List.set_cons_succ, i64_w, i32_w, u8_wr, tmod_nat, Int.reduceToNat, e4, e16, e15, e15a, d39]; rfl)) <;>
            (apply lpure rfl rfl; (go_simp; with_reducible rfl); (simp only [Act.put, List.setIfInBounds_toArray, List.set_cons_zero, List.set_cons_succ, i64_w, i32_w, u8_wr, tmod_nat, Int.reduceToNat, e4, e16, e15, e15a, d39]; rfl)) <;>
            (apply lend)
        | ((with_reducible refine gate_region (id := 2) ?_); apply plain_region) <;>
            (apply lpure rfl rfl; (go_simp; with_reducible rfl); (simp only [Act.put, List.setIfInBounds_toArray, List.set_cons_zero, List.set_cons_succ, i64_w, i32_w, u8_wr, tmod_nat, Int.reduceToNat, e4, e16, e15, e15a, d39]; rfl)) <;>
            ((with_reducible apply Fr.lstoreRow HF rfl rfl rfl); assumption; rfl; (go_simp; rfl); rfl; rfl; (repeat (first | apply At.head | apply At.tail)); (simp only [List.drop_succ_cons, List.drop_zero, List.drop_nil, List.take_succ_cons, List.take_zero, List.cons_append, List.nil_append, List.append_nil]; rfl); simp; clear HF; intro w_ HF) <;>
            (apply lpure rfl rfl; (go_simp; with_reducible rfl); (simp only [Act.put, List.setIfInBounds_toArray, List.set_cons_zero, List.set_cons_succ, i64_w, i32_w, u8_wr, tmod_nat, Int.reduceToNat, e4, e16, e15, e15a, d39]; rfl)) <;>
            (apply lend)
        | go_step | fail))
    all_goals (refine bodyPost_ret (results_ct rfl _ _ _ 23 _ (0, 0) _ rfl (HF.get (by repeat (first | exact At.head | apply At.tail))) Tryz.underlying23 rfl (by kernel_rfl)) rfl ?_; exact ⟨by rw [HFIN.out]; rfl, HF.below⟩)
  have d39 : decide ((39 : Int) < (s.size : Int)) = false := decide_eq_false c39
  have hG1 := group s 46 (by omega) (show 1001 ≤ 1300 by omega)
  have hG2 := group s 58 (by omega) (show 1001 ≤ 1300 by omega)
  replace HFIN := Aside0.mk (show specRead s = _ from if_neg c39)
  obtain ⟨F, hF⟩ : ∃ F, F = (grp 46 s.data.toList).map ofL := ⟨_, rfl⟩
  obtain ⟨S, hS⟩ : ∃ S, S = (grp 58 s.data.toList).map ofL := ⟨_, rfl⟩
  rw [← hF, ← hS] at HFIN
  have HGF := Aside0.mk (show spec_l03Group.f 1300 s 46 = some F by rw [hF]; exact hG1)
  have HGS := Aside0.mk (show spec_l03Group.f 1300 s 58 = some S by rw [hS]; exact hG2)
  clear hG1 hG2 hF hS hB c39
  go_enter Tryz.func8, Tryz.ntmps8
  by_cases c4 : (F.length : Int) = 4
  case' pos =>
    have d4 : ((F.length : Int) == 4) = true := beq_iff_eq.mpr c4
    replace HFIN := Aside0.mk (HFIN.out.trans (if_pos c4))
    all_goals (repeat' (first
        | ((with_reducible refine gate_region (id := 0) ?_); apply plain_region) <;>
            ((with_reducible apply Fr.lalloc HF rfl rfl rfl); (go_simp; rfl); decide; clear HF; intro g_ w_ HF; (refine lnorm (a' := ?_) ?_ ?_; rotate_left; (simp only [Act.put, List.setIfInBounds_toArray, List.set_cons_zero, List.set_cons_succ, i64_w, i32_w, u8_wr, tmod_nat, Int.reduceToNat, e4, e16, e15, e15a, d39, d4]; rfl))) <;>
            (apply lpure rfl rfl; (go_simp; with_reducible rfl); (simp only [Act.put, List.setIfInBounds_toArray, List.set_cons_zero, List.set_cons_succ, i64_w, i32_w, u8_wr, tmod_nat, Int.reduceToNat, e4, e16, e15, e15a, d39, d4]; rfl)) <;>
            (apply lend)
        | ((with_reducible refine gate_region (id := 1) ?_); apply plain_region) <;>
            (apply lpure rfl rfl; (go_simp; with_reducible rfl); (simp only [Act.put, List.setIfInBounds_toArray, List.set_cons_zero, List.set_cons_succ, i64_w, i32_w, u8_wr, tmod_nat, Int.reduceToNat, e4, e16, e15, e15a, d39, d4]; rfl)) <;>
            (apply lpure rfl rfl; (go_simp; with_reducible rfl); (simp only [Act.put, List.setIfInBounds_toArray, List.set_cons_zero, List.set_cons_succ, i64_w, i32_w, u8_wr, tmod_nat, Int.reduceToNat, e4, e16, e15, e15a, d39, d4]; rfl)) <;>
            (apply lpure rfl rfl; (go_simp; with_reducible rfl); (simp only [Act.put, List.setIfInBounds_toArray, List.set_cons_zero, List.set_cons_succ, i64_w, i32_w, u8_wr, tmod_nat, Int.reduceToNat, e4, e16, e15, e15a, d39, d4]; rfl)) <;>
            (apply lend)
        | ((with_reducible refine gate_region (id := 3) ?_); apply plain_region) <;>
            (have HF0 := HF; apply HF.lempty rfl rfl; (go_simp; first | rfl | exact ⟨rfl, rfl⟩); clear HF; intro g2_ w_ hg_ hb_ hh_ HF; replace HF := HF.mark; have HOD := empty_row (k := .u8) HF0 hg_ hh_; clear hg_ hb_ hh_ HF0; (refine lnorm (a' := ?_) ?_ ?_; rotate_left; (simp only [Act.put, List.setIfInBounds_toArray, List.set_cons_zero, List.set_cons_succ, i64_w, i32_w, u8_wr, tmod_nat, Int.reduceToNat, e4, e16, e15, e15a, d39, d4]; rfl))) <;>
            (apply lpure rfl rfl; (go_simp; with_reducible rfl); (simp only [Act.put, List.setIfInBounds_toArray, List.set_cons_zero, List.set_cons_succ, i64_w, i32_w, u8_wr, tmod_nat, Int.reduceToNat, e4, e16, e15, e15a, d39, d4]; rfl)) <;>
            (apply lend)
        | ((with_reducible refine gate_region (id := 4) ?_); apply plain_region) <;>
            (apply lpure rfl rfl; (go_simp; with_reducible rfl); (simp only [Act.put, List.setIfInBounds_toArray, List.set_cons_zero, List.set_cons_succ, i64_w, i32_w, u8_wr, tmod_nat, Int.reduceToNat, e4, e16, e15, e15a, d39, d4]; rfl)) <;>
            (apply lcall rfl rfl rfl Tryz.func7 (by kernel_rfl) rfl; (with_reducible apply Calls.mono); (with_reducible apply spec_l03Group.calls (h := HGF.out)); rintro e w_ ⟨v0_, rfl, ho_, hb_⟩; obtain ⟨AF, cF, rfl⟩ := Kd.R_slice ho_; have HOF := HF.row2 ho_; clear ho_; refine ⟨_, rfl, ?_⟩; replace HF := (HF.call hb_).mark; clear hb_; rotate_left; (first | rfl | (simp only [List.map_toArray, List.map_cons, List.map_nil]; first | done | rfl)); (refine lnorm (a' := ?_) ?_ ?_; rotate_left; (simp only [Act.put, List.setIfInBounds_toArray, List.set_cons_zero, List.set_cons_succ, i64_w, i32_w, u8_wr, tmod_nat, Int.reduceToNat, e4, e16, e15, e15a, d39, d4]; rfl))) <;>
            (apply lpure rfl rfl; (go_simp; with_reducible rfl); (simp only [Act.put, List.setIfInBounds_toArray, List.set_cons_zero, List.set_cons_succ, i64_w, i32_w, u8_wr, tmod_nat, Int.reduceToNat, e4, e16, e15, e15a, d39, d4]; rfl)) <;>
            (apply lend)
        | ((with_reducible refine gate_region (id := 5) ?_); apply plain_region) <;>
            (apply lpure rfl rfl; (go_simp; with_reducible rfl); (simp only [Act.put, List.setIfInBounds_toArray, List.set_cons_zero, List.set_cons_succ, i64_w, i32_w, u8_wr, tmod_nat, Int.reduceToNat, e4, e16, e15, e15a, d39, d4]; rfl)) <;>
            (apply lcall rfl rfl rfl Tryz.func7 (by kernel_rfl) rfl; (with_reducible apply Calls.mono); (with_reducible apply spec_l03Group.calls (h := HGS.out)); rintro e w_ ⟨v0_, rfl, ho_, hb_⟩; obtain ⟨AS, cS, rfl⟩ := Kd.R_slice ho_; have HOS := HF.row2 ho_; clear ho_; refine ⟨_, rfl, ?_⟩; replace HF := (HF.call hb_).mark; clear hb_; rotate_left; (first | rfl | (simp only [List.map_toArray, List.map_cons, List.map_nil]; first | done | rfl)); (refine lnorm (a' := ?_) ?_ ?_; rotate_left; (simp only [Act.put, List.setIfInBounds_toArray, List.set_cons_zero, List.set_cons_succ, i64_w, i32_w, u8_wr, tmod_nat, Int.reduceToNat, e4, e16, e15, e15a, d39, d4]; rfl))) <;>
            (apply lpure rfl rfl; (go_simp; with_reducible rfl); (simp only [Act.put, List.setIfInBounds_toArray, List.set_cons_zero, List.set_cons_succ, i64_w, i32_w, u8_wr, tmod_nat, Int.reduceToNat, e4, e16, e15, e15a, d39, d4]; rfl)) <;>
            (apply lend)
        | ((with_reducible refine gate_region (id := 6) ?_); apply plain_region) <;>
            (apply lpure rfl rfl; (go_simp; with_reducible rfl); (simp only [Act.put, List.setIfInBounds_toArray, List.set_cons_zero, List.set_cons_succ, i64_w, i32_w, u8_wr, tmod_nat, Int.reduceToNat, e4, e16, e15, e15a, d39, d4]; rfl)) <;>
            (apply lpure rfl rfl; (go_simp; with_reducible rfl); (simp only [Act.put, List.setIfInBounds_toArray, List.set_cons_zero, List.set_cons_succ, i64_w, i32_w, u8_wr, tmod_nat, Int.reduceToNat, e4, e16, e15, e15a, d39, d4]; rfl)) <;>
            (apply lpure rfl rfl; (go_simp; with_reducible rfl); (simp only [Act.put, List.setIfInBounds_toArray, List.set_cons_zero, List.set_cons_succ, i64_w, i32_w, u8_wr, tmod_nat, Int.reduceToNat, e4, e16, e15, e15a, d39, d4]; rfl)) <;>
            (apply lend)
        | ((with_reducible refine gate_region (id := 7) ?_); apply plain_region) <;>
            (apply lpure rfl rfl; (go_simp; with_reducible rfl); (simp only [Act.put, List.setIfInBounds_toArray, List.set_cons_zero, List.set_cons_succ, i64_w, i32_w, u8_wr, tmod_nat, Int.reduceToNat, e4, e16, e15, e15a, d39, d4]; rfl)) <;>
            (apply lend)
        | go_step | fail))
    all_goals (obtain ⟨LV_, HF2_, EL_⟩ := Fr_name HF; clear HF; have HF := HF2_; clear HF2_; go_loopg [4, 7] 4 (fun kq_ v4_ vi_ w_ => ∃ (x : Int) (ds : List Int) (Ad : Option Addr) (cd : Nat), v4_ = .slice Ad ds.length cd ∧ vi_ = .int .i64 x ∧ Aside0 (specRead s = end10 s (F.drop x.toNat) S ds) ∧ Aside0 (U8 ds ∧ ds.length ≤ x) ∧ Aside0 (0 ≤ x ∧ x ≤ 4) ∧ Aside0 ((4 - x).toNat ≤ kq_) ∧ Aside0 ((Kd.int .u8).R 5 w_ w.heap.size (fun _ => True) (.slice Ad ds.length cd) ds) ∧ Aside0 ((Kd.string).R 9 w_ w.heap.size (fun _ => True) (.slice AF F.length cF) F) ∧ Aside0 ((Kd.string).R 9 w_ w.heap.size (fun _ => True) (.slice AS S.length cS) S) ∧ Fr [23] w w_ LV_ [w_]))
    case atStart => exact ⟨0, [], _, _, (by first | rfl | simp), rfl, ⟨HFIN.out⟩, ⟨U8.nil, by simp⟩, ⟨by omega⟩, ⟨by simp⟩, ⟨Kd.R_mono (HF.row_now HOD.out (by simp) (by decide)) (fun _ _ => trivial)⟩, ⟨Kd.R_mono (HF.row_now HOF.out (by simp) (by decide)) (fun _ _ => trivial)⟩, ⟨Kd.R_mono (HF.row_now HOS.out (by simp) (by decide)) (fun _ _ => trivial)⟩, Fr_now HF⟩
    case' round =>
      clear HF HOD HOF HOS HFIN
      obtain ⟨x, ds, Ad, cd, rfl, rfl, HFIN, HDU, HX, HK, HOD, HOF, HOS, HF⟩ := hrel
      have hx0 := HX.out.1
      have hx1 := HX.out.2
      rw [EL_.out] at HF
      by_cases c : x < 4
      case pos =>
        have c1 : decide (x < 4) = true := decide_eq_true c
        have cl : x < (F.length : Int) := by have := c4; omega
        have hdl := HDU.out.2
        obtain ⟨v, hv⟩ : ∃ v, v = valS 10 (rdOf ByteArray.empty F x) := ⟨_, rfl⟩
        have HV := Aside0.mk hv.symm
        have hv01 := valS_le 10 (by omega) (by omega) (rdOf ByteArray.empty F x)
        rw [← hv] at hv01
        have HD := Aside0.mk (dropG ByteArray.empty hx0 cl)
        have W1 : wrap64 (x + 1) = x + 1 := w64 (by omega) (by omega)
        replace HFIN := Aside0.mk (HFIN.out.trans (go10_step HD.out HV.out))
        clear hv HD
        by_cases cv : v < 0
        · have d1 : decide (v < 0) = true := decide_eq_true cv
          replace HFIN := Aside0.mk (HFIN.out.trans (if_pos cv))
          clear HDU HX HK
          all_goals (repeat' (first
              | ((with_reducible refine gate_region (id := 8) ?_); apply plain_region) <;>
                  (apply lpure rfl rfl; (go_simp; with_reducible rfl); (simp only [Act.put, List.setIfInBounds_toArray, List.set_cons_zero, List.set_cons_succ, i64_w, i32_w, u8_wr, tmod_nat, Int.reduceToNat, e4, e16, e15, e15a, W1, d1]; rfl)) <;>
                  (apply lpure rfl rfl; (go_simp; with_reducible rfl); (simp only [Act.put, List.setIfInBounds_toArray, List.set_cons_zero, List.set_cons_succ, i64_w, i32_w, u8_wr, tmod_nat, Int.reduceToNat, e4, e16, e15, e15a, W1, d1]; rfl)) <;>
                  (apply lend)
              | ((with_reducible refine gate_region (id := 10) ?_); apply plain_region) <;>
                  (apply lpure rfl rfl; (go_simp; with_reducible rfl); (simp only [Act.put, List.setIfInBounds_toArray, List.set_cons_zero, List.set_cons_succ, i64_w, i32_w, u8_wr, tmod_nat, Int.reduceToNat, e4, e16, e15, e15a, W1, d1]; rfl)) <;>
                  (apply lpure rfl rfl; (go_simp; with_reducible rfl); (simp only [Act.put, List.setIfInBounds_toArray, List.set_cons_zero, List.set_cons_succ, i64_w, i32_w, u8_wr, tmod_nat, Int.reduceToNat, e4, e16, e15, e15a, W1, d1]; rfl)) <;>
                  (apply lpure rfl rfl; (exact run_idxS rfl rfl rfl hu30 z9_ (HF.rowC HOF (by simp) (by decide)).1 hx0 cl); (simp only [Act.put, List.setIfInBounds_toArray, List.set_cons_zero, List.set_cons_succ, i64_w, i32_w, u8_wr, tmod_nat, Int.reduceToNat, e4, e16, e15, e15a, W1, d1]; rfl)) <;>
                  (apply lelt rfl rfl; exact run_eltS rfl rfl O9_ (HF.rowC HOF (by simp) (by decide)).1 hx0 cl; (simp only [Act.put, List.setIfInBounds_toArray, List.set_cons_zero, List.set_cons_succ, i64_w, i32_w, u8_wr, tmod_nat, Int.reduceToNat, e4, e16, e15, e15a, W1, d1]; rfl)) <;>
                  (apply lcall rfl rfl rfl Tryz.func16 (by kernel_rfl) rfl; (with_reducible apply Calls.mono); exact spec_l03Value.calls 1300 (rdOf ByteArray.empty F x) 10 v _ (HV.out ▸ value _ 10 (by omega) (by omega) (by omega)); rintro e w_ ⟨rfl, hb_⟩; refine ⟨_, rfl, ?_⟩; replace HF := HF.drawn hb_; clear hb_; rotate_left; (first | rfl | (simp only [List.map_toArray, List.map_cons, List.map_nil]; first | done | rfl)); (refine lnorm (a' := ?_) ?_ ?_; rotate_left; (simp only [Act.put, List.setIfInBounds_toArray, List.set_cons_zero, List.set_cons_succ, i64_w, i32_w, u8_wr, tmod_nat, Int.reduceToNat, e4, e16, e15, e15a, W1, d1]; rfl))) <;>
                  (apply lpure rfl rfl; (go_simp; with_reducible rfl); (simp only [Act.put, List.setIfInBounds_toArray, List.set_cons_zero, List.set_cons_succ, i64_w, i32_w, u8_wr, tmod_nat, Int.reduceToNat, e4, e16, e15, e15a, W1, d1]; rfl)) <;>
                  (apply lend)
              | ((with_reducible refine gate_region (id := 11) ?_); apply plain_region) <;>
                  (apply lpure rfl rfl; (go_simp; with_reducible rfl); (simp only [Act.put, List.setIfInBounds_toArray, List.set_cons_zero, List.set_cons_succ, i64_w, i32_w, u8_wr, tmod_nat, Int.reduceToNat, e4, e16, e15, e15a, W1, d1]; rfl)) <;>
                  (apply lpure rfl rfl; (go_simp; with_reducible rfl); (simp only [Act.put, List.setIfInBounds_toArray, List.set_cons_zero, List.set_cons_succ, i64_w, i32_w, u8_wr, tmod_nat, Int.reduceToNat, e4, e16, e15, e15a, W1, d1]; rfl)) <;>
                  (apply lpure rfl rfl; (go_simp; with_reducible rfl); (simp only [Act.put, List.setIfInBounds_toArray, List.set_cons_zero, List.set_cons_succ, i64_w, i32_w, u8_wr, tmod_nat, Int.reduceToNat, e4, e16, e15, e15a, W1, d1]; rfl)) <;>
                  (apply loff rfl rfl; (simp only [Act.put, List.setIfInBounds_toArray, List.set_cons_zero, List.set_cons_succ, i64_w, i32_w, u8_wr, tmod_nat, Int.reduceToNat, e4, e16, e15, e15a, W1, d1]; rfl)) <;>
                  (apply loff rfl rfl; (simp only [Act.put, List.setIfInBounds_toArray, List.set_cons_zero, List.set_cons_succ, i64_w, i32_w, u8_wr, tmod_nat, Int.reduceToNat, e4, e16, e15, e15a, W1, d1]; rfl)) <;>
                  (apply lpure rfl rfl; (go_simp; with_reducible rfl); (simp only [Act.put, List.setIfInBounds_toArray, List.set_cons_zero, List.set_cons_succ, i64_w, i32_w, u8_wr, tmod_nat, Int.reduceToNat, e4, e16, e15, e15a, W1, d1]; rfl)) <;>
                  (apply lend)
              | ((with_reducible refine gate_region (id := 12) ?_); apply plain_region) <;>
                  (apply lpure rfl rfl; (go_simp; with_reducible rfl); (simp only [Act.put, List.setIfInBounds_toArray, List.set_cons_zero, List.set_cons_succ, i64_w, i32_w, u8_wr, tmod_nat, Int.reduceToNat, e4, e16, e15, e15a, W1, d1]; rfl)) <;>
                  ((with_reducible apply Fr.lstoreRow HF rfl rfl rfl); assumption; rfl; (go_simp; rfl); rfl; rfl; (repeat (first | apply At.head | apply At.tail)); (simp only [List.drop_succ_cons, List.drop_zero, List.drop_nil, List.take_succ_cons, List.take_zero, List.cons_append, List.nil_append, List.append_nil]; rfl); simp; clear HF; intro w_ HF) <;>
                  (apply lpure rfl rfl; (go_simp; with_reducible rfl); (simp only [Act.put, List.setIfInBounds_toArray, List.set_cons_zero, List.set_cons_succ, i64_w, i32_w, u8_wr, tmod_nat, Int.reduceToNat, e4, e16, e15, e15a, W1, d1]; rfl)) <;>
                  (apply lend)
              | go_step | fail))
          all_goals (refine bodyPost_ret (results_ct rfl _ _ _ 23 _ (0, 0) _ rfl (HF.get (by repeat (first | exact At.head | apply At.tail))) Tryz.underlying23 rfl (by kernel_rfl)) rfl ?_; exact ⟨by rw [HFIN.out]; rfl, HF.below⟩)
        · have d1 : decide (v < 0) = false := decide_eq_false cv
          replace HFIN := Aside0.mk (HFIN.out.trans (if_neg cv))
          by_cases cw : v > 255
          · have d2 : decide (255 < v) = true := decide_eq_true cw
            replace HFIN := Aside0.mk (HFIN.out.trans (if_pos cw))
            clear HDU HX HK
            all_goals (repeat' (first
                | ((with_reducible refine gate_region (id := 8) ?_); apply plain_region) <;>
                    (apply lpure rfl rfl; (go_simp; with_reducible rfl); (simp only [Act.put, List.setIfInBounds_toArray, List.set_cons_zero, List.set_cons_succ, i64_w, i32_w, u8_wr, tmod_nat, Int.reduceToNat, e4, e16, e15, e15a, W1, d1, d2]; rfl)) <;>
                    (apply lpure rfl rfl; (go_simp; with_reducible rfl); (simp only [Act.put, List.setIfInBounds_toArray, List.set_cons_zero, List.set_cons_succ, i64_w, i32_w, u8_wr, tmod_nat, Int.reduceToNat, e4, e16, e15, e15a, W1, d1, d2]; rfl)) <;>
                    (apply lend)
                | ((with_reducible refine gate_region (id := 10) ?_); apply plain_region) <;>
                    (apply lpure rfl rfl; (go_simp; with_reducible rfl); (simp only [Act.put, List.setIfInBounds_toArray, List.set_cons_zero, List.set_cons_succ, i64_w, i32_w, u8_wr, tmod_nat, Int.reduceToNat, e4, e16, e15, e15a, W1, d1, d2]; rfl)) <;>
                    (apply lpure rfl rfl; (go_simp; with_reducible rfl); (simp only [Act.put, List.setIfInBounds_toArray, List.set_cons_zero, List.set_cons_succ, i64_w, i32_w, u8_wr, tmod_nat, Int.reduceToNat, e4, e16, e15, e15a, W1, d1, d2]; rfl)) <;>
                    (apply lpure rfl rfl; (exact run_idxS rfl rfl rfl hu30 z9_ (HF.rowC HOF (by simp) (by decide)).1 hx0 cl); (simp only [Act.put, List.setIfInBounds_toArray, List.set_cons_zero, List.set_cons_succ, i64_w, i32_w, u8_wr, tmod_nat, Int.reduceToNat, e4, e16, e15, e15a, W1, d1, d2]; rfl)) <;>
                    (apply lelt rfl rfl; exact run_eltS rfl rfl O9_ (HF.rowC HOF (by simp) (by decide)).1 hx0 cl; (simp only [Act.put, List.setIfInBounds_toArray, List.set_cons_zero, List.set_cons_succ, i64_w, i32_w, u8_wr, tmod_nat, Int.reduceToNat, e4, e16, e15, e15a, W1, d1, d2]; rfl)) <;>
                    (apply lcall rfl rfl rfl Tryz.func16 (by kernel_rfl) rfl; (with_reducible apply Calls.mono); exact spec_l03Value.calls 1300 (rdOf ByteArray.empty F x) 10 v _ (HV.out ▸ value _ 10 (by omega) (by omega) (by omega)); rintro e w_ ⟨rfl, hb_⟩; refine ⟨_, rfl, ?_⟩; replace HF := HF.drawn hb_; clear hb_; rotate_left; (first | rfl | (simp only [List.map_toArray, List.map_cons, List.map_nil]; first | done | rfl)); (refine lnorm (a' := ?_) ?_ ?_; rotate_left; (simp only [Act.put, List.setIfInBounds_toArray, List.set_cons_zero, List.set_cons_succ, i64_w, i32_w, u8_wr, tmod_nat, Int.reduceToNat, e4, e16, e15, e15a, W1, d1, d2]; rfl))) <;>
                    (apply lpure rfl rfl; (go_simp; with_reducible rfl); (simp only [Act.put, List.setIfInBounds_toArray, List.set_cons_zero, List.set_cons_succ, i64_w, i32_w, u8_wr, tmod_nat, Int.reduceToNat, e4, e16, e15, e15a, W1, d1, d2]; rfl)) <;>
                    (apply lend)
                | ((with_reducible refine gate_region (id := 11) ?_); apply plain_region) <;>
                    (apply lpure rfl rfl; (go_simp; with_reducible rfl); (simp only [Act.put, List.setIfInBounds_toArray, List.set_cons_zero, List.set_cons_succ, i64_w, i32_w, u8_wr, tmod_nat, Int.reduceToNat, e4, e16, e15, e15a, W1, d1, d2]; rfl)) <;>
                    (apply lpure rfl rfl; (go_simp; with_reducible rfl); (simp only [Act.put, List.setIfInBounds_toArray, List.set_cons_zero, List.set_cons_succ, i64_w, i32_w, u8_wr, tmod_nat, Int.reduceToNat, e4, e16, e15, e15a, W1, d1, d2]; rfl)) <;>
                    (apply lpure rfl rfl; (go_simp; with_reducible rfl); (simp only [Act.put, List.setIfInBounds_toArray, List.set_cons_zero, List.set_cons_succ, i64_w, i32_w, u8_wr, tmod_nat, Int.reduceToNat, e4, e16, e15, e15a, W1, d1, d2]; rfl)) <;>
                    (apply lpure rfl rfl; (go_simp; with_reducible rfl); (simp only [Act.put, List.setIfInBounds_toArray, List.set_cons_zero, List.set_cons_succ, i64_w, i32_w, u8_wr, tmod_nat, Int.reduceToNat, e4, e16, e15, e15a, W1, d1, d2]; rfl)) <;>
                    (apply lpure rfl rfl; (go_simp; with_reducible rfl); (simp only [Act.put, List.setIfInBounds_toArray, List.set_cons_zero, List.set_cons_succ, i64_w, i32_w, u8_wr, tmod_nat, Int.reduceToNat, e4, e16, e15, e15a, W1, d1, d2]; rfl)) <;>
                    (apply lpure rfl rfl; (go_simp; with_reducible rfl); (simp only [Act.put, List.setIfInBounds_toArray, List.set_cons_zero, List.set_cons_succ, i64_w, i32_w, u8_wr, tmod_nat, Int.reduceToNat, e4, e16, e15, e15a, W1, d1, d2]; rfl)) <;>
                    (apply lend)
                | ((with_reducible refine gate_region (id := 12) ?_); apply plain_region) <;>
                    (apply lpure rfl rfl; (go_simp; with_reducible rfl); (simp only [Act.put, List.setIfInBounds_toArray, List.set_cons_zero, List.set_cons_succ, i64_w, i32_w, u8_wr, tmod_nat, Int.reduceToNat, e4, e16, e15, e15a, W1, d1, d2]; rfl)) <;>
                    ((with_reducible apply Fr.lstoreRow HF rfl rfl rfl); assumption; rfl; (go_simp; rfl); rfl; rfl; (repeat (first | apply At.head | apply At.tail)); (simp only [List.drop_succ_cons, List.drop_zero, List.drop_nil, List.take_succ_cons, List.take_zero, List.cons_append, List.nil_append, List.append_nil]; rfl); simp; clear HF; intro w_ HF) <;>
                    (apply lpure rfl rfl; (go_simp; with_reducible rfl); (simp only [Act.put, List.setIfInBounds_toArray, List.set_cons_zero, List.set_cons_succ, i64_w, i32_w, u8_wr, tmod_nat, Int.reduceToNat, e4, e16, e15, e15a, W1, d1, d2]; rfl)) <;>
                    (apply lend)
                | go_step | fail))
            all_goals (refine bodyPost_ret (results_ct rfl _ _ _ 23 _ (0, 0) _ rfl (HF.get (by repeat (first | exact At.head | apply At.tail))) Tryz.underlying23 rfl (by kernel_rfl)) rfl ?_; exact ⟨by rw [HFIN.out]; rfl, HF.below⟩)
          · have d2 : decide (255 < v) = false := decide_eq_false cw
            replace HFIN := Aside0.mk (HFIN.out.trans (if_neg cw))
            have hu2 := HDU.out.1
            all_goals (repeat' (first
                | ((with_reducible refine gate_region (id := 8) ?_); apply plain_region) <;>
                    (apply lpure rfl rfl; (go_simp; with_reducible rfl); (simp only [Act.put, List.setIfInBounds_toArray, List.set_cons_zero, List.set_cons_succ, i64_w, i32_w, u8_wr, tmod_nat, Int.reduceToNat, e4, e16, e15, e15a, W1, d1, d2]; rfl)) <;>
                    (apply lpure rfl rfl; (go_simp; with_reducible rfl); (simp only [Act.put, List.setIfInBounds_toArray, List.set_cons_zero, List.set_cons_succ, i64_w, i32_w, u8_wr, tmod_nat, Int.reduceToNat, e4, e16, e15, e15a, W1, d1, d2]; rfl)) <;>
                    (apply lend)
                | ((with_reducible refine gate_region (id := 10) ?_); apply plain_region) <;>
                    (apply lpure rfl rfl; (go_simp; with_reducible rfl); (simp only [Act.put, List.setIfInBounds_toArray, List.set_cons_zero, List.set_cons_succ, i64_w, i32_w, u8_wr, tmod_nat, Int.reduceToNat, e4, e16, e15, e15a, W1, d1, d2]; rfl)) <;>
                    (apply lpure rfl rfl; (go_simp; with_reducible rfl); (simp only [Act.put, List.setIfInBounds_toArray, List.set_cons_zero, List.set_cons_succ, i64_w, i32_w, u8_wr, tmod_nat, Int.reduceToNat, e4, e16, e15, e15a, W1, d1, d2]; rfl)) <;>
                    (apply lpure rfl rfl; (exact run_idxS rfl rfl rfl hu30 z9_ (HF.rowC HOF (by simp) (by decide)).1 hx0 cl); (simp only [Act.put, List.setIfInBounds_toArray, List.set_cons_zero, List.set_cons_succ, i64_w, i32_w, u8_wr, tmod_nat, Int.reduceToNat, e4, e16, e15, e15a, W1, d1, d2]; rfl)) <;>
                    (apply lelt rfl rfl; exact run_eltS rfl rfl O9_ (HF.rowC HOF (by simp) (by decide)).1 hx0 cl; (simp only [Act.put, List.setIfInBounds_toArray, List.set_cons_zero, List.set_cons_succ, i64_w, i32_w, u8_wr, tmod_nat, Int.reduceToNat, e4, e16, e15, e15a, W1, d1, d2]; rfl)) <;>
                    (apply lcall rfl rfl rfl Tryz.func16 (by kernel_rfl) rfl; (with_reducible apply Calls.mono); exact spec_l03Value.calls 1300 (rdOf ByteArray.empty F x) 10 v _ (HV.out ▸ value _ 10 (by omega) (by omega) (by omega)); rintro e w_ ⟨rfl, hb_⟩; refine ⟨_, rfl, ?_⟩; replace HF := HF.drawn hb_; clear hb_; rotate_left; (first | rfl | (simp only [List.map_toArray, List.map_cons, List.map_nil]; first | done | rfl)); (refine lnorm (a' := ?_) ?_ ?_; rotate_left; (simp only [Act.put, List.setIfInBounds_toArray, List.set_cons_zero, List.set_cons_succ, i64_w, i32_w, u8_wr, tmod_nat, Int.reduceToNat, e4, e16, e15, e15a, W1, d1, d2]; rfl))) <;>
                    (apply lpure rfl rfl; (go_simp; with_reducible rfl); (simp only [Act.put, List.setIfInBounds_toArray, List.set_cons_zero, List.set_cons_succ, i64_w, i32_w, u8_wr, tmod_nat, Int.reduceToNat, e4, e16, e15, e15a, W1, d1, d2]; rfl)) <;>
                    (apply lend)
                | ((with_reducible refine gate_region (id := 11) ?_); apply plain_region) <;>
                    (apply lpure rfl rfl; (go_simp; with_reducible rfl); (simp only [Act.put, List.setIfInBounds_toArray, List.set_cons_zero, List.set_cons_succ, i64_w, i32_w, u8_wr, tmod_nat, Int.reduceToNat, e4, e16, e15, e15a, W1, d1, d2]; rfl)) <;>
                    (apply lpure rfl rfl; (go_simp; with_reducible rfl); (simp only [Act.put, List.setIfInBounds_toArray, List.set_cons_zero, List.set_cons_succ, i64_w, i32_w, u8_wr, tmod_nat, Int.reduceToNat, e4, e16, e15, e15a, W1, d1, d2]; rfl)) <;>
                    (apply lpure rfl rfl; (go_simp; with_reducible rfl); (simp only [Act.put, List.setIfInBounds_toArray, List.set_cons_zero, List.set_cons_succ, i64_w, i32_w, u8_wr, tmod_nat, Int.reduceToNat, e4, e16, e15, e15a, W1, d1, d2]; rfl)) <;>
                    (apply lpure rfl rfl; (go_simp; with_reducible rfl); (simp only [Act.put, List.setIfInBounds_toArray, List.set_cons_zero, List.set_cons_succ, i64_w, i32_w, u8_wr, tmod_nat, Int.reduceToNat, e4, e16, e15, e15a, W1, d1, d2]; rfl)) <;>
                    (apply lpure rfl rfl; (go_simp; with_reducible rfl); (simp only [Act.put, List.setIfInBounds_toArray, List.set_cons_zero, List.set_cons_succ, i64_w, i32_w, u8_wr, tmod_nat, Int.reduceToNat, e4, e16, e15, e15a, W1, d1, d2]; rfl)) <;>
                    (apply lpure rfl rfl; (go_simp; with_reducible rfl); (simp only [Act.put, List.setIfInBounds_toArray, List.set_cons_zero, List.set_cons_succ, i64_w, i32_w, u8_wr, tmod_nat, Int.reduceToNat, e4, e16, e15, e15a, W1, d1, d2]; rfl)) <;>
                    (apply lend)
                | ((with_reducible refine gate_region (id := 13) ?_); apply plain_region) <;>
                    (apply lpure rfl rfl; (go_simp; with_reducible rfl); (simp only [Act.put, List.setIfInBounds_toArray, List.set_cons_zero, List.set_cons_succ, i64_w, i32_w, u8_wr, tmod_nat, Int.reduceToNat, e4, e16, e15, e15a, W1, d1, d2]; rfl)) <;>
                    (apply lpure rfl rfl; (go_simp; with_reducible rfl); (simp only [Act.put, List.setIfInBounds_toArray, List.set_cons_zero, List.set_cons_succ, i64_w, i32_w, u8_wr, tmod_nat, Int.reduceToNat, e4, e16, e15, e15a, W1, d1, d2]; rfl)) <;>
                    (apply lpure rfl rfl; (go_simp; with_reducible rfl); (simp only [Act.put, List.setIfInBounds_toArray, List.set_cons_zero, List.set_cons_succ, i64_w, i32_w, u8_wr, tmod_nat, Int.reduceToNat, e4, e16, e15, e15a, W1, d1, d2]; rfl)) <;>
                    (apply HF.lbuild rfl rfl; (go_simp; first | exact ⟨rfl, rfl⟩ | exact ⟨rfl, rfl, rfl⟩ | rfl); clear HF; intro g3_ w_ hg_ hb_ hh_ HF; replace HF := HF.mark; (try simp only [u8_wr, i64_w] at hh_); have HL := Aside0.mk hh_; clear hg_ hb_ hh_; (refine lnorm (a' := ?_) ?_ ?_; rotate_left; (simp only [Act.put, List.setIfInBounds_toArray, List.set_cons_zero, List.set_cons_succ, i64_w, i32_w, u8_wr, tmod_nat, Int.reduceToNat, e4, e16, e15, e15a, W1, d1, d2]; rfl))) <;>
                    (refine ⟨wpList_step fun K_ hK_ => ?_⟩; refine run_app2 (l := [_]) HF rfl rfl rfl hu41 info5_ (by decide) rfl rfl (HF.row_now HOD.out (by simp) (by decide)) (HF.row_now HOF.out (by simp) (by decide)) (HF.row_now HOS.out (by simp) (by decide)) (by decide) (bytesC (xs := [_]) (HF.lit HL (by simp) (by decide)) (by simp)) (by first | omega | (simp only [List.length_cons, List.length_nil]; omega) | (rw [b2_len]; omega)) ?_; intro v_ w_ ho_ kF_ kS_ HF1; clear HF HOD HOF HOS; have HF := HF1; clear HF1; obtain ⟨ds2, ed_, ho2_⟩ := R_name ho_; clear ho_; obtain ⟨Ad2, cd2, rfl⟩ := Kd.R_slice ho2_; have HOD := Aside0.mk ho2_; have ED := Aside0.mk ed_; clear ho2_ ed_; have HOF := Aside0.mk kF_; clear kF_; have HOS := Aside0.mk kS_; clear kS_; refine (hK_ _ _ (GL.out ?_)); clear hK_; (refine lnorm (a' := ?_) ?_ ?_; rotate_left; (simp only [Act.put, List.setIfInBounds_toArray, List.set_cons_zero, List.set_cons_succ, i64_w, i32_w, u8_wr, tmod_nat, Int.reduceToNat, e4, e16, e15, e15a, W1, d1, d2]; rfl))) <;>
                    (apply lpure rfl rfl; (go_simp; with_reducible rfl); (simp only [Act.put, List.setIfInBounds_toArray, List.set_cons_zero, List.set_cons_succ, i64_w, i32_w, u8_wr, tmod_nat, Int.reduceToNat, e4, e16, e15, e15a, W1, d1, d2]; rfl)) <;>
                    (apply lend)
                | ((with_reducible refine gate_region (id := 9) ?_); apply plain_region) <;>
                    (apply lpure rfl rfl; (go_simp; with_reducible rfl); (simp only [Act.put, List.setIfInBounds_toArray, List.set_cons_zero, List.set_cons_succ, i64_w, i32_w, u8_wr, tmod_nat, Int.reduceToNat, e4, e16, e15, e15a, W1, d1, d2]; rfl)) <;>
                    (apply lpure rfl rfl; (go_simp; with_reducible rfl); (simp only [Act.put, List.setIfInBounds_toArray, List.set_cons_zero, List.set_cons_succ, i64_w, i32_w, u8_wr, tmod_nat, Int.reduceToNat, e4, e16, e15, e15a, W1, d1, d2]; rfl)) <;>
                    (apply lpure rfl rfl; (go_simp; with_reducible rfl); (simp only [Act.put, List.setIfInBounds_toArray, List.set_cons_zero, List.set_cons_succ, i64_w, i32_w, u8_wr, tmod_nat, Int.reduceToNat, e4, e16, e15, e15a, W1, d1, d2]; rfl)) <;>
                    (apply lend)
                | go_step | fail))
            all_goals (go_roundg (4 - (x + 1)).toNat)
            case measure =>
              have := HK.out
              omega
            case rel => exact ⟨x + 1, ds2, _, _, rfl, rfl, ⟨by rw [← ED.out]; exact HFIN.out⟩, ⟨by rw [← ED.out]; exact U8.app HDU.out.1 (U8.cons (by omega) (by omega) U8.nil), by rw [← ED.out, List.length_append]; simp only [List.length_cons, List.length_nil]; omega⟩, ⟨by omega⟩, ⟨Nat.le_refl _⟩, HOD, HOF, HOS, Fr_now (HF.part (by rw [EL_.out]; exact List.Sublist.refl _) (fun _ h_ => h_))⟩
      case' neg =>
        have c1 : decide (x < 4) = false := decide_eq_false c
        obtain rfl : x = 4 := by omega
        replace HFIN := Aside0.mk (HFIN.out.trans (show end10 s (F.drop (4 : Int).toNat) S ds = tail16 s S ds by rw [List.drop_of_length_le (by have := c4; simp; omega)]; rfl))
        replace HDU := Aside0.mk (And.intro HDU.out.1 (show ds.length ≤ 4 by have := HDU.out.2; omega))
        (repeat' (first
      | ((with_reducible refine gate_region (id := 8) ?_); apply plain_region) <;>
          (apply lpure rfl rfl; (go_simp; with_reducible rfl); (simp only [Act.put, List.setIfInBounds_toArray, List.set_cons_zero, List.set_cons_succ, i64_w, i32_w, u8_wr, tmod_nat, Int.reduceToNat, e4, e16, e15, e15a]; rfl)) <;>
          (apply lpure rfl rfl; (go_simp; with_reducible rfl); (simp only [Act.put, List.setIfInBounds_toArray, List.set_cons_zero, List.set_cons_succ, i64_w, i32_w, u8_wr, tmod_nat, Int.reduceToNat, e4, e16, e15, e15a]; rfl)) <;>
          (apply lend)
      | ((fail_if_success (with_reducible refine gate_region (id := 14) ?_)); go_step) | fail))
  
  case' neg =>
    have d4 : ((F.length : Int) == 4) = false := beq_eq_false_iff_ne.mpr c4
    replace HFIN := Aside0.mk (HFIN.out.trans (if_neg c4))
    all_goals (repeat' (first
        | ((with_reducible refine gate_region (id := 0) ?_); apply plain_region) <;>
            ((with_reducible apply Fr.lalloc HF rfl rfl rfl); (go_simp; rfl); decide; clear HF; intro g_ w_ HF; (refine lnorm (a' := ?_) ?_ ?_; rotate_left; (simp only [Act.put, List.setIfInBounds_toArray, List.set_cons_zero, List.set_cons_succ, i64_w, i32_w, u8_wr, tmod_nat, Int.reduceToNat, e4, e16, e15, e15a, d39, d4]; rfl))) <;>
            (apply lpure rfl rfl; (go_simp; with_reducible rfl); (simp only [Act.put, List.setIfInBounds_toArray, List.set_cons_zero, List.set_cons_succ, i64_w, i32_w, u8_wr, tmod_nat, Int.reduceToNat, e4, e16, e15, e15a, d39, d4]; rfl)) <;>
            (apply lend)
        | ((with_reducible refine gate_region (id := 1) ?_); apply plain_region) <;>
            (apply lpure rfl rfl; (go_simp; with_reducible rfl); (simp only [Act.put, List.setIfInBounds_toArray, List.set_cons_zero, List.set_cons_succ, i64_w, i32_w, u8_wr, tmod_nat, Int.reduceToNat, e4, e16, e15, e15a, d39, d4]; rfl)) <;>
            (apply lpure rfl rfl; (go_simp; with_reducible rfl); (simp only [Act.put, List.setIfInBounds_toArray, List.set_cons_zero, List.set_cons_succ, i64_w, i32_w, u8_wr, tmod_nat, Int.reduceToNat, e4, e16, e15, e15a, d39, d4]; rfl)) <;>
            (apply lpure rfl rfl; (go_simp; with_reducible rfl); (simp only [Act.put, List.setIfInBounds_toArray, List.set_cons_zero, List.set_cons_succ, i64_w, i32_w, u8_wr, tmod_nat, Int.reduceToNat, e4, e16, e15, e15a, d39, d4]; rfl)) <;>
            (apply lend)
        | ((with_reducible refine gate_region (id := 3) ?_); apply plain_region) <;>
            (have HF0 := HF; apply HF.lempty rfl rfl; (go_simp; first | rfl | exact ⟨rfl, rfl⟩); clear HF; intro g2_ w_ hg_ hb_ hh_ HF; replace HF := HF.mark; have HOD := empty_row (k := .u8) HF0 hg_ hh_; clear hg_ hb_ hh_ HF0; (refine lnorm (a' := ?_) ?_ ?_; rotate_left; (simp only [Act.put, List.setIfInBounds_toArray, List.set_cons_zero, List.set_cons_succ, i64_w, i32_w, u8_wr, tmod_nat, Int.reduceToNat, e4, e16, e15, e15a, d39, d4]; rfl))) <;>
            (apply lpure rfl rfl; (go_simp; with_reducible rfl); (simp only [Act.put, List.setIfInBounds_toArray, List.set_cons_zero, List.set_cons_succ, i64_w, i32_w, u8_wr, tmod_nat, Int.reduceToNat, e4, e16, e15, e15a, d39, d4]; rfl)) <;>
            (apply lend)
        | ((with_reducible refine gate_region (id := 4) ?_); apply plain_region) <;>
            (apply lpure rfl rfl; (go_simp; with_reducible rfl); (simp only [Act.put, List.setIfInBounds_toArray, List.set_cons_zero, List.set_cons_succ, i64_w, i32_w, u8_wr, tmod_nat, Int.reduceToNat, e4, e16, e15, e15a, d39, d4]; rfl)) <;>
            (apply lcall rfl rfl rfl Tryz.func7 (by kernel_rfl) rfl; (with_reducible apply Calls.mono); (with_reducible apply spec_l03Group.calls (h := HGF.out)); rintro e w_ ⟨v0_, rfl, ho_, hb_⟩; obtain ⟨AF, cF, rfl⟩ := Kd.R_slice ho_; have HOF := HF.row2 ho_; clear ho_; refine ⟨_, rfl, ?_⟩; replace HF := (HF.call hb_).mark; clear hb_; rotate_left; (first | rfl | (simp only [List.map_toArray, List.map_cons, List.map_nil]; first | done | rfl)); (refine lnorm (a' := ?_) ?_ ?_; rotate_left; (simp only [Act.put, List.setIfInBounds_toArray, List.set_cons_zero, List.set_cons_succ, i64_w, i32_w, u8_wr, tmod_nat, Int.reduceToNat, e4, e16, e15, e15a, d39, d4]; rfl))) <;>
            (apply lpure rfl rfl; (go_simp; with_reducible rfl); (simp only [Act.put, List.setIfInBounds_toArray, List.set_cons_zero, List.set_cons_succ, i64_w, i32_w, u8_wr, tmod_nat, Int.reduceToNat, e4, e16, e15, e15a, d39, d4]; rfl)) <;>
            (apply lend)
        | ((with_reducible refine gate_region (id := 5) ?_); apply plain_region) <;>
            (apply lpure rfl rfl; (go_simp; with_reducible rfl); (simp only [Act.put, List.setIfInBounds_toArray, List.set_cons_zero, List.set_cons_succ, i64_w, i32_w, u8_wr, tmod_nat, Int.reduceToNat, e4, e16, e15, e15a, d39, d4]; rfl)) <;>
            (apply lcall rfl rfl rfl Tryz.func7 (by kernel_rfl) rfl; (with_reducible apply Calls.mono); (with_reducible apply spec_l03Group.calls (h := HGS.out)); rintro e w_ ⟨v0_, rfl, ho_, hb_⟩; obtain ⟨AS, cS, rfl⟩ := Kd.R_slice ho_; have HOS := HF.row2 ho_; clear ho_; refine ⟨_, rfl, ?_⟩; replace HF := (HF.call hb_).mark; clear hb_; rotate_left; (first | rfl | (simp only [List.map_toArray, List.map_cons, List.map_nil]; first | done | rfl)); (refine lnorm (a' := ?_) ?_ ?_; rotate_left; (simp only [Act.put, List.setIfInBounds_toArray, List.set_cons_zero, List.set_cons_succ, i64_w, i32_w, u8_wr, tmod_nat, Int.reduceToNat, e4, e16, e15, e15a, d39, d4]; rfl))) <;>
            (apply lpure rfl rfl; (go_simp; with_reducible rfl); (simp only [Act.put, List.setIfInBounds_toArray, List.set_cons_zero, List.set_cons_succ, i64_w, i32_w, u8_wr, tmod_nat, Int.reduceToNat, e4, e16, e15, e15a, d39, d4]; rfl)) <;>
            (apply lend)
        | ((with_reducible refine gate_region (id := 6) ?_); apply plain_region) <;>
            (apply lpure rfl rfl; (go_simp; with_reducible rfl); (simp only [Act.put, List.setIfInBounds_toArray, List.set_cons_zero, List.set_cons_succ, i64_w, i32_w, u8_wr, tmod_nat, Int.reduceToNat, e4, e16, e15, e15a, d39, d4]; rfl)) <;>
            (apply lpure rfl rfl; (go_simp; with_reducible rfl); (simp only [Act.put, List.setIfInBounds_toArray, List.set_cons_zero, List.set_cons_succ, i64_w, i32_w, u8_wr, tmod_nat, Int.reduceToNat, e4, e16, e15, e15a, d39, d4]; rfl)) <;>
            (apply lpure rfl rfl; (go_simp; with_reducible rfl); (simp only [Act.put, List.setIfInBounds_toArray, List.set_cons_zero, List.set_cons_succ, i64_w, i32_w, u8_wr, tmod_nat, Int.reduceToNat, e4, e16, e15, e15a, d39, d4]; rfl)) <;>
            (apply lend)
        | ((fail_if_success (with_reducible refine gate_region (id := 14) ?_)); go_step) | fail))
    all_goals (have HDU := Aside0.mk (And.intro U8.nil (show ([] : List Int).length ≤ 4 by simp)))
  all_goals (
    by_cases c8 : (S.length : Int) = 8
    case' pos =>
      have d8 : ((S.length : Int) == 8) = true := beq_iff_eq.mpr c8
      replace HFIN := Aside0.mk (HFIN.out.trans (if_pos c8))
      (repeat' (first
          | ((with_reducible refine gate_region (id := 14) ?_); apply plain_region) <;>
              (apply lpure rfl rfl; (go_simp; with_reducible rfl); (simp only [Act.put, List.setIfInBounds_toArray, List.set_cons_zero, List.set_cons_succ, i64_w, i32_w, u8_wr, tmod_nat, Int.reduceToNat, e4, e16, e15, e15a, d8]; rfl)) <;>
              (apply lpure rfl rfl; (go_simp; with_reducible rfl); (simp only [Act.put, List.setIfInBounds_toArray, List.set_cons_zero, List.set_cons_succ, i64_w, i32_w, u8_wr, tmod_nat, Int.reduceToNat, e4, e16, e15, e15a, d8]; rfl)) <;>
              (apply lpure rfl rfl; (go_simp; with_reducible rfl); (simp only [Act.put, List.setIfInBounds_toArray, List.set_cons_zero, List.set_cons_succ, i64_w, i32_w, u8_wr, tmod_nat, Int.reduceToNat, e4, e16, e15, e15a, d8]; rfl)) <;>
              (apply lend)
          | ((with_reducible refine gate_region (id := 15) ?_); apply plain_region) <;>
              (apply lpure rfl rfl; (go_simp; with_reducible rfl); (simp only [Act.put, List.setIfInBounds_toArray, List.set_cons_zero, List.set_cons_succ, i64_w, i32_w, u8_wr, tmod_nat, Int.reduceToNat, e4, e16, e15, e15a, d8]; rfl)) <;>
              (apply lend)
          | go_step | fail))
      (obtain ⟨LV_, HF2_, EL_⟩ := Fr_name HF; clear HF; have HF := HF2_; clear HF2_; go_loopg [4, 9] 8 (fun kq_ v4_ vi_ w_ => ∃ (x : Int) (ds : List Int) (Ad : Option Addr) (cd : Nat), v4_ = .slice Ad ds.length cd ∧ vi_ = .int .i64 x ∧ Aside0 (specRead s = end16 s (S.drop x.toNat) ds) ∧ Aside0 (U8 ds ∧ ds.length ≤ 4 + 2 * x) ∧ Aside0 (0 ≤ x ∧ x ≤ 8) ∧ Aside0 ((8 - x).toNat ≤ kq_) ∧ Aside0 ((Kd.int .u8).R 5 w_ w.heap.size (fun _ => True) (.slice Ad ds.length cd) ds) ∧ Aside0 ((Kd.string).R 9 w_ w.heap.size (fun _ => True) (.slice AS S.length cS) S) ∧ Fr [23] w w_ LV_ [w_]))
      case atStart => exact ⟨0, _, _, _, (by first | rfl | simp), rfl, ⟨HFIN.out⟩, ⟨HDU.out.1, by have := HDU.out.2; omega⟩, ⟨by omega⟩, ⟨by simp⟩, ⟨Kd.R_mono (HF.row_now HOD.out (by simp) (by decide)) (fun _ _ => trivial)⟩, ⟨Kd.R_mono (HF.row_now HOS.out (by simp) (by decide)) (fun _ _ => trivial)⟩, Fr_now HF⟩
      case' round =>
        clear HF HOD HOS HFIN HDU
        obtain ⟨x, ds, Ad, cd, rfl, rfl, HFIN, HDU, HX, HK, HOD, HOS, HF⟩ := hrel
        have hx0 := HX.out.1
        have hx1 := HX.out.2
        rw [EL_.out] at HF
        by_cases c : x < 8
        case pos =>
          have c1 : decide (x < 8) = true := decide_eq_true c
          have cl : x < (S.length : Int) := by have := c8; omega
          have hdl := HDU.out.2
          obtain ⟨v, hv⟩ : ∃ v, v = valS 16 (rdOf ByteArray.empty S x) := ⟨_, rfl⟩
          have HV := Aside0.mk hv.symm
          have hv01 := valS_le 16 (by omega) (by omega) (rdOf ByteArray.empty S x)
          rw [← hv] at hv01
          have HD := Aside0.mk (dropG ByteArray.empty hx0 cl)
          have W1 : wrap64 (x + 1) = x + 1 := w64 (by omega) (by omega)
          replace HFIN := Aside0.mk (HFIN.out.trans (go16_step HD.out HV.out))
          clear hv HD
          by_cases cv : v < 0
          · have d1 : decide (v < 0) = true := decide_eq_true cv
            replace HFIN := Aside0.mk (HFIN.out.trans (if_pos cv))
            clear HDU HX HK
            all_goals (repeat' (first
                | ((with_reducible refine gate_region (id := 16) ?_); apply plain_region) <;>
                    (apply lpure rfl rfl; (go_simp; with_reducible rfl); (simp only [Act.put, List.setIfInBounds_toArray, List.set_cons_zero, List.set_cons_succ, i64_w, i32_w, u8_wr, tmod_nat, Int.reduceToNat, e4, e16, e15, e15a, W1, d1]; rfl)) <;>
                    (apply lpure rfl rfl; (go_simp; with_reducible rfl); (simp only [Act.put, List.setIfInBounds_toArray, List.set_cons_zero, List.set_cons_succ, i64_w, i32_w, u8_wr, tmod_nat, Int.reduceToNat, e4, e16, e15, e15a, W1, d1]; rfl)) <;>
                    (apply lend)
                | ((with_reducible refine gate_region (id := 18) ?_); apply plain_region) <;>
                    (apply lpure rfl rfl; (go_simp; with_reducible rfl); (simp only [Act.put, List.setIfInBounds_toArray, List.set_cons_zero, List.set_cons_succ, i64_w, i32_w, u8_wr, tmod_nat, Int.reduceToNat, e4, e16, e15, e15a, W1, d1]; rfl)) <;>
                    (apply lpure rfl rfl; (go_simp; with_reducible rfl); (simp only [Act.put, List.setIfInBounds_toArray, List.set_cons_zero, List.set_cons_succ, i64_w, i32_w, u8_wr, tmod_nat, Int.reduceToNat, e4, e16, e15, e15a, W1, d1]; rfl)) <;>
                    (apply lpure rfl rfl; (exact run_idxS rfl rfl rfl hu30 z9_ (HF.rowC HOS (by simp) (by decide)).1 hx0 cl); (simp only [Act.put, List.setIfInBounds_toArray, List.set_cons_zero, List.set_cons_succ, i64_w, i32_w, u8_wr, tmod_nat, Int.reduceToNat, e4, e16, e15, e15a, W1, d1]; rfl)) <;>
                    (apply lelt rfl rfl; exact run_eltS rfl rfl O9_ (HF.rowC HOS (by simp) (by decide)).1 hx0 cl; (simp only [Act.put, List.setIfInBounds_toArray, List.set_cons_zero, List.set_cons_succ, i64_w, i32_w, u8_wr, tmod_nat, Int.reduceToNat, e4, e16, e15, e15a, W1, d1]; rfl)) <;>
                    (apply lcall rfl rfl rfl Tryz.func16 (by kernel_rfl) rfl; (with_reducible apply Calls.mono); exact spec_l03Value.calls 1300 (rdOf ByteArray.empty S x) 16 v _ (HV.out ▸ value _ 16 (by omega) (by omega) (by omega)); rintro e w_ ⟨rfl, hb_⟩; refine ⟨_, rfl, ?_⟩; replace HF := HF.drawn hb_; clear hb_; rotate_left; (first | rfl | (simp only [List.map_toArray, List.map_cons, List.map_nil]; first | done | rfl)); (refine lnorm (a' := ?_) ?_ ?_; rotate_left; (simp only [Act.put, List.setIfInBounds_toArray, List.set_cons_zero, List.set_cons_succ, i64_w, i32_w, u8_wr, tmod_nat, Int.reduceToNat, e4, e16, e15, e15a, W1, d1]; rfl))) <;>
                    (apply lpure rfl rfl; (go_simp; with_reducible rfl); (simp only [Act.put, List.setIfInBounds_toArray, List.set_cons_zero, List.set_cons_succ, i64_w, i32_w, u8_wr, tmod_nat, Int.reduceToNat, e4, e16, e15, e15a, W1, d1]; rfl)) <;>
                    (apply lend)
                | ((with_reducible refine gate_region (id := 19) ?_); apply plain_region) <;>
                    (apply lpure rfl rfl; (go_simp; with_reducible rfl); (simp only [Act.put, List.setIfInBounds_toArray, List.set_cons_zero, List.set_cons_succ, i64_w, i32_w, u8_wr, tmod_nat, Int.reduceToNat, e4, e16, e15, e15a, W1, d1]; rfl)) <;>
                    (apply lpure rfl rfl; (go_simp; with_reducible rfl); (simp only [Act.put, List.setIfInBounds_toArray, List.set_cons_zero, List.set_cons_succ, i64_w, i32_w, u8_wr, tmod_nat, Int.reduceToNat, e4, e16, e15, e15a, W1, d1]; rfl)) <;>
                    (apply lend)
                | ((with_reducible refine gate_region (id := 20) ?_); apply plain_region) <;>
                    (apply lpure rfl rfl; (go_simp; with_reducible rfl); (simp only [Act.put, List.setIfInBounds_toArray, List.set_cons_zero, List.set_cons_succ, i64_w, i32_w, u8_wr, tmod_nat, Int.reduceToNat, e4, e16, e15, e15a, W1, d1]; rfl)) <;>
                    ((with_reducible apply Fr.lstoreRow HF rfl rfl rfl); assumption; rfl; (go_simp; rfl); rfl; rfl; (repeat (first | apply At.head | apply At.tail)); (simp only [List.drop_succ_cons, List.drop_zero, List.drop_nil, List.take_succ_cons, List.take_zero, List.cons_append, List.nil_append, List.append_nil]; rfl); simp; clear HF; intro w_ HF) <;>
                    (apply lpure rfl rfl; (go_simp; with_reducible rfl); (simp only [Act.put, List.setIfInBounds_toArray, List.set_cons_zero, List.set_cons_succ, i64_w, i32_w, u8_wr, tmod_nat, Int.reduceToNat, e4, e16, e15, e15a, W1, d1]; rfl)) <;>
                    (apply lend)
                | go_step | fail))
            all_goals (refine bodyPost_ret (results_ct rfl _ _ _ 23 _ (0, 0) _ rfl (HF.get (by repeat (first | exact At.head | apply At.tail))) Tryz.underlying23 rfl (by kernel_rfl)) rfl ?_; exact ⟨by rw [HFIN.out]; rfl, HF.below⟩)
          · have d1 : decide (v < 0) = false := decide_eq_false cv
            replace HFIN := Aside0.mk (HFIN.out.trans (if_neg cv))
            have HPT := Aside0.mk (specPut16 (a := v) (by omega))
            have hu2 := HDU.out.1
            all_goals (repeat' (first
                | ((with_reducible refine gate_region (id := 16) ?_); apply plain_region) <;>
                    (apply lpure rfl rfl; (go_simp; with_reducible rfl); (simp only [Act.put, List.setIfInBounds_toArray, List.set_cons_zero, List.set_cons_succ, i64_w, i32_w, u8_wr, tmod_nat, Int.reduceToNat, e4, e16, e15, e15a, W1, d1]; rfl)) <;>
                    (apply lpure rfl rfl; (go_simp; with_reducible rfl); (simp only [Act.put, List.setIfInBounds_toArray, List.set_cons_zero, List.set_cons_succ, i64_w, i32_w, u8_wr, tmod_nat, Int.reduceToNat, e4, e16, e15, e15a, W1, d1]; rfl)) <;>
                    (apply lend)
                | ((with_reducible refine gate_region (id := 18) ?_); apply plain_region) <;>
                    (apply lpure rfl rfl; (go_simp; with_reducible rfl); (simp only [Act.put, List.setIfInBounds_toArray, List.set_cons_zero, List.set_cons_succ, i64_w, i32_w, u8_wr, tmod_nat, Int.reduceToNat, e4, e16, e15, e15a, W1, d1]; rfl)) <;>
                    (apply lpure rfl rfl; (go_simp; with_reducible rfl); (simp only [Act.put, List.setIfInBounds_toArray, List.set_cons_zero, List.set_cons_succ, i64_w, i32_w, u8_wr, tmod_nat, Int.reduceToNat, e4, e16, e15, e15a, W1, d1]; rfl)) <;>
                    (apply lpure rfl rfl; (exact run_idxS rfl rfl rfl hu30 z9_ (HF.rowC HOS (by simp) (by decide)).1 hx0 cl); (simp only [Act.put, List.setIfInBounds_toArray, List.set_cons_zero, List.set_cons_succ, i64_w, i32_w, u8_wr, tmod_nat, Int.reduceToNat, e4, e16, e15, e15a, W1, d1]; rfl)) <;>
                    (apply lelt rfl rfl; exact run_eltS rfl rfl O9_ (HF.rowC HOS (by simp) (by decide)).1 hx0 cl; (simp only [Act.put, List.setIfInBounds_toArray, List.set_cons_zero, List.set_cons_succ, i64_w, i32_w, u8_wr, tmod_nat, Int.reduceToNat, e4, e16, e15, e15a, W1, d1]; rfl)) <;>
                    (apply lcall rfl rfl rfl Tryz.func16 (by kernel_rfl) rfl; (with_reducible apply Calls.mono); exact spec_l03Value.calls 1300 (rdOf ByteArray.empty S x) 16 v _ (HV.out ▸ value _ 16 (by omega) (by omega) (by omega)); rintro e w_ ⟨rfl, hb_⟩; refine ⟨_, rfl, ?_⟩; replace HF := HF.drawn hb_; clear hb_; rotate_left; (first | rfl | (simp only [List.map_toArray, List.map_cons, List.map_nil]; first | done | rfl)); (refine lnorm (a' := ?_) ?_ ?_; rotate_left; (simp only [Act.put, List.setIfInBounds_toArray, List.set_cons_zero, List.set_cons_succ, i64_w, i32_w, u8_wr, tmod_nat, Int.reduceToNat, e4, e16, e15, e15a, W1, d1]; rfl))) <;>
                    (apply lpure rfl rfl; (go_simp; with_reducible rfl); (simp only [Act.put, List.setIfInBounds_toArray, List.set_cons_zero, List.set_cons_succ, i64_w, i32_w, u8_wr, tmod_nat, Int.reduceToNat, e4, e16, e15, e15a, W1, d1]; rfl)) <;>
                    (apply lend)
                | ((with_reducible refine gate_region (id := 19) ?_); apply plain_region) <;>
                    (apply lpure rfl rfl; (go_simp; with_reducible rfl); (simp only [Act.put, List.setIfInBounds_toArray, List.set_cons_zero, List.set_cons_succ, i64_w, i32_w, u8_wr, tmod_nat, Int.reduceToNat, e4, e16, e15, e15a, W1, d1]; rfl)) <;>
                    (apply lpure rfl rfl; (go_simp; with_reducible rfl); (simp only [Act.put, List.setIfInBounds_toArray, List.set_cons_zero, List.set_cons_succ, i64_w, i32_w, u8_wr, tmod_nat, Int.reduceToNat, e4, e16, e15, e15a, W1, d1]; rfl)) <;>
                    (apply lend)
                | ((with_reducible refine gate_region (id := 21) ?_); apply plain_region) <;>
                    (apply lpure rfl rfl; (go_simp; with_reducible rfl); (simp only [Act.put, List.setIfInBounds_toArray, List.set_cons_zero, List.set_cons_succ, i64_w, i32_w, u8_wr, tmod_nat, Int.reduceToNat, e4, e16, e15, e15a, W1, d1]; rfl)) <;>
                    (apply lpure rfl rfl; (go_simp; with_reducible rfl); (simp only [Act.put, List.setIfInBounds_toArray, List.set_cons_zero, List.set_cons_succ, i64_w, i32_w, u8_wr, tmod_nat, Int.reduceToNat, e4, e16, e15, e15a, W1, d1]; rfl)) <;>
                    (apply lcall rfl rfl rfl Tryz.func17 (by kernel_rfl) rfl; (with_reducible apply Calls.mono); (with_reducible apply spec_Put16.calls (h := HPT.out)); rintro e w_ ⟨v0_, rfl, ho_, hb_⟩; obtain ⟨Ap, cp, rfl⟩ := Kd.R_slice ho_; have HOP := HF.row2 ho_; clear ho_; refine ⟨_, rfl, ?_⟩; replace HF := (HF.call hb_).mark; clear hb_; rotate_left; (first | rfl | (simp only [List.map_toArray, List.map_cons, List.map_nil]; first | done | rfl)); (refine lnorm (a' := ?_) ?_ ?_; rotate_left; (simp only [Act.put, List.setIfInBounds_toArray, List.set_cons_zero, List.set_cons_succ, i64_w, i32_w, u8_wr, tmod_nat, Int.reduceToNat, e4, e16, e15, e15a, W1, d1]; rfl))) <;>
                    (refine ⟨wpList_step fun K_ hK_ => ?_⟩; refine run_app1 HF rfl rfl rfl hu41 info5_ (by decide) rfl rfl (HF.row_now HOD.out (by simp) (by decide)) (HF.row_now HOS.out (by simp) (by decide)) (by decide) (HF.rowC HOP (by simp) (by decide)).1 (by first | omega | (simp only [List.length_cons, List.length_nil]; omega) | (rw [b2_len]; omega)) ?_; intro v_ w_ ho_ kS_ HF1; clear HF HOD HOS; have HF := HF1; clear HF1; obtain ⟨ds2, ed_, ho2_⟩ := R_name ho_; clear ho_; obtain ⟨Ad2, cd2, rfl⟩ := Kd.R_slice ho2_; have HOD := Aside0.mk ho2_; have ED := Aside0.mk ed_; clear ho2_ ed_; have HOS := Aside0.mk kS_; clear kS_; refine (hK_ _ _ (GL.out ?_)); clear hK_; (refine lnorm (a' := ?_) ?_ ?_; rotate_left; (simp only [Act.put, List.setIfInBounds_toArray, List.set_cons_zero, List.set_cons_succ, i64_w, i32_w, u8_wr, tmod_nat, Int.reduceToNat, e4, e16, e15, e15a, W1, d1]; rfl))) <;>
                    (apply lpure rfl rfl; (go_simp; with_reducible rfl); (simp only [Act.put, List.setIfInBounds_toArray, List.set_cons_zero, List.set_cons_succ, i64_w, i32_w, u8_wr, tmod_nat, Int.reduceToNat, e4, e16, e15, e15a, W1, d1]; rfl)) <;>
                    (apply lend)
                | ((with_reducible refine gate_region (id := 17) ?_); apply plain_region) <;>
                    (apply lpure rfl rfl; (go_simp; with_reducible rfl); (simp only [Act.put, List.setIfInBounds_toArray, List.set_cons_zero, List.set_cons_succ, i64_w, i32_w, u8_wr, tmod_nat, Int.reduceToNat, e4, e16, e15, e15a, W1, d1]; rfl)) <;>
                    (apply lpure rfl rfl; (go_simp; with_reducible rfl); (simp only [Act.put, List.setIfInBounds_toArray, List.set_cons_zero, List.set_cons_succ, i64_w, i32_w, u8_wr, tmod_nat, Int.reduceToNat, e4, e16, e15, e15a, W1, d1]; rfl)) <;>
                    (apply lpure rfl rfl; (go_simp; with_reducible rfl); (simp only [Act.put, List.setIfInBounds_toArray, List.set_cons_zero, List.set_cons_succ, i64_w, i32_w, u8_wr, tmod_nat, Int.reduceToNat, e4, e16, e15, e15a, W1, d1]; rfl)) <;>
                    (apply lend)
                | go_step | fail))
            all_goals (go_roundg (8 - (x + 1)).toNat)
            case measure =>
              have := HK.out
              omega
            case rel => exact ⟨x + 1, ds2, _, _, rfl, rfl, ⟨by rw [← ED.out]; exact HFIN.out⟩, ⟨by rw [← ED.out]; exact U8.app HDU.out.1 (U8.two _), by rw [← ED.out, List.length_append]; show ((ds.length + 2 : Nat) : Int) ≤ _; omega⟩, ⟨by omega⟩, ⟨Nat.le_refl _⟩, HOD, HOS, Fr_now (HF.part (by rw [EL_.out]; exact List.Sublist.refl _) (fun _ h_ => h_))⟩
        case' neg =>
          have c1 : decide (x < 8) = false := decide_eq_false c
          obtain rfl : x = 8 := by omega
          replace HFIN := Aside0.mk (HFIN.out.trans (show end16 s (S.drop (8 : Int).toNat) ds = finR s ds by rw [List.drop_of_length_le (by have := c8; simp; omega)]; rfl))
          replace HDU := Aside0.mk (And.intro HDU.out.1 (show ds.length ≤ 20 by have := HDU.out.2; omega))
          (repeat' (first
        | ((with_reducible refine gate_region (id := 16) ?_); apply plain_region) <;>
            (apply lpure rfl rfl; (go_simp; with_reducible rfl); (simp only [Act.put, List.setIfInBounds_toArray, List.set_cons_zero, List.set_cons_succ, i64_w, i32_w, u8_wr, tmod_nat, Int.reduceToNat, e4, e16, e15, e15a]; rfl)) <;>
            (apply lpure rfl rfl; (go_simp; with_reducible rfl); (simp only [Act.put, List.setIfInBounds_toArray, List.set_cons_zero, List.set_cons_succ, i64_w, i32_w, u8_wr, tmod_nat, Int.reduceToNat, e4, e16, e15, e15a]; rfl)) <;>
            (apply lend)
        | ((fail_if_success (with_reducible refine gate_region (id := 22) ?_)); go_step) | fail))
    
    case' neg =>
      have d8 : ((S.length : Int) == 8) = false := beq_eq_false_iff_ne.mpr c8
      replace HFIN := Aside0.mk (HFIN.out.trans (if_neg c8))
      replace HDU := Aside0.mk (And.intro HDU.out.1 (show _ ≤ 20 from Nat.le_trans HDU.out.2 (by decide)))
      (repeat' (first
          | ((with_reducible refine gate_region (id := 14) ?_); apply plain_region) <;>
              (apply lpure rfl rfl; (go_simp; with_reducible rfl); (simp only [Act.put, List.setIfInBounds_toArray, List.set_cons_zero, List.set_cons_succ, i64_w, i32_w, u8_wr, tmod_nat, Int.reduceToNat, e4, e16, e15, e15a, d8]; rfl)) <;>
              (apply lpure rfl rfl; (go_simp; with_reducible rfl); (simp only [Act.put, List.setIfInBounds_toArray, List.set_cons_zero, List.set_cons_succ, i64_w, i32_w, u8_wr, tmod_nat, Int.reduceToNat, e4, e16, e15, e15a, d8]; rfl)) <;>
              (apply lpure rfl rfl; (go_simp; with_reducible rfl); (simp only [Act.put, List.setIfInBounds_toArray, List.set_cons_zero, List.set_cons_succ, i64_w, i32_w, u8_wr, tmod_nat, Int.reduceToNat, e4, e16, e15, e15a, d8]; rfl)) <;>
              (apply lend)
          | ((fail_if_success (with_reducible refine gate_region (id := 22) ?_)); go_step) | fail)))
  all_goals (obtain ⟨b0, b1, b2, b3, b4, ok, hA, h⟩ := finCases HFIN.out HDU.out.1 (Nat.le_trans HDU.out.2 (by decide)); have HA := Aside0.mk hA; clear hA)
  all_goals (rcases h with ⟨rfl, hz⟩ | ⟨rfl, ht, hz⟩ | ⟨rfl, ht, hz⟩)
  all_goals (replace HFIN := Aside0.mk hz; clear hz)
  all_goals (try (
    obtain ⟨T, hTx⟩ : ∃ T, T = textOf (addrBytes b0 b1 b2 b3 b4) := ⟨_, rfl⟩
    have specT := fun w => (hTx ▸ RText.specT b0 b1 b2 b3 b4 w :)
    rw [← hTx] at ht
    clear hTx))
  all_goals (try (have ct : (T.toList != s.toList) = true := bne_iff_ne.mpr ht; have ct' : (T.toList == s.toList) = false := beq_eq_false_iff_ne.mpr ht))
  all_goals (try (have ct : (T.toList != s.toList) = false := by rw [ht]; exact bne_self_eq_false _))
  all_goals (repeat' (first
      | ((with_reducible refine gate_region (id := 22) ?_); apply plain_region) <;>
          (apply lpure rfl rfl; (go_simp; with_reducible rfl); (simp only [Act.put, List.setIfInBounds_toArray, List.set_cons_zero, List.set_cons_succ, i64_w, i32_w, u8_wr, tmod_nat, Int.reduceToNat, e4, e16, e15, e15a]; rfl)) <;>
          (apply lcall rfl rfl rfl Tryz.func18 (by kernel_rfl) rfl; (with_reducible apply Calls.mono); (with_reducible apply spec_AddrOf.calls (h := HA.out)); exact (HF.rowC HOD (by simp) (by decide)).1; exact (HF.rowC HOD (by simp) (by decide)).2; rintro e w_ ⟨rfl, hb_⟩; refine ⟨_, rfl, ?_⟩; replace HF := HF.call hb_; clear hb_; rotate_left; (first | rfl | (simp only [List.map_toArray, List.map_cons, List.map_nil]; first | done | rfl)); (refine lnorm (a' := ?_) ?_ ?_; rotate_left; (simp only [Act.put, List.setIfInBounds_toArray, List.set_cons_zero, List.set_cons_succ, i64_w, i32_w, u8_wr, tmod_nat, Int.reduceToNat, e4, e16, e15, e15a]; rfl))) <;>
          (apply lpure rfl rfl; (go_simp; with_reducible rfl); (simp only [Act.put, List.setIfInBounds_toArray, List.set_cons_zero, List.set_cons_succ, i64_w, i32_w, u8_wr, tmod_nat, Int.reduceToNat, e4, e16, e15, e15a]; rfl)) <;>
          (apply lpure rfl rfl; (go_simp; with_reducible rfl); (simp only [Act.put, List.setIfInBounds_toArray, List.set_cons_zero, List.set_cons_succ, i64_w, i32_w, u8_wr, tmod_nat, Int.reduceToNat, e4, e16, e15, e15a]; rfl)) <;>
          (apply lpure rfl rfl; (go_simp; with_reducible rfl); (simp only [Act.put, List.setIfInBounds_toArray, List.set_cons_zero, List.set_cons_succ, i64_w, i32_w, u8_wr, tmod_nat, Int.reduceToNat, e4, e16, e15, e15a]; rfl)) <;>
          ((with_reducible apply Fr.lalloc HF rfl rfl rfl); (go_simp; rfl); decide; clear HF; intro g_ w_ HF; (refine lnorm (a' := ?_) ?_ ?_; rotate_left; (simp only [Act.put, List.setIfInBounds_toArray, List.set_cons_zero, List.set_cons_succ, i64_w, i32_w, u8_wr, tmod_nat, Int.reduceToNat, e4, e16, e15, e15a]; rfl))) <;>
          ((with_reducible apply Fr.lstoreRow HF rfl rfl rfl); assumption; rfl; (go_simp; rfl); rfl; rfl; (repeat (first | apply At.head | apply At.tail)); (simp only [List.drop_succ_cons, List.drop_zero, List.drop_nil, List.take_succ_cons, List.take_zero, List.cons_append, List.nil_append, List.append_nil]; rfl); simp; clear HF; intro w_ HF) <;>
          (apply lpure rfl rfl; (go_simp; with_reducible rfl); (simp only [Act.put, List.setIfInBounds_toArray, List.set_cons_zero, List.set_cons_succ, i64_w, i32_w, u8_wr, tmod_nat, Int.reduceToNat, e4, e16, e15, e15a]; rfl)) <;>
          (apply lend)
      | ((with_reducible refine gate_region (id := 23) ?_); apply plain_region) <;>
          (apply lpure rfl rfl; (go_simp; with_reducible rfl); (simp only [Act.put, List.setIfInBounds_toArray, List.set_cons_zero, List.set_cons_succ, i64_w, i32_w, u8_wr, tmod_nat, Int.reduceToNat, e4, e16, e15, e15a]; rfl)) <;>
          (apply lpure rfl rfl; (go_simp; with_reducible rfl); (simp only [Act.put, List.setIfInBounds_toArray, List.set_cons_zero, List.set_cons_succ, i64_w, i32_w, u8_wr, tmod_nat, Int.reduceToNat, e4, e16, e15, e15a]; rfl)) <;>
          (apply lpure rfl rfl; (go_simp; with_reducible rfl); (simp only [Act.put, List.setIfInBounds_toArray, List.set_cons_zero, List.set_cons_succ, i64_w, i32_w, u8_wr, tmod_nat, Int.reduceToNat, e4, e16, e15, e15a]; rfl)) <;>
          (first | (apply HF.lrow rfl rfl rfl R23_ rfl; (repeat (first | exact At.head | apply At.tail)); (simp only [List.drop_succ_cons, List.drop_zero, List.take_succ_cons, List.take_zero]; rfl); rfl; (simp only [Act.put, List.setIfInBounds_toArray, List.set_cons_zero, List.set_cons_succ, i64_w, i32_w, u8_wr, tmod_nat, Int.reduceToNat, e4, e16, e15, e15a]; rfl)) | (apply loff rfl rfl; (simp only [Act.put, List.setIfInBounds_toArray, List.set_cons_zero, List.set_cons_succ, i64_w, i32_w, u8_wr, tmod_nat, Int.reduceToNat, e4, e16, e15, e15a]; rfl))) <;>
          (first | (apply lcall rfl rfl rfl Tryz.func19 (by kernel_rfl) rfl; (with_reducible apply Calls.mono); exact specT _; rintro e w_ ⟨rfl, hb_⟩; refine ⟨_, rfl, ?_⟩; replace HF := HF.call hb_; clear hb_; rotate_left; (first | rfl | (simp only [List.map_toArray, List.map_cons, List.map_nil]; first | done | rfl)); (refine lnorm (a' := ?_) ?_ ?_; rotate_left; (simp only [Act.put, List.setIfInBounds_toArray, List.set_cons_zero, List.set_cons_succ, i64_w, i32_w, u8_wr, tmod_nat, Int.reduceToNat, e4, e16, e15, e15a]; rfl))) | (apply loff rfl rfl; (simp only [Act.put, List.setIfInBounds_toArray, List.set_cons_zero, List.set_cons_succ, i64_w, i32_w, u8_wr, tmod_nat, Int.reduceToNat, e4, e16, e15, e15a]; rfl))) <;>
          (first | (apply lpure rfl rfl; (go_simp; with_reducible rfl); (simp only [Act.put, List.setIfInBounds_toArray, List.set_cons_zero, List.set_cons_succ, i64_w, i32_w, u8_wr, tmod_nat, Int.reduceToNat, e4, e16, e15, e15a]; rfl)) | (apply loff rfl rfl; (simp only [Act.put, List.setIfInBounds_toArray, List.set_cons_zero, List.set_cons_succ, i64_w, i32_w, u8_wr, tmod_nat, Int.reduceToNat, e4, e16, e15, e15a]; rfl))) <;>
          (first | (apply lpure rfl rfl; (go_simp; with_reducible rfl); (simp only [Act.put, List.setIfInBounds_toArray, List.set_cons_zero, List.set_cons_succ, i64_w, i32_w, u8_wr, tmod_nat, Int.reduceToNat, e4, e16, e15, e15a]; rfl)) | (apply loff rfl rfl; (simp only [Act.put, List.setIfInBounds_toArray, List.set_cons_zero, List.set_cons_succ, i64_w, i32_w, u8_wr, tmod_nat, Int.reduceToNat, e4, e16, e15, e15a]; rfl))) <;>
          (apply lpure rfl rfl; (go_simp; with_reducible rfl); (simp only [Act.put, List.setIfInBounds_toArray, List.set_cons_zero, List.set_cons_succ, i64_w, i32_w, u8_wr, tmod_nat, Int.reduceToNat, e4, e16, e15, e15a]; rfl)) <;>
          (apply lend)
      | ((with_reducible refine gate_region (id := 24) ?_); apply plain_region) <;>
          (apply lpure rfl rfl; (go_simp; with_reducible rfl); (simp only [Act.put, List.setIfInBounds_toArray, List.set_cons_zero, List.set_cons_succ, i64_w, i32_w, u8_wr, tmod_nat, Int.reduceToNat, e4, e16, e15, e15a]; rfl)) <;>
          ((with_reducible apply Fr.lstoreRow HF rfl rfl rfl); assumption; rfl; (go_simp; rfl); rfl; rfl; (repeat (first | apply At.head | apply At.tail)); (simp only [List.drop_succ_cons, List.drop_zero, List.drop_nil, List.take_succ_cons, List.take_zero, List.cons_append, List.nil_append, List.append_nil]; rfl); simp; clear HF; intro w_ HF) <;>
          (apply lpure rfl rfl; (go_simp; with_reducible rfl); (simp only [Act.put, List.setIfInBounds_toArray, List.set_cons_zero, List.set_cons_succ, i64_w, i32_w, u8_wr, tmod_nat, Int.reduceToNat, e4, e16, e15, e15a]; rfl)) <;>
          (apply lend)
      | ((with_reducible refine gate_region (id := 25) ?_); apply plain_region) <;>
          (apply HF.lrow rfl rfl rfl R23_ rfl; (repeat (first | exact At.head | apply At.tail)); (simp only [List.drop_succ_cons, List.drop_zero, List.take_succ_cons, List.take_zero]; rfl); rfl; (simp only [Act.put, List.setIfInBounds_toArray, List.set_cons_zero, List.set_cons_succ, i64_w, i32_w, u8_wr, tmod_nat, Int.reduceToNat, e4, e16, e15, e15a]; rfl)) <;>
          ((with_reducible apply Fr.lstoreRow HF rfl rfl rfl); assumption; rfl; (go_simp; rfl); rfl; rfl; (repeat (first | apply At.head | apply At.tail)); (simp only [List.drop_succ_cons, List.drop_zero, List.drop_nil, List.take_succ_cons, List.take_zero, List.cons_append, List.nil_append, List.append_nil]; rfl); simp; clear HF; intro w_ HF) <;>
          (apply lpure rfl rfl; (go_simp; with_reducible rfl); (simp only [Act.put, List.setIfInBounds_toArray, List.set_cons_zero, List.set_cons_succ, i64_w, i32_w, u8_wr, tmod_nat, Int.reduceToNat, e4, e16, e15, e15a]; rfl)) <;>
          (apply lend)
      | go_step | fail))
  all_goals (refine bodyPost_ret (results_ct rfl _ _ _ 23 _ (0, 0) _ rfl (HF.get (by repeat (first | exact At.head | apply At.tail))) Tryz.underlying23 rfl (by kernel_rfl)) rfl ?_; exact ⟨by rw [HFIN.out]; rfl, HF.below⟩)
end Go.Proofs.YtljeajecajlaiaaGreatDoor.SRead
