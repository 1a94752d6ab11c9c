/- strconv.FormatInt at base 16 of a number of two bytes: the walk of formatBits (digits laid from the end of an array of 65 bytes), by the contract of the library's bits.TrailingZeros. Condition: the table math/bits.deBruijn64tab lies as its initialiser lays it. -/
import Derived.Test.YtljeajecajlaiaaGreatDoorZLayPFnExactPrefixRead
import Derived.Test.YtljeajecajlaiaaGreatDoorVFnExactPrefixRead
import Derived.Test.YtljeajecajlaiaaGreatDoorZBaseFnExactPrefixRead
import Derived.Laws.BytesArg
import Derived.Laws.Slices
import Derived.Laws.Strings
import Derived.Laws.BitsLemmas
import Derived.Deep.LoopGhost
namespace Go.Proofs.YtljeajecajlaiaaGreatDoor.Hex
open Go.RowKit Go.Lib Go.Shelf Go.Proofs.YtljeajecajlaiaaGreatDoorW.PrintWords Go.Proofs.YtljeajecajlaiaaGreatDoorW.PrintLast Go.Proofs.YtljeajecajlaiaaGreatDoorW.PrintMore Go.Proofs.YtljeajecajlaiaaGreatDoor.Frame Go.Proofs.YtljeajecajlaiaaGreatDoor.Base
set_option linter.unusedVariables false
set_option linter.unusedSimpArgs false
section
variable {P : Program} {a : Act} {W : World} {o : Oper} {t e n g : Nat} {s x : Operand} {k kl : IntKind} {y : Int} {b : ByteArray}
theorem run_arr (ho : o.op = .indexAddr t s x) (hs : a.eval s = .pointer (some ⟨g, 0, none⟩)) (hx : a.eval x = .int kl y) (ht : P.underlying t = some (.array n e)) (hinfo : (P.info? e).map (·.size) = some 1) (h0 : 0 ≤ y) (h1 : y < n) :
    (execOp a.eval o).run P W = .ok (.value (.pointer (some ⟨g, y.toNat, none⟩))) W := by
  obtain ⟨i, hi, hsz⟩ := Option.map_eq_some_iff.1 hinfo
  have hel : P.elem t = e := by simp [Program.elem, ht]
  have hln : P.arrayLen t = n := by simp [Program.arrayLen, ht]
  have hu : P.underlying t = some (.array (P.arrayLen t) (P.elem t)) := by rw [hel, hln]; exact ht
  unfold execOp
  simp only [ho, hs, hx, Sem.run_bind, Sem.run_pure, run_indexAt_array (h := hu), hln, if_pos (show 0 ≤ y ∧ y < (n : Int) from ⟨h0, h1⟩), hel]
  simp [sizeOf, typeInfo, hi, hsz, Result.andThen, Addr.add]
  omega
theorem run_str (ho : o.op = .index t s x) (hs : a.eval s = .string b) (hx : a.eval x = .int kl y) (ht : P.underlying t = some .string) (h0 : 0 ≤ y) (h1 : y < b.size) :
    (execOp a.eval o).run P W = .ok (.value (.int .u8 (bt b y))) W := by
  unfold execOp
  simp only [ho, hs, hx, Sem.run_bind, Sem.run_pure, run_index_string (h := ht), dif_pos (show 0 ≤ y ∧ y < (b.size : Int) from ⟨h0, h1⟩)]
  simp [Result.andThen, bt, show y.toNat < b.size by omega]
theorem run_sla (ho : o.op = .slice t s (some x) none none) (hs : a.eval s = .pointer (some ⟨g, 0, none⟩)) (hx : a.eval x = .int kl y) (ht : P.underlying t = some (.array n e)) (hinfo : (P.info? e).map (·.size) = some 1) (h0 : 0 ≤ y) (h1 : y < n) :
    (execOp a.eval o).run P W = .ok (.value (.slice (some ⟨g, y.toNat, none⟩) (n - y.toNat) (n - y.toNat))) W := by
  obtain ⟨i, hi, hsz⟩ := Option.map_eq_some_iff.1 hinfo
  have hel : P.elem t = e := by simp [Program.elem, ht]
  have hln : P.arrayLen t = n := by simp [Program.arrayLen, ht]
  have hu : P.underlying t = some (.array (P.arrayLen t) (P.elem t)) := by rw [hel, hln]; exact ht
  unfold execOp
  simp only [ho, hs, hx, Option.map_some, Option.map_none, Sem.run_bind, Sem.run_pure, run_sliceAt_array_l (ht := hu) (h0 := h0) (h1 := show y ≤ (P.arrayLen t : Int) by rw [hln]; omega), hel, hln]
  simp [sizeOf, typeInfo, hi, hsz, Result.andThen, slicedAt, Addr.add, show n ≠ y.toNat by omega]
  omega
theorem run_conv {u m c i : Nat} {xs : List Int} {cs : List Value} (ho : o.op = .convert t u s) (hs : a.eval s = .slice (some ⟨g, i, none⟩) m c) (ht : P.underlying t = some (.slice e)) (he : P.underlying e = some (.int .u8)) (hu : P.underlying u = some .string)
    (hg : W.heap[g]? = some (.cells cs.toArray n (0, 0))) (hd : cs.drop i = xs.map (Value.int .u8)) (hm : xs.length = m) : (execOp a.eval o).run P W = .ok (.value (.string (strOfNums xs))) W := by
  unfold execOp
  simp only [ho, hs]
  have := run_convert_bytes_arg (P := P) W t e ht he g i m c xs hm (fun j hj => by
    rw [blk_cell hg (i + j)]
    have h1 : (cs.drop i)[j]? = some (.int .u8 (xs.getD j 0)) := by
      rw [hd, List.getElem?_map, List.getElem?_eq_getElem (by omega)]
      simp [List.getD, List.getElem?_eq_getElem (show j < xs.length by omega)]
    rw [List.getElem?_drop] at h1
    simpa using h1) u hu
  simp [Sem.run_bind, Sem.run_pure, this, Result.andThen]
end
theorem e4 : IntKind.u64.wrap 4 = 4 := by decide
theorem e16 : IntKind.u64.wrap 16 = 16 := by decide
theorem e15 : IntKind.u64.wrap 15 = 15 := by decide
theorem e15a : IntKind.u64.wrap (16 - 1) = 15 := by decide
/-- The digits of a number of at most k digits at base 16. -/
def hexN : Nat → Int → List Int
  | 0, _ => []
  | k + 1, u => if u < 16 then [hexd u] else hexN k (u / 16) ++ [hexd (u % 16)]
def hexS (u : Int) : ByteArray := strOfNums (hexN 4 u)
def DIG : ByteArray := ⟨#[48, 49, 50, 51, 52, 53, 54, 55, 56, 57, 97, 98, 99, 100, 101, 102, 103, 104, 105, 106, 107, 108, 109, 110, 111, 112, 113, 114, 115, 116, 117, 118, 119, 120, 121, 122]⟩
theorem dig {v : Int} (h0 : 0 ≤ v) (h1 : v < 16) : bt DIG v = hexd v := by
  have : ∀ n : Fin 16, bt DIG (n.val : Int) = hexd n.val := by decide +kernel
  have := this ⟨v.toNat, by omega⟩
  simpa [Int.toNat_of_nonneg h0] using this
theorem drop_set {cs : List Value} {i : Nat} {v : Value} {D : List Value} (hd : cs.drop (i + 1) = D) (hi : i < cs.length) : (cs.set i v).drop i = v :: D := by
  subst hd
  apply List.ext_getElem?
  intro j
  rw [List.getElem?_drop]
  cases j with
  | zero => simp [List.getElem?_set_self hi]
  | succ j => rw [List.getElem?_set_ne (by omega), List.getElem?_cons_succ, List.getElem?_drop, show i + (j + 1) = i + 1 + j by omega]

theorem tab_later {g : Nat} {tab : List Nat} {w W : World} (h : TabAt g tab w) (hb : Below w.heap.size w W) : TabAt g tab W := fun j hj => (hb.cell (World.block_lt_of_cell? w _ (h j hj))).trans (h j hj)
theorem trail (w : World) (hT : TabAt 7 Lib.deBruijn64tab w) : Calls Tryz.prog 102 #[.int .u64 16] w fun e w' => e = .returned (.int .i64 4) ∧ Below w.heap.size w w' :=
  (Any7.bits_TrailingZeros Tryz.lays27 16 (by decide) w (fun _ => hT)).mono (by rintro e w' ⟨rfl, rfl⟩; exact ⟨by first | rfl | decide, Below.refl _ _⟩)
set_option maxRecDepth 100000 in
theorem pow2 (w : World) : Calls Tryz.prog 101 #[.int .i64 16] w fun e w' => e = .returned (.bool true) ∧ Below w.heap.size w w' := by
  go_enter Tryz.func101, Tryz.ntmps101
  go_wp2
  go_ret
  exact ⟨rfl, Below.refl _ _⟩
/-- What holds at the loop's head: x is left, the digits D lie from i on. -/
def Inv (u x : Int) (i : Nat) (D : List Int) (cs : List Value) : Prop :=
  cs.length = 65 ∧ cs.drop i = D.map (Value.int .u8) ∧ 0 ≤ x ∧ D.length = 65 - i ∧ ((i = 65 ∧ x ≤ 65535) ∨ (i = 64 ∧ x ≤ 4095) ∨ (i = 63 ∧ x ≤ 255) ∨ (i = 62 ∧ x ≤ 15)) ∧ hexN 4 u = hexN (i - 61) x ++ D
theorem Inv.step {u x : Int} {i : Nat} {D : List Int} {cs : List Value} (h : Inv u x i D cs) (hx : 16 ≤ x) : Inv u (x / 16) (i - 1) (hexd (x % 16) :: D) (cs.set (i - 1) (.int .u8 (hexd (x % 16)))) := by
  obtain ⟨h1, h2, h3, h4, h5, h6⟩ := h
  refine ⟨by rw [List.length_set]; exact h1, ?_, by omega, by simp only [List.length_cons]; omega, by omega, ?_⟩
  · rw [drop_set (D := D.map (Value.int .u8)) (by rw [show i - 1 + 1 = i by omega]; exact h2) (by omega)]
    rfl
  · obtain ⟨j, hj⟩ : ∃ j, i - 61 = j + 1 := ⟨i - 62, by omega⟩
    rw [h6, hj, show i - 1 - 61 = j by omega]
    show (if x < 16 then [hexd x] else hexN j (x / 16) ++ [hexd (x % 16)]) ++ D = _
    rw [if_neg (by omega), List.append_assoc]
    rfl
theorem Inv.last {u x : Int} {i : Nat} {D : List Int} {cs : List Value} (h : Inv u x i D cs) (hx : ¬ 16 ≤ x) : (cs.set (i - 1) (.int .u8 (hexd x))).drop (i - 1) = (hexN 4 u).map (Value.int .u8) ∧ (hexN 4 u).length = 65 - (i - 1) := by
  obtain ⟨h1, h2, h3, h4, h5, h6⟩ := h
  obtain ⟨j, hj⟩ : ∃ j, i - 61 = j + 1 := ⟨i - 62, by omega⟩
  have e : hexN 4 u = hexd x :: D := by
    rw [h6, hj]
    show (if x < 16 then [hexd x] else hexN j (x / 16) ++ [hexd (x % 16)]) ++ D = _
    rw [if_pos (by omega)]
    rfl
  rw [e]
  refine ⟨?_, by simp only [List.length_cons]; omega⟩
  rw [drop_set (D := D.map (Value.int .u8)) (by rw [show i - 1 + 1 = i by omega]; exact h2) (by omega)]
  rfl
set_option maxHeartbeats 8000000 in
set_option maxRecDepth 100000 in
theorem formatBits (u : Int) (hu0 : 0 ≤ u) (hu1 : u ≤ 65535) (w : World) (hT : TabAt 7 Lib.deBruijn64tab w) :
    Calls Tryz.prog 92 #[.slice none 0 0, .int .u64 u, .int .i64 16, .bool false, .bool false] w fun e w' => e = .returned (.tuple #[.slice none 0 0, .string (hexS u)]) ∧ Below w.heap.size w w' := by
  have HU := Aside0.mk (And.intro hu0 hu1)
  have HT := Aside0.mk hT
  clear hu0 hu1 hT
  have hu9 := Tryz.underlying9
  have hu39 := Tryz.underlying41
  have hu5 := Tryz.underlying5
  have hu98 := Tryz.underlying114
  have z5_ : (Tryz.prog.info? 5).map (·.size) = some 1 := by kernel_rfl
  have O5_ : IsOne Tryz.prog 5 := ⟨⟨_, Tryz.underlying5, rfl⟩, by kernel_rfl⟩
  have HF := Fr.start [114] w
  go_enter Tryz.func92, Tryz.ntmps92
  repeat' (first
      | ((with_reducible refine gate_region (id := 0) ?_); apply plain_region) <;>
        (apply lpure rfl rfl; (go_simp; with_reducible rfl); (simp only [Act.put, List.setIfInBounds_toArray, List.set_cons_zero, List.set_cons_succ, i64_w, i32_w, u8_wr, tmod_nat, Int.reduceToNat, e4, e16, e15, e15a]; rfl)) <;>
        (apply lpure rfl rfl; (go_simp; with_reducible rfl); (simp only [Act.put, List.setIfInBounds_toArray, List.set_cons_zero, List.set_cons_succ, i64_w, i32_w, u8_wr, tmod_nat, Int.reduceToNat, e4, e16, e15, e15a]; rfl)) <;>
        (apply lend)
      | ((with_reducible refine gate_region (id := 1) ?_); apply plain_region) <;>
        (apply lpure rfl rfl; (go_simp; with_reducible rfl); (simp only [Act.put, List.setIfInBounds_toArray, List.set_cons_zero, List.set_cons_succ, i64_w, i32_w, u8_wr, tmod_nat, Int.reduceToNat, e4, e16, e15, e15a]; rfl)) <;>
        (apply lpure rfl rfl; (go_simp; with_reducible rfl); (simp only [Act.put, List.setIfInBounds_toArray, List.set_cons_zero, List.set_cons_succ, i64_w, i32_w, u8_wr, tmod_nat, Int.reduceToNat, e4, e16, e15, e15a]; rfl)) <;>
        (apply lpure rfl rfl; (go_simp; with_reducible rfl); (simp only [Act.put, List.setIfInBounds_toArray, List.set_cons_zero, List.set_cons_succ, i64_w, i32_w, u8_wr, tmod_nat, Int.reduceToNat, e4, e16, e15, e15a]; rfl)) <;>
        (apply lpure rfl rfl; (go_simp; with_reducible rfl); (simp only [Act.put, List.setIfInBounds_toArray, List.set_cons_zero, List.set_cons_succ, i64_w, i32_w, u8_wr, tmod_nat, Int.reduceToNat, e4, e16, e15, e15a]; rfl)) <;>
        (apply lpure rfl rfl; (go_simp; with_reducible rfl); (simp only [Act.put, List.setIfInBounds_toArray, List.set_cons_zero, List.set_cons_succ, i64_w, i32_w, u8_wr, tmod_nat, Int.reduceToNat, e4, e16, e15, e15a]; rfl)) <;>
        (apply lpure rfl rfl; (go_simp; with_reducible rfl); (simp only [Act.put, List.setIfInBounds_toArray, List.set_cons_zero, List.set_cons_succ, i64_w, i32_w, u8_wr, tmod_nat, Int.reduceToNat, e4, e16, e15, e15a]; rfl)) <;>
        (apply lpure rfl rfl; (go_simp; with_reducible rfl); (simp only [Act.put, List.setIfInBounds_toArray, List.set_cons_zero, List.set_cons_succ, i64_w, i32_w, u8_wr, tmod_nat, Int.reduceToNat, e4, e16, e15, e15a]; rfl)) <;>
        (apply lpure rfl rfl; (go_simp; with_reducible rfl); (simp only [Act.put, List.setIfInBounds_toArray, List.set_cons_zero, List.set_cons_succ, i64_w, i32_w, u8_wr, tmod_nat, Int.reduceToNat, e4, e16, e15, e15a]; rfl)) <;>
        (apply lpure rfl rfl; (go_simp; with_reducible rfl); (simp only [Act.put, List.setIfInBounds_toArray, List.set_cons_zero, List.set_cons_succ, i64_w, i32_w, u8_wr, tmod_nat, Int.reduceToNat, e4, e16, e15, e15a]; rfl)) <;>
        (apply lpure rfl rfl; (go_simp; with_reducible rfl); (simp only [Act.put, List.setIfInBounds_toArray, List.set_cons_zero, List.set_cons_succ, i64_w, i32_w, u8_wr, tmod_nat, Int.reduceToNat, e4, e16, e15, e15a]; rfl)) <;>
        (apply lend)
      | ((with_reducible refine gate_region (id := 3) ?_); apply plain_region) <;>
        ((with_reducible apply Fr.lalloc HF rfl rfl rfl); (go_simp; rfl); decide; clear HF; intro g_ w_ HF; (refine lnorm (a' := ?_) ?_ ?_; rotate_left; (simp only [Act.put, List.setIfInBounds_toArray, List.set_cons_zero, List.set_cons_succ, i64_w, i32_w, u8_wr, tmod_nat, Int.reduceToNat, e4, e16, e15, e15a]; rfl))) <;>
        (apply lend)
      | ((with_reducible refine gate_region (id := 4) ?_); apply plain_region) <;>
        (apply lpure rfl rfl; (go_simp; with_reducible rfl); (simp only [Act.put, List.setIfInBounds_toArray, List.set_cons_zero, List.set_cons_succ, i64_w, i32_w, u8_wr, tmod_nat, Int.reduceToNat, e4, e16, e15, e15a]; rfl)) <;>
        (apply lend)
      | ((with_reducible refine gate_region (id := 5) ?_); apply plain_region) <;>
        (apply lpure rfl rfl; (go_simp; with_reducible rfl); (simp only [Act.put, List.setIfInBounds_toArray, List.set_cons_zero, List.set_cons_succ, i64_w, i32_w, u8_wr, tmod_nat, Int.reduceToNat, e4, e16, e15, e15a]; rfl)) <;>
        (apply lend)
      | ((with_reducible refine gate_region (id := 7) ?_); apply plain_region) <;>
        (apply lpure rfl rfl; (go_simp; with_reducible rfl); (simp only [Act.put, List.setIfInBounds_toArray, List.set_cons_zero, List.set_cons_succ, i64_w, i32_w, u8_wr, tmod_nat, Int.reduceToNat, e4, e16, e15, e15a]; rfl)) <;>
        (apply lcall rfl rfl rfl Tryz.func101 (by kernel_rfl) rfl; (with_reducible apply Calls.mono); exact pow2 _; rintro e w_ ⟨rfl, hb_⟩; refine ⟨_, rfl, ?_⟩; replace HF := HF.call hb_; clear hb_; rotate_left; (first | rfl | (simp only [List.map_toArray, List.map_cons, List.map_nil]; first | done | rfl)); (refine lnorm (a' := ?_) ?_ ?_; rotate_left; (simp only [Act.put, List.setIfInBounds_toArray, List.set_cons_zero, List.set_cons_succ, i64_w, i32_w, u8_wr, tmod_nat, Int.reduceToNat, e4, e16, e15, e15a]; rfl))) <;>
        (apply lend)
      | ((with_reducible refine gate_region (id := 8) ?_); apply plain_region) <;>
        (apply lpure rfl rfl; (go_simp; with_reducible rfl); (simp only [Act.put, List.setIfInBounds_toArray, List.set_cons_zero, List.set_cons_succ, i64_w, i32_w, u8_wr, tmod_nat, Int.reduceToNat, e4, e16, e15, e15a]; rfl)) <;>
        (apply lpure rfl rfl; (go_simp; with_reducible rfl); (simp only [Act.put, List.setIfInBounds_toArray, List.set_cons_zero, List.set_cons_succ, i64_w, i32_w, u8_wr, tmod_nat, Int.reduceToNat, e4, e16, e15, e15a]; rfl)) <;>
        (apply lcall rfl rfl rfl Tryz.func102 (by kernel_rfl) rfl; (with_reducible apply Calls.mono); exact trail _ (tab_later HT.out HF.below); rintro e w_ ⟨rfl, hb_⟩; refine ⟨_, rfl, ?_⟩; replace HF := HF.call hb_; clear hb_; rotate_left; (first | rfl | (simp only [List.map_toArray, List.map_cons, List.map_nil]; first | done | rfl)); (refine lnorm (a' := ?_) ?_ ?_; rotate_left; (simp only [Act.put, List.setIfInBounds_toArray, List.set_cons_zero, List.set_cons_succ, i64_w, i32_w, u8_wr, tmod_nat, Int.reduceToNat, e4, e16, e15, e15a]; rfl))) <;>
        (apply lpure rfl rfl; (go_simp; with_reducible rfl); (simp only [Act.put, List.setIfInBounds_toArray, List.set_cons_zero, List.set_cons_succ, i64_w, i32_w, u8_wr, tmod_nat, Int.reduceToNat, e4, e16, e15, e15a]; rfl)) <;>
        (apply lpure rfl rfl; (go_simp; with_reducible rfl); (simp only [Act.put, List.setIfInBounds_toArray, List.set_cons_zero, List.set_cons_succ, i64_w, i32_w, u8_wr, tmod_nat, Int.reduceToNat, e4, e16, e15, e15a]; rfl)) <;>
        (apply lend)
      | ((with_reducible refine gate_region (id := 9) ?_); apply plain_region) <;>
        (apply lpure rfl rfl; (go_simp; with_reducible rfl); (simp only [Act.put, List.setIfInBounds_toArray, List.set_cons_zero, List.set_cons_succ, i64_w, i32_w, u8_wr, tmod_nat, Int.reduceToNat, e4, e16, e15, e15a]; rfl)) <;>
        (apply lpure rfl rfl; (go_simp; with_reducible rfl); (simp only [Act.put, List.setIfInBounds_toArray, List.set_cons_zero, List.set_cons_succ, i64_w, i32_w, u8_wr, tmod_nat, Int.reduceToNat, e4, e16, e15, e15a]; rfl)) <;>
        (apply lpure rfl rfl; (go_simp; with_reducible rfl); (simp only [Act.put, List.setIfInBounds_toArray, List.set_cons_zero, List.set_cons_succ, i64_w, i32_w, u8_wr, tmod_nat, Int.reduceToNat, e4, e16, e15, e15a]; rfl)) <;>
        (apply lend)
      | ((with_reducible refine gate_region (id := 10) ?_); apply plain_region) <;>
        (apply lpure rfl rfl; (go_simp; with_reducible rfl); (simp only [Act.put, List.setIfInBounds_toArray, List.set_cons_zero, List.set_cons_succ, i64_w, i32_w, u8_wr, tmod_nat, Int.reduceToNat, e4, e16, e15, e15a]; rfl)) <;>
        (apply lpure rfl rfl; (go_simp; with_reducible rfl); (simp only [Act.put, List.setIfInBounds_toArray, List.set_cons_zero, List.set_cons_succ, i64_w, i32_w, u8_wr, tmod_nat, Int.reduceToNat, e4, e16, e15, e15a]; rfl)) <;>
        (apply lpure rfl rfl; (go_simp; with_reducible rfl); (simp only [Act.put, List.setIfInBounds_toArray, List.set_cons_zero, List.set_cons_succ, i64_w, i32_w, u8_wr, tmod_nat, Int.reduceToNat, e4, e16, e15, e15a]; rfl)) <;>
        (apply lpure rfl rfl; (go_simp; with_reducible rfl); (simp only [Act.put, List.setIfInBounds_toArray, List.set_cons_zero, List.set_cons_succ, i64_w, i32_w, u8_wr, tmod_nat, Int.reduceToNat, e4, e16, e15, e15a]; rfl)) <;>
        (apply lend)
      | go_step | fail)
  all_goals (go_loopg [1, 13] u.toNat (fun kq_ v1_ v13_ w_ => ∃ (x : Int) (i : Nat) (D : List Int) (cs : List Value), v1_ = .int .u64 x ∧ v13_ = .int .i64 i ∧ Aside0 (Inv u x i D cs) ∧ Aside0 (x.toNat ≤ kq_) ∧ Fr [114] w w_ [(g_, cs, 114)] []))
  case atStart => exact ⟨u, 65, [], _, rfl, rfl, ⟨⟨rfl, rfl, HU.out.1, rfl, .inl ⟨rfl, HU.out.2⟩, by rw [List.append_nil]⟩⟩, ⟨Nat.le_refl _⟩, HF.drop⟩
  case round =>
    clear HF
    obtain ⟨x, i, D, cs, rfl, rfl, HI, HK, HF⟩ := hrel
    have hx0 : 0 ≤ x := HI.out.2.2.1
    have hi : 62 ≤ i ∧ i ≤ 65 ∧ x ≤ 65535 := by have := HI.out.2.2.2.2.1; omega
    have hcl : cs.length = 65 := HI.out.1
    have W1 : wrap64 ((i : Int) - 1) = ((i - 1 : Nat) : Int) := by rw [w64 (by omega) (by omega)]; omega
    have W2 := Aside0.mk W1
    by_cases c : 16 ≤ x
    · have c1 : decide (16 ≤ x) = true := decide_eq_true c
      have B1 : Go.bits .and .u64 x 15 = x % 16 := bits_mask .u64 64 (by decide) (fun n h0 h1 => by simp [IntKind.wrap, IntKind.bits, IntKind.signed]; omega) 4 (by decide) x (by omega) (by omega)
      have B2 : bt DIG (x % 16) = hexd (x % 16) := dig (by omega) (by omega)
      unfold DIG at B2
      repeat' (first
      | ((with_reducible refine gate_region (id := 11) ?_); apply plain_region) <;>
        (apply lpure rfl rfl; (go_simp; with_reducible rfl); (simp only [Act.put, List.setIfInBounds_toArray, List.set_cons_zero, List.set_cons_succ, i64_w, i32_w, u8_wr, tmod_nat, Int.reduceToNat, e4, e16, e15, e15a, W1, B1, B2]; rfl)) <;>
        (apply lpure rfl rfl; (go_simp; with_reducible rfl); (simp only [Act.put, List.setIfInBounds_toArray, List.set_cons_zero, List.set_cons_succ, i64_w, i32_w, u8_wr, tmod_nat, Int.reduceToNat, e4, e16, e15, e15a, W1, B1, B2]; rfl)) <;>
        (apply lpure rfl rfl; (go_simp; with_reducible rfl); (simp only [Act.put, List.setIfInBounds_toArray, List.set_cons_zero, List.set_cons_succ, i64_w, i32_w, u8_wr, tmod_nat, Int.reduceToNat, e4, e16, e15, e15a, W1, B1, B2]; rfl)) <;>
        (apply lend)
      | ((with_reducible refine gate_region (id := 12) ?_); apply plain_region) <;>
        (apply lpure rfl rfl; (go_simp; with_reducible rfl); (simp only [Act.put, List.setIfInBounds_toArray, List.set_cons_zero, List.set_cons_succ, i64_w, i32_w, u8_wr, tmod_nat, Int.reduceToNat, e4, e16, e15, e15a, W1, B1, B2]; rfl)) <;>
        (apply lpure rfl rfl; (go_simp; with_reducible rfl); (simp only [Act.put, List.setIfInBounds_toArray, List.set_cons_zero, List.set_cons_succ, i64_w, i32_w, u8_wr, tmod_nat, Int.reduceToNat, e4, e16, e15, e15a, W1, B1, B2]; rfl)) <;>
        (apply lpure rfl rfl; (go_simp; with_reducible rfl); (simp only [Act.put, List.setIfInBounds_toArray, List.set_cons_zero, List.set_cons_succ, i64_w, i32_w, u8_wr, tmod_nat, Int.reduceToNat, e4, e16, e15, e15a, W1, B1, B2]; rfl)) <;>
        (apply lend)
      | ((with_reducible refine gate_region (id := 13) ?_); apply plain_region) <;>
        (apply lpure rfl rfl; (go_simp; with_reducible rfl); (simp only [Act.put, List.setIfInBounds_toArray, List.set_cons_zero, List.set_cons_succ, i64_w, i32_w, u8_wr, tmod_nat, Int.reduceToNat, e4, e16, e15, e15a, W1, B1, B2]; rfl)) <;>
        (apply lpure rfl rfl; (go_simp; with_reducible rfl); (simp only [Act.put, List.setIfInBounds_toArray, List.set_cons_zero, List.set_cons_succ, i64_w, i32_w, u8_wr, tmod_nat, Int.reduceToNat, e4, e16, e15, e15a, W1, B1, B2]; rfl)) <;>
        (apply lpure rfl rfl; (go_simp; with_reducible rfl); (simp only [Act.put, List.setIfInBounds_toArray, List.set_cons_zero, List.set_cons_succ, i64_w, i32_w, u8_wr, tmod_nat, Int.reduceToNat, e4, e16, e15, e15a, W1, B1, B2]; rfl)) <;>
        (apply lpure rfl rfl; (go_simp; with_reducible rfl); (simp only [Act.put, List.setIfInBounds_toArray, List.set_cons_zero, List.set_cons_succ, i64_w, i32_w, u8_wr, tmod_nat, Int.reduceToNat, e4, e16, e15, e15a, W1, B1, B2]; rfl)) <;>
        (apply lpure rfl rfl; (exact run_str rfl rfl rfl hu9 (by omega) (Int.lt_of_lt_of_le (show _ < (16 : Int) by omega) (by decide))); (simp only [Act.put, List.setIfInBounds_toArray, List.set_cons_zero, List.set_cons_succ, i64_w, i32_w, u8_wr, tmod_nat, Int.reduceToNat, e4, e16, e15, e15a, W1, B1, B2]; rfl)) <;>
        (apply lpure rfl rfl; (exact run_arr rfl rfl rfl hu98 z5_ (by omega) (by omega)); (simp only [Act.put, List.setIfInBounds_toArray, List.set_cons_zero, List.set_cons_succ, i64_w, i32_w, u8_wr, tmod_nat, Int.reduceToNat, e4, e16, e15, e15a, W1, B1, B2]; rfl)) <;>
        ((with_reducible apply Fr.lstoreOne HF rfl rfl rfl); exact O5_; rfl; (go_simp; rfl); rfl; rfl; apply At.head; rfl; omega; clear HF; intro w_ HF) <;>
        (apply lend)
      | ((with_reducible refine gate_region (id := 14) ?_); apply plain_region) <;>
        (apply lpure rfl rfl; (go_simp; with_reducible rfl); (simp only [Act.put, List.setIfInBounds_toArray, List.set_cons_zero, List.set_cons_succ, i64_w, i32_w, u8_wr, tmod_nat, Int.reduceToNat, e4, e16, e15, e15a, W1, B1, B2]; rfl)) <;>
        (apply lpure rfl rfl; (go_simp; with_reducible rfl); (simp only [Act.put, List.setIfInBounds_toArray, List.set_cons_zero, List.set_cons_succ, i64_w, i32_w, u8_wr, tmod_nat, Int.reduceToNat, e4, e16, e15, e15a, W1, B1, B2]; rfl)) <;>
        (apply lpure rfl rfl; (go_simp; with_reducible rfl); (simp only [Act.put, List.setIfInBounds_toArray, List.set_cons_zero, List.set_cons_succ, i64_w, i32_w, u8_wr, tmod_nat, Int.reduceToNat, e4, e16, e15, e15a, W1, B1, B2]; rfl)) <;>
        (apply lpure rfl rfl; (go_simp; with_reducible rfl); (simp only [Act.put, List.setIfInBounds_toArray, List.set_cons_zero, List.set_cons_succ, i64_w, i32_w, u8_wr, tmod_nat, Int.reduceToNat, e4, e16, e15, e15a, W1, B1, B2]; rfl)) <;>
        (apply lend)
      | go_step | fail)
      go_roundg (x / 16).toNat
      case measure =>
        have := HK.out
        omega
      case rel => exact ⟨x / 16, i - 1, _, _, rfl, rfl, ⟨HI.out.step c⟩, ⟨by have := HK.out; omega⟩, HF⟩
    · have c1 : decide (16 ≤ x) = false := decide_eq_false c
      have B2 : bt DIG x = hexd x := dig (by omega) (by omega)
      unfold DIG at B2
      repeat' (first
      | ((with_reducible refine gate_region (id := 11) ?_); apply plain_region) <;>
        (apply lpure rfl rfl; (go_simp; with_reducible rfl); (simp only [Act.put, List.setIfInBounds_toArray, List.set_cons_zero, List.set_cons_succ, i64_w, i32_w, u8_wr, tmod_nat, Int.reduceToNat, e4, e16, e15, e15a, W1, B2]; rfl)) <;>
        (apply lpure rfl rfl; (go_simp; with_reducible rfl); (simp only [Act.put, List.setIfInBounds_toArray, List.set_cons_zero, List.set_cons_succ, i64_w, i32_w, u8_wr, tmod_nat, Int.reduceToNat, e4, e16, e15, e15a, W1, B2]; rfl)) <;>
        (apply lpure rfl rfl; (go_simp; with_reducible rfl); (simp only [Act.put, List.setIfInBounds_toArray, List.set_cons_zero, List.set_cons_succ, i64_w, i32_w, u8_wr, tmod_nat, Int.reduceToNat, e4, e16, e15, e15a, W1, B2]; rfl)) <;>
        (apply lend)
      | ((with_reducible refine gate_region (id := 15) ?_); apply plain_region) <;>
        (apply lpure rfl rfl; (go_simp; with_reducible rfl); (simp only [Act.put, List.setIfInBounds_toArray, List.set_cons_zero, List.set_cons_succ, i64_w, i32_w, u8_wr, tmod_nat, Int.reduceToNat, e4, e16, e15, e15a, W1, B2]; rfl)) <;>
        (apply lpure rfl rfl; (go_simp; with_reducible rfl); (simp only [Act.put, List.setIfInBounds_toArray, List.set_cons_zero, List.set_cons_succ, i64_w, i32_w, u8_wr, tmod_nat, Int.reduceToNat, e4, e16, e15, e15a, W1, B2]; rfl)) <;>
        (apply lpure rfl rfl; (go_simp; with_reducible rfl); (simp only [Act.put, List.setIfInBounds_toArray, List.set_cons_zero, List.set_cons_succ, i64_w, i32_w, u8_wr, tmod_nat, Int.reduceToNat, e4, e16, e15, e15a, W1, B2]; rfl)) <;>
        (apply lend)
      | ((with_reducible refine gate_region (id := 16) ?_); apply plain_region) <;>
        (apply lpure rfl rfl; (go_simp; with_reducible rfl); (simp only [Act.put, List.setIfInBounds_toArray, List.set_cons_zero, List.set_cons_succ, i64_w, i32_w, u8_wr, tmod_nat, Int.reduceToNat, e4, e16, e15, e15a, W1, B2]; rfl)) <;>
        (apply lpure rfl rfl; (go_simp; with_reducible rfl); (simp only [Act.put, List.setIfInBounds_toArray, List.set_cons_zero, List.set_cons_succ, i64_w, i32_w, u8_wr, tmod_nat, Int.reduceToNat, e4, e16, e15, e15a, W1, B2]; rfl)) <;>
        (apply lpure rfl rfl; (exact run_str rfl rfl rfl hu9 (by omega) (Int.lt_of_lt_of_le (show _ < (16 : Int) by omega) (by decide))); (simp only [Act.put, List.setIfInBounds_toArray, List.set_cons_zero, List.set_cons_succ, i64_w, i32_w, u8_wr, tmod_nat, Int.reduceToNat, e4, e16, e15, e15a, W1, B2]; rfl)) <;>
        (apply lpure rfl rfl; (exact run_arr rfl rfl rfl hu98 z5_ (by omega) (by omega)); (simp only [Act.put, List.setIfInBounds_toArray, List.set_cons_zero, List.set_cons_succ, i64_w, i32_w, u8_wr, tmod_nat, Int.reduceToNat, e4, e16, e15, e15a, W1, B2]; rfl)) <;>
        ((with_reducible apply Fr.lstoreOne HF rfl rfl rfl); exact O5_; rfl; (go_simp; rfl); rfl; rfl; apply At.head; rfl; omega; clear HF; intro w_ HF) <;>
        (apply lend)
      | ((with_reducible refine gate_region (id := 25) ?_); apply plain_region) <;>
        (apply lpure rfl rfl; (go_simp; with_reducible rfl); (simp only [Act.put, List.setIfInBounds_toArray, List.set_cons_zero, List.set_cons_succ, i64_w, i32_w, u8_wr, tmod_nat, Int.reduceToNat, e4, e16, e15, e15a, W1, B2]; rfl)) <;>
        (apply lend)
      | ((with_reducible refine gate_region (id := 28) ?_); apply plain_region) <;>
        (apply lpure rfl rfl; (go_simp; with_reducible rfl); (simp only [Act.put, List.setIfInBounds_toArray, List.set_cons_zero, List.set_cons_succ, i64_w, i32_w, u8_wr, tmod_nat, Int.reduceToNat, e4, e16, e15, e15a, W1, B2]; rfl)) <;>
        (apply lend)
      | ((with_reducible refine gate_region (id := 30) ?_); apply plain_region) <;>
        (apply lpure rfl rfl; (go_simp; with_reducible rfl); (simp only [Act.put, List.setIfInBounds_toArray, List.set_cons_zero, List.set_cons_succ, i64_w, i32_w, u8_wr, tmod_nat, Int.reduceToNat, e4, e16, e15, e15a, W1, B2]; rfl)) <;>
        (apply lpure rfl rfl; (exact run_sla rfl rfl rfl hu98 z5_ (by omega) (by omega)); (simp only [Act.put, List.setIfInBounds_toArray, List.set_cons_zero, List.set_cons_succ, i64_w, i32_w, u8_wr, tmod_nat, Int.reduceToNat, e4, e16, e15, e15a, W1, B2]; rfl)) <;>
        (apply lpure rfl rfl; (exact run_conv rfl rfl hu39 hu5 hu9 (HF.get At.head) (HI.out.last c).1 (HI.out.last c).2); (simp only [Act.put, List.setIfInBounds_toArray, List.set_cons_zero, List.set_cons_succ, i64_w, i32_w, u8_wr, tmod_nat, Int.reduceToNat, e4, e16, e15, e15a, W1, B2]; rfl)) <;>
        (apply lpure rfl rfl; (go_simp; with_reducible rfl); (simp only [Act.put, List.setIfInBounds_toArray, List.set_cons_zero, List.set_cons_succ, i64_w, i32_w, u8_wr, tmod_nat, Int.reduceToNat, e4, e16, e15, e15a, W1, B2]; rfl)) <;>
        (apply lend)
      | go_step | fail)
      go_ret2
      exact ⟨rfl, HF.below⟩
set_option maxHeartbeats 4000000 in
set_option maxRecDepth 100000 in
theorem formatInt (n : Int) (h0 : 0 ≤ n) (h1 : n ≤ 65535) (w : World) (hT : TabAt 7 Lib.deBruijn64tab w) :
    Calls Tryz.prog 70 #[.int .i64 n, .int .i64 16] w fun e w' => e = .returned (.string (hexS n)) ∧ Below w.heap.size w w' := by
  have e1 : IntKind.u64.wrap n = n := by simp [IntKind.wrap, IntKind.bits, IntKind.signed]; omega
  have e2 : decide (n < 0) = false := decide_eq_false (by omega)
  have hcon := formatBits n h0 h1 w hT
  clear hT h0 h1
  have HF := Fr.start [] w
  go_enter Tryz.func70, Tryz.ntmps70
  repeat' (first
      | ((with_reducible refine gate_region (id := 0) ?_); apply plain_region) <;>
        (apply lpure rfl rfl; (go_simp; with_reducible rfl); (simp only [Act.put, List.setIfInBounds_toArray, List.set_cons_zero, List.set_cons_succ, i64_w, i32_w, u8_wr, tmod_nat, Int.reduceToNat, e4, e16, e15, e15a, e1, e2]; rfl)) <;>
        (apply lend)
      | ((with_reducible refine gate_region (id := 1) ?_); apply plain_region) <;>
        (apply lpure rfl rfl; (go_simp; with_reducible rfl); (simp only [Act.put, List.setIfInBounds_toArray, List.set_cons_zero, List.set_cons_succ, i64_w, i32_w, u8_wr, tmod_nat, Int.reduceToNat, e4, e16, e15, e15a, e1, e2]; rfl)) <;>
        (apply lpure rfl rfl; (go_simp; with_reducible rfl); (simp only [Act.put, List.setIfInBounds_toArray, List.set_cons_zero, List.set_cons_succ, i64_w, i32_w, u8_wr, tmod_nat, Int.reduceToNat, e4, e16, e15, e15a, e1, e2]; rfl)) <;>
        (apply lend)
      | ((with_reducible refine gate_region (id := 14) ?_); apply plain_region) <;>
        (apply lpure rfl rfl; (go_simp; with_reducible rfl); (simp only [Act.put, List.setIfInBounds_toArray, List.set_cons_zero, List.set_cons_succ, i64_w, i32_w, u8_wr, tmod_nat, Int.reduceToNat, e4, e16, e15, e15a, e1, e2]; rfl)) <;>
        (apply lpure rfl rfl; (go_simp; with_reducible rfl); (simp only [Act.put, List.setIfInBounds_toArray, List.set_cons_zero, List.set_cons_succ, i64_w, i32_w, u8_wr, tmod_nat, Int.reduceToNat, e4, e16, e15, e15a, e1, e2]; rfl)) <;>
        (apply lpure rfl rfl; (go_simp; with_reducible rfl); (simp only [Act.put, List.setIfInBounds_toArray, List.set_cons_zero, List.set_cons_succ, i64_w, i32_w, u8_wr, tmod_nat, Int.reduceToNat, e4, e16, e15, e15a, e1, e2]; rfl)) <;>
        (apply lpure rfl rfl; (go_simp; with_reducible rfl); (simp only [Act.put, List.setIfInBounds_toArray, List.set_cons_zero, List.set_cons_succ, i64_w, i32_w, u8_wr, tmod_nat, Int.reduceToNat, e4, e16, e15, e15a, e1, e2]; rfl)) <;>
        (apply lpure rfl rfl; (go_simp; with_reducible rfl); (simp only [Act.put, List.setIfInBounds_toArray, List.set_cons_zero, List.set_cons_succ, i64_w, i32_w, u8_wr, tmod_nat, Int.reduceToNat, e4, e16, e15, e15a, e1, e2]; rfl)) <;>
        (apply lcall rfl rfl rfl Tryz.func92 (by kernel_rfl) rfl; (with_reducible apply Calls.mono); exact hcon; rintro e w_ ⟨rfl, hb_⟩; refine ⟨_, rfl, ?_⟩; replace HF := HF.call hb_; clear hb_; rotate_left; (first | rfl | (simp only [List.map_toArray, List.map_cons, List.map_nil]; first | done | rfl)); (refine lnorm (a' := ?_) ?_ ?_; rotate_left; (simp only [Act.put, List.setIfInBounds_toArray, List.set_cons_zero, List.set_cons_succ, i64_w, i32_w, u8_wr, tmod_nat, Int.reduceToNat, e4, e16, e15, e15a, e1, e2]; rfl))) <;>
        (apply lpure rfl rfl; (go_simp; with_reducible rfl); (simp only [Act.put, List.setIfInBounds_toArray, List.set_cons_zero, List.set_cons_succ, i64_w, i32_w, u8_wr, tmod_nat, Int.reduceToNat, e4, e16, e15, e15a, e1, e2]; rfl)) <;>
        (apply lpure rfl rfl; (go_simp; with_reducible rfl); (simp only [Act.put, List.setIfInBounds_toArray, List.set_cons_zero, List.set_cons_succ, i64_w, i32_w, u8_wr, tmod_nat, Int.reduceToNat, e4, e16, e15, e15a, e1, e2]; rfl)) <;>
        (apply lpure rfl rfl; (go_simp; with_reducible rfl); (simp only [Act.put, List.setIfInBounds_toArray, List.set_cons_zero, List.set_cons_succ, i64_w, i32_w, u8_wr, tmod_nat, Int.reduceToNat, e4, e16, e15, e15a, e1, e2]; rfl)) <;>
        (apply lpure rfl rfl; (go_simp; with_reducible rfl); (simp only [Act.put, List.setIfInBounds_toArray, List.set_cons_zero, List.set_cons_succ, i64_w, i32_w, u8_wr, tmod_nat, Int.reduceToNat, e4, e16, e15, e15a, e1, e2]; rfl)) <;>
        (apply lpure rfl rfl; (go_simp; with_reducible rfl); (simp only [Act.put, List.setIfInBounds_toArray, List.set_cons_zero, List.set_cons_succ, i64_w, i32_w, u8_wr, tmod_nat, Int.reduceToNat, e4, e16, e15, e15a, e1, e2]; rfl)) <;>
        (apply lend)
      | ((with_reducible refine gate_region (id := 15) ?_); apply plain_region) <;>
        (apply lpure rfl rfl; (go_simp; with_reducible rfl); (simp only [Act.put, List.setIfInBounds_toArray, List.set_cons_zero, List.set_cons_succ, i64_w, i32_w, u8_wr, tmod_nat, Int.reduceToNat, e4, e16, e15, e15a, e1, e2]; rfl)) <;>
        (apply lpure rfl rfl; (go_simp; with_reducible rfl); (simp only [Act.put, List.setIfInBounds_toArray, List.set_cons_zero, List.set_cons_succ, i64_w, i32_w, u8_wr, tmod_nat, Int.reduceToNat, e4, e16, e15, e15a, e1, e2]; rfl)) <;>
        (apply lend)
      | go_step | fail)
  all_goals (go_ret; exact ⟨rfl, HF.below⟩)
set_option maxRecDepth 100000 in
theorem FormatInt (n : Int) (h0 : 0 ≤ n) (h1 : n ≤ 65535) (w : World) (hT : TabAt 7 Lib.deBruijn64tab w) :
    Calls Tryz.prog 49 #[.int .i64 n, .int .i64 16] w fun e w' => e = .returned (.string (hexS n)) ∧ Below w.heap.size w w' := by
  have hcon := formatInt n h0 h1 w hT
  clear hT h0 h1
  have HF := Fr.start [] w
  go_enter Tryz.func49, Tryz.ntmps49
  repeat' (first
      | ((with_reducible refine gate_region (id := 0) ?_); apply plain_region) <;>
        (apply lpure rfl rfl; (go_simp; with_reducible rfl); (simp only [Act.put, List.setIfInBounds_toArray, List.set_cons_zero, List.set_cons_succ, i64_w, i32_w, u8_wr, tmod_nat, Int.reduceToNat, e4, e16, e15, e15a]; rfl)) <;>
        (apply lend)
      | ((with_reducible refine gate_region (id := 1) ?_); apply plain_region) <;>
        (apply lpure rfl rfl; (go_simp; with_reducible rfl); (simp only [Act.put, List.setIfInBounds_toArray, List.set_cons_zero, List.set_cons_succ, i64_w, i32_w, u8_wr, tmod_nat, Int.reduceToNat, e4, e16, e15, e15a]; rfl)) <;>
        (apply lpure rfl rfl; (go_simp; with_reducible rfl); (simp only [Act.put, List.setIfInBounds_toArray, List.set_cons_zero, List.set_cons_succ, i64_w, i32_w, u8_wr, tmod_nat, Int.reduceToNat, e4, e16, e15, e15a]; rfl)) <;>
        (apply lcall rfl rfl rfl Tryz.func70 (by kernel_rfl) rfl; (with_reducible apply Calls.mono); exact hcon; rintro e w_ ⟨rfl, hb_⟩; refine ⟨_, rfl, ?_⟩; replace HF := HF.call hb_; clear hb_; rotate_left; (first | rfl | (simp only [List.map_toArray, List.map_cons, List.map_nil]; first | done | rfl)); (refine lnorm (a' := ?_) ?_ ?_; rotate_left; (simp only [Act.put, List.setIfInBounds_toArray, List.set_cons_zero, List.set_cons_succ, i64_w, i32_w, u8_wr, tmod_nat, Int.reduceToNat, e4, e16, e15, e15a]; rfl))) <;>
        (apply lpure rfl rfl; (go_simp; with_reducible rfl); (simp only [Act.put, List.setIfInBounds_toArray, List.set_cons_zero, List.set_cons_succ, i64_w, i32_w, u8_wr, tmod_nat, Int.reduceToNat, e4, e16, e15, e15a]; rfl)) <;>
        (apply lend)
      | go_step | fail)
  all_goals (go_ret; exact ⟨rfl, HF.below⟩)
end Go.Proofs.YtljeajecajlaiaaGreatDoor.Hex
