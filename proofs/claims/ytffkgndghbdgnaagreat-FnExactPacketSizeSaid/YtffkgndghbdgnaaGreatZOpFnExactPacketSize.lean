/- Arguments opened: slices of whole numbers, and slices of structs, read as lists. For this seat's rows. -/
import Derived.ChangeArms
import Derived.WideShapes
import Derived.ChangeSlices
import Derived.Deep.Slices
import Derived.Deep.Fields
import Derived.Test.YtffkgndghbdgnaaGreatVFnExactPacketSize
namespace Go.Proofs.YtffkgndghbdgnaaGreat.Op
open Go.ChangeShapes Go.WideShapes Go.RowKit Go.Proofs.YtffkgndghbdgnaaGreatW.PrintWords
variable {H : Type} {enc : TypeId × Value → H} {P : Program} {W : World} {fuel : Nat} {cs : List Value} {x : DataW H × List MemPlace}

theorem op_ints {t e : TypeId} {k : IntKind} (ht : P.underlying t = some (.slice e)) (he : P.underlying e = some (.int k)) (hc : P.cellsOf e = 1)
    (h : DataW.trod enc P W 0 (fun _ => true) true fuel t cs = some x) :
    ∃ (A : Option Addr) (c : Nat) (l : List Int), cs = [.slice A l.length c] ∧ Kd.C (Kd.int k) W A l.length l ∧ l.length ≤ c ∧ l.length ≤ maxLen ∧ ∀ n ∈ l, (Lit.int k n).wf = true := by
  rcases open_ints ht he hc h with ⟨rfl, _⟩ | ⟨a, len, cap, zs, rfl, _, hl, hm, hz, _, hcell, hwz⟩
  · exact ⟨none, 0, [], rfl, Kd.C_nil _ _, Nat.le_refl _, by simp, by simp⟩
  · obtain ⟨l, rfl, hr, h1, h2, h3⟩ := ReadsInt.ofRowC (.inr ⟨a, rfl, hl, hm, by simpa using hz, hcell, hwz⟩)
    exact ⟨some a, cap, l, rfl, Kd.C_of_reads (d := (0 : Int)) (h1 := fun _ => rfl) hr, h3, h1, h2⟩

theorem op_field {xs : List (DataW H × List MemPlace)} {n j : Nat} (hn : xs.length = n) (hj : j < n) : ∃ y, xs[j]? = some y :=
  ⟨_, List.getElem?_eq_getElem (by omega)⟩

theorem op_one {v v' : Value} (h : [v] = [v']) : v = v' := (List.cons.inj h).1

/-- A slice whose elements have cells told by a kind. -/
theorem op_slice {α : Type} {t e : TypeId} {d : Kd α} {Q : α → Prop} (z : α) (ht : P.underlying t = some (.slice e)) (hc : P.cellsOf e = d.sz)
    (hel : ∀ (m : Nat) (cs : List Value) (y : DataW H × List MemPlace), DataW.trod enc P W 0 (fun _ => true) true m e cs = some y → ∃ a, d.K W a cs ∧ Q a)
    (h : DataW.trod enc P W 0 (fun _ => true) true fuel t cs = some x) :
    ∃ (A : Option Addr) (c : Nat) (l : List α), cs = [.slice A l.length c] ∧ Kd.C d W A l.length l ∧ l.length ≤ c ∧ l.length ≤ maxLen ∧ ∀ a ∈ l, Q a := by
  rcases Go.Deep.open_slice ht h with ⟨rfl, _⟩ | ⟨a, len, cap, m, n, D, Pl, rfl, _, hl, hm, hmm, _, hi⟩
  · exact ⟨none, 0, [], rfl, Kd.C_nil _ _, Nat.le_refl _, by simp, by simp⟩
  · have hmc : m = cap := by simpa using hmm
    have : Inhabited α := ⟨z⟩
    have hx : ∀ i, i < len → ∃ y : α, (∃ cs', W.cells? 0 (a.add (i * P.cellsOf e)) (P.cellsOf e) = some cs' ∧ d.K W y cs') ∧ Q y := by
      intro i hlt
      obtain ⟨cs', h1, h2⟩ := hi i (by omega)
      obtain ⟨y, hy, hq⟩ := hel n cs' _ h2
      exact ⟨y, ⟨cs', h1, hy⟩, hq⟩
    obtain ⟨f, hf⟩ := Go.Deep.choose_lt hx
    refine ⟨some a, cap, (List.range len).map f, by simp, ?_, by simpa using hl, by simp; omega, ?_⟩
    · refine ⟨rfl, by unfold maxLen at hm; simp; omega, fun _ => ⟨a, rfl, fun j p hj => ?_⟩⟩
      have hjl : j < len := by
        have := (List.getElem?_eq_some_iff.1 hj).1
        simpa using this
      obtain ⟨cs', hcs, hk⟩ := (hf j hjl).1
      obtain ⟨_, hcl, hat⟩ := World.cells?_some hcs
      have hp : p = f j := by
        rw [List.getElem?_map, List.getElem?_range hjl] at hj
        exact (Option.some.inj hj).symm
      subst hp
      refine ⟨cs', hcl.trans hc, hk, fun i u hu => ?_⟩
      have hil : i < cs'.length := (List.getElem?_eq_some_iff.1 hu).1
      have h3 := hat (i := i) (by omega)
      rw [Go.Deep.add_add, hc] at h3
      rw [h3]
      exact hu
    · intro b hb
      obtain ⟨i, hi', rfl⟩ := List.mem_map.1 hb
      exact (hf i (List.mem_range.1 hi')).2
end Go.Proofs.YtffkgndghbdgnaaGreat.Op
