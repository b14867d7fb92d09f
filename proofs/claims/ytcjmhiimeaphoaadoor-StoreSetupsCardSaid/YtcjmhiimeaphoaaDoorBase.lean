/-
  DERIVED. Lemmas of my own over any program: '==' on an array of integers; what a value parameter that is an array or struct of integers is; the frame of a law.
-/
import Derived.WalkKit
import Derived.WalkSpells
import Derived.WalkLawsBesides
import Derived.Handy
import Derived.Lib.MinMax
import Derived.RowKit3
import Derived.ChangeKeysEq
import Derived.ProofKit
import Derived.OpenShut
import Derived.ShutString
import Derived.ChangeOld
import Derived.Below
import Derived.Lib.QuietBelow
import Derived.BigQuiet
namespace Go.Proofs.YtcjmhiimeaphoaaDoor
open Go.RowKit

/-- A fact kept from the walk. -/
theorem hid {p : Prop} (h : p) : Hid p := h

/-- The world at hand under a name. -/
theorem name_world {P : Program} {c : Code} {Q : Exit → Act → World → Prop} {a : Act} {w : World} (h : ∀ W, W = w → Code.wp P c Q a W) : Code.wp P c Q a w := h w rfl

/-- A new block behind what is 'Below'. -/
theorem below_alloc {w W : World} (h : Below w.heap.size w W) (o : Obj) : Below w.heap.size w (W.alloc o) := h.alloc h.size o

/-- What is 'Below' a younger world is 'Below' the elder one. -/
theorem below_next {w W W' : World} (h : Below w.heap.size w W) (k : Below W.heap.size W W') : Below w.heap.size w W' := h.trans (k.mono h.size)

/-- Old cells and old marks behind a call that makes blocks alone. -/
theorem bcell {W w1 : World} (hb : Below W.heap.size W w1) : (∀ b o, b < W.heap.size → w1.cell? ⟨b, o, none⟩ = W.cell? ⟨b, o, none⟩) ∧ (∀ b o, b < W.heap.size → w1.frozen? ⟨b, o, none⟩ = W.frozen? ⟨b, o, none⟩) :=
  ⟨fun b o h => hb.cell (p := ⟨b, o, none⟩) h, fun b o h => hb.frozen (p := ⟨b, o, none⟩) h⟩

/-- 'Below' over draws. -/
theorem below_draws {B : Nat} {a w : World} (h : Below B a w) (n : Nat) : Below B a (w.drewN n) := ⟨h.os, h.tape, h.output, h.size, h.block⟩

/-- 'Below' from an elder world on, behind a region walked 'below' a younger one. -/
theorem below_grow {w W : World} (h : Below w.heap.size w W) (d : Nat) (os : Array Obj) : Below w.heap.size w (Sort.grow (redrawn W d) os) :=
  h.trans ((below_regrown W d os).mono h.size)

/-- A list of integers as an array's cells. -/
def ints (k : IntKind) (xs : List Int) : Array Value := (xs.map (Value.int k)).toArray

section
variable {P : Program}

theorem part_ints (w : World) {e : TypeId} {k : IntKind} (he : P.underlying e = some (.int k)) (xs : List Int) (j : Nat) (hj : j < xs.length) :
    (part e (ints k xs) j).run P w = .ok (.int k xs[j]) w := by
  have hagg : (isAgg e).run P w = .ok false w := by
    unfold isAgg
    rw [Sem.run_bind, run_underlying he w]
    rfl
  have hc : (ints k xs)[j]? = some (.int k xs[j]) := by simp [ints, List.getElem?_eq_getElem hj]
  simp [part, Sem.run_bind, hagg, hc]

theorem run_eqItems_ints (w : World) (d : Nat) {e : TypeId} {k : IntKind} (he : P.underlying e = some (.int k)) (xs ys : List Int) (n : Nat) (hx : xs.length = n) (hy : ys.length = n) :
    ∀ m j, j + m = n → (Op.eqItems (d + 1) e 1 (ints k xs) (ints k ys) (List.range' j m)).run P w = .ok (decide (xs.drop j = ys.drop j)) w := by
  intro m
  induction m with
  | zero =>
    intro j hj
    have e1 : xs.drop j = [] := List.drop_eq_nil_of_le (by omega)
    have e2 : ys.drop j = [] := List.drop_eq_nil_of_le (by omega)
    simp [Op.eqItems, e1, e2]
  | succ m ih =>
    intro j hj
    have h1 : j < xs.length := by omega
    have h2 : j < ys.length := by omega
    rw [List.range'_succ]
    simp only [Op.eqItems, Sem.run_bind, Nat.mul_one, part_ints w he xs j h1, part_ints w he ys j h2, Result.andThen_ok, run_equalIn_int w d e k k xs[j] ys[j] he]
    have e : decide (xs.drop j = ys.drop j) = (decide (xs[j] = ys[j]) && decide (xs.drop (j + 1) = ys.drop (j + 1))) := by
      rw [List.drop_eq_getElem_cons h1, List.drop_eq_getElem_cons h2, Bool.eq_iff_iff]
      simp only [Bool.and_eq_true, decide_eq_true_eq, List.cons.injEq]
    rw [e]
    by_cases h : xs[j] = ys[j]
    · simp [h, ih (j + 1) (by omega)]
    · simp [h]

/-- '==' on two arrays of integers. -/
theorem run_equal_ints (w : World) (d : Nat) {t e : TypeId} {n : Nat} {k : IntKind} {i : TypeInfo} (hu : P.underlying t = some (.array n e)) (hi : P.info? e = some i) (hc : P.cellsOf e = 1)
    (he : P.underlying e = some (.int k)) (xs ys : List Int) (hx : xs.length = n) (hy : ys.length = n) :
    (Op.equalIn (d + 2) t (.agg (ints k xs)) (.agg (ints k ys))).run P w = .ok (decide (xs = ys)) w := by
  rw [run_equalIn_array w (d + 1) (ints k xs) (ints k ys) hu hi, hc, List.range_eq_range']
  simpa using run_eqItems_ints w d he xs ys n hx hy n 0 (by omega)
end
end Go.Proofs.YtcjmhiimeaphoaaDoor
