/-
  DERIVED. A value parameter that is a struct of integers.
-/
import Derived.Test.YtcjmhiimeaphoaaDoorBase
namespace Go.Proofs.YtcjmhiimeaphoaaDoor
open Go.RowKit
section
variable {P : Program}

theorem struct_ints {w : World} {r : Reach} {b0 : Nat} {t e : TypeId} {n : Nat} {k : IntKind} {v : Value} {fs : Array Field} (hv : Value.okWide P w r b0 t v) (hu : P.underlying t = some (.struct fs)) (hC : P.cellsOf t = n)
    (hct : P.cellTypes P.depth t = some (List.replicate n e)) (he : P.underlying e = some (.int k)) : ∃ xs : List Int, xs.length = n ∧ v = .agg (ints k xs) ∧ ∀ x ∈ xs, k.has x := by
  unfold Value.okWide at hv
  rw [hu] at hv
  obtain ⟨cs, rfl, hsz, ts, hts, _, hall⟩ := hv
  rw [hct] at hts
  obtain rfl := Option.some.inj hts
  have hcell : ∀ (i : Nat) (v : Value), cs[i]? = some v → ∃ x, v = Value.int k x ∧ k.has x := by
    intro i v hi
    obtain ⟨u, hu', hok⟩ := hall i v hi
    have hue : u = e := (List.mem_replicate.1 (List.mem_of_getElem? hu')).2
    subst hue
    unfold Cell.okWide at hok
    rw [he] at hok
    cases v <;> simp only [Cell.ok, he] at hok
    all_goals first | exact absurd hok id | (obtain ⟨rfl, hh⟩ := hok; exact ⟨_, rfl, hh⟩)
  have key : ∀ l : List Value, (∀ v ∈ l, ∃ x, v = Value.int k x ∧ k.has x) → ∃ xs : List Int, l = xs.map (Value.int k) ∧ ∀ x ∈ xs, k.has x := by
    intro l
    induction l with
    | nil => intro _; exact ⟨[], rfl, by simp⟩
    | cons a l ih =>
      intro h
      obtain ⟨x, rfl, hx⟩ := h a (by simp)
      obtain ⟨xs, rfl, hxs⟩ := ih fun v hv => h v (by simp [hv])
      exact ⟨x :: xs, rfl, by
        intro y hy
        rcases List.mem_cons.1 hy with rfl | hy
        · exact hx
        · exact hxs y hy⟩
  obtain ⟨xs, hxs, hh⟩ := key cs.toList fun v hv => by
    obtain ⟨i, hi, e⟩ := List.getElem_of_mem hv
    exact hcell i v (by rw [← Array.getElem?_toList, List.getElem?_eq_getElem hi, e])
  have hcs : cs = ints k xs := by
    unfold ints
    rw [← hxs, Array.toArray_toList]
  refine ⟨xs, ?_, by rw [hcs], hh⟩
  have := congrArg List.length hxs
  simp only [Array.length_toList, List.length_map] at this
  omega
end

theorem list3 {xs : List Int} (h : xs.length = 3) : ∃ a b c, xs = [a, b, c] := by
  match xs, h with
  | [a, b, c], _ => exact ⟨a, b, c, rfl⟩
end Go.Proofs.YtcjmhiimeaphoaaDoor
