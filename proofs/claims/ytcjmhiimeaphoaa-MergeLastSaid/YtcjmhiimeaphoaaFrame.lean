/-
  DERIVED. Lemmas of my own over any program: what a value parameter that is an array or a struct of integers is.
-/
import Derived.Test.YtcjmhiimeaphoaaBase
namespace Go.Proofs.Ytcjmhiimeaphoaa
open Go.RowKit
section
variable {P : Program}

/-- A value parameter of an array type whose elements are integers: all of its numbers. -/
theorem agg_ints {w : World} {r : Reach} {b0 : Nat} {t e : TypeId} {n : Nat} {k : IntKind} {v : Value} (hv : Value.okWide P w r b0 t v) (hu : P.underlying t = some (.array n e)) (hC : P.cellsOf t = n)
    (hct : P.cellTypes P.depth t = some (List.replicate n e)) (he : P.underlying e = some (.int k)) : ∃ xs : List Int, xs.length = n ∧ v = .agg (ints k xs) ∧ ∀ x ∈ xs, k.has x := by
  unfold Value.okWide at hv
  rw [hu] at hv
  obtain ⟨cs, rfl, hsz, ts, hts, _, hall⟩ := hv
  rw [hct] at hts
  obtain rfl := Option.some.inj hts
  have hcell : ∀ (i : Nat) (v : Value), cs[i]? = some v → ∃ x, v = Value.int k x ∧ k.has x := by
    intro i v hi
    obtain ⟨u, hu', hok⟩ := hall i v hi
    have hue : u = e := by
      have := List.mem_of_getElem? hu'
      exact (List.mem_replicate.1 this).2
    subst hue
    unfold Cell.okWide at hok
    rw [he] at hok
    cases v <;> simp only [Cell.ok, he] at hok
    all_goals first | exact absurd hok id | (obtain ⟨rfl, hh⟩ := hok; exact ⟨_, rfl, hh⟩)
  have key : ∀ l : List Value, (∀ v ∈ l, ∃ x, v = Value.int k x ∧ k.has x) → ∃ xs : List Int, l = xs.map (Value.int k) ∧ ∀ x ∈ xs, k.has x := by
    intro l
    induction l with
    | nil => intro _; exact ⟨[], rfl, by simp⟩
    | cons a l ih =>
      intro h
      obtain ⟨x, rfl, hx⟩ := h a (by simp)
      obtain ⟨xs, rfl, hxs⟩ := ih fun v hv => h v (by simp [hv])
      exact ⟨x :: xs, rfl, by
        intro y hy
        rcases List.mem_cons.1 hy with rfl | hy
        · exact hx
        · exact hxs y hy⟩
  obtain ⟨xs, hxs, hh⟩ := key cs.toList fun v hv => by
    obtain ⟨i, hi, e⟩ := List.getElem_of_mem hv
    exact hcell i v (by rw [← Array.getElem?_toList, List.getElem?_eq_getElem hi, e])
  have hcs : cs = ints k xs := by
    unfold ints
    rw [← hxs, Array.toArray_toList]
  refine ⟨xs, ?_, by rw [hcs], hh⟩
  have := congrArg List.length hxs
  simp only [Array.length_toList, List.length_map] at this
  omega
end

theorem list8 {xs : List Int} (h : xs.length = 8) : ∃ a b c d e f g i, xs = [a, b, c, d, e, f, g, i] := by
  match xs, h with
  | [a, b, c, d, e, f, g, i], _ => exact ⟨a, b, c, d, e, f, g, i, rfl⟩
end Go.Proofs.Ytcjmhiimeaphoaa
