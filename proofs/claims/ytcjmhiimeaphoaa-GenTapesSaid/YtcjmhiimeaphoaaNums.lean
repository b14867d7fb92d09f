/-
  DERIVED. A slice of integers that came in: its cells.
-/
import Derived.Test.YtcjmhiimeaphoaaFrame
namespace Go.Proofs.Ytcjmhiimeaphoaa
open Go.ChangeShapes Go.WideShapes Go.ChangeAt Go.RowKit

theorem nums_of {H : Type} {enc : TypeId × Value → H} {P : Program} {W : World} {t e : TypeId} {k : IntKind} {a : Option Addr} {len cap : Nat} {d : DataW H} {ps : List MemPlace}
    (ht : P.underlying t = some (.slice e)) (he : P.underlying e = some (.int k)) (hce : P.cellsOf e = 1)
    (h : DataW.Trod enc P W 0 (fun _ => true) true t (.slice a len cap) d ps) :
    ∃ zs : List Int, len ≤ zs.length ∧ len ≤ cap ∧ zs.length = cap ∧ cap ≤ maxLen ∧ (a = none → len = 0 ∧ cap = 0) ∧
      (∀ i, i < cap → ∃ b off, a = some ⟨b, off, none⟩ ∧ b < W.heap.size ∧ W.cell? ⟨b, off + i, none⟩ = some (.int k (zs.getD i 0))) ∧ ∀ n ∈ zs, (Lit.int k n).wf = true := by
  obtain ⟨fuel, hf⟩ := h
  rcases open_ints ht he hce hf with ⟨hcs, _⟩ | ⟨x, l, c, zs, hcs, _, hl, hm, hz, _, hcell, hwz⟩
  · simp [Value.cells] at hcs
    obtain ⟨rfl, rfl, rfl⟩ := hcs
    exact ⟨[], by simp, by simp, by simp, by simp, fun _ => ⟨rfl, rfl⟩, fun i hi => by omega, by simp⟩
  · simp [Value.cells] at hcs
    obtain ⟨rfl, rfl, rfl⟩ := hcs
    have hz' : zs.length = cap := by simpa using hz
    refine ⟨zs, by omega, hl, hz', hm, fun h => by simp at h, fun i hi => ?_, hwz⟩
    obtain ⟨b, off, spot⟩ := x
    have hspot : spot = none := by simpa [Addr.add] using World.cell?_spot (hcell 0 (by omega))
    subst hspot
    have hc := hcell i (by omega)
    have hc' : W.cell? ⟨b, off + i, none⟩ = some (.int k (zs.getD i 0)) := by
      by_cases h0 : i = 0
      · subst h0; simpa [Addr.add] using hc
      · simpa [Addr.add, h0] using hc
    exact ⟨b, off, rfl, World.block_lt_of_cell? _ _ hc', hc'⟩
end Go.Proofs.Ytcjmhiimeaphoaa
