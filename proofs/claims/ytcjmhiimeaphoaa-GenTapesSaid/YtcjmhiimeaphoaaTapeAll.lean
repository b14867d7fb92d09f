/-
  DERIVED. GenTapes: the law at every two slices that came in.
-/
import Derived.Test.YtcjmhiimeaphoaaTapeLaw
import Derived.Test.YtcjmhiimeaphoaaNums
namespace Go.Proofs.Ytcjmhiimeaphoaa
open Go.RowKit

theorem gen_all (A0 : Option Addr) (len0 cap0 : Nat) (zs : Nat → Int) (A1 : Option Addr) (len1 cap1 : Nat) (bs : Nat → Int) (w : World)
    (hN : Nums w.heap.size A0 len0 zs w) (hB : Nums w.heap.size A1 len1 bs w) (hbs : ∀ i, bs i ≤ 9223372036854775807) :
    Calls Try.prog 5 #[.slice A0 len0 cap0, .slice A1 len1 cap1] w fun e w' => e = .returned (.bool true) ∧ Below w.heap.size w w' := by
  by_cases h0 : len0 ≤ 60
  · by_cases h1 : len1 ≤ 80
    · exact gen_law A0 len0 cap0 zs A1 len1 cap1 bs w hN hB hbs h0 h1
    · clear hN hB hbs
      go_enter Try.func5, Try.ntmps5
      go_wp2
      go_ret
      exact ⟨rfl, Below.refl _ _⟩
  · clear hN hB hbs
    go_enter Try.func5, Try.ntmps5
    go_wp2
    go_ret
    exact ⟨rfl, Below.refl _ _⟩

theorem nums_prefix {w : World} {A : Option Addr} {len cap : Nat} {zs : List Int} (hl : len ≤ cap) (h : ∀ i, i < cap → ∃ b off, A = some ⟨b, off, none⟩ ∧ b < w.heap.size ∧ w.cell? ⟨b, off + i, none⟩ = some (.int .i64 (zs.getD i 0))) :
    Nums w.heap.size A len (fun i => zs.getD i 0) w := fun i hi => h i (by omega)

theorem wf_top {zs : List Int} (h : ∀ n ∈ zs, (Lit.int .i64 n).wf = true) (i : Nat) : zs.getD i 0 ≤ 9223372036854775807 := by
  by_cases hi : i < zs.length
  · have e : zs.getD i 0 = zs[i] := by simp [List.getD, List.getElem?_eq_getElem hi]
    rw [e]
    have := h _ (List.getElem_mem hi)
    simp [Lit.wf, IntKind.min, IntKind.max, IntKind.signed, IntKind.bits] at this
    omega
  · have e : zs.getD i 0 = 0 := by
      have e1 : zs[i]? = none := List.getElem?_eq_none (by omega)
      simp [List.getD, e1]
    rw [e]; decide
end Go.Proofs.Ytcjmhiimeaphoaa
