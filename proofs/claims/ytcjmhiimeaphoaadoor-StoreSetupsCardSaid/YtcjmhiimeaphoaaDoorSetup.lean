/-
  DERIVED. StoreSetups: the plain law: SetupCheck's and Check's answers are one.
-/
import Derived.Test.YtcjmhiimeaphoaaDoorPStoreSetupsx
import Derived.Test.YtcjmhiimeaphoaaDoorBase
namespace Go.Proofs.YtcjmhiimeaphoaaDoor
open Go.RowKit PStoreSetups Go.Proofs.YtcjmhiimeaphoaaDoorW.PrintWords

/-- The fault of a setup: 0, if there is none. -/
def sc (n c a t : Int) : Int := if 1 ≤ n ∧ n ≤ 7 ∧ 1 ≤ c ∧ c ≤ 8 then (if 1 ≤ a ∧ a ≤ n ∧ 1 ≤ t ∧ t ≤ n then 0 else 2) else 4

theorem setup_f (n c a t : Int) (b : Bool) : testimonyref_SetupCheck.f 4 n c a t b = some (sc n c a t) := by
  unfold testimonyref_SetupCheck.f sc
  simp only [testimonyref_SetupCheck.j0]
  repeat' split
  all_goals first | rfl | omega | (simp at *; done) | (simp at *; omega)
theorem scheck_f (n c a t : Int) (b : Bool) : store_Check.f 4 n c a t b = some (if sc n c a t = 0 then none else some (sc n c a t)) := by
  unfold store_Check.f sc
  simp only [store_Check.j0]
  repeat' split
  all_goals first | rfl | omega | (simp at *; done) | (simp at *; omega)

theorem setup_calls (n c a t : Int) (b : Bool) (w : World) : Calls Tryd.prog 16 #[.agg #[.int .i64 n, .int .i64 c, .int .i64 a, .int .i64 t, .bool b]] w fun e w' => e = .returned (.int .i64 (sc n c a t)) ∧ Below w.heap.size w w' :=
  testimonyref_SetupCheck.calls 4 n c a t b _ w (setup_f n c a t b)
theorem scheck_ok (n c a t : Int) (b : Bool) (w : World) (h : sc n c a t = 0) : Calls Tryd.prog 18 #[.agg #[.int .i64 n, .int .i64 c, .int .i64 a, .int .i64 t, .bool b]] w fun e w' => e = .returned .nilIface ∧ Below w.heap.size w w' :=
  store_Check.calls 4 n c a t b none w (by rw [scheck_f, if_pos h])
theorem scheck_bad (n c a t : Int) (b : Bool) (w : World) (h : ¬ sc n c a t = 0) : Calls Tryd.prog 18 #[.agg #[.int .i64 n, .int .i64 c, .int .i64 a, .int .i64 t, .bool b]] w fun e w' => e = .returned (.iface 32 (.int .i64 (sc n c a t))) ∧ Below w.heap.size w w' :=
  store_Check.calls 4 n c a t b (some (sc n c a t)) w (by rw [scheck_f, if_neg h])
theorem less_calls (x y u v : Int) (w : World) : Calls Tryd.prog 19 #[.agg #[.int .i64 x, .int .i64 y], .agg #[.int .i64 u, .int .i64 v]] w fun e w' => e = .returned (.bool (decide (x < u ∨ x = u ∧ y < v))) ∧ Below w.heap.size w w' :=
  store_Stamp_Less.calls x y u v _ w (by
    unfold store_Stamp_Less.f
    by_cases h1 : x < u
    · rw [if_pos h1]; congr 1; symm; rw [decide_eq_true_eq]; exact .inl h1
    · rw [if_neg h1]
      by_cases h2 : x = u
      · rw [if_pos h2]; congr 1; rw [decide_eq_decide]; omega
      · rw [if_neg h2]; congr 1; symm; rw [decide_eq_false_iff_not]; omega)

theorem new_bad (n c a t : Int) (b : Bool) (w : World) (h : ¬ sc n c a t = 0) : Calls Tryd.prog 17 #[.agg #[.int .i64 n, .int .i64 c, .int .i64 a, .int .i64 t, .bool b]] w fun e w' => e = .returned (.tuple #[.pointer none, .iface 32 (.int .i64 (sc n c a t))]) ∧ Below w.heap.size w w' := by
  have H := hid h
  clear h
  go_enter Tryd.func17, Tryd.ntmps17
  go_wp2_with (go_at_call 18; refine (scheck_bad n c a t b _ H.out).mono ?_; rintro e w1 ⟨rfl, hb⟩)
  go_ret2
  exact ⟨rfl, below_next (below_alloc (Below.refl _ _) _) hb⟩
end Go.Proofs.YtcjmhiimeaphoaaDoor
