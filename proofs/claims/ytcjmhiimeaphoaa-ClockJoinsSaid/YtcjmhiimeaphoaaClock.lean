/-
  DERIVED. ClockJoins: the walks of clock.Vector's Join, Within and Less.
-/
import Derived.Test.YtcjmhiimeaphoaaRows
import Derived.Test.YtcjmhiimeaphoaaBase
import Derived.Deep.RegionHeld3
import Derived.Deep.QuietTactic
import Derived.BigQuiet
namespace Go.Proofs.Ytcjmhiimeaphoaa
open Go.RowKit

/-- Whether two lists of integers are the same (no reducible word: the walk must not open it). -/
def eqL (xs ys : List Int) : Bool := decide (xs = ys)

/-- '==' on two vectors. -/
theorem eq_vec (a0 a1 a2 a3 a4 a5 a6 a7 b0 b1 b2 b3 b4 b5 b6 b7 : Int) (t : TypeId) (ht : t = 22 ∨ t = 23) (w : World) :
    (Op.equalIn 10000 t (.agg #[.int .i64 a0, .int .i64 a1, .int .i64 a2, .int .i64 a3, .int .i64 a4, .int .i64 a5, .int .i64 a6, .int .i64 a7]) (.agg #[.int .i64 b0, .int .i64 b1, .int .i64 b2, .int .i64 b3, .int .i64 b4, .int .i64 b5, .int .i64 b6, .int .i64 b7])).run Try.prog w = .ok (eqL [a0, a1, a2, a3, a4, a5, a6, a7] [b0, b1, b2, b3, b4, b5, b6, b7]) w := by
  rcases ht with rfl | rfl
  · exact run_equal_ints w 9998 Try.underlying22 (i := (Try.prog.info? 3).getD default) (by kernel_rfl) (by kernel_rfl) Try.underlying3 [a0, a1, a2, a3, a4, a5, a6, a7] [b0, b1, b2, b3, b4, b5, b6, b7] rfl rfl
  · exact run_equal_ints w 9998 Try.underlying23 (i := (Try.prog.info? 3).getD default) (by kernel_rfl) (by kernel_rfl) Try.underlying3 [a0, a1, a2, a3, a4, a5, a6, a7] [b0, b1, b2, b3, b4, b5, b6, b7] rfl rfl

set_option maxRecDepth 100000 in
set_option maxHeartbeats 1000000 in
theorem join_any (x0 x1 x2 x3 x4 x5 x6 x7 y0 y1 y2 y3 y4 y5 y6 y7 : Int) (w : World) :
    Calls Try.prog 8 #[.agg #[.int .i64 x0, .int .i64 x1, .int .i64 x2, .int .i64 x3, .int .i64 x4, .int .i64 x5, .int .i64 x6, .int .i64 x7], .agg #[.int .i64 y0, .int .i64 y1, .int .i64 y2, .int .i64 y3, .int .i64 y4, .int .i64 y5, .int .i64 y6, .int .i64 y7]] w fun e w' => e = .returned (.agg #[.int .i64 (max x0 y0), .int .i64 (max x1 y1), .int .i64 (max x2 y2), .int .i64 (max x3 y3), .int .i64 (max x4 y4), .int .i64 (max x5 y5), .int .i64 (max x6 y6), .int .i64 (max x7 y7)]) ∧ ∃ c1 c2 c3 : Array Value, w' = ((w.alloc (.cells c1 23)).alloc (.cells c2 23)).alloc (.cells c3 23) := by
  have i0 : ∀ w : World, (Instr.index 23 (.agg #[.int .i64 y0, .int .i64 y1, .int .i64 y2, .int .i64 y3, .int .i64 y4, .int .i64 y5, .int .i64 y6, .int .i64 y7]) (.int .i64 0)).run Try.prog w = .ok (.int .i64 y0) w := fun _ => by kernel_rfl
  have i1 : ∀ w : World, (Instr.index 23 (.agg #[.int .i64 y0, .int .i64 y1, .int .i64 y2, .int .i64 y3, .int .i64 y4, .int .i64 y5, .int .i64 y6, .int .i64 y7]) (.int .i64 1)).run Try.prog w = .ok (.int .i64 y1) w := fun _ => by kernel_rfl
  have i2 : ∀ w : World, (Instr.index 23 (.agg #[.int .i64 y0, .int .i64 y1, .int .i64 y2, .int .i64 y3, .int .i64 y4, .int .i64 y5, .int .i64 y6, .int .i64 y7]) (.int .i64 2)).run Try.prog w = .ok (.int .i64 y2) w := fun _ => by kernel_rfl
  have i3 : ∀ w : World, (Instr.index 23 (.agg #[.int .i64 y0, .int .i64 y1, .int .i64 y2, .int .i64 y3, .int .i64 y4, .int .i64 y5, .int .i64 y6, .int .i64 y7]) (.int .i64 3)).run Try.prog w = .ok (.int .i64 y3) w := fun _ => by kernel_rfl
  have i4 : ∀ w : World, (Instr.index 23 (.agg #[.int .i64 y0, .int .i64 y1, .int .i64 y2, .int .i64 y3, .int .i64 y4, .int .i64 y5, .int .i64 y6, .int .i64 y7]) (.int .i64 4)).run Try.prog w = .ok (.int .i64 y4) w := fun _ => by kernel_rfl
  have i5 : ∀ w : World, (Instr.index 23 (.agg #[.int .i64 y0, .int .i64 y1, .int .i64 y2, .int .i64 y3, .int .i64 y4, .int .i64 y5, .int .i64 y6, .int .i64 y7]) (.int .i64 5)).run Try.prog w = .ok (.int .i64 y5) w := fun _ => by kernel_rfl
  have i6 : ∀ w : World, (Instr.index 23 (.agg #[.int .i64 y0, .int .i64 y1, .int .i64 y2, .int .i64 y3, .int .i64 y4, .int .i64 y5, .int .i64 y6, .int .i64 y7]) (.int .i64 6)).run Try.prog w = .ok (.int .i64 y6) w := fun _ => by kernel_rfl
  have i7 : ∀ w : World, (Instr.index 23 (.agg #[.int .i64 y0, .int .i64 y1, .int .i64 y2, .int .i64 y3, .int .i64 y4, .int .i64 y5, .int .i64 y6, .int .i64 y7]) (.int .i64 7)).run Try.prog w = .ok (.int .i64 y7) w := fun _ => by kernel_rfl
  go_enter Try.func8, Try.ntmps8
  go_wp2
  go_rounds 9
  simp [bodyPost, results, Try.results8, go_sem]
  exact ⟨_, _, _, rfl⟩

set_option maxRecDepth 100000 in
set_option maxHeartbeats 1000000 in
theorem within_any (x0 x1 x2 x3 x4 x5 x6 x7 y0 y1 y2 y3 y4 y5 y6 y7 : Int) (w : World) :
    Calls Try.prog 9 #[.agg #[.int .i64 x0, .int .i64 x1, .int .i64 x2, .int .i64 x3, .int .i64 x4, .int .i64 x5, .int .i64 x6, .int .i64 x7], .agg #[.int .i64 y0, .int .i64 y1, .int .i64 y2, .int .i64 y3, .int .i64 y4, .int .i64 y5, .int .i64 y6, .int .i64 y7]] w fun e w' => e = .returned (.bool (eqL [max x0 y0, max x1 y1, max x2 y2, max x3 y3, max x4 y4, max x5 y5, max x6 y6, max x7 y7] [y0, y1, y2, y3, y4, y5, y6, y7])) ∧ Below w.heap.size w w' := by
  have he := fun w => eq_vec (max x0 y0) (max x1 y1) (max x2 y2) (max x3 y3) (max x4 y4) (max x5 y5) (max x6 y6) (max x7 y7) y0 y1 y2 y3 y4 y5 y6 y7 23 (.inr rfl) w
  go_enter Try.func9, Try.ntmps9
  go_wp2
  go_region_held3 (fun w' => w'.cell? ⟨w.heap.size, 0, none⟩ = some (.int .i64 x0) ∧ w'.cell? ⟨w.heap.size, 1, none⟩ = some (.int .i64 x1) ∧ w'.cell? ⟨w.heap.size, 2, none⟩ = some (.int .i64 x2) ∧ w'.cell? ⟨w.heap.size, 3, none⟩ = some (.int .i64 x3) ∧ w'.cell? ⟨w.heap.size, 4, none⟩ = some (.int .i64 x4) ∧ w'.cell? ⟨w.heap.size, 5, none⟩ = some (.int .i64 x5) ∧ w'.cell? ⟨w.heap.size, 6, none⟩ = some (.int .i64 x6) ∧ w'.cell? ⟨w.heap.size, 7, none⟩ = some (.int .i64 x7) ∧ w'.cell? ⟨w.heap.size + 1, 0, none⟩ = some (.int .i64 y0) ∧ w'.cell? ⟨w.heap.size + 1, 1, none⟩ = some (.int .i64 y1) ∧ w'.cell? ⟨w.heap.size + 1, 2, none⟩ = some (.int .i64 y2) ∧ w'.cell? ⟨w.heap.size + 1, 3, none⟩ = some (.int .i64 y3) ∧ w'.cell? ⟨w.heap.size + 1, 4, none⟩ = some (.int .i64 y4) ∧ w'.cell? ⟨w.heap.size + 1, 5, none⟩ = some (.int .i64 y5) ∧ w'.cell? ⟨w.heap.size + 1, 6, none⟩ = some (.int .i64 y6) ∧ w'.cell? ⟨w.heap.size + 1, 7, none⟩ = some (.int .i64 y7)) (simp [go_sem, World.cell?_alloc_past]) (first | (go_at_call 8; refine (join_any x0 x1 x2 x3 x4 x5 x6 x7 y0 y1 y2 y3 y4 y5 y6 y7 _).mono ?_; rintro e w' ⟨rfl, o1, o2, o3, rfl⟩))
  go_wp2
  go_ret
  exact ⟨rfl, by repeat (first | exact Below.refl _ _ | apply Below.drew | apply below_alloc)⟩

set_option maxRecDepth 100000 in
set_option maxHeartbeats 1000000 in
theorem less_any (x0 x1 x2 x3 x4 x5 x6 x7 y0 y1 y2 y3 y4 y5 y6 y7 : Int) (w : World) :
    Calls Try.prog 10 #[.agg #[.int .i64 x0, .int .i64 x1, .int .i64 x2, .int .i64 x3, .int .i64 x4, .int .i64 x5, .int .i64 x6, .int .i64 x7], .agg #[.int .i64 y0, .int .i64 y1, .int .i64 y2, .int .i64 y3, .int .i64 y4, .int .i64 y5, .int .i64 y6, .int .i64 y7]] w fun e w' => e = .returned (.bool (eqL [max x0 y0, max x1 y1, max x2 y2, max x3 y3, max x4 y4, max x5 y5, max x6 y6, max x7 y7] [y0, y1, y2, y3, y4, y5, y6, y7] && !eqL [x0, x1, x2, x3, x4, x5, x6, x7] [y0, y1, y2, y3, y4, y5, y6, y7])) ∧ Below w.heap.size w w' := by
  have he := fun w => eq_vec x0 x1 x2 x3 x4 x5 x6 x7 y0 y1 y2 y3 y4 y5 y6 y7 23 (.inr rfl) w
  cases hb : eqL [max x0 y0, max x1 y1, max x2 y2, max x3 y3, max x4 y4, max x5 y5, max x6 y6, max x7 y7] [y0, y1, y2, y3, y4, y5, y6, y7]
  all_goals
    have H := hid hb
    clear hb
    go_enter Try.func10, Try.ntmps10
    go_wp2_with (go_at_call 9; refine (within_any x0 x1 x2 x3 x4 x5 x6 x7 y0 y1 y2 y3 y4 y5 y6 y7 _).mono ?_; rintro e w' ⟨rfl, hbe⟩; rw [H.out]; obtain ⟨hcc, hff⟩ := bcell hbe)
    go_ret
    exact ⟨rfl, below_next (by repeat (first | exact Below.refl _ _ | apply Below.drew | apply below_alloc)) hbe⟩

theorem join_below (x0 x1 x2 x3 x4 x5 x6 x7 y0 y1 y2 y3 y4 y5 y6 y7 : Int) (w : World) :
    Calls Try.prog 8 #[.agg #[.int .i64 x0, .int .i64 x1, .int .i64 x2, .int .i64 x3, .int .i64 x4, .int .i64 x5, .int .i64 x6, .int .i64 x7], .agg #[.int .i64 y0, .int .i64 y1, .int .i64 y2, .int .i64 y3, .int .i64 y4, .int .i64 y5, .int .i64 y6, .int .i64 y7]] w fun e w' => e = .returned (.agg #[.int .i64 (max x0 y0), .int .i64 (max x1 y1), .int .i64 (max x2 y2), .int .i64 (max x3 y3), .int .i64 (max x4 y4), .int .i64 (max x5 y5), .int .i64 (max x6 y6), .int .i64 (max x7 y7)]) ∧ Below w.heap.size w w' :=
  (join_any x0 x1 x2 x3 x4 x5 x6 x7 y0 y1 y2 y3 y4 y5 y6 y7 w).mono fun e w' ⟨he, c1, c2, c3, hw⟩ => ⟨he, by subst hw; repeat (first | exact Below.refl _ _ | apply Below.drew | apply below_alloc)⟩
end Go.Proofs.Ytcjmhiimeaphoaa
