/-
  DERIVED. MergeLast: merge.All over a slice of two.
-/
import Derived.Test.YtcjmhiimeaphoaaLast
namespace Go.Proofs.Ytcjmhiimeaphoaa
open Go.RowKit

set_option maxRecDepth 100000 in
set_option maxHeartbeats 1000000 in
theorem all_any (a0 a1 a2 b0 b1 b2 c0 c1 c2 : Int) (l1 l2 : Bool) (p q : Nat) (w : World) (hp : p < w.heap.size)
    (h0 : w.cell? ⟨p, q, none⟩ = some (.int .i64 b0)) (h1 : w.cell? ⟨p, q + 1, none⟩ = some (.int .i64 b1)) (h2 : w.cell? ⟨p, q + 2, none⟩ = some (.int .i64 b2))
    (h3 : w.cell? ⟨p, q + 3, none⟩ = some (.int .i64 c0)) (h4 : w.cell? ⟨p, q + 3 + 1, none⟩ = some (.int .i64 c1)) (h5 : w.cell? ⟨p, q + 3 + 2, none⟩ = some (.int .i64 c2))
    (e1 : lat a0 a1 a2 b0 b1 b2 = l1) (e2 : lat (st l1 a0 b0) (st l1 a1 b1) (st l1 a2 b2) c0 c1 c2 = l2) :
    Calls Try.prog 20 #[.agg #[.int .i64 a0, .int .i64 a1, .int .i64 a2], .slice (some ⟨p, q, none⟩) 2 2] w fun e w' => e = .returned (.agg #[.int .i64 (st l2 (st l1 a0 b0) c0), .int .i64 (st l2 (st l1 a1 b1) c1), .int .i64 (st l2 (st l1 a2 b2) c2)]) ∧ Below w.heap.size w w' := by
  have p1 : p ≠ w.heap.size := by omega
  have p2 : p ≠ w.heap.size + 1 := by omega
  have E1 := hid e1
  have E2 := hid e2
  clear e1 e2
  go_enter Try.func20, Try.ntmps20
  go_wp2_with fail
  refine wp_loop_rounds 3 ?_
  rw [rounds_succ]
  go_wp2_with fail
  refine (join_calls _ _ _ _ _ _ _).mono ?_
  rintro e w1 ⟨rfl, hb1⟩
  rw [E1.out]
  obtain ⟨hc1, hf1⟩ := bcell hb1
  have hs1 := hb1.size
  have HB1 : Below w.heap.size w w1 := below_next (below_alloc (below_alloc (below_alloc (Below.refl _ _) _) _) _) hb1
  clear hb1
  have k3 : w1.cell? ⟨p, q + 3, none⟩ = some (.int .i64 c0) := (HB1.cell (p := ⟨p, q + 3, none⟩) hp).trans h3
  have k4 : w1.cell? ⟨p, q + 3 + 1, none⟩ = some (.int .i64 c1) := (HB1.cell (p := ⟨p, q + 3 + 1, none⟩) hp).trans h4
  have k5 : w1.cell? ⟨p, q + 3 + 2, none⟩ = some (.int .i64 c2) := (HB1.cell (p := ⟨p, q + 3 + 2, none⟩) hp).trans h5
  have q0 : w1.cell? ⟨w.heap.size, 0, none⟩ = some (.int .i64 a0) := (hc1 _ _ (by simp; omega)).trans (by simp [go_sem])
  have q1 : w1.cell? ⟨w.heap.size, 1, none⟩ = some (.int .i64 a1) := (hc1 _ _ (by simp; omega)).trans (by simp [go_sem])
  have q2 : w1.cell? ⟨w.heap.size, 2, none⟩ = some (.int .i64 a2) := (hc1 _ _ (by simp; omega)).trans (by simp [go_sem])
  have g0 : w1.cell? ⟨w.heap.size + 1, 0, none⟩ = some (.int .i64 0) := (hc1 _ _ (by simp)).trans (by simp [go_sem])
  have g1 : w1.cell? ⟨w.heap.size + 1, 1, none⟩ = some (.int .i64 0) := (hc1 _ _ (by simp)).trans (by simp [go_sem])
  have g2 : w1.cell? ⟨w.heap.size + 1, 2, none⟩ = some (.int .i64 0) := (hc1 _ _ (by simp)).trans (by simp [go_sem])
  have f0 : ∀ o, w1.frozen? ⟨w.heap.size, o, none⟩ = false := fun o => (hf1 _ _ (by simp; omega)).trans (by simp [go_sem])
  have f1 : ∀ o, w1.frozen? ⟨w.heap.size + 1, o, none⟩ = false := fun o => (hf1 _ _ (by simp)).trans (by simp [go_sem])
  clear hc1 hf1
  simp at hs1
  have z0 : w.heap.size < w1.heap.size := by omega
  have z1 : w.heap.size + 1 < w1.heap.size := by omega
  have zp : p < w1.heap.size := by omega
  go_wp2_with fail
  rw [rounds_succ]
  go_wp2_with fail
  refine (join_calls _ _ _ _ _ _ _).mono ?_
  rintro e w2 ⟨rfl, hb2⟩
  rw [E2.out]
  obtain ⟨hc2, hf2⟩ := bcell hb2
  have hs2 := hb2.size
  have HB2 : Below w.heap.size w w2 := below_next (below_alloc (((HB1.setCell (Nat.le_refl _) _).setCell (Nat.le_refl _) _).setCell (Nat.le_refl _) _) _) hb2
  have u0 : w2.cell? ⟨w.heap.size, 0, none⟩ = some (.int .i64 (st l1 a0 b0)) := (hc2 _ _ (by simp; omega)).trans (by simp [go_sem, z0, q0])
  have u1 : w2.cell? ⟨w.heap.size, 1, none⟩ = some (.int .i64 (st l1 a1 b1)) := (hc2 _ _ (by simp; omega)).trans (by simp [go_sem, z0, q1])
  have u2 : w2.cell? ⟨w.heap.size, 2, none⟩ = some (.int .i64 (st l1 a2 b2)) := (hc2 _ _ (by simp; omega)).trans (by simp [go_sem, z0, q2])
  have v0 : w2.cell? ⟨w.heap.size + 1, 0, none⟩ = some (.int .i64 0) := (hc2 _ _ (by simp; omega)).trans (by simp [go_sem, z1, g0])
  have v1 : w2.cell? ⟨w.heap.size + 1, 1, none⟩ = some (.int .i64 0) := (hc2 _ _ (by simp; omega)).trans (by simp [go_sem, z1, g1])
  have v2 : w2.cell? ⟨w.heap.size + 1, 2, none⟩ = some (.int .i64 0) := (hc2 _ _ (by simp; omega)).trans (by simp [go_sem, z1, g2])
  have t0 : ∀ o, w2.frozen? ⟨w.heap.size, o, none⟩ = false := fun o => (hf2 _ _ (by simp; omega)).trans (by simp [go_sem, z0, f0])
  have t1 : ∀ o, w2.frozen? ⟨w.heap.size + 1, o, none⟩ = false := fun o => (hf2 _ _ (by simp; omega)).trans (by simp [go_sem, z1, f1])
  clear hc2 hf2 hb2 HB1 q0 q1 q2 g0 g1 g2 f0 f1 k3 k4 k5 h0 h1 h2 h3 h4 h5
  go_wp2_with fail
  rw [rounds_succ]
  go_wp2_with fail
  refine bodyPost_ret (v := .agg #[.int .i64 (st l2 (st l1 a0 b0) c0), .int .i64 (st l2 (st l1 a1 b1) c1), .int .i64 (st l2 (st l1 a2 b2) c2)]) (by simp [results, Try.results20, go_sem, v0, v1, v2]) rfl ⟨rfl, ?_⟩
  exact (((((HB2.setCell (by simp) _).setCell (by simp) _).setCell (by simp) _).setCell (by simp) _).setCell (by simp) _).setCell (by simp) _
end Go.Proofs.Ytcjmhiimeaphoaa
