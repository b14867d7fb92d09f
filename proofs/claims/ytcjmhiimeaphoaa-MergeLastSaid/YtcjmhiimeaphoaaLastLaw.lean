/-
  DERIVED. MergeLast: the law's walk.
-/
import Derived.Test.YtcjmhiimeaphoaaLastAll
import Derived.Deep.RegionHeld3
namespace Go.Proofs.Ytcjmhiimeaphoaa
open Go.RowKit

theorem join_t (a0 a1 a2 b0 b1 b2 : Int) (w : World) (h : lat a0 a1 a2 b0 b1 b2 = true) :
    Calls Try.prog 18 #[.agg #[.int .i64 a0, .int .i64 a1, .int .i64 a2], .agg #[.int .i64 b0, .int .i64 b1, .int .i64 b2]] w fun e w' => e = .returned (.agg #[.int .i64 b0, .int .i64 b1, .int .i64 b2]) ∧ Below w.heap.size w w' := by
  have k := join_calls a0 a1 a2 b0 b1 b2 w
  rw [h] at k
  exact k
theorem join_n (a0 a1 a2 b0 b1 b2 : Int) (w : World) (h : lat a0 a1 a2 b0 b1 b2 = false) :
    Calls Try.prog 18 #[.agg #[.int .i64 a0, .int .i64 a1, .int .i64 a2], .agg #[.int .i64 b0, .int .i64 b1, .int .i64 b2]] w fun e w' => e = .returned (.agg #[.int .i64 a0, .int .i64 a1, .int .i64 a2]) ∧ Below w.heap.size w w' := by
  have k := join_calls a0 a1 a2 b0 b1 b2 w
  rw [h] at k
  exact k
theorem lat_self (a0 a1 a2 : Int) : lat a0 a1 a2 a0 a1 a2 = false := by unfold lat; rw [decide_eq_false_iff_not]; omega
theorem lat_back {a0 a1 a2 b0 b1 b2 : Int} (h : lat a0 a1 a2 b0 b1 b2 = true) : lat b0 b1 b2 a0 a1 a2 = false := by
  unfold lat at h ⊢
  rw [decide_eq_true_eq] at h
  rw [decide_eq_false_iff_not]
  omega

theorem all_t (a0 a1 a2 b0 b1 b2 : Int) (p : Nat) (w : World) (h : lat a0 a1 a2 b0 b1 b2 = true) (hp : p < w.heap.size)
    (h0 : w.cell? ⟨p, 0, none⟩ = some (.int .i64 b0)) (h1 : w.cell? ⟨p, 1, none⟩ = some (.int .i64 b1)) (h2 : w.cell? ⟨p, 2, none⟩ = some (.int .i64 b2))
    (h3 : w.cell? ⟨p, 3, none⟩ = some (.int .i64 a0)) (h4 : w.cell? ⟨p, 4, none⟩ = some (.int .i64 a1)) (h5 : w.cell? ⟨p, 5, none⟩ = some (.int .i64 a2)) :
    Calls Try.prog 20 #[.agg #[.int .i64 a0, .int .i64 a1, .int .i64 a2], .slice (some ⟨p, 0, none⟩) 2 2] w fun e w' => e = .returned (.agg #[.int .i64 b0, .int .i64 b1, .int .i64 b2]) ∧ Below w.heap.size w w' :=
  all_any a0 a1 a2 b0 b1 b2 a0 a1 a2 true false p 0 w hp (by simpa using h0) (by simpa using h1) (by simpa using h2) (by simpa using h3) (by simpa using h4) (by simpa using h5) h (lat_back h)

theorem all_n (a0 a1 a2 b0 b1 b2 : Int) (p : Nat) (w : World) (h : lat a0 a1 a2 b0 b1 b2 = false) (hp : p < w.heap.size)
    (h0 : w.cell? ⟨p, 0, none⟩ = some (.int .i64 b0)) (h1 : w.cell? ⟨p, 1, none⟩ = some (.int .i64 b1)) (h2 : w.cell? ⟨p, 2, none⟩ = some (.int .i64 b2))
    (h3 : w.cell? ⟨p, 3, none⟩ = some (.int .i64 a0)) (h4 : w.cell? ⟨p, 4, none⟩ = some (.int .i64 a1)) (h5 : w.cell? ⟨p, 5, none⟩ = some (.int .i64 a2)) :
    Calls Try.prog 20 #[.agg #[.int .i64 a0, .int .i64 a1, .int .i64 a2], .slice (some ⟨p, 0, none⟩) 2 2] w fun e w' => e = .returned (.agg #[.int .i64 a0, .int .i64 a1, .int .i64 a2]) ∧ Below w.heap.size w w' :=
  all_any a0 a1 a2 b0 b1 b2 a0 a1 a2 false false p 0 w hp (by simpa using h0) (by simpa using h1) (by simpa using h2) (by simpa using h3) (by simpa using h4) (by simpa using h5) h (lat_self a0 a1 a2)

theorem nine {n : Nat} {x0 x1 x2 y0 y1 y2 z0 z1 z2 : Int} {W W' : World} (hb : Below W.heap.size W W') (hz : n + 3 ≤ W.heap.size) (h : W.cell? ⟨n, 0, none⟩ = some (.int .i64 x0) ∧ W.cell? ⟨n, 1, none⟩ = some (.int .i64 x1) ∧ W.cell? ⟨n, 2, none⟩ = some (.int .i64 x2) ∧ W.cell? ⟨n + 1, 0, none⟩ = some (.int .i64 y0) ∧ W.cell? ⟨n + 1, 1, none⟩ = some (.int .i64 y1) ∧ W.cell? ⟨n + 1, 2, none⟩ = some (.int .i64 y2) ∧ W.cell? ⟨n + 1 + 1, 0, none⟩ = some (.int .i64 z0) ∧ W.cell? ⟨n + 1 + 1, 1, none⟩ = some (.int .i64 z1) ∧ W.cell? ⟨n + 1 + 1, 2, none⟩ = some (.int .i64 z2)) : W'.cell? ⟨n, 0, none⟩ = some (.int .i64 x0) ∧ W'.cell? ⟨n, 1, none⟩ = some (.int .i64 x1) ∧ W'.cell? ⟨n, 2, none⟩ = some (.int .i64 x2) ∧ W'.cell? ⟨n + 1, 0, none⟩ = some (.int .i64 y0) ∧ W'.cell? ⟨n + 1, 1, none⟩ = some (.int .i64 y1) ∧ W'.cell? ⟨n + 1, 2, none⟩ = some (.int .i64 y2) ∧ W'.cell? ⟨n + 1 + 1, 0, none⟩ = some (.int .i64 z0) ∧ W'.cell? ⟨n + 1 + 1, 1, none⟩ = some (.int .i64 z1) ∧ W'.cell? ⟨n + 1 + 1, 2, none⟩ = some (.int .i64 z2) := by
  obtain ⟨h0, h1, h2, h3, h4, h5, h6, h7, h8⟩ := h
  exact ⟨(hb.cell (p := ⟨_, _, none⟩) (by simp; omega)).trans h0, (hb.cell (p := ⟨_, _, none⟩) (by simp; omega)).trans h1, (hb.cell (p := ⟨_, _, none⟩) (by simp; omega)).trans h2, (hb.cell (p := ⟨_, _, none⟩) (by simp; omega)).trans h3, (hb.cell (p := ⟨_, _, none⟩) (by simp; omega)).trans h4, (hb.cell (p := ⟨_, _, none⟩) (by simp; omega)).trans h5, (hb.cell (p := ⟨_, _, none⟩) (by simp; omega)).trans h6, (hb.cell (p := ⟨_, _, none⟩) (by simp; omega)).trans h7, (hb.cell (p := ⟨_, _, none⟩) (by simp; omega)).trans h8⟩

set_option maxRecDepth 100000 in
set_option maxHeartbeats 2000000 in
theorem law_later0 (a0 a1 a2 b0 b1 b2 : Int) (w : World) (h0 : a0 < b0) :
    Calls Try.prog 6 #[.agg #[.int .i64 a0, .int .i64 a1, .int .i64 a2], .agg #[.int .i64 b0, .int .i64 b1, .int .i64 b2]] w fun e w' => e = .returned (.bool true) ∧ Below w.heap.size w w' := by
  have hl : lat a0 a1 a2 b0 b1 b2 = true := by unfold lat; rw [decide_eq_true_eq]; omega
  have L := hid hl
  clear hl
  have hse : (a0 == b0 && (a1 == b1 && (a2 == b2))) = false := by simp; omega
  have he1 : ∀ w, (Op.equalIn 10000 47 (.agg #[.int .i64 a0, .int .i64 a1, .int .i64 a2]) (.agg #[.int .i64 b0, .int .i64 b1, .int .i64 b2])).run Try.prog w = .ok false w := fun w => (PMergeLast.eqA47 9998 w a0 b0 a1 b1 a2 b2).trans (congrArg (fun x => Result.ok x w) hse)
  have he2 : ∀ w, (Op.equalIn 10000 47 (.agg #[.int .i64 b0, .int .i64 b1, .int .i64 b2]) (.agg #[.int .i64 b0, .int .i64 b1, .int .i64 b2])).run Try.prog w = .ok true w := fun w => (PMergeLast.eqA47 9998 w b0 b0 b1 b1 b2 b2).trans (by simp)
  have SE := hid hse
  clear hse
  go_enter Try.func6, Try.ntmps6
  go_wp2_with fail
  refine name_world ?_
  intro W hW
  have hB : Below w.heap.size w W := by rw [hW]; repeat (first | exact Below.refl _ _ | apply Below.drew | apply below_draws | apply below_alloc)
  have hz : w.heap.size + 3 ≤ W.heap.size := by rw [hW]; simp
  have hS : W.cell? ⟨w.heap.size, 0, none⟩ = some (.int .i64 a0) ∧ W.cell? ⟨w.heap.size, 1, none⟩ = some (.int .i64 a1) ∧ W.cell? ⟨w.heap.size, 2, none⟩ = some (.int .i64 a2) ∧ W.cell? ⟨w.heap.size + 1, 0, none⟩ = some (.int .i64 b0) ∧ W.cell? ⟨w.heap.size + 1, 1, none⟩ = some (.int .i64 b1) ∧ W.cell? ⟨w.heap.size + 1, 2, none⟩ = some (.int .i64 b2) ∧ W.cell? ⟨w.heap.size + 1 + 1, 0, none⟩ = some (.int .i64 b0) ∧ W.cell? ⟨w.heap.size + 1 + 1, 1, none⟩ = some (.int .i64 b1) ∧ W.cell? ⟨w.heap.size + 1 + 1, 2, none⟩ = some (.int .i64 b2) := by rw [hW]; simp [go_sem]
  clear hW
  go_region_held3 (fun w' => w'.cell? ⟨w.heap.size, 0, none⟩ = some (.int .i64 a0) ∧ w'.cell? ⟨w.heap.size, 1, none⟩ = some (.int .i64 a1) ∧ w'.cell? ⟨w.heap.size, 2, none⟩ = some (.int .i64 a2) ∧ w'.cell? ⟨w.heap.size + 1, 0, none⟩ = some (.int .i64 b0) ∧ w'.cell? ⟨w.heap.size + 1, 1, none⟩ = some (.int .i64 b1) ∧ w'.cell? ⟨w.heap.size + 1, 2, none⟩ = some (.int .i64 b2) ∧ w'.cell? ⟨w.heap.size + 1 + 1, 0, none⟩ = some (.int .i64 b0) ∧ w'.cell? ⟨w.heap.size + 1 + 1, 1, none⟩ = some (.int .i64 b1) ∧ w'.cell? ⟨w.heap.size + 1 + 1, 2, none⟩ = some (.int .i64 b2)) (first | assumption | exact nine (n := w.heap.size) (below_alloc (Below.refl _ _) _) (by assumption) (by assumption)) (first | (go_at_call 18; refine (join_t a0 a1 a2 b0 b1 b2 _ L.out).mono ?_; rintro e w1 ⟨rfl, B1⟩; have s1 := nine (n := w.heap.size) B1 hz (by exact hS); have g1 : w.heap.size + 3 ≤ w1.heap.size := Nat.le_trans hz B1.size) | (go_at_call 19; refine (same_calls a0 a1 a2 b0 b1 b2 _).mono ?_; rintro e w2 ⟨rfl, B2⟩; rw [SE.out]; have s2 := nine (n := w.heap.size) B2 g1 (by exact s1); have g2 : w.heap.size + 3 ≤ w2.heap.size := Nat.le_trans g1 B2.size) | (go_at_call 20; refine (all_t a0 a1 a2 b0 b1 b2 _ _ L.out (by simp) (by simp [go_sem]) (by simp [go_sem]) (by simp [go_sem]) (by simp [go_sem]) (by simp [go_sem]) (by simp [go_sem])).mono ?_; rintro e w3 ⟨rfl, B3⟩; have s3 := nine (n := w.heap.size) (W := w2) (below_next (below_alloc (Below.refl _ _) _) B3) g2 (by exact s2); have hD : Below w.heap.size w w3 := below_next (below_next (below_next hB.drew B1) B2) (below_next (below_alloc (Below.refl _ _) _) B3)))
  go_wp2
  go_ret
  exact ⟨rfl, hD⟩

set_option maxRecDepth 100000 in
set_option maxHeartbeats 2000000 in
theorem law_elder0 (a0 a1 a2 b0 b1 b2 : Int) (w : World) (h0 : b0 < a0) :
    Calls Try.prog 6 #[.agg #[.int .i64 a0, .int .i64 a1, .int .i64 a2], .agg #[.int .i64 b0, .int .i64 b1, .int .i64 b2]] w fun e w' => e = .returned (.bool true) ∧ Below w.heap.size w w' := by
  have hl : lat a0 a1 a2 b0 b1 b2 = false := by unfold lat; rw [decide_eq_false_iff_not]; omega
  have L := hid hl
  clear hl
  have hse : (a0 == b0 && (a1 == b1 && (a2 == b2))) = false := by simp; omega
  have he1 : ∀ w, (Op.equalIn 10000 47 (.agg #[.int .i64 a0, .int .i64 a1, .int .i64 a2]) (.agg #[.int .i64 b0, .int .i64 b1, .int .i64 b2])).run Try.prog w = .ok false w := fun w => (PMergeLast.eqA47 9998 w a0 b0 a1 b1 a2 b2).trans (congrArg (fun x => Result.ok x w) hse)
  have he2 : ∀ w, (Op.equalIn 10000 47 (.agg #[.int .i64 a0, .int .i64 a1, .int .i64 a2]) (.agg #[.int .i64 a0, .int .i64 a1, .int .i64 a2])).run Try.prog w = .ok true w := fun w => (PMergeLast.eqA47 9998 w a0 a0 a1 a1 a2 a2).trans (by simp)
  have SE := hid hse
  clear hse
  go_enter Try.func6, Try.ntmps6
  go_wp2_with fail
  refine name_world ?_
  intro W hW
  have hB : Below w.heap.size w W := by rw [hW]; repeat (first | exact Below.refl _ _ | apply Below.drew | apply below_draws | apply below_alloc)
  have hz : w.heap.size + 3 ≤ W.heap.size := by rw [hW]; simp
  have hS : W.cell? ⟨w.heap.size, 0, none⟩ = some (.int .i64 a0) ∧ W.cell? ⟨w.heap.size, 1, none⟩ = some (.int .i64 a1) ∧ W.cell? ⟨w.heap.size, 2, none⟩ = some (.int .i64 a2) ∧ W.cell? ⟨w.heap.size + 1, 0, none⟩ = some (.int .i64 b0) ∧ W.cell? ⟨w.heap.size + 1, 1, none⟩ = some (.int .i64 b1) ∧ W.cell? ⟨w.heap.size + 1, 2, none⟩ = some (.int .i64 b2) ∧ W.cell? ⟨w.heap.size + 1 + 1, 0, none⟩ = some (.int .i64 a0) ∧ W.cell? ⟨w.heap.size + 1 + 1, 1, none⟩ = some (.int .i64 a1) ∧ W.cell? ⟨w.heap.size + 1 + 1, 2, none⟩ = some (.int .i64 a2) := by rw [hW]; simp [go_sem]
  clear hW
  go_region_held3 (fun w' => w'.cell? ⟨w.heap.size, 0, none⟩ = some (.int .i64 a0) ∧ w'.cell? ⟨w.heap.size, 1, none⟩ = some (.int .i64 a1) ∧ w'.cell? ⟨w.heap.size, 2, none⟩ = some (.int .i64 a2) ∧ w'.cell? ⟨w.heap.size + 1, 0, none⟩ = some (.int .i64 b0) ∧ w'.cell? ⟨w.heap.size + 1, 1, none⟩ = some (.int .i64 b1) ∧ w'.cell? ⟨w.heap.size + 1, 2, none⟩ = some (.int .i64 b2) ∧ w'.cell? ⟨w.heap.size + 1 + 1, 0, none⟩ = some (.int .i64 a0) ∧ w'.cell? ⟨w.heap.size + 1 + 1, 1, none⟩ = some (.int .i64 a1) ∧ w'.cell? ⟨w.heap.size + 1 + 1, 2, none⟩ = some (.int .i64 a2)) (first | assumption | exact nine (n := w.heap.size) (below_alloc (Below.refl _ _) _) (by assumption) (by assumption)) (first | (go_at_call 18; refine (join_n a0 a1 a2 b0 b1 b2 _ L.out).mono ?_; rintro e w1 ⟨rfl, B1⟩; have s1 := nine (n := w.heap.size) B1 hz (by exact hS); have g1 : w.heap.size + 3 ≤ w1.heap.size := Nat.le_trans hz B1.size) | (go_at_call 19; refine (same_calls a0 a1 a2 b0 b1 b2 _).mono ?_; rintro e w2 ⟨rfl, B2⟩; rw [SE.out]; have s2 := nine (n := w.heap.size) B2 g1 (by exact s1); have g2 : w.heap.size + 3 ≤ w2.heap.size := Nat.le_trans g1 B2.size) | (go_at_call 20; refine (all_n a0 a1 a2 b0 b1 b2 _ _ L.out (by simp) (by simp [go_sem]) (by simp [go_sem]) (by simp [go_sem]) (by simp [go_sem]) (by simp [go_sem]) (by simp [go_sem])).mono ?_; rintro e w3 ⟨rfl, B3⟩; have s3 := nine (n := w.heap.size) (W := w2) (below_next (below_alloc (Below.refl _ _) _) B3) g2 (by exact s2); have hD : Below w.heap.size w w3 := below_next (below_next (below_next hB.drew B1) B2) (below_next (below_alloc (Below.refl _ _) _) B3)))
  go_wp2
  go_ret
  exact ⟨rfl, hD⟩

set_option maxRecDepth 100000 in
set_option maxHeartbeats 2000000 in
theorem law_later1 (a0 a1 a2 b1 b2 : Int) (w : World) (h1 : a1 < b1) :
    Calls Try.prog 6 #[.agg #[.int .i64 a0, .int .i64 a1, .int .i64 a2], .agg #[.int .i64 a0, .int .i64 b1, .int .i64 b2]] w fun e w' => e = .returned (.bool true) ∧ Below w.heap.size w w' := by
  have hl : lat a0 a1 a2 a0 b1 b2 = true := by unfold lat; rw [decide_eq_true_eq]; omega
  have L := hid hl
  clear hl
  have hse : (a0 == a0 && (a1 == b1 && (a2 == b2))) = false := by simp; omega
  have he1 : ∀ w, (Op.equalIn 10000 47 (.agg #[.int .i64 a0, .int .i64 a1, .int .i64 a2]) (.agg #[.int .i64 a0, .int .i64 b1, .int .i64 b2])).run Try.prog w = .ok false w := fun w => (PMergeLast.eqA47 9998 w a0 a0 a1 b1 a2 b2).trans (congrArg (fun x => Result.ok x w) hse)
  have he2 : ∀ w, (Op.equalIn 10000 47 (.agg #[.int .i64 a0, .int .i64 b1, .int .i64 b2]) (.agg #[.int .i64 a0, .int .i64 b1, .int .i64 b2])).run Try.prog w = .ok true w := fun w => (PMergeLast.eqA47 9998 w a0 a0 b1 b1 b2 b2).trans (by simp)
  have SE := hid hse
  clear hse
  go_enter Try.func6, Try.ntmps6
  go_wp2_with fail
  refine name_world ?_
  intro W hW
  have hB : Below w.heap.size w W := by rw [hW]; repeat (first | exact Below.refl _ _ | apply Below.drew | apply below_draws | apply below_alloc)
  have hz : w.heap.size + 3 ≤ W.heap.size := by rw [hW]; simp
  have hS : W.cell? ⟨w.heap.size, 0, none⟩ = some (.int .i64 a0) ∧ W.cell? ⟨w.heap.size, 1, none⟩ = some (.int .i64 a1) ∧ W.cell? ⟨w.heap.size, 2, none⟩ = some (.int .i64 a2) ∧ W.cell? ⟨w.heap.size + 1, 0, none⟩ = some (.int .i64 a0) ∧ W.cell? ⟨w.heap.size + 1, 1, none⟩ = some (.int .i64 b1) ∧ W.cell? ⟨w.heap.size + 1, 2, none⟩ = some (.int .i64 b2) ∧ W.cell? ⟨w.heap.size + 1 + 1, 0, none⟩ = some (.int .i64 a0) ∧ W.cell? ⟨w.heap.size + 1 + 1, 1, none⟩ = some (.int .i64 b1) ∧ W.cell? ⟨w.heap.size + 1 + 1, 2, none⟩ = some (.int .i64 b2) := by rw [hW]; simp [go_sem]
  clear hW
  go_region_held3 (fun w' => w'.cell? ⟨w.heap.size, 0, none⟩ = some (.int .i64 a0) ∧ w'.cell? ⟨w.heap.size, 1, none⟩ = some (.int .i64 a1) ∧ w'.cell? ⟨w.heap.size, 2, none⟩ = some (.int .i64 a2) ∧ w'.cell? ⟨w.heap.size + 1, 0, none⟩ = some (.int .i64 a0) ∧ w'.cell? ⟨w.heap.size + 1, 1, none⟩ = some (.int .i64 b1) ∧ w'.cell? ⟨w.heap.size + 1, 2, none⟩ = some (.int .i64 b2) ∧ w'.cell? ⟨w.heap.size + 1 + 1, 0, none⟩ = some (.int .i64 a0) ∧ w'.cell? ⟨w.heap.size + 1 + 1, 1, none⟩ = some (.int .i64 b1) ∧ w'.cell? ⟨w.heap.size + 1 + 1, 2, none⟩ = some (.int .i64 b2)) (first | assumption | exact nine (n := w.heap.size) (below_alloc (Below.refl _ _) _) (by assumption) (by assumption)) (first | (go_at_call 18; refine (join_t a0 a1 a2 a0 b1 b2 _ L.out).mono ?_; rintro e w1 ⟨rfl, B1⟩; have s1 := nine (n := w.heap.size) B1 hz (by exact hS); have g1 : w.heap.size + 3 ≤ w1.heap.size := Nat.le_trans hz B1.size) | (go_at_call 19; refine (same_calls a0 a1 a2 a0 b1 b2 _).mono ?_; rintro e w2 ⟨rfl, B2⟩; rw [SE.out]; have s2 := nine (n := w.heap.size) B2 g1 (by exact s1); have g2 : w.heap.size + 3 ≤ w2.heap.size := Nat.le_trans g1 B2.size) | (go_at_call 20; refine (all_t a0 a1 a2 a0 b1 b2 _ _ L.out (by simp) (by simp [go_sem]) (by simp [go_sem]) (by simp [go_sem]) (by simp [go_sem]) (by simp [go_sem]) (by simp [go_sem])).mono ?_; rintro e w3 ⟨rfl, B3⟩; have s3 := nine (n := w.heap.size) (W := w2) (below_next (below_alloc (Below.refl _ _) _) B3) g2 (by exact s2); have hD : Below w.heap.size w w3 := below_next (below_next (below_next hB.drew B1) B2) (below_next (below_alloc (Below.refl _ _) _) B3)))
  go_wp2
  go_ret
  exact ⟨rfl, hD⟩

set_option maxRecDepth 100000 in
set_option maxHeartbeats 2000000 in
theorem law_elder1 (a0 a1 a2 b1 b2 : Int) (w : World) (h1 : b1 < a1) :
    Calls Try.prog 6 #[.agg #[.int .i64 a0, .int .i64 a1, .int .i64 a2], .agg #[.int .i64 a0, .int .i64 b1, .int .i64 b2]] w fun e w' => e = .returned (.bool true) ∧ Below w.heap.size w w' := by
  have hl : lat a0 a1 a2 a0 b1 b2 = false := by unfold lat; rw [decide_eq_false_iff_not]; omega
  have L := hid hl
  clear hl
  have hse : (a0 == a0 && (a1 == b1 && (a2 == b2))) = false := by simp; omega
  have he1 : ∀ w, (Op.equalIn 10000 47 (.agg #[.int .i64 a0, .int .i64 a1, .int .i64 a2]) (.agg #[.int .i64 a0, .int .i64 b1, .int .i64 b2])).run Try.prog w = .ok false w := fun w => (PMergeLast.eqA47 9998 w a0 a0 a1 b1 a2 b2).trans (congrArg (fun x => Result.ok x w) hse)
  have he2 : ∀ w, (Op.equalIn 10000 47 (.agg #[.int .i64 a0, .int .i64 a1, .int .i64 a2]) (.agg #[.int .i64 a0, .int .i64 a1, .int .i64 a2])).run Try.prog w = .ok true w := fun w => (PMergeLast.eqA47 9998 w a0 a0 a1 a1 a2 a2).trans (by simp)
  have SE := hid hse
  clear hse
  go_enter Try.func6, Try.ntmps6
  go_wp2_with fail
  refine name_world ?_
  intro W hW
  have hB : Below w.heap.size w W := by rw [hW]; repeat (first | exact Below.refl _ _ | apply Below.drew | apply below_draws | apply below_alloc)
  have hz : w.heap.size + 3 ≤ W.heap.size := by rw [hW]; simp
  have hS : W.cell? ⟨w.heap.size, 0, none⟩ = some (.int .i64 a0) ∧ W.cell? ⟨w.heap.size, 1, none⟩ = some (.int .i64 a1) ∧ W.cell? ⟨w.heap.size, 2, none⟩ = some (.int .i64 a2) ∧ W.cell? ⟨w.heap.size + 1, 0, none⟩ = some (.int .i64 a0) ∧ W.cell? ⟨w.heap.size + 1, 1, none⟩ = some (.int .i64 b1) ∧ W.cell? ⟨w.heap.size + 1, 2, none⟩ = some (.int .i64 b2) ∧ W.cell? ⟨w.heap.size + 1 + 1, 0, none⟩ = some (.int .i64 a0) ∧ W.cell? ⟨w.heap.size + 1 + 1, 1, none⟩ = some (.int .i64 a1) ∧ W.cell? ⟨w.heap.size + 1 + 1, 2, none⟩ = some (.int .i64 a2) := by rw [hW]; simp [go_sem]
  clear hW
  go_region_held3 (fun w' => w'.cell? ⟨w.heap.size, 0, none⟩ = some (.int .i64 a0) ∧ w'.cell? ⟨w.heap.size, 1, none⟩ = some (.int .i64 a1) ∧ w'.cell? ⟨w.heap.size, 2, none⟩ = some (.int .i64 a2) ∧ w'.cell? ⟨w.heap.size + 1, 0, none⟩ = some (.int .i64 a0) ∧ w'.cell? ⟨w.heap.size + 1, 1, none⟩ = some (.int .i64 b1) ∧ w'.cell? ⟨w.heap.size + 1, 2, none⟩ = some (.int .i64 b2) ∧ w'.cell? ⟨w.heap.size + 1 + 1, 0, none⟩ = some (.int .i64 a0) ∧ w'.cell? ⟨w.heap.size + 1 + 1, 1, none⟩ = some (.int .i64 a1) ∧ w'.cell? ⟨w.heap.size + 1 + 1, 2, none⟩ = some (.int .i64 a2)) (first | assumption | exact nine (n := w.heap.size) (below_alloc (Below.refl _ _) _) (by assumption) (by assumption)) (first | (go_at_call 18; refine (join_n a0 a1 a2 a0 b1 b2 _ L.out).mono ?_; rintro e w1 ⟨rfl, B1⟩; have s1 := nine (n := w.heap.size) B1 hz (by exact hS); have g1 : w.heap.size + 3 ≤ w1.heap.size := Nat.le_trans hz B1.size) | (go_at_call 19; refine (same_calls a0 a1 a2 a0 b1 b2 _).mono ?_; rintro e w2 ⟨rfl, B2⟩; rw [SE.out]; have s2 := nine (n := w.heap.size) B2 g1 (by exact s1); have g2 : w.heap.size + 3 ≤ w2.heap.size := Nat.le_trans g1 B2.size) | (go_at_call 20; refine (all_n a0 a1 a2 a0 b1 b2 _ _ L.out (by simp) (by simp [go_sem]) (by simp [go_sem]) (by simp [go_sem]) (by simp [go_sem]) (by simp [go_sem]) (by simp [go_sem])).mono ?_; rintro e w3 ⟨rfl, B3⟩; have s3 := nine (n := w.heap.size) (W := w2) (below_next (below_alloc (Below.refl _ _) _) B3) g2 (by exact s2); have hD : Below w.heap.size w w3 := below_next (below_next (below_next hB.drew B1) B2) (below_next (below_alloc (Below.refl _ _) _) B3)))
  go_wp2
  go_ret
  exact ⟨rfl, hD⟩

set_option maxRecDepth 100000 in
set_option maxHeartbeats 2000000 in
theorem law_later2 (a0 a1 a2 b2 : Int) (w : World) (h2 : a2 < b2) :
    Calls Try.prog 6 #[.agg #[.int .i64 a0, .int .i64 a1, .int .i64 a2], .agg #[.int .i64 a0, .int .i64 a1, .int .i64 b2]] w fun e w' => e = .returned (.bool true) ∧ Below w.heap.size w w' := by
  have hl : lat a0 a1 a2 a0 a1 b2 = true := by unfold lat; rw [decide_eq_true_eq]; omega
  have L := hid hl
  clear hl
  have hse : (a0 == a0 && (a1 == a1 && (a2 == b2))) = false := by simp; omega
  have he1 : ∀ w, (Op.equalIn 10000 47 (.agg #[.int .i64 a0, .int .i64 a1, .int .i64 a2]) (.agg #[.int .i64 a0, .int .i64 a1, .int .i64 b2])).run Try.prog w = .ok false w := fun w => (PMergeLast.eqA47 9998 w a0 a0 a1 a1 a2 b2).trans (congrArg (fun x => Result.ok x w) hse)
  have he2 : ∀ w, (Op.equalIn 10000 47 (.agg #[.int .i64 a0, .int .i64 a1, .int .i64 b2]) (.agg #[.int .i64 a0, .int .i64 a1, .int .i64 b2])).run Try.prog w = .ok true w := fun w => (PMergeLast.eqA47 9998 w a0 a0 a1 a1 b2 b2).trans (by simp)
  have SE := hid hse
  clear hse
  go_enter Try.func6, Try.ntmps6
  go_wp2_with fail
  refine name_world ?_
  intro W hW
  have hB : Below w.heap.size w W := by rw [hW]; repeat (first | exact Below.refl _ _ | apply Below.drew | apply below_draws | apply below_alloc)
  have hz : w.heap.size + 3 ≤ W.heap.size := by rw [hW]; simp
  have hS : W.cell? ⟨w.heap.size, 0, none⟩ = some (.int .i64 a0) ∧ W.cell? ⟨w.heap.size, 1, none⟩ = some (.int .i64 a1) ∧ W.cell? ⟨w.heap.size, 2, none⟩ = some (.int .i64 a2) ∧ W.cell? ⟨w.heap.size + 1, 0, none⟩ = some (.int .i64 a0) ∧ W.cell? ⟨w.heap.size + 1, 1, none⟩ = some (.int .i64 a1) ∧ W.cell? ⟨w.heap.size + 1, 2, none⟩ = some (.int .i64 b2) ∧ W.cell? ⟨w.heap.size + 1 + 1, 0, none⟩ = some (.int .i64 a0) ∧ W.cell? ⟨w.heap.size + 1 + 1, 1, none⟩ = some (.int .i64 a1) ∧ W.cell? ⟨w.heap.size + 1 + 1, 2, none⟩ = some (.int .i64 b2) := by rw [hW]; simp [go_sem]
  clear hW
  go_region_held3 (fun w' => w'.cell? ⟨w.heap.size, 0, none⟩ = some (.int .i64 a0) ∧ w'.cell? ⟨w.heap.size, 1, none⟩ = some (.int .i64 a1) ∧ w'.cell? ⟨w.heap.size, 2, none⟩ = some (.int .i64 a2) ∧ w'.cell? ⟨w.heap.size + 1, 0, none⟩ = some (.int .i64 a0) ∧ w'.cell? ⟨w.heap.size + 1, 1, none⟩ = some (.int .i64 a1) ∧ w'.cell? ⟨w.heap.size + 1, 2, none⟩ = some (.int .i64 b2) ∧ w'.cell? ⟨w.heap.size + 1 + 1, 0, none⟩ = some (.int .i64 a0) ∧ w'.cell? ⟨w.heap.size + 1 + 1, 1, none⟩ = some (.int .i64 a1) ∧ w'.cell? ⟨w.heap.size + 1 + 1, 2, none⟩ = some (.int .i64 b2)) (first | assumption | exact nine (n := w.heap.size) (below_alloc (Below.refl _ _) _) (by assumption) (by assumption)) (first | (go_at_call 18; refine (join_t a0 a1 a2 a0 a1 b2 _ L.out).mono ?_; rintro e w1 ⟨rfl, B1⟩; have s1 := nine (n := w.heap.size) B1 hz (by exact hS); have g1 : w.heap.size + 3 ≤ w1.heap.size := Nat.le_trans hz B1.size) | (go_at_call 19; refine (same_calls a0 a1 a2 a0 a1 b2 _).mono ?_; rintro e w2 ⟨rfl, B2⟩; rw [SE.out]; have s2 := nine (n := w.heap.size) B2 g1 (by exact s1); have g2 : w.heap.size + 3 ≤ w2.heap.size := Nat.le_trans g1 B2.size) | (go_at_call 20; refine (all_t a0 a1 a2 a0 a1 b2 _ _ L.out (by simp) (by simp [go_sem]) (by simp [go_sem]) (by simp [go_sem]) (by simp [go_sem]) (by simp [go_sem]) (by simp [go_sem])).mono ?_; rintro e w3 ⟨rfl, B3⟩; have s3 := nine (n := w.heap.size) (W := w2) (below_next (below_alloc (Below.refl _ _) _) B3) g2 (by exact s2); have hD : Below w.heap.size w w3 := below_next (below_next (below_next hB.drew B1) B2) (below_next (below_alloc (Below.refl _ _) _) B3)))
  go_wp2
  go_ret
  exact ⟨rfl, hD⟩

set_option maxRecDepth 100000 in
set_option maxHeartbeats 2000000 in
theorem law_elder2 (a0 a1 a2 b2 : Int) (w : World) (h2 : b2 < a2) :
    Calls Try.prog 6 #[.agg #[.int .i64 a0, .int .i64 a1, .int .i64 a2], .agg #[.int .i64 a0, .int .i64 a1, .int .i64 b2]] w fun e w' => e = .returned (.bool true) ∧ Below w.heap.size w w' := by
  have hl : lat a0 a1 a2 a0 a1 b2 = false := by unfold lat; rw [decide_eq_false_iff_not]; omega
  have L := hid hl
  clear hl
  have hse : (a0 == a0 && (a1 == a1 && (a2 == b2))) = false := by simp; omega
  have he1 : ∀ w, (Op.equalIn 10000 47 (.agg #[.int .i64 a0, .int .i64 a1, .int .i64 a2]) (.agg #[.int .i64 a0, .int .i64 a1, .int .i64 b2])).run Try.prog w = .ok false w := fun w => (PMergeLast.eqA47 9998 w a0 a0 a1 a1 a2 b2).trans (congrArg (fun x => Result.ok x w) hse)
  have he2 : ∀ w, (Op.equalIn 10000 47 (.agg #[.int .i64 a0, .int .i64 a1, .int .i64 a2]) (.agg #[.int .i64 a0, .int .i64 a1, .int .i64 a2])).run Try.prog w = .ok true w := fun w => (PMergeLast.eqA47 9998 w a0 a0 a1 a1 a2 a2).trans (by simp)
  have SE := hid hse
  clear hse
  go_enter Try.func6, Try.ntmps6
  go_wp2_with fail
  refine name_world ?_
  intro W hW
  have hB : Below w.heap.size w W := by rw [hW]; repeat (first | exact Below.refl _ _ | apply Below.drew | apply below_draws | apply below_alloc)
  have hz : w.heap.size + 3 ≤ W.heap.size := by rw [hW]; simp
  have hS : W.cell? ⟨w.heap.size, 0, none⟩ = some (.int .i64 a0) ∧ W.cell? ⟨w.heap.size, 1, none⟩ = some (.int .i64 a1) ∧ W.cell? ⟨w.heap.size, 2, none⟩ = some (.int .i64 a2) ∧ W.cell? ⟨w.heap.size + 1, 0, none⟩ = some (.int .i64 a0) ∧ W.cell? ⟨w.heap.size + 1, 1, none⟩ = some (.int .i64 a1) ∧ W.cell? ⟨w.heap.size + 1, 2, none⟩ = some (.int .i64 b2) ∧ W.cell? ⟨w.heap.size + 1 + 1, 0, none⟩ = some (.int .i64 a0) ∧ W.cell? ⟨w.heap.size + 1 + 1, 1, none⟩ = some (.int .i64 a1) ∧ W.cell? ⟨w.heap.size + 1 + 1, 2, none⟩ = some (.int .i64 a2) := by rw [hW]; simp [go_sem]
  clear hW
  go_region_held3 (fun w' => w'.cell? ⟨w.heap.size, 0, none⟩ = some (.int .i64 a0) ∧ w'.cell? ⟨w.heap.size, 1, none⟩ = some (.int .i64 a1) ∧ w'.cell? ⟨w.heap.size, 2, none⟩ = some (.int .i64 a2) ∧ w'.cell? ⟨w.heap.size + 1, 0, none⟩ = some (.int .i64 a0) ∧ w'.cell? ⟨w.heap.size + 1, 1, none⟩ = some (.int .i64 a1) ∧ w'.cell? ⟨w.heap.size + 1, 2, none⟩ = some (.int .i64 b2) ∧ w'.cell? ⟨w.heap.size + 1 + 1, 0, none⟩ = some (.int .i64 a0) ∧ w'.cell? ⟨w.heap.size + 1 + 1, 1, none⟩ = some (.int .i64 a1) ∧ w'.cell? ⟨w.heap.size + 1 + 1, 2, none⟩ = some (.int .i64 a2)) (first | assumption | exact nine (n := w.heap.size) (below_alloc (Below.refl _ _) _) (by assumption) (by assumption)) (first | (go_at_call 18; refine (join_n a0 a1 a2 a0 a1 b2 _ L.out).mono ?_; rintro e w1 ⟨rfl, B1⟩; have s1 := nine (n := w.heap.size) B1 hz (by exact hS); have g1 : w.heap.size + 3 ≤ w1.heap.size := Nat.le_trans hz B1.size) | (go_at_call 19; refine (same_calls a0 a1 a2 a0 a1 b2 _).mono ?_; rintro e w2 ⟨rfl, B2⟩; rw [SE.out]; have s2 := nine (n := w.heap.size) B2 g1 (by exact s1); have g2 : w.heap.size + 3 ≤ w2.heap.size := Nat.le_trans g1 B2.size) | (go_at_call 20; refine (all_n a0 a1 a2 a0 a1 b2 _ _ L.out (by simp) (by simp [go_sem]) (by simp [go_sem]) (by simp [go_sem]) (by simp [go_sem]) (by simp [go_sem]) (by simp [go_sem])).mono ?_; rintro e w3 ⟨rfl, B3⟩; have s3 := nine (n := w.heap.size) (W := w2) (below_next (below_alloc (Below.refl _ _) _) B3) g2 (by exact s2); have hD : Below w.heap.size w w3 := below_next (below_next (below_next hB.drew B1) B2) (below_next (below_alloc (Below.refl _ _) _) B3)))
  go_wp2
  go_ret
  exact ⟨rfl, hD⟩

set_option maxRecDepth 100000 in
set_option maxHeartbeats 2000000 in
theorem law_same2 (a0 a1 a2 : Int) (w : World)  :
    Calls Try.prog 6 #[.agg #[.int .i64 a0, .int .i64 a1, .int .i64 a2], .agg #[.int .i64 a0, .int .i64 a1, .int .i64 a2]] w fun e w' => e = .returned (.bool true) ∧ Below w.heap.size w w' := by
  have hl : lat a0 a1 a2 a0 a1 a2 = false := by unfold lat; rw [decide_eq_false_iff_not]; omega
  have L := hid hl
  clear hl
  have hse : (a0 == a0 && (a1 == a1 && (a2 == a2))) = true := by simp
  have he1 : ∀ w, (Op.equalIn 10000 47 (.agg #[.int .i64 a0, .int .i64 a1, .int .i64 a2]) (.agg #[.int .i64 a0, .int .i64 a1, .int .i64 a2])).run Try.prog w = .ok true w := fun w => (PMergeLast.eqA47 9998 w a0 a0 a1 a1 a2 a2).trans (congrArg (fun x => Result.ok x w) hse)
  have he2 : ∀ w, (Op.equalIn 10000 47 (.agg #[.int .i64 a0, .int .i64 a1, .int .i64 a2]) (.agg #[.int .i64 a0, .int .i64 a1, .int .i64 a2])).run Try.prog w = .ok true w := fun w => (PMergeLast.eqA47 9998 w a0 a0 a1 a1 a2 a2).trans (by simp)
  have SE := hid hse
  clear hse
  go_enter Try.func6, Try.ntmps6
  go_wp2_with fail
  refine name_world ?_
  intro W hW
  have hB : Below w.heap.size w W := by rw [hW]; repeat (first | exact Below.refl _ _ | apply Below.drew | apply below_draws | apply below_alloc)
  have hz : w.heap.size + 3 ≤ W.heap.size := by rw [hW]; simp
  have hS : W.cell? ⟨w.heap.size, 0, none⟩ = some (.int .i64 a0) ∧ W.cell? ⟨w.heap.size, 1, none⟩ = some (.int .i64 a1) ∧ W.cell? ⟨w.heap.size, 2, none⟩ = some (.int .i64 a2) ∧ W.cell? ⟨w.heap.size + 1, 0, none⟩ = some (.int .i64 a0) ∧ W.cell? ⟨w.heap.size + 1, 1, none⟩ = some (.int .i64 a1) ∧ W.cell? ⟨w.heap.size + 1, 2, none⟩ = some (.int .i64 a2) ∧ W.cell? ⟨w.heap.size + 1 + 1, 0, none⟩ = some (.int .i64 a0) ∧ W.cell? ⟨w.heap.size + 1 + 1, 1, none⟩ = some (.int .i64 a1) ∧ W.cell? ⟨w.heap.size + 1 + 1, 2, none⟩ = some (.int .i64 a2) := by rw [hW]; simp [go_sem]
  clear hW
  go_region_held3 (fun w' => w'.cell? ⟨w.heap.size, 0, none⟩ = some (.int .i64 a0) ∧ w'.cell? ⟨w.heap.size, 1, none⟩ = some (.int .i64 a1) ∧ w'.cell? ⟨w.heap.size, 2, none⟩ = some (.int .i64 a2) ∧ w'.cell? ⟨w.heap.size + 1, 0, none⟩ = some (.int .i64 a0) ∧ w'.cell? ⟨w.heap.size + 1, 1, none⟩ = some (.int .i64 a1) ∧ w'.cell? ⟨w.heap.size + 1, 2, none⟩ = some (.int .i64 a2) ∧ w'.cell? ⟨w.heap.size + 1 + 1, 0, none⟩ = some (.int .i64 a0) ∧ w'.cell? ⟨w.heap.size + 1 + 1, 1, none⟩ = some (.int .i64 a1) ∧ w'.cell? ⟨w.heap.size + 1 + 1, 2, none⟩ = some (.int .i64 a2)) (first | assumption | exact nine (n := w.heap.size) (below_alloc (Below.refl _ _) _) (by assumption) (by assumption)) (first | (go_at_call 18; refine (join_n a0 a1 a2 a0 a1 a2 _ L.out).mono ?_; rintro e w1 ⟨rfl, B1⟩; have s1 := nine (n := w.heap.size) B1 hz (by exact hS); have g1 : w.heap.size + 3 ≤ w1.heap.size := Nat.le_trans hz B1.size) | (go_at_call 19; refine (same_calls a0 a1 a2 a0 a1 a2 _).mono ?_; rintro e w2 ⟨rfl, B2⟩; rw [SE.out]; have s2 := nine (n := w.heap.size) B2 g1 (by exact s1); have g2 : w.heap.size + 3 ≤ w2.heap.size := Nat.le_trans g1 B2.size) | (go_at_call 20; refine (all_n a0 a1 a2 a0 a1 a2 _ _ L.out (by simp) (by simp [go_sem]) (by simp [go_sem]) (by simp [go_sem]) (by simp [go_sem]) (by simp [go_sem]) (by simp [go_sem])).mono ?_; rintro e w3 ⟨rfl, B3⟩; have s3 := nine (n := w.heap.size) (W := w2) (below_next (below_alloc (Below.refl _ _) _) B3) g2 (by exact s2); have hD : Below w.heap.size w w3 := below_next (below_next (below_next hB.drew B1) B2) (below_next (below_alloc (Below.refl _ _) _) B3)))
  go_wp2
  go_ret
  exact ⟨rfl, hD⟩

end Go.Proofs.Ytcjmhiimeaphoaa
