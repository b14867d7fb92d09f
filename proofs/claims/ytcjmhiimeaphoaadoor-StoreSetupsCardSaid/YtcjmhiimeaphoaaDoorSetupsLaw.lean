/-
  DERIVED. StoreSetups: the law's walk.
-/
import Derived.Test.YtcjmhiimeaphoaaDoorNew
import Derived.Test.YtcjmhiimeaphoaaDoorPlace
namespace Go.Proofs.YtcjmhiimeaphoaaDoor
open Go.RowKit

theorem boxes {g : Nat} {n m p q x y u v : Int} {bk : Bool} {W W' : World} (hb : Below W.heap.size W W') (h : W.cell? ⟨g, 0, none⟩ = some (.int .i64 n) ∧ W.cell? ⟨g, 1, none⟩ = some (.int .i64 m) ∧ W.cell? ⟨g, 2, none⟩ = some (.int .i64 p) ∧ W.cell? ⟨g, 3, none⟩ = some (.int .i64 q) ∧ W.cell? ⟨g, 4, none⟩ = some (.bool bk) ∧ W.cell? ⟨g + 1, 0, none⟩ = some (.int .i64 x) ∧ W.cell? ⟨g + 1, 1, none⟩ = some (.int .i64 y) ∧ W.cell? ⟨g + 1 + 1, 0, none⟩ = some (.int .i64 u) ∧ W.cell? ⟨g + 1 + 1, 1, none⟩ = some (.int .i64 v) ∧ g + 1 + 1 < W.heap.size) : W'.cell? ⟨g, 0, none⟩ = some (.int .i64 n) ∧ W'.cell? ⟨g, 1, none⟩ = some (.int .i64 m) ∧ W'.cell? ⟨g, 2, none⟩ = some (.int .i64 p) ∧ W'.cell? ⟨g, 3, none⟩ = some (.int .i64 q) ∧ W'.cell? ⟨g, 4, none⟩ = some (.bool bk) ∧ W'.cell? ⟨g + 1, 0, none⟩ = some (.int .i64 x) ∧ W'.cell? ⟨g + 1, 1, none⟩ = some (.int .i64 y) ∧ W'.cell? ⟨g + 1 + 1, 0, none⟩ = some (.int .i64 u) ∧ W'.cell? ⟨g + 1 + 1, 1, none⟩ = some (.int .i64 v) ∧ g + 1 + 1 < W'.heap.size := by
  obtain ⟨h0, h1, h2, h3, h4, h5, h6, h7, h8, hz⟩ := h
  exact ⟨(hb.cell (p := ⟨_, _, none⟩) (by first | exact hz | (simp; omega))).trans h0, (hb.cell (p := ⟨_, _, none⟩) (by first | exact hz | (simp; omega))).trans h1, (hb.cell (p := ⟨_, _, none⟩) (by first | exact hz | (simp; omega))).trans h2, (hb.cell (p := ⟨_, _, none⟩) (by first | exact hz | (simp; omega))).trans h3, (hb.cell (p := ⟨_, _, none⟩) (by first | exact hz | (simp; omega))).trans h4, (hb.cell (p := ⟨_, _, none⟩) (by first | exact hz | (simp; omega))).trans h5, (hb.cell (p := ⟨_, _, none⟩) (by first | exact hz | (simp; omega))).trans h6, (hb.cell (p := ⟨_, _, none⟩) (by first | exact hz | (simp; omega))).trans h7, (hb.cell (p := ⟨_, _, none⟩) (by first | exact hz | (simp; omega))).trans h8, Nat.lt_of_lt_of_le hz hb.size⟩

/-- Whether the one stamp is older. -/
def older (x y u v : Int) : Bool := decide (x < u ∨ x = u ∧ y < v)
theorem less_older (x y u v : Int) (w : World) : Calls Tryd.prog 19 #[.agg #[.int .i64 x, .int .i64 y], .agg #[.int .i64 u, .int .i64 v]] w fun e w' => e = .returned (.bool (older x y u v)) ∧ Below w.heap.size w w' := less_calls x y u v w

set_option maxRecDepth 100000 in
set_option maxHeartbeats 2000000 in
theorem setups_ok_lt (n m : Nat) (p q x y u v : Int) (bk : Bool) (w : World) (hn : 1 ≤ n) (hn7 : n ≤ 7) (hm : 1 ≤ m) (hm8 : m ≤ 8) (hE : ErrType w) (h : sc n m p q = 0) (o1 : x < u) :
    Calls Tryd.prog 5 #[.agg #[.int .i64 n, .int .i64 m, .int .i64 p, .int .i64 q, .bool bk], .agg #[.int .i64 x, .int .i64 y], .agg #[.int .i64 u, .int .i64 v]] w fun e w' => e = .returned (.bool true) ∧ Below w.heap.size w w' := by
  skip
  have H := hid h
  clear h
  have ho : older x y u v = true := by unfold older; rw [decide_eq_true_eq]; omega
  have O := hid ho
  clear ho
  have d1 : decide (x < u) = true := by simpa using o1
  have HE := hid hE
  clear hE
  go_enter Tryd.func5, Tryd.ntmps5
  go_wp2_with fail
  refine (setup_calls (n : Int) (m : Int) p q bk _).mono ?_
  rintro e w1 ⟨rfl, b1⟩
  rw [H.out]
  have D1 : Below w.heap.size w w1 := below_next (by repeat (first | exact Below.refl _ _ | apply below_alloc)) b1
  have s1 : w1.cell? ⟨w.heap.size, 0, none⟩ = some (.int .i64 n) ∧ w1.cell? ⟨w.heap.size, 1, none⟩ = some (.int .i64 m) ∧ w1.cell? ⟨w.heap.size, 2, none⟩ = some (.int .i64 p) ∧ w1.cell? ⟨w.heap.size, 3, none⟩ = some (.int .i64 q) ∧ w1.cell? ⟨w.heap.size, 4, none⟩ = some (.bool bk) ∧ w1.cell? ⟨w.heap.size + 1, 0, none⟩ = some (.int .i64 x) ∧ w1.cell? ⟨w.heap.size + 1, 1, none⟩ = some (.int .i64 y) ∧ w1.cell? ⟨w.heap.size + 1 + 1, 0, none⟩ = some (.int .i64 u) ∧ w1.cell? ⟨w.heap.size + 1 + 1, 1, none⟩ = some (.int .i64 v) ∧ w.heap.size + 1 + 1 < w1.heap.size := boxes b1 (by simp [go_sem])
  clear b1
  obtain ⟨c0, c1, c2, c3, c4, c5, c6, c7, c8, cz⟩ := s1
  go_wp2_with fail
  refine (new_ok n m p q bk _ hn hn7 hm hm8 H.out).mono ?_
  rintro e w2 ⟨⟨px, rfl⟩, b2⟩
  have D2 := below_next D1 b2
  have s2 := boxes b2 ⟨c0, c1, c2, c3, c4, c5, c6, c7, c8, cz⟩
  clear c0 c1 c2 c3 c4 c5 c6 c7 c8 cz b2
  go_wp2_with fail
  obtain ⟨c0, c1, c2, c3, c4, c5, c6, c7, c8, cz⟩ := s2
  have k0 := cell_regrown c0
  have k1 := cell_regrown c1
  have k2 := cell_regrown c2
  have k3 := cell_regrown c3
  have k4 := cell_regrown c4
  have k5 := cell_regrown c5
  have k6 := cell_regrown c6
  have k7 := cell_regrown c7
  have k8 := cell_regrown c8
  have E2 : ErrType w2 := HE.out.later D2
  have cC := fun (d : Nat) (os : Array Obj) => Calls.regrown_of (scheck_ok (n : Int) (m : Int) p q bk (Sort.grow (redrawn w2 d) os) H.out)
  have cB := fun (d : Nat) (os : Array Obj) => Calls.regrown_of (bare_nil 0 (Sort.grow (redrawn w2 d) os))
  have cL := fun (d : Nat) (os : Array Obj) => Calls.regrown_of (less_older x y u v (Sort.grow (redrawn w2 d) os))
  simp only [O.out] at cL
  simp only [beq_self_eq_true] at cB
  clear c0 c1 c2 c3 c4 c5 c6 c7 c8 cz
  refine wp_region_quiet_below (by kernel_rfl) (by kernel_rfl) ?_
  repeat (go_big_quiet_step (first | (go_at_call 18; exact cC _ _) | (go_at_call 12; exact cB _ _) | (go_at_call 19; exact cL _ _)))
  refine wpQuiet_nil ?_
  intro _ hw'
  obtain ⟨⟨dq, osq⟩, hw''⟩ := hw'
  subst hw''
  go_wp2
  go_ret
  exact ⟨rfl, below_grow D2 _ _⟩

set_option maxRecDepth 100000 in
set_option maxHeartbeats 2000000 in
theorem setups_ok_eqlt (n m : Nat) (p q x y v : Int) (bk : Bool) (w : World) (hn : 1 ≤ n) (hn7 : n ≤ 7) (hm : 1 ≤ m) (hm8 : m ≤ 8) (hE : ErrType w) (h : sc n m p q = 0) (o2 : y < v) :
    Calls Tryd.prog 5 #[.agg #[.int .i64 n, .int .i64 m, .int .i64 p, .int .i64 q, .bool bk], .agg #[.int .i64 x, .int .i64 y], .agg #[.int .i64 x, .int .i64 v]] w fun e w' => e = .returned (.bool true) ∧ Below w.heap.size w w' := by
  skip
  have H := hid h
  clear h
  have ho : older x y x v = true := by unfold older; rw [decide_eq_true_eq]; omega
  have O := hid ho
  clear ho
  have d1 : decide (x < x) = false := by simp
  have d2 : (x == x) = true := by simp
  have d3 : decide (y < v) = true := by simpa using o2
  have HE := hid hE
  clear hE
  go_enter Tryd.func5, Tryd.ntmps5
  go_wp2_with fail
  refine (setup_calls (n : Int) (m : Int) p q bk _).mono ?_
  rintro e w1 ⟨rfl, b1⟩
  rw [H.out]
  have D1 : Below w.heap.size w w1 := below_next (by repeat (first | exact Below.refl _ _ | apply below_alloc)) b1
  have s1 : w1.cell? ⟨w.heap.size, 0, none⟩ = some (.int .i64 n) ∧ w1.cell? ⟨w.heap.size, 1, none⟩ = some (.int .i64 m) ∧ w1.cell? ⟨w.heap.size, 2, none⟩ = some (.int .i64 p) ∧ w1.cell? ⟨w.heap.size, 3, none⟩ = some (.int .i64 q) ∧ w1.cell? ⟨w.heap.size, 4, none⟩ = some (.bool bk) ∧ w1.cell? ⟨w.heap.size + 1, 0, none⟩ = some (.int .i64 x) ∧ w1.cell? ⟨w.heap.size + 1, 1, none⟩ = some (.int .i64 y) ∧ w1.cell? ⟨w.heap.size + 1 + 1, 0, none⟩ = some (.int .i64 x) ∧ w1.cell? ⟨w.heap.size + 1 + 1, 1, none⟩ = some (.int .i64 v) ∧ w.heap.size + 1 + 1 < w1.heap.size := boxes b1 (by simp [go_sem])
  clear b1
  obtain ⟨c0, c1, c2, c3, c4, c5, c6, c7, c8, cz⟩ := s1
  go_wp2_with fail
  refine (new_ok n m p q bk _ hn hn7 hm hm8 H.out).mono ?_
  rintro e w2 ⟨⟨px, rfl⟩, b2⟩
  have D2 := below_next D1 b2
  have s2 := boxes b2 ⟨c0, c1, c2, c3, c4, c5, c6, c7, c8, cz⟩
  clear c0 c1 c2 c3 c4 c5 c6 c7 c8 cz b2
  go_wp2_with fail
  obtain ⟨c0, c1, c2, c3, c4, c5, c6, c7, c8, cz⟩ := s2
  have k0 := cell_regrown c0
  have k1 := cell_regrown c1
  have k2 := cell_regrown c2
  have k3 := cell_regrown c3
  have k4 := cell_regrown c4
  have k5 := cell_regrown c5
  have k6 := cell_regrown c6
  have k7 := cell_regrown c7
  have k8 := cell_regrown c8
  have E2 : ErrType w2 := HE.out.later D2
  have cC := fun (d : Nat) (os : Array Obj) => Calls.regrown_of (scheck_ok (n : Int) (m : Int) p q bk (Sort.grow (redrawn w2 d) os) H.out)
  have cB := fun (d : Nat) (os : Array Obj) => Calls.regrown_of (bare_nil 0 (Sort.grow (redrawn w2 d) os))
  have cL := fun (d : Nat) (os : Array Obj) => Calls.regrown_of (less_older x y x v (Sort.grow (redrawn w2 d) os))
  simp only [O.out] at cL
  simp only [beq_self_eq_true] at cB
  clear c0 c1 c2 c3 c4 c5 c6 c7 c8 cz
  refine wp_region_quiet_below (by kernel_rfl) (by kernel_rfl) ?_
  repeat (go_big_quiet_step (first | (go_at_call 18; exact cC _ _) | (go_at_call 12; exact cB _ _) | (go_at_call 19; exact cL _ _)))
  refine wpQuiet_nil ?_
  intro _ hw'
  obtain ⟨⟨dq, osq⟩, hw''⟩ := hw'
  subst hw''
  go_wp2
  go_ret
  exact ⟨rfl, below_grow D2 _ _⟩

set_option maxRecDepth 100000 in
set_option maxHeartbeats 2000000 in
theorem setups_ok_eqge (n m : Nat) (p q x y v : Int) (bk : Bool) (w : World) (hn : 1 ≤ n) (hn7 : n ≤ 7) (hm : 1 ≤ m) (hm8 : m ≤ 8) (hE : ErrType w) (h : sc n m p q = 0) (o2 : v ≤ y) :
    Calls Tryd.prog 5 #[.agg #[.int .i64 n, .int .i64 m, .int .i64 p, .int .i64 q, .bool bk], .agg #[.int .i64 x, .int .i64 y], .agg #[.int .i64 x, .int .i64 v]] w fun e w' => e = .returned (.bool true) ∧ Below w.heap.size w w' := by
  skip
  have H := hid h
  clear h
  have ho : older x y x v = false := by unfold older; rw [decide_eq_false_iff_not]; omega
  have O := hid ho
  clear ho
  have d1 : decide (x < x) = false := by simp
  have d2 : (x == x) = true := by simp
  have d3 : decide (y < v) = false := by simp; omega
  have HE := hid hE
  clear hE
  go_enter Tryd.func5, Tryd.ntmps5
  go_wp2_with fail
  refine (setup_calls (n : Int) (m : Int) p q bk _).mono ?_
  rintro e w1 ⟨rfl, b1⟩
  rw [H.out]
  have D1 : Below w.heap.size w w1 := below_next (by repeat (first | exact Below.refl _ _ | apply below_alloc)) b1
  have s1 : w1.cell? ⟨w.heap.size, 0, none⟩ = some (.int .i64 n) ∧ w1.cell? ⟨w.heap.size, 1, none⟩ = some (.int .i64 m) ∧ w1.cell? ⟨w.heap.size, 2, none⟩ = some (.int .i64 p) ∧ w1.cell? ⟨w.heap.size, 3, none⟩ = some (.int .i64 q) ∧ w1.cell? ⟨w.heap.size, 4, none⟩ = some (.bool bk) ∧ w1.cell? ⟨w.heap.size + 1, 0, none⟩ = some (.int .i64 x) ∧ w1.cell? ⟨w.heap.size + 1, 1, none⟩ = some (.int .i64 y) ∧ w1.cell? ⟨w.heap.size + 1 + 1, 0, none⟩ = some (.int .i64 x) ∧ w1.cell? ⟨w.heap.size + 1 + 1, 1, none⟩ = some (.int .i64 v) ∧ w.heap.size + 1 + 1 < w1.heap.size := boxes b1 (by simp [go_sem])
  clear b1
  obtain ⟨c0, c1, c2, c3, c4, c5, c6, c7, c8, cz⟩ := s1
  go_wp2_with fail
  refine (new_ok n m p q bk _ hn hn7 hm hm8 H.out).mono ?_
  rintro e w2 ⟨⟨px, rfl⟩, b2⟩
  have D2 := below_next D1 b2
  have s2 := boxes b2 ⟨c0, c1, c2, c3, c4, c5, c6, c7, c8, cz⟩
  clear c0 c1 c2 c3 c4 c5 c6 c7 c8 cz b2
  go_wp2_with fail
  obtain ⟨c0, c1, c2, c3, c4, c5, c6, c7, c8, cz⟩ := s2
  have k0 := cell_regrown c0
  have k1 := cell_regrown c1
  have k2 := cell_regrown c2
  have k3 := cell_regrown c3
  have k4 := cell_regrown c4
  have k5 := cell_regrown c5
  have k6 := cell_regrown c6
  have k7 := cell_regrown c7
  have k8 := cell_regrown c8
  have E2 : ErrType w2 := HE.out.later D2
  have cC := fun (d : Nat) (os : Array Obj) => Calls.regrown_of (scheck_ok (n : Int) (m : Int) p q bk (Sort.grow (redrawn w2 d) os) H.out)
  have cB := fun (d : Nat) (os : Array Obj) => Calls.regrown_of (bare_nil 0 (Sort.grow (redrawn w2 d) os))
  have cL := fun (d : Nat) (os : Array Obj) => Calls.regrown_of (less_older x y x v (Sort.grow (redrawn w2 d) os))
  simp only [O.out] at cL
  simp only [beq_self_eq_true] at cB
  clear c0 c1 c2 c3 c4 c5 c6 c7 c8 cz
  refine wp_region_quiet_below (by kernel_rfl) (by kernel_rfl) ?_
  repeat (go_big_quiet_step (first | (go_at_call 18; exact cC _ _) | (go_at_call 12; exact cB _ _) | (go_at_call 19; exact cL _ _)))
  refine wpQuiet_nil ?_
  intro _ hw'
  obtain ⟨⟨dq, osq⟩, hw''⟩ := hw'
  subst hw''
  go_wp2
  go_ret
  exact ⟨rfl, below_grow D2 _ _⟩

set_option maxRecDepth 100000 in
set_option maxHeartbeats 2000000 in
theorem setups_ok_gt (n m : Nat) (p q x y u v : Int) (bk : Bool) (w : World) (hn : 1 ≤ n) (hn7 : n ≤ 7) (hm : 1 ≤ m) (hm8 : m ≤ 8) (hE : ErrType w) (h : sc n m p q = 0) (o1 : u < x) :
    Calls Tryd.prog 5 #[.agg #[.int .i64 n, .int .i64 m, .int .i64 p, .int .i64 q, .bool bk], .agg #[.int .i64 x, .int .i64 y], .agg #[.int .i64 u, .int .i64 v]] w fun e w' => e = .returned (.bool true) ∧ Below w.heap.size w w' := by
  skip
  have H := hid h
  clear h
  have ho : older x y u v = false := by unfold older; rw [decide_eq_false_iff_not]; omega
  have O := hid ho
  clear ho
  have d1 : decide (x < u) = false := by simp; omega
  have d2 : (x == u) = false := by simp; omega
  have HE := hid hE
  clear hE
  go_enter Tryd.func5, Tryd.ntmps5
  go_wp2_with fail
  refine (setup_calls (n : Int) (m : Int) p q bk _).mono ?_
  rintro e w1 ⟨rfl, b1⟩
  rw [H.out]
  have D1 : Below w.heap.size w w1 := below_next (by repeat (first | exact Below.refl _ _ | apply below_alloc)) b1
  have s1 : w1.cell? ⟨w.heap.size, 0, none⟩ = some (.int .i64 n) ∧ w1.cell? ⟨w.heap.size, 1, none⟩ = some (.int .i64 m) ∧ w1.cell? ⟨w.heap.size, 2, none⟩ = some (.int .i64 p) ∧ w1.cell? ⟨w.heap.size, 3, none⟩ = some (.int .i64 q) ∧ w1.cell? ⟨w.heap.size, 4, none⟩ = some (.bool bk) ∧ w1.cell? ⟨w.heap.size + 1, 0, none⟩ = some (.int .i64 x) ∧ w1.cell? ⟨w.heap.size + 1, 1, none⟩ = some (.int .i64 y) ∧ w1.cell? ⟨w.heap.size + 1 + 1, 0, none⟩ = some (.int .i64 u) ∧ w1.cell? ⟨w.heap.size + 1 + 1, 1, none⟩ = some (.int .i64 v) ∧ w.heap.size + 1 + 1 < w1.heap.size := boxes b1 (by simp [go_sem])
  clear b1
  obtain ⟨c0, c1, c2, c3, c4, c5, c6, c7, c8, cz⟩ := s1
  go_wp2_with fail
  refine (new_ok n m p q bk _ hn hn7 hm hm8 H.out).mono ?_
  rintro e w2 ⟨⟨px, rfl⟩, b2⟩
  have D2 := below_next D1 b2
  have s2 := boxes b2 ⟨c0, c1, c2, c3, c4, c5, c6, c7, c8, cz⟩
  clear c0 c1 c2 c3 c4 c5 c6 c7 c8 cz b2
  go_wp2_with fail
  obtain ⟨c0, c1, c2, c3, c4, c5, c6, c7, c8, cz⟩ := s2
  have k0 := cell_regrown c0
  have k1 := cell_regrown c1
  have k2 := cell_regrown c2
  have k3 := cell_regrown c3
  have k4 := cell_regrown c4
  have k5 := cell_regrown c5
  have k6 := cell_regrown c6
  have k7 := cell_regrown c7
  have k8 := cell_regrown c8
  have E2 : ErrType w2 := HE.out.later D2
  have cC := fun (d : Nat) (os : Array Obj) => Calls.regrown_of (scheck_ok (n : Int) (m : Int) p q bk (Sort.grow (redrawn w2 d) os) H.out)
  have cB := fun (d : Nat) (os : Array Obj) => Calls.regrown_of (bare_nil 0 (Sort.grow (redrawn w2 d) os))
  have cL := fun (d : Nat) (os : Array Obj) => Calls.regrown_of (less_older x y u v (Sort.grow (redrawn w2 d) os))
  simp only [O.out] at cL
  simp only [beq_self_eq_true] at cB
  clear c0 c1 c2 c3 c4 c5 c6 c7 c8 cz
  refine wp_region_quiet_below (by kernel_rfl) (by kernel_rfl) ?_
  repeat (go_big_quiet_step (first | (go_at_call 18; exact cC _ _) | (go_at_call 12; exact cB _ _) | (go_at_call 19; exact cL _ _)))
  refine wpQuiet_nil ?_
  intro _ hw'
  obtain ⟨⟨dq, osq⟩, hw''⟩ := hw'
  subst hw''
  go_wp2
  go_ret
  exact ⟨rfl, below_grow D2 _ _⟩

set_option maxRecDepth 100000 in
set_option maxHeartbeats 2000000 in
theorem setups_bad_lt (n m p q x y u v : Int) (bk : Bool) (w : World) (hE : ErrType w) (h : ¬ sc n m p q = 0) (o1 : x < u) :
    Calls Tryd.prog 5 #[.agg #[.int .i64 n, .int .i64 m, .int .i64 p, .int .i64 q, .bool bk], .agg #[.int .i64 x, .int .i64 y], .agg #[.int .i64 u, .int .i64 v]] w fun e w' => e = .returned (.bool true) ∧ Below w.heap.size w w' := by
  have d0 : (sc n m p q == 0) = false := by simpa using h
  have H := hid h
  clear h
  have ho : older x y u v = true := by unfold older; rw [decide_eq_true_eq]; omega
  have O := hid ho
  clear ho
  have d1 : decide (x < u) = true := by simpa using o1
  have HE := hid hE
  clear hE
  go_enter Tryd.func5, Tryd.ntmps5
  go_wp2_with fail
  refine (setup_calls n m p q bk _).mono ?_
  rintro e w1 ⟨rfl, b1⟩
  skip
  have D1 : Below w.heap.size w w1 := below_next (by repeat (first | exact Below.refl _ _ | apply below_alloc)) b1
  have s1 : w1.cell? ⟨w.heap.size, 0, none⟩ = some (.int .i64 n) ∧ w1.cell? ⟨w.heap.size, 1, none⟩ = some (.int .i64 m) ∧ w1.cell? ⟨w.heap.size, 2, none⟩ = some (.int .i64 p) ∧ w1.cell? ⟨w.heap.size, 3, none⟩ = some (.int .i64 q) ∧ w1.cell? ⟨w.heap.size, 4, none⟩ = some (.bool bk) ∧ w1.cell? ⟨w.heap.size + 1, 0, none⟩ = some (.int .i64 x) ∧ w1.cell? ⟨w.heap.size + 1, 1, none⟩ = some (.int .i64 y) ∧ w1.cell? ⟨w.heap.size + 1 + 1, 0, none⟩ = some (.int .i64 u) ∧ w1.cell? ⟨w.heap.size + 1 + 1, 1, none⟩ = some (.int .i64 v) ∧ w.heap.size + 1 + 1 < w1.heap.size := boxes b1 (by simp [go_sem])
  clear b1
  obtain ⟨c0, c1, c2, c3, c4, c5, c6, c7, c8, cz⟩ := s1
  go_wp2_with fail
  refine (new_bad n m p q bk _ H.out).mono ?_
  rintro e w2 ⟨rfl, b2⟩
  have D2 := below_next D1 b2
  have s2 := boxes b2 ⟨c0, c1, c2, c3, c4, c5, c6, c7, c8, cz⟩
  clear c0 c1 c2 c3 c4 c5 c6 c7 c8 cz b2
  go_wp2_with fail
  obtain ⟨c0, c1, c2, c3, c4, c5, c6, c7, c8, cz⟩ := s2
  have k0 := cell_regrown c0
  have k1 := cell_regrown c1
  have k2 := cell_regrown c2
  have k3 := cell_regrown c3
  have k4 := cell_regrown c4
  have k5 := cell_regrown c5
  have k6 := cell_regrown c6
  have k7 := cell_regrown c7
  have k8 := cell_regrown c8
  have E2 : ErrType w2 := HE.out.later D2
  have cC := fun (d : Nat) (os : Array Obj) => Calls.regrown_of (scheck_bad n m p q bk (Sort.grow (redrawn w2 d) os) H.out)
  have cB := fun (d : Nat) (os : Array Obj) => Calls.regrown_of (bare_errno (sc n m p q) (sc n m p q) (Sort.grow (redrawn w2 d) os) (E2.later (below_regrown w2 d os)))
  have cL := fun (d : Nat) (os : Array Obj) => Calls.regrown_of (less_older x y u v (Sort.grow (redrawn w2 d) os))
  simp only [O.out] at cL
  simp only [beq_self_eq_true] at cB
  clear c0 c1 c2 c3 c4 c5 c6 c7 c8 cz
  refine wp_region_quiet_below (by kernel_rfl) (by kernel_rfl) ?_
  repeat (go_big_quiet_step (first | (go_at_call 18; exact cC _ _) | (go_at_call 12; exact cB _ _) | (go_at_call 19; exact cL _ _)))
  refine wpQuiet_nil ?_
  intro _ hw'
  obtain ⟨⟨dq, osq⟩, hw''⟩ := hw'
  subst hw''
  go_wp2
  go_ret
  exact ⟨rfl, below_grow D2 _ _⟩

set_option maxRecDepth 100000 in
set_option maxHeartbeats 2000000 in
theorem setups_bad_eqlt (n m p q x y v : Int) (bk : Bool) (w : World) (hE : ErrType w) (h : ¬ sc n m p q = 0) (o2 : y < v) :
    Calls Tryd.prog 5 #[.agg #[.int .i64 n, .int .i64 m, .int .i64 p, .int .i64 q, .bool bk], .agg #[.int .i64 x, .int .i64 y], .agg #[.int .i64 x, .int .i64 v]] w fun e w' => e = .returned (.bool true) ∧ Below w.heap.size w w' := by
  have d0 : (sc n m p q == 0) = false := by simpa using h
  have H := hid h
  clear h
  have ho : older x y x v = true := by unfold older; rw [decide_eq_true_eq]; omega
  have O := hid ho
  clear ho
  have d1 : decide (x < x) = false := by simp
  have d2 : (x == x) = true := by simp
  have d3 : decide (y < v) = true := by simpa using o2
  have HE := hid hE
  clear hE
  go_enter Tryd.func5, Tryd.ntmps5
  go_wp2_with fail
  refine (setup_calls n m p q bk _).mono ?_
  rintro e w1 ⟨rfl, b1⟩
  skip
  have D1 : Below w.heap.size w w1 := below_next (by repeat (first | exact Below.refl _ _ | apply below_alloc)) b1
  have s1 : w1.cell? ⟨w.heap.size, 0, none⟩ = some (.int .i64 n) ∧ w1.cell? ⟨w.heap.size, 1, none⟩ = some (.int .i64 m) ∧ w1.cell? ⟨w.heap.size, 2, none⟩ = some (.int .i64 p) ∧ w1.cell? ⟨w.heap.size, 3, none⟩ = some (.int .i64 q) ∧ w1.cell? ⟨w.heap.size, 4, none⟩ = some (.bool bk) ∧ w1.cell? ⟨w.heap.size + 1, 0, none⟩ = some (.int .i64 x) ∧ w1.cell? ⟨w.heap.size + 1, 1, none⟩ = some (.int .i64 y) ∧ w1.cell? ⟨w.heap.size + 1 + 1, 0, none⟩ = some (.int .i64 x) ∧ w1.cell? ⟨w.heap.size + 1 + 1, 1, none⟩ = some (.int .i64 v) ∧ w.heap.size + 1 + 1 < w1.heap.size := boxes b1 (by simp [go_sem])
  clear b1
  obtain ⟨c0, c1, c2, c3, c4, c5, c6, c7, c8, cz⟩ := s1
  go_wp2_with fail
  refine (new_bad n m p q bk _ H.out).mono ?_
  rintro e w2 ⟨rfl, b2⟩
  have D2 := below_next D1 b2
  have s2 := boxes b2 ⟨c0, c1, c2, c3, c4, c5, c6, c7, c8, cz⟩
  clear c0 c1 c2 c3 c4 c5 c6 c7 c8 cz b2
  go_wp2_with fail
  obtain ⟨c0, c1, c2, c3, c4, c5, c6, c7, c8, cz⟩ := s2
  have k0 := cell_regrown c0
  have k1 := cell_regrown c1
  have k2 := cell_regrown c2
  have k3 := cell_regrown c3
  have k4 := cell_regrown c4
  have k5 := cell_regrown c5
  have k6 := cell_regrown c6
  have k7 := cell_regrown c7
  have k8 := cell_regrown c8
  have E2 : ErrType w2 := HE.out.later D2
  have cC := fun (d : Nat) (os : Array Obj) => Calls.regrown_of (scheck_bad n m p q bk (Sort.grow (redrawn w2 d) os) H.out)
  have cB := fun (d : Nat) (os : Array Obj) => Calls.regrown_of (bare_errno (sc n m p q) (sc n m p q) (Sort.grow (redrawn w2 d) os) (E2.later (below_regrown w2 d os)))
  have cL := fun (d : Nat) (os : Array Obj) => Calls.regrown_of (less_older x y x v (Sort.grow (redrawn w2 d) os))
  simp only [O.out] at cL
  simp only [beq_self_eq_true] at cB
  clear c0 c1 c2 c3 c4 c5 c6 c7 c8 cz
  refine wp_region_quiet_below (by kernel_rfl) (by kernel_rfl) ?_
  repeat (go_big_quiet_step (first | (go_at_call 18; exact cC _ _) | (go_at_call 12; exact cB _ _) | (go_at_call 19; exact cL _ _)))
  refine wpQuiet_nil ?_
  intro _ hw'
  obtain ⟨⟨dq, osq⟩, hw''⟩ := hw'
  subst hw''
  go_wp2
  go_ret
  exact ⟨rfl, below_grow D2 _ _⟩

set_option maxRecDepth 100000 in
set_option maxHeartbeats 2000000 in
theorem setups_bad_eqge (n m p q x y v : Int) (bk : Bool) (w : World) (hE : ErrType w) (h : ¬ sc n m p q = 0) (o2 : v ≤ y) :
    Calls Tryd.prog 5 #[.agg #[.int .i64 n, .int .i64 m, .int .i64 p, .int .i64 q, .bool bk], .agg #[.int .i64 x, .int .i64 y], .agg #[.int .i64 x, .int .i64 v]] w fun e w' => e = .returned (.bool true) ∧ Below w.heap.size w w' := by
  have d0 : (sc n m p q == 0) = false := by simpa using h
  have H := hid h
  clear h
  have ho : older x y x v = false := by unfold older; rw [decide_eq_false_iff_not]; omega
  have O := hid ho
  clear ho
  have d1 : decide (x < x) = false := by simp
  have d2 : (x == x) = true := by simp
  have d3 : decide (y < v) = false := by simp; omega
  have HE := hid hE
  clear hE
  go_enter Tryd.func5, Tryd.ntmps5
  go_wp2_with fail
  refine (setup_calls n m p q bk _).mono ?_
  rintro e w1 ⟨rfl, b1⟩
  skip
  have D1 : Below w.heap.size w w1 := below_next (by repeat (first | exact Below.refl _ _ | apply below_alloc)) b1
  have s1 : w1.cell? ⟨w.heap.size, 0, none⟩ = some (.int .i64 n) ∧ w1.cell? ⟨w.heap.size, 1, none⟩ = some (.int .i64 m) ∧ w1.cell? ⟨w.heap.size, 2, none⟩ = some (.int .i64 p) ∧ w1.cell? ⟨w.heap.size, 3, none⟩ = some (.int .i64 q) ∧ w1.cell? ⟨w.heap.size, 4, none⟩ = some (.bool bk) ∧ w1.cell? ⟨w.heap.size + 1, 0, none⟩ = some (.int .i64 x) ∧ w1.cell? ⟨w.heap.size + 1, 1, none⟩ = some (.int .i64 y) ∧ w1.cell? ⟨w.heap.size + 1 + 1, 0, none⟩ = some (.int .i64 x) ∧ w1.cell? ⟨w.heap.size + 1 + 1, 1, none⟩ = some (.int .i64 v) ∧ w.heap.size + 1 + 1 < w1.heap.size := boxes b1 (by simp [go_sem])
  clear b1
  obtain ⟨c0, c1, c2, c3, c4, c5, c6, c7, c8, cz⟩ := s1
  go_wp2_with fail
  refine (new_bad n m p q bk _ H.out).mono ?_
  rintro e w2 ⟨rfl, b2⟩
  have D2 := below_next D1 b2
  have s2 := boxes b2 ⟨c0, c1, c2, c3, c4, c5, c6, c7, c8, cz⟩
  clear c0 c1 c2 c3 c4 c5 c6 c7 c8 cz b2
  go_wp2_with fail
  obtain ⟨c0, c1, c2, c3, c4, c5, c6, c7, c8, cz⟩ := s2
  have k0 := cell_regrown c0
  have k1 := cell_regrown c1
  have k2 := cell_regrown c2
  have k3 := cell_regrown c3
  have k4 := cell_regrown c4
  have k5 := cell_regrown c5
  have k6 := cell_regrown c6
  have k7 := cell_regrown c7
  have k8 := cell_regrown c8
  have E2 : ErrType w2 := HE.out.later D2
  have cC := fun (d : Nat) (os : Array Obj) => Calls.regrown_of (scheck_bad n m p q bk (Sort.grow (redrawn w2 d) os) H.out)
  have cB := fun (d : Nat) (os : Array Obj) => Calls.regrown_of (bare_errno (sc n m p q) (sc n m p q) (Sort.grow (redrawn w2 d) os) (E2.later (below_regrown w2 d os)))
  have cL := fun (d : Nat) (os : Array Obj) => Calls.regrown_of (less_older x y x v (Sort.grow (redrawn w2 d) os))
  simp only [O.out] at cL
  simp only [beq_self_eq_true] at cB
  clear c0 c1 c2 c3 c4 c5 c6 c7 c8 cz
  refine wp_region_quiet_below (by kernel_rfl) (by kernel_rfl) ?_
  repeat (go_big_quiet_step (first | (go_at_call 18; exact cC _ _) | (go_at_call 12; exact cB _ _) | (go_at_call 19; exact cL _ _)))
  refine wpQuiet_nil ?_
  intro _ hw'
  obtain ⟨⟨dq, osq⟩, hw''⟩ := hw'
  subst hw''
  go_wp2
  go_ret
  exact ⟨rfl, below_grow D2 _ _⟩

set_option maxRecDepth 100000 in
set_option maxHeartbeats 2000000 in
theorem setups_bad_gt (n m p q x y u v : Int) (bk : Bool) (w : World) (hE : ErrType w) (h : ¬ sc n m p q = 0) (o1 : u < x) :
    Calls Tryd.prog 5 #[.agg #[.int .i64 n, .int .i64 m, .int .i64 p, .int .i64 q, .bool bk], .agg #[.int .i64 x, .int .i64 y], .agg #[.int .i64 u, .int .i64 v]] w fun e w' => e = .returned (.bool true) ∧ Below w.heap.size w w' := by
  have d0 : (sc n m p q == 0) = false := by simpa using h
  have H := hid h
  clear h
  have ho : older x y u v = false := by unfold older; rw [decide_eq_false_iff_not]; omega
  have O := hid ho
  clear ho
  have d1 : decide (x < u) = false := by simp; omega
  have d2 : (x == u) = false := by simp; omega
  have HE := hid hE
  clear hE
  go_enter Tryd.func5, Tryd.ntmps5
  go_wp2_with fail
  refine (setup_calls n m p q bk _).mono ?_
  rintro e w1 ⟨rfl, b1⟩
  skip
  have D1 : Below w.heap.size w w1 := below_next (by repeat (first | exact Below.refl _ _ | apply below_alloc)) b1
  have s1 : w1.cell? ⟨w.heap.size, 0, none⟩ = some (.int .i64 n) ∧ w1.cell? ⟨w.heap.size, 1, none⟩ = some (.int .i64 m) ∧ w1.cell? ⟨w.heap.size, 2, none⟩ = some (.int .i64 p) ∧ w1.cell? ⟨w.heap.size, 3, none⟩ = some (.int .i64 q) ∧ w1.cell? ⟨w.heap.size, 4, none⟩ = some (.bool bk) ∧ w1.cell? ⟨w.heap.size + 1, 0, none⟩ = some (.int .i64 x) ∧ w1.cell? ⟨w.heap.size + 1, 1, none⟩ = some (.int .i64 y) ∧ w1.cell? ⟨w.heap.size + 1 + 1, 0, none⟩ = some (.int .i64 u) ∧ w1.cell? ⟨w.heap.size + 1 + 1, 1, none⟩ = some (.int .i64 v) ∧ w.heap.size + 1 + 1 < w1.heap.size := boxes b1 (by simp [go_sem])
  clear b1
  obtain ⟨c0, c1, c2, c3, c4, c5, c6, c7, c8, cz⟩ := s1
  go_wp2_with fail
  refine (new_bad n m p q bk _ H.out).mono ?_
  rintro e w2 ⟨rfl, b2⟩
  have D2 := below_next D1 b2
  have s2 := boxes b2 ⟨c0, c1, c2, c3, c4, c5, c6, c7, c8, cz⟩
  clear c0 c1 c2 c3 c4 c5 c6 c7 c8 cz b2
  go_wp2_with fail
  obtain ⟨c0, c1, c2, c3, c4, c5, c6, c7, c8, cz⟩ := s2
  have k0 := cell_regrown c0
  have k1 := cell_regrown c1
  have k2 := cell_regrown c2
  have k3 := cell_regrown c3
  have k4 := cell_regrown c4
  have k5 := cell_regrown c5
  have k6 := cell_regrown c6
  have k7 := cell_regrown c7
  have k8 := cell_regrown c8
  have E2 : ErrType w2 := HE.out.later D2
  have cC := fun (d : Nat) (os : Array Obj) => Calls.regrown_of (scheck_bad n m p q bk (Sort.grow (redrawn w2 d) os) H.out)
  have cB := fun (d : Nat) (os : Array Obj) => Calls.regrown_of (bare_errno (sc n m p q) (sc n m p q) (Sort.grow (redrawn w2 d) os) (E2.later (below_regrown w2 d os)))
  have cL := fun (d : Nat) (os : Array Obj) => Calls.regrown_of (less_older x y u v (Sort.grow (redrawn w2 d) os))
  simp only [O.out] at cL
  simp only [beq_self_eq_true] at cB
  clear c0 c1 c2 c3 c4 c5 c6 c7 c8 cz
  refine wp_region_quiet_below (by kernel_rfl) (by kernel_rfl) ?_
  repeat (go_big_quiet_step (first | (go_at_call 18; exact cC _ _) | (go_at_call 12; exact cB _ _) | (go_at_call 19; exact cL _ _)))
  refine wpQuiet_nil ?_
  intro _ hw'
  obtain ⟨⟨dq, osq⟩, hw''⟩ := hw'
  subst hw''
  go_wp2
  go_ret
  exact ⟨rfl, below_grow D2 _ _⟩

end Go.Proofs.YtcjmhiimeaphoaaDoor
