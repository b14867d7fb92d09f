/-
  DERIVED. api.Tell, plain.Place, testimonylaw.at and bare: of an error that is nil, or an Errno.
-/
import Derived.Test.YtcjmhiimeaphoaaDoorAs
namespace Go.Proofs.YtcjmhiimeaphoaaDoor
open Go.RowKit Go.Stop

/-- What the listed variable errors.errorType holds. -/
def ErrType (w : World) : Prop := w.cell? ⟨1, 0, none⟩ = some (.iface 105 (.agg #[.pointer (some ⟨2, 30, none⟩)]))

theorem ErrType.later {w w' : World} (h : ErrType w) (hb : Below w.heap.size w w') : ErrType w' :=
  (hb.cell (p := ⟨1, 0, none⟩) (World.block_lt_of_cell? _ _ h)).trans h

theorem tell_nil (w : World) : Calls Tryd.prog 31 #[.nilIface] w fun e w' => e = .returned (.int .i64 0) ∧ w = w' := by
  go_enter Tryd.func31, Tryd.ntmps31
  go_wp2
  go_ret
  exact ⟨rfl, rfl⟩

set_option maxHeartbeats 1000000 in
theorem tell_errno (c : Int) (w : World) (hg : ErrType w) : Calls Tryd.prog 31 #[.iface 32 (.int .i64 c)] w fun e w' => e = .returned (.int .i64 c) ∧ Below w.heap.size w w' := by
  have HG := hid hg
  have hlt : 1 < w.heap.size := World.block_lt_of_cell? _ _ hg
  clear hg
  go_enter Tryd.func31, Tryd.ntmps31
  go_wp2_with fail
  refine (as_hit c _ (.int .i64 0) _ ((World.cell?_alloc_lt _ _ ⟨1, 0, none⟩ hlt).trans HG.out) (by simp [go_sem]) (by simp [go_sem])).mono ?_
  rintro e w1 ⟨rfl, rfl⟩
  go_wp2_with fail
  go_ret
  exact ⟨rfl, by repeat (first | exact Below.refl _ _ | apply Below.drew | apply below_alloc)⟩

theorem place_nil (w : World) : Calls Tryd.prog 30 #[.nilIface] w fun e w' => e = .returned (.tuple #[.int .i64 0, .int .i64 (-1)]) ∧ w = w' := by
  go_enter Tryd.func30, Tryd.ntmps30
  go_wp2_with (go_at_call 31; refine (tell_nil _).mono ?_; rintro e w1 ⟨rfl, rfl⟩)
  go_rounds 1
  go_ret2
  exact ⟨rfl, rfl⟩

set_option maxRecDepth 100000 in
set_option maxHeartbeats 1000000 in
theorem place_errno (c : Int) (w : World) (hg : ErrType w) : Calls Tryd.prog 30 #[.iface 32 (.int .i64 c)] w fun e w' => e = .returned (.tuple #[.int .i64 c, .int .i64 (-1)]) ∧ Below w.heap.size w w' := by
  have HG := hid hg
  clear hg
  have t1 : ∀ w : World, (Instr.typeAssert (.iface 32 (.int .i64 c)) 30 83 true).run Tryd.prog w = .ok (.tuple #[.pointer none, .bool false]) w := fun _ => by kernel_rfl
  have t2 : ∀ w : World, (Instr.typeAssert (.iface 32 (.int .i64 c)) 30 86 true).run Tryd.prog w = .ok (.tuple #[.nilIface, .bool false]) w := fun w => run_typeAssert_lacksB Tryd.underlying86 (by kernel_rfl) (by kernel_rfl) (.int .i64 c) 30 w
  go_enter Tryd.func30, Tryd.ntmps30
  go_wp2_with (go_at_call 31; refine (tell_errno c _ HG.out).mono ?_; rintro e w1 ⟨rfl, hb⟩)
  go_rounds 1
  go_ret2
  exact ⟨rfl, hb⟩

/-- Whether an error and its place are those of a fault. -/
def okAt (c d p : Int) : Bool := c == d && (-1 : Int) == p

theorem ret_bool' {a b : Bool} (h : a = b) : Ending.returned (.bool a) = .returned (.bool b) := by rw [h]

set_option maxHeartbeats 1000000 in
theorem at_nil (d p : Int) (w : World) : Calls Tryd.prog 25 #[.nilIface, .agg #[.int .i64 d, .int .i64 p]] w fun e w' => e = .returned (.bool (okAt 0 d p)) ∧ Below w.heap.size w w' := by
  by_cases h1 : 0 = d
  · have H1 := hid h1
    have e1 : ((0 : Int) == d) = true := by rw [h1]; simp
    clear h1
    go_enter Tryd.func25, Tryd.ntmps25
    go_wp2_with (go_at_call 30; refine (place_nil _).mono ?_; rintro e w1 ⟨rfl, rfl⟩)
    go_ret
    exact ⟨ret_bool' (by unfold okAt; rw [e1]; rfl), below_alloc (Below.refl _ _) _⟩
  · have H1 := hid h1
    have e1 : ((0 : Int) == d) = false := by simpa using h1
    clear h1
    go_enter Tryd.func25, Tryd.ntmps25
    go_wp2_with (go_at_call 30; refine (place_nil _).mono ?_; rintro e w1 ⟨rfl, rfl⟩)
    go_ret
    exact ⟨ret_bool' (by unfold okAt; rw [e1]; rfl), below_alloc (Below.refl _ _) _⟩

set_option maxHeartbeats 1000000 in
theorem at_errno (c d p : Int) (w : World) (hg : ErrType w) : Calls Tryd.prog 25 #[.iface 32 (.int .i64 c), .agg #[.int .i64 d, .int .i64 p]] w fun e w' => e = .returned (.bool (okAt c d p)) ∧ Below w.heap.size w w' := by
  have HG := hid hg
  clear hg
  by_cases h1 : c = d
  · have H1 := hid h1
    have e1 : ((c : Int) == d) = true := by rw [h1]; simp
    clear h1
    go_enter Tryd.func25, Tryd.ntmps25
    go_wp2_with (go_at_call 30; refine (place_errno c _ (HG.out.later (below_alloc (Below.refl _ _) _))).mono ?_; rintro e w1 ⟨rfl, hb⟩; have hcell := hb.cell (p := ⟨w.heap.size, 0, none⟩) (by simp); have hcell1 := hb.cell (p := ⟨w.heap.size, 1, none⟩) (by simp); have HB := hid hb; clear hb; simp [go_sem] at hcell hcell1)
    go_ret
    exact ⟨ret_bool' (by unfold okAt; rw [e1]; rfl), below_next (below_alloc (Below.refl _ _) _) HB.out⟩
  · have H1 := hid h1
    have e1 : ((c : Int) == d) = false := by simpa using h1
    clear h1
    go_enter Tryd.func25, Tryd.ntmps25
    go_wp2_with (go_at_call 30; refine (place_errno c _ (HG.out.later (below_alloc (Below.refl _ _) _))).mono ?_; rintro e w1 ⟨rfl, hb⟩; have hcell := hb.cell (p := ⟨w.heap.size, 0, none⟩) (by simp); have hcell1 := hb.cell (p := ⟨w.heap.size, 1, none⟩) (by simp); have HB := hid hb; clear hb; simp [go_sem] at hcell hcell1)
    go_ret
    exact ⟨ret_bool' (by unfold okAt; rw [e1]; rfl), below_next (below_alloc (Below.refl _ _) _) HB.out⟩

theorem bare_nil (d : Int) (w : World) : Calls Tryd.prog 12 #[.nilIface, .int .i64 d] w fun e w' => e = .returned (.bool (0 == d)) ∧ Below w.heap.size w w' := by
  go_enter Tryd.func12, Tryd.ntmps12
  go_wp2_with (go_at_call 25; refine (at_nil d (-1) _).mono ?_; rintro e w1 ⟨rfl, hb⟩)
  go_ret
  exact ⟨ret_bool' (by unfold okAt; simp), hb⟩

theorem bare_errno (c d : Int) (w : World) (hg : ErrType w) : Calls Tryd.prog 12 #[.iface 32 (.int .i64 c), .int .i64 d] w fun e w' => e = .returned (.bool (c == d)) ∧ Below w.heap.size w w' := by
  have HG := hid hg
  clear hg
  go_enter Tryd.func12, Tryd.ntmps12
  go_wp2_with (go_at_call 25; refine (at_errno c d (-1) _ HG.out).mono ?_; rintro e w1 ⟨rfl, hb⟩)
  go_ret
  exact ⟨ret_bool' (by unfold okAt; simp), hb⟩
end Go.Proofs.YtcjmhiimeaphoaaDoor
