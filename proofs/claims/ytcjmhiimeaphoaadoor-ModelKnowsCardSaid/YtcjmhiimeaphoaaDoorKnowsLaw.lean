/-
  DERIVED. ModelKnows: Start, sameInts, the law.
-/
import Derived.Test.YtcjmhiimeaphoaaDoorKnows
import Derived.Test.YtcjmhiimeaphoaaDoorBase
namespace Go.Proofs.YtcjmhiimeaphoaaDoor
open Go.RowKit

theorem start_10_some (o : Int) (w : World) (h : o = 1 ∨ o = 2 ∨ o = 6) : Calls Tryd.prog 10 #[.int .i64 o] w fun e w' => e = .returned (.slice (some ⟨w.heap.size, 0, none⟩) 1 1) ∧ w' = w.alloc (.cells #[.int .i64 0] 3) := by
  rcases h with rfl | rfl | rfl
  all_goals
    go_enter Tryd.func10, Tryd.ntmps10
    go_wp2
    go_ret
    exact ⟨rfl, rfl⟩
theorem start_11_some (o : Int) (w : World) (h : o = 1 ∨ o = 2 ∨ o = 6) : Calls Tryd.prog 11 #[.int .i64 o] w fun e w' => e = .returned (.slice (some ⟨w.heap.size, 0, none⟩) 1 1) ∧ w' = w.alloc (.cells #[.int .i64 0] 3) := by
  rcases h with rfl | rfl | rfl
  all_goals
    go_enter Tryd.func11, Tryd.ntmps11
    go_wp2
    go_ret
    exact ⟨rfl, rfl⟩
theorem start_10_nil (o : Int) (w : World) (n1 : (o == 1) = false) (n2 : (o == 2) = false) (n6 : (o == 6) = false) : Calls Tryd.prog 10 #[.int .i64 o] w fun e w' => e = .returned (.slice none 0 0) ∧ w = w' := by
  go_enter Tryd.func10, Tryd.ntmps10
  go_wp2
  go_ret
  exact ⟨rfl, rfl⟩
theorem start_11_nil (o : Int) (w : World) (n1 : (o == 1) = false) (n2 : (o == 2) = false) (n6 : (o == 6) = false) : Calls Tryd.prog 11 #[.int .i64 o] w fun e w' => e = .returned (.slice none 0 0) ∧ w = w' := by
  go_enter Tryd.func11, Tryd.ntmps11
  go_wp2
  go_ret
  exact ⟨rfl, rfl⟩

theorem same_nil (w : World) : Calls Tryd.prog 9 #[.slice none 0 0, .slice none 0 0] w fun e w' => e = .returned (.bool true) ∧ Below w.heap.size w w' := by
  go_enter Tryd.func9, Tryd.ntmps9
  go_wp2
  go_rounds 1
  go_ret
  exact ⟨rfl, Below.refl _ _⟩

theorem same_one (b c : Nat) (w : World) (hb : w.cell? ⟨b, 0, none⟩ = some (.int .i64 0)) (hc : w.cell? ⟨c, 0, none⟩ = some (.int .i64 0)) :
    Calls Tryd.prog 9 #[.slice (some ⟨b, 0, none⟩) 1 1, .slice (some ⟨c, 0, none⟩) 1 1] w fun e w' => e = .returned (.bool true) ∧ Below w.heap.size w w' := by
  go_enter Tryd.func9, Tryd.ntmps9
  go_wp2
  refine wp_loop_rounds 2 ?_
  rw [rounds_succ]
  go_wp2
  go_quiet (fail)
  go_wp2
  rw [rounds_succ]
  go_wp2
  go_ret
  exact ⟨rfl, ⟨rfl, rfl, rfl, Nat.le_refl _, fun _ _ => rfl⟩⟩

set_option maxHeartbeats 1000000 in
theorem model_law (o k : Int) (w : World) (ht : Table w) : Calls Tryd.prog 3 #[.int .i64 o, .int .i64 k] w fun e w' => e = .returned (.bool true) ∧ Below w.heap.size w w' := by
  have HT : Hid (Table w) := ht
  clear ht
  by_cases h : o = 1 ∨ o = 2 ∨ o = 6
  · have H : Hid (o = 1 ∨ o = 2 ∨ o = 6) := h
    clear h
    go_enter Tryd.func3, Tryd.ntmps3
    go_wp2_with (first | (go_at_call 7; refine (knows_any o k _ HT.out).mono ?_; rintro e w1 ⟨rfl, rfl⟩) | (go_at_call 8; refine (want_any o k _).mono ?_; rintro e w1 ⟨rfl, rfl⟩) | (go_at_call 10; refine (start_10_some o _ H.out).mono ?_; rintro e w1 ⟨rfl, rfl⟩) | (go_at_call 11; refine (start_11_some o _ H.out).mono ?_; rintro e w1 ⟨rfl, rfl⟩) | (go_at_call 9; refine (same_one _ _ _ (by simp [go_sem]) (by simp [go_sem])).mono ?_; rintro e w1 ⟨rfl, hb⟩))
    go_ret
    exact ⟨rfl, below_next (below_alloc (below_alloc (Below.refl _ _) _) _) hb⟩
  · have n1 : (o == 1) = false := by simp; omega
    have n2 : (o == 2) = false := by simp; omega
    have n6 : (o == 6) = false := by simp; omega
    clear h
    go_enter Tryd.func3, Tryd.ntmps3
    go_wp2_with (first | (go_at_call 7; refine (knows_any o k _ HT.out).mono ?_; rintro e w1 ⟨rfl, rfl⟩) | (go_at_call 8; refine (want_any o k _).mono ?_; rintro e w1 ⟨rfl, rfl⟩) | (go_at_call 10; refine (start_10_nil o _ n1 n2 n6).mono ?_; rintro e w1 ⟨rfl, rfl⟩) | (go_at_call 11; refine (start_11_nil o _ n1 n2 n6).mono ?_; rintro e w1 ⟨rfl, rfl⟩) | (go_at_call 9; refine (same_nil _).mono ?_; rintro e w1 ⟨rfl, hb⟩))
    go_ret
    exact ⟨rfl, hb⟩
end Go.Proofs.YtcjmhiimeaphoaaDoor
