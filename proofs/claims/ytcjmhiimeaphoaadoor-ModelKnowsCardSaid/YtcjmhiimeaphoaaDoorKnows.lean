/-
  DERIVED. ModelKnows: the walks of model.Knows, testimonyref.Knows, Start and sameInts.
-/
import Derived.Test.YtcjmhiimeaphoaaDoorRows
import Derived.WalkKit
import Derived.WalkSpells
import Derived.WalkLawsBesides
import Derived.Handy
import Derived.RowKit3
import Derived.BigQuiet
import Derived.Below
namespace Go.Proofs.YtcjmhiimeaphoaaDoor
open Go.RowKit

/-- Which kinds of calls an object knows. -/
def kn (o k : Int) : Bool := decide ((o = 1 ∧ (k = 1 ∨ k = 2 ∨ k = 3)) ∨ (o = 2 ∧ (k = 4 ∨ k = 5)) ∨ (o = 3 ∧ (k = 6 ∨ k = 7 ∨ k = 8)) ∨ ((o = 4 ∨ o = 5) ∧ (k = 9 ∨ k = 10)) ∨ (o = 6 ∧ (k = 11 ∨ k = 12)))

theorem kn_low (o k : Int) (h : o < 1 ∨ 6 < o ∨ k < 1 ∨ 12 < k) : kn o k = false := by unfold kn; rw [decide_eq_false_iff_not]; omega

set_option maxHeartbeats 1000000 in
theorem knows_out (o k : Int) (w : World) (h : o < 1 ∨ 6 < o ∨ k < 1 ∨ 12 < k) :
    Calls Tryd.prog 7 #[.int .i64 o, .int .i64 k] w fun e w' => e = .returned (.bool (kn o k)) ∧ w = w' := by
  have e := kn_low o k h
  have E : Hid (kn o k = false) := e
  clear e
  by_cases h1 : o < 1
  · clear h
    go_enter Tryd.func7, Tryd.ntmps7
    go_wp2
    go_ret
    exact ⟨by rw [E.out]; rfl, rfl⟩
  · by_cases h2 : 6 < o
    · clear h
      go_enter Tryd.func7, Tryd.ntmps7
      go_wp2
      go_ret
      exact ⟨by rw [E.out]; rfl, rfl⟩
    · by_cases h3 : k < 1
      · clear h
        go_enter Tryd.func7, Tryd.ntmps7
        go_wp2
        go_ret
        exact ⟨by rw [E.out]; rfl, rfl⟩
      · have h4 : 12 < k := by omega
        clear h
        go_enter Tryd.func7, Tryd.ntmps7
        go_wp2
        go_ret
        exact ⟨by rw [E.out]; rfl, rfl⟩

theorem ret_bool {a b : Bool} (h : a = b) : Ending.returned (.bool a) = .returned (.bool b) := by rw [h]

theorem knows_1 (k : Int) (w : World) (hc : w.cell? ⟨0, 1, none⟩ = some (.int .i64 14)) (hk : k = 1 ∨ k = 2 ∨ k = 3 ∨ k = 4 ∨ k = 5 ∨ k = 6 ∨ k = 7 ∨ k = 8 ∨ k = 9 ∨ k = 10 ∨ k = 11 ∨ k = 12) :
    Calls Tryd.prog 7 #[.int .i64 1, .int .i64 k] w fun e w' => e = .returned (.bool (kn 1 k)) ∧ w = w' := by
  rcases hk with rfl | rfl | rfl | rfl | rfl | rfl | rfl | rfl | rfl | rfl | rfl | rfl
  all_goals
    go_enter Tryd.func7, Tryd.ntmps7
    go_wp2
    go_ret
    exact ⟨ret_bool (by decide +kernel), rfl⟩

theorem knows_2 (k : Int) (w : World) (hc : w.cell? ⟨0, 2, none⟩ = some (.int .i64 48)) (hk : k = 1 ∨ k = 2 ∨ k = 3 ∨ k = 4 ∨ k = 5 ∨ k = 6 ∨ k = 7 ∨ k = 8 ∨ k = 9 ∨ k = 10 ∨ k = 11 ∨ k = 12) :
    Calls Tryd.prog 7 #[.int .i64 2, .int .i64 k] w fun e w' => e = .returned (.bool (kn 2 k)) ∧ w = w' := by
  rcases hk with rfl | rfl | rfl | rfl | rfl | rfl | rfl | rfl | rfl | rfl | rfl | rfl
  all_goals
    go_enter Tryd.func7, Tryd.ntmps7
    go_wp2
    go_ret
    exact ⟨ret_bool (by decide +kernel), rfl⟩

theorem knows_3 (k : Int) (w : World) (hc : w.cell? ⟨0, 3, none⟩ = some (.int .i64 448)) (hk : k = 1 ∨ k = 2 ∨ k = 3 ∨ k = 4 ∨ k = 5 ∨ k = 6 ∨ k = 7 ∨ k = 8 ∨ k = 9 ∨ k = 10 ∨ k = 11 ∨ k = 12) :
    Calls Tryd.prog 7 #[.int .i64 3, .int .i64 k] w fun e w' => e = .returned (.bool (kn 3 k)) ∧ w = w' := by
  rcases hk with rfl | rfl | rfl | rfl | rfl | rfl | rfl | rfl | rfl | rfl | rfl | rfl
  all_goals
    go_enter Tryd.func7, Tryd.ntmps7
    go_wp2
    go_ret
    exact ⟨ret_bool (by decide +kernel), rfl⟩

theorem knows_4 (k : Int) (w : World) (hc : w.cell? ⟨0, 4, none⟩ = some (.int .i64 1536)) (hk : k = 1 ∨ k = 2 ∨ k = 3 ∨ k = 4 ∨ k = 5 ∨ k = 6 ∨ k = 7 ∨ k = 8 ∨ k = 9 ∨ k = 10 ∨ k = 11 ∨ k = 12) :
    Calls Tryd.prog 7 #[.int .i64 4, .int .i64 k] w fun e w' => e = .returned (.bool (kn 4 k)) ∧ w = w' := by
  rcases hk with rfl | rfl | rfl | rfl | rfl | rfl | rfl | rfl | rfl | rfl | rfl | rfl
  all_goals
    go_enter Tryd.func7, Tryd.ntmps7
    go_wp2
    go_ret
    exact ⟨ret_bool (by decide +kernel), rfl⟩

theorem knows_5 (k : Int) (w : World) (hc : w.cell? ⟨0, 5, none⟩ = some (.int .i64 1536)) (hk : k = 1 ∨ k = 2 ∨ k = 3 ∨ k = 4 ∨ k = 5 ∨ k = 6 ∨ k = 7 ∨ k = 8 ∨ k = 9 ∨ k = 10 ∨ k = 11 ∨ k = 12) :
    Calls Tryd.prog 7 #[.int .i64 5, .int .i64 k] w fun e w' => e = .returned (.bool (kn 5 k)) ∧ w = w' := by
  rcases hk with rfl | rfl | rfl | rfl | rfl | rfl | rfl | rfl | rfl | rfl | rfl | rfl
  all_goals
    go_enter Tryd.func7, Tryd.ntmps7
    go_wp2
    go_ret
    exact ⟨ret_bool (by decide +kernel), rfl⟩

theorem knows_6 (k : Int) (w : World) (hc : w.cell? ⟨0, 6, none⟩ = some (.int .i64 6144)) (hk : k = 1 ∨ k = 2 ∨ k = 3 ∨ k = 4 ∨ k = 5 ∨ k = 6 ∨ k = 7 ∨ k = 8 ∨ k = 9 ∨ k = 10 ∨ k = 11 ∨ k = 12) :
    Calls Tryd.prog 7 #[.int .i64 6, .int .i64 k] w fun e w' => e = .returned (.bool (kn 6 k)) ∧ w = w' := by
  rcases hk with rfl | rfl | rfl | rfl | rfl | rfl | rfl | rfl | rfl | rfl | rfl | rfl
  all_goals
    go_enter Tryd.func7, Tryd.ntmps7
    go_wp2
    go_ret
    exact ⟨ret_bool (by decide +kernel), rfl⟩

/-- What the table of calls holds. -/
def Table (w : World) : Prop := w.cell? ⟨0, 1, none⟩ = some (.int .i64 14) ∧ w.cell? ⟨0, 2, none⟩ = some (.int .i64 48) ∧ w.cell? ⟨0, 3, none⟩ = some (.int .i64 448) ∧ w.cell? ⟨0, 4, none⟩ = some (.int .i64 1536) ∧ w.cell? ⟨0, 5, none⟩ = some (.int .i64 1536) ∧ w.cell? ⟨0, 6, none⟩ = some (.int .i64 6144)

theorem knows_any (o k : Int) (w : World) (ht : Table w) : Calls Tryd.prog 7 #[.int .i64 o, .int .i64 k] w fun e w' => e = .returned (.bool (kn o k)) ∧ w = w' := by
  obtain ⟨t1, t2, t3, t4, t5, t6⟩ := ht
  by_cases h : o < 1 ∨ 6 < o ∨ k < 1 ∨ 12 < k
  · exact knows_out o k w h
  · have hk : k = 1 ∨ k = 2 ∨ k = 3 ∨ k = 4 ∨ k = 5 ∨ k = 6 ∨ k = 7 ∨ k = 8 ∨ k = 9 ∨ k = 10 ∨ k = 11 ∨ k = 12 := by omega
    have ho : o = 1 ∨ o = 2 ∨ o = 3 ∨ o = 4 ∨ o = 5 ∨ o = 6 := by omega
    rcases ho with rfl | rfl | rfl | rfl | rfl | rfl
    · exact knows_1 k w t1 hk
    · exact knows_2 k w t2 hk
    · exact knows_3 k w t3 hk
    · exact knows_4 k w t4 hk
    · exact knows_5 k w t5 hk
    · exact knows_6 k w t6 hk

theorem want_1 (k : Int) (w : World) : Calls Tryd.prog 8 #[.int .i64 1, .int .i64 k] w fun e w' => e = .returned (.bool (kn 1 k)) ∧ w = w' := by
  by_cases h1 : k = 1
  · subst h1
    go_enter Tryd.func8, Tryd.ntmps8
    go_wp2
    go_ret
    exact ⟨ret_bool (by decide +kernel), rfl⟩
  by_cases h2 : k = 2
  · subst h2
    go_enter Tryd.func8, Tryd.ntmps8
    go_wp2
    go_ret
    exact ⟨ret_bool (by decide +kernel), rfl⟩
  by_cases h3 : k = 3
  · subst h3
    go_enter Tryd.func8, Tryd.ntmps8
    go_wp2
    go_ret
    exact ⟨ret_bool (by decide +kernel), rfl⟩
  have hn : kn 1 k = false := by unfold kn; rw [decide_eq_false_iff_not]; omega
  have E : Hid (kn 1 k = false) := hn
  clear hn
  go_enter Tryd.func8, Tryd.ntmps8
  go_wp2
  go_ret
  exact ⟨by rw [E.out]; simp [h1, h2, h3], rfl⟩

theorem want_2 (k : Int) (w : World) : Calls Tryd.prog 8 #[.int .i64 2, .int .i64 k] w fun e w' => e = .returned (.bool (kn 2 k)) ∧ w = w' := by
  by_cases h4 : k = 4
  · subst h4
    go_enter Tryd.func8, Tryd.ntmps8
    go_wp2
    go_ret
    exact ⟨ret_bool (by decide +kernel), rfl⟩
  by_cases h5 : k = 5
  · subst h5
    go_enter Tryd.func8, Tryd.ntmps8
    go_wp2
    go_ret
    exact ⟨ret_bool (by decide +kernel), rfl⟩
  have hn : kn 2 k = false := by unfold kn; rw [decide_eq_false_iff_not]; omega
  have E : Hid (kn 2 k = false) := hn
  clear hn
  go_enter Tryd.func8, Tryd.ntmps8
  go_wp2
  go_ret
  exact ⟨by rw [E.out]; simp [h4, h5], rfl⟩

theorem want_3 (k : Int) (w : World) : Calls Tryd.prog 8 #[.int .i64 3, .int .i64 k] w fun e w' => e = .returned (.bool (kn 3 k)) ∧ w = w' := by
  by_cases h6 : k = 6
  · subst h6
    go_enter Tryd.func8, Tryd.ntmps8
    go_wp2
    go_ret
    exact ⟨ret_bool (by decide +kernel), rfl⟩
  by_cases h7 : k = 7
  · subst h7
    go_enter Tryd.func8, Tryd.ntmps8
    go_wp2
    go_ret
    exact ⟨ret_bool (by decide +kernel), rfl⟩
  by_cases h8 : k = 8
  · subst h8
    go_enter Tryd.func8, Tryd.ntmps8
    go_wp2
    go_ret
    exact ⟨ret_bool (by decide +kernel), rfl⟩
  have hn : kn 3 k = false := by unfold kn; rw [decide_eq_false_iff_not]; omega
  have E : Hid (kn 3 k = false) := hn
  clear hn
  go_enter Tryd.func8, Tryd.ntmps8
  go_wp2
  go_ret
  exact ⟨by rw [E.out]; simp [h6, h7, h8], rfl⟩

theorem want_4 (k : Int) (w : World) : Calls Tryd.prog 8 #[.int .i64 4, .int .i64 k] w fun e w' => e = .returned (.bool (kn 4 k)) ∧ w = w' := by
  by_cases h9 : k = 9
  · subst h9
    go_enter Tryd.func8, Tryd.ntmps8
    go_wp2
    go_ret
    exact ⟨ret_bool (by decide +kernel), rfl⟩
  by_cases h10 : k = 10
  · subst h10
    go_enter Tryd.func8, Tryd.ntmps8
    go_wp2
    go_ret
    exact ⟨ret_bool (by decide +kernel), rfl⟩
  have hn : kn 4 k = false := by unfold kn; rw [decide_eq_false_iff_not]; omega
  have E : Hid (kn 4 k = false) := hn
  clear hn
  go_enter Tryd.func8, Tryd.ntmps8
  go_wp2
  go_ret
  exact ⟨by rw [E.out]; simp [h9, h10], rfl⟩

theorem want_5 (k : Int) (w : World) : Calls Tryd.prog 8 #[.int .i64 5, .int .i64 k] w fun e w' => e = .returned (.bool (kn 5 k)) ∧ w = w' := by
  by_cases h9 : k = 9
  · subst h9
    go_enter Tryd.func8, Tryd.ntmps8
    go_wp2
    go_ret
    exact ⟨ret_bool (by decide +kernel), rfl⟩
  by_cases h10 : k = 10
  · subst h10
    go_enter Tryd.func8, Tryd.ntmps8
    go_wp2
    go_ret
    exact ⟨ret_bool (by decide +kernel), rfl⟩
  have hn : kn 5 k = false := by unfold kn; rw [decide_eq_false_iff_not]; omega
  have E : Hid (kn 5 k = false) := hn
  clear hn
  go_enter Tryd.func8, Tryd.ntmps8
  go_wp2
  go_ret
  exact ⟨by rw [E.out]; simp [h9, h10], rfl⟩

theorem want_6 (k : Int) (w : World) : Calls Tryd.prog 8 #[.int .i64 6, .int .i64 k] w fun e w' => e = .returned (.bool (kn 6 k)) ∧ w = w' := by
  by_cases h11 : k = 11
  · subst h11
    go_enter Tryd.func8, Tryd.ntmps8
    go_wp2
    go_ret
    exact ⟨ret_bool (by decide +kernel), rfl⟩
  by_cases h12 : k = 12
  · subst h12
    go_enter Tryd.func8, Tryd.ntmps8
    go_wp2
    go_ret
    exact ⟨ret_bool (by decide +kernel), rfl⟩
  have hn : kn 6 k = false := by unfold kn; rw [decide_eq_false_iff_not]; omega
  have E : Hid (kn 6 k = false) := hn
  clear hn
  go_enter Tryd.func8, Tryd.ntmps8
  go_wp2
  go_ret
  exact ⟨by rw [E.out]; simp [h11, h12], rfl⟩

theorem want_any (o k : Int) (w : World) : Calls Tryd.prog 8 #[.int .i64 o, .int .i64 k] w fun e w' => e = .returned (.bool (kn o k)) ∧ w = w' := by
  by_cases h : o < 1 ∨ 6 < o
  · have hn : kn o k = false := by unfold kn; rw [decide_eq_false_iff_not]; omega
    have E : Hid (kn o k = false) := hn
    clear hn
    have n1 : (o == 1) = false := by simp; omega
    have n2 : (o == 2) = false := by simp; omega
    have n3 : (o == 3) = false := by simp; omega
    have n4 : (o == 4) = false := by simp; omega
    have n5 : (o == 5) = false := by simp; omega
    have n6 : (o == 6) = false := by simp; omega
    clear h
    go_enter Tryd.func8, Tryd.ntmps8
    go_wp2
    go_ret
    exact ⟨by rw [E.out]; rfl, rfl⟩
  · have ho : o = 1 ∨ o = 2 ∨ o = 3 ∨ o = 4 ∨ o = 5 ∨ o = 6 := by omega
    rcases ho with rfl | rfl | rfl | rfl | rfl | rfl
    · exact want_1 k w
    · exact want_2 k w
    · exact want_3 k w
    · exact want_4 k w
    · exact want_5 k w
    · exact want_6 k w

end Go.Proofs.YtcjmhiimeaphoaaDoor
