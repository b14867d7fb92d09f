/-
  DERIVED. EventChecks: the plain law: Check's and EventCheck's answers are one.
-/
import Derived.Test.YtcjmhiimeaphoaaDoorPEventChecksx
import Derived.Test.YtcjmhiimeaphoaaDoorBase
namespace Go.Proofs.YtcjmhiimeaphoaaDoor
open Go.RowKit PEventChecks Go.Proofs.YtcjmhiimeaphoaaDoorW.PrintWords

/-- Whether three numbers may be. -/
def num3 (a b c : Int) : Bool := decide (-1000000 ≤ a ∧ a ≤ 1000000 ∧ -1000000 ≤ b ∧ b ≤ 1000000 ∧ -1000000 ≤ c ∧ c ≤ 1000000)
/-- The fault of an event: 0, if there is none. -/
def ec (p t k d a b r : Int) : Int :=
  if decide (0 ≤ p ∧ p ≤ 7 ∧ 0 ≤ k ∧ k ≤ 7) && num3 a b r then (if 1 ≤ t ∧ t ≤ 4 ∧ 1 ≤ d ∧ d ≤ 12 ∧ (r = 0 ∨ t = 2) then 0 else 1) else 2

theorem in_f (n lo hi : Int) : event_in.f n lo hi = some (decide (lo ≤ n ∧ n ≤ hi)) := by
  unfold event_in.f
  by_cases h : n ≥ lo
  · rw [if_pos h]; congr 1; rw [decide_eq_decide]; omega
  · rw [if_neg h]; congr 1; symm; rw [decide_eq_false_iff_not]; omega

theorem told_f (p k a b c : Int) : event_told.f 4 p k [a, b, c] = some (decide (0 ≤ p ∧ p ≤ 7 ∧ 0 ≤ k ∧ k ≤ 7) && num3 a b c) := by
  unfold event_told.f num3
  have w1 : wrap64 1 = 1 := by unfold wrap64; omega
  have w2 : wrap64 2 = 2 := by unfold wrap64; omega
  have w3 : wrap64 3 = 3 := by unfold wrap64; omega
  simp only [event_told.l0, in_f, rd, List.length_cons, List.length_nil]
  by_cases ha : -1000000 ≤ a ∧ a ≤ 1000000
  · by_cases hb : -1000000 ≤ b ∧ b ≤ 1000000
    · by_cases hc : -1000000 ≤ c ∧ c ≤ 1000000
      · by_cases hp : 0 ≤ p ∧ p ≤ 7
        · simp [w1, w2, w3, ha, hb, hc, hp]
        · simp [w1, w2, w3, ha, hb, hc, hp]
          omega
      · simp [w1, w2, w3, ha, hb, hc]
    · simp [w1, w2, ha, hb]
      omega
  · simp [ha]
    omega

theorem check_f (p t k d a b r : Int) : event_Check.f 4 p t k d a b r = some (if ec p t k d a b r = 0 then none else some (ec p t k d a b r)) := by
  unfold event_Check.f
  rw [told_f]
  simp only [Option.bind_some, in_f, event_Check.j0]
  unfold ec
  by_cases h1 : (decide (0 ≤ p ∧ p ≤ 7 ∧ 0 ≤ k ∧ k ≤ 7) && num3 a b r) = true
  · rw [if_pos h1, if_pos h1]
    by_cases ht : 1 ≤ t ∧ t ≤ 4
    · by_cases hd : 1 ≤ d ∧ d ≤ 12
      · by_cases hr : r = 0
        · simp [ht, hd, hr]
        · by_cases h2 : t = 2
          · simp [hd, hr, h2]
          · simp [ht, hd, hr, h2]
      · simp [ht, hd]
        omega
    · simp [ht]
      omega
  · rw [if_neg h1, if_neg h1]
    rfl

theorem small_f (a b c : Int) : testimonyref_small.f 4 [a, b, c] = some (num3 a b c) := by
  unfold testimonyref_small.f
  have w1 : wrap64 1 = 1 := by unfold wrap64; omega
  have w2 : wrap64 2 = 2 := by unfold wrap64; omega
  have w3 : wrap64 3 = 3 := by unfold wrap64; omega
  simp only [testimonyref_small.l0, rd, List.length_cons, List.length_nil]
  simp [w1, w2, w3]
  repeat' split
  all_goals
    congr 1; symm; unfold num3
    first | (rw [decide_eq_false_iff_not]; omega) | (rw [decide_eq_true_eq]; omega)

theorem want_j1 (x : Bool) (p t k d a b r : Int) : testimonyref_EventCheck.j1 3 x p t k d a b r = some (if x = false ∧ (r = 0 ∨ t = 2) then 0 else 1) := by
  simp only [testimonyref_EventCheck.j1]
  cases x
  · by_cases hr : r = 0
    · simp [hr]
    · by_cases h2 : t = 2
      · simp [h2]
      · simp [hr, h2]
  · simp

theorem want_j0 (x : Bool) (p t k d a b r : Int) : testimonyref_EventCheck.j0 4 x p t k d a b r = some (if x = true then 2 else if 1 ≤ t ∧ t ≤ 4 ∧ 1 ≤ d ∧ d ≤ 12 ∧ (r = 0 ∨ t = 2) then 0 else 1) := by
  simp only [testimonyref_EventCheck.j0, want_j1]
  cases x
  · simp only [Bool.false_eq_true, if_false, false_and, reduceCtorEq, decide_eq_false_iff_not]
    by_cases h1 : t < 1
    · have hn : ¬ (1 ≤ t ∧ t ≤ 4 ∧ 1 ≤ d ∧ d ≤ 12 ∧ (r = 0 ∨ t = 2)) := by omega
      rw [if_pos h1, if_neg hn]
    · rw [if_neg h1]
      by_cases h2 : t > 4
      · have hn : ¬ (1 ≤ t ∧ t ≤ 4 ∧ 1 ≤ d ∧ d ≤ 12 ∧ (r = 0 ∨ t = 2)) := by omega
        rw [if_pos h2, if_neg hn]
      · rw [if_neg h2]
        by_cases h3 : d < 1
        · have hn : ¬ (1 ≤ t ∧ t ≤ 4 ∧ 1 ≤ d ∧ d ≤ 12 ∧ (r = 0 ∨ t = 2)) := by omega
          rw [if_pos h3, if_neg hn]
        · rw [if_neg h3]
          by_cases h5 : ¬ d > 12 ∧ (r = 0 ∨ t = 2)
          · have hp : 1 ≤ t ∧ t ≤ 4 ∧ 1 ≤ d ∧ d ≤ 12 ∧ (r = 0 ∨ t = 2) := by omega
            rw [if_pos h5, if_pos hp]
          · have hn : ¬ (1 ≤ t ∧ t ≤ 4 ∧ 1 ≤ d ∧ d ≤ 12 ∧ (r = 0 ∨ t = 2)) := by omega
            rw [if_neg h5, if_neg hn]
  · simp

theorem want_f (p t k d a b r : Int) : testimonyref_EventCheck.f 4 p t k d a b r = some (ec p t k d a b r) := by
  unfold testimonyref_EventCheck.f
  rw [small_f]
  simp only [Option.bind_some, want_j0]
  unfold ec
  by_cases h1 : p < 0
  · rw [if_pos h1, if_pos trivial, if_neg (by simp; omega)]
  · rw [if_neg h1]
    by_cases h2 : p > 7
    · rw [if_pos h2, if_pos trivial, if_neg (by simp; omega)]
    · rw [if_neg h2]
      by_cases h3 : k < 0
      · rw [if_pos h3, if_pos trivial, if_neg (by simp; omega)]
      · rw [if_neg h3]
        by_cases h4 : k > 7
        · rw [if_pos h4, if_pos trivial, if_neg (by simp; omega)]
        · rw [if_neg h4]
          cases num3 a b r
          · simp
          · have hd : decide (0 ≤ p ∧ p ≤ 7 ∧ 0 ≤ k ∧ k ≤ 7) = true := by rw [decide_eq_true_eq]; omega
            simp [hd]
end Go.Proofs.YtcjmhiimeaphoaaDoor
