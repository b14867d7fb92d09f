/-
  DERIVED. MergeLast: the plain law on Join.
-/
import Derived.Test.YtcjmhiimeaphoaaPMergeLastx
import Derived.Test.YtcjmhiimeaphoaaBase
namespace Go.Proofs.Ytcjmhiimeaphoaa
open Go.RowKit PMergeLast Go.Proofs.YtcjmhiimeaphoaaW.PrintWords

def cmpI (a b : Int) : Int := if a < b then -1 else if b < a then 1 else 0
theorem cmp_f (a b : Int) : cmp_Compare_int.f a b = some (cmpI a b) := by
  unfold cmp_Compare_int.f cmp_isNaN_int.f cmpI
  simp
  split
  · rfl
  · split <;> rfl

theorem compare_f (a0 a1 a2 b0 b1 b2 : Int) : slices_Compare_int_int.f 4 [a0, a1, a2] [b0, b1, b2] =
    some (if cmpI a0 b0 = 0 then if cmpI a1 b1 = 0 then cmpI a2 b2 else cmpI a1 b1 else cmpI a0 b0) := by
  unfold slices_Compare_int_int.f
  have w1 : wrap64 1 = 1 := by unfold wrap64; omega
  have w2 : wrap64 2 = 2 := by unfold wrap64; omega
  have w3 : wrap64 3 = 3 := by unfold wrap64; omega
  simp only [slices_Compare_int_int.l0, cmp_f, rd, List.length_cons, List.length_nil]
  simp [w1, w2, w3]
  by_cases h0 : cmpI a0 b0 = 0
  · by_cases h1 : cmpI a1 b1 = 0
    · by_cases h2 : cmpI a2 b2 = 0
      · simp [h0, h1, h2]
      · simp [h0, h1, h2]
    · simp [h0, h1]
  · simp [h0]

/-- Whether the second was written later than the first. -/
def lat (a0 a1 a2 b0 b1 b2 : Int) : Bool := decide (a0 < b0 ∨ a0 = b0 ∧ (a1 < b1 ∨ a1 = b1 ∧ a2 < b2))

theorem join_f (a0 a1 a2 b0 b1 b2 : Int) : merge_Last_Join.f 4 a0 a1 a2 b0 b1 b2 = some (if lat a0 a1 a2 b0 b1 b2 = true then (b0, b1, b2) else (a0, a1, a2)) := by
  unfold merge_Last_Join.f
  rw [compare_f]
  simp only [Option.bind_some]
  have e : ((if cmpI a0 b0 = 0 then if cmpI a1 b1 = 0 then cmpI a2 b2 else cmpI a1 b1 else cmpI a0 b0) < 0) ↔ lat a0 a1 a2 b0 b1 b2 = true := by
    unfold cmpI lat
    rw [decide_eq_true_eq]
    repeat' split
    all_goals omega
  by_cases h : lat a0 a1 a2 b0 b1 b2 = true
  · rw [if_pos (e.2 h), if_pos h]
  · rw [if_neg (fun k => h (e.1 k)), if_neg h]

/-- The three numbers that stay. -/
def st (l : Bool) (a b : Int) : Int := bif l then b else a

theorem join_calls (a0 a1 a2 b0 b1 b2 : Int) (w : World) :
    Calls Try.prog 18 #[.agg #[.int .i64 a0, .int .i64 a1, .int .i64 a2], .agg #[.int .i64 b0, .int .i64 b1, .int .i64 b2]] w fun e w' =>
      e = .returned (.agg #[.int .i64 (st (lat a0 a1 a2 b0 b1 b2) a0 b0), .int .i64 (st (lat a0 a1 a2 b0 b1 b2) a1 b1), .int .i64 (st (lat a0 a1 a2 b0 b1 b2) a2 b2)]) ∧ Below w.heap.size w w' :=
  merge_Last_Join.calls 4 a0 a1 a2 b0 b1 b2 _ _ _ w (by
    rw [join_f]
    cases lat a0 a1 a2 b0 b1 b2 <;> rfl)

theorem same_calls (a0 a1 a2 b0 b1 b2 : Int) (w : World) :
    Calls Try.prog 19 #[.agg #[.int .i64 a0, .int .i64 a1, .int .i64 a2], .agg #[.int .i64 b0, .int .i64 b1, .int .i64 b2]] w fun e w' =>
      e = .returned (.bool (a0 == b0 && (a1 == b1 && (a2 == b2)))) ∧ Below w.heap.size w w' :=
  merge_Last_Same.calls a0 a1 a2 b0 b1 b2 _ w rfl
end Go.Proofs.Ytcjmhiimeaphoaa
