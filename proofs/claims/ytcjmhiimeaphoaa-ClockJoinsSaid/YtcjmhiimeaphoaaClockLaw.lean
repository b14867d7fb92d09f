/-
  DERIVED. ClockJoins: the law's walk.
-/
import Derived.Test.YtcjmhiimeaphoaaClock
namespace Go.Proofs.Ytcjmhiimeaphoaa
open Go.RowKit

/-- The joined vector's cells behind k rounds. -/
def jcells (x0 x1 x2 x3 x4 x5 x6 x7 y0 y1 y2 y3 y4 y5 y6 y7 : Int) : Nat → Array Value
  | 0 => #[.int .i64 x0, .int .i64 x1, .int .i64 x2, .int .i64 x3, .int .i64 x4, .int .i64 x5, .int .i64 x6, .int .i64 x7]
  | 1 => #[.int .i64 (max x0 y0), .int .i64 x1, .int .i64 x2, .int .i64 x3, .int .i64 x4, .int .i64 x5, .int .i64 x6, .int .i64 x7]
  | 2 => #[.int .i64 (max x0 y0), .int .i64 (max x1 y1), .int .i64 x2, .int .i64 x3, .int .i64 x4, .int .i64 x5, .int .i64 x6, .int .i64 x7]
  | 3 => #[.int .i64 (max x0 y0), .int .i64 (max x1 y1), .int .i64 (max x2 y2), .int .i64 x3, .int .i64 x4, .int .i64 x5, .int .i64 x6, .int .i64 x7]
  | 4 => #[.int .i64 (max x0 y0), .int .i64 (max x1 y1), .int .i64 (max x2 y2), .int .i64 (max x3 y3), .int .i64 x4, .int .i64 x5, .int .i64 x6, .int .i64 x7]
  | 5 => #[.int .i64 (max x0 y0), .int .i64 (max x1 y1), .int .i64 (max x2 y2), .int .i64 (max x3 y3), .int .i64 (max x4 y4), .int .i64 x5, .int .i64 x6, .int .i64 x7]
  | 6 => #[.int .i64 (max x0 y0), .int .i64 (max x1 y1), .int .i64 (max x2 y2), .int .i64 (max x3 y3), .int .i64 (max x4 y4), .int .i64 (max x5 y5), .int .i64 x6, .int .i64 x7]
  | 7 => #[.int .i64 (max x0 y0), .int .i64 (max x1 y1), .int .i64 (max x2 y2), .int .i64 (max x3 y3), .int .i64 (max x4 y4), .int .i64 (max x5 y5), .int .i64 (max x6 y6), .int .i64 x7]
  | _ => #[.int .i64 (max x0 y0), .int .i64 (max x1 y1), .int .i64 (max x2 y2), .int .i64 (max x3 y3), .int .i64 (max x4 y4), .int .i64 (max x5 y5), .int .i64 (max x6 y6), .int .i64 (max x7 y7)]

/-- Whether the first k places of the one are at most those of the other. -/
def wit (x0 x1 x2 x3 x4 x5 x6 x7 y0 y1 y2 y3 y4 y5 y6 y7 : Int) : Nat → Bool
  | 0 => true
  | 1 => true && decide (x0 ≤ y0)
  | 2 => true && decide (x0 ≤ y0) && decide (x1 ≤ y1)
  | 3 => true && decide (x0 ≤ y0) && decide (x1 ≤ y1) && decide (x2 ≤ y2)
  | 4 => true && decide (x0 ≤ y0) && decide (x1 ≤ y1) && decide (x2 ≤ y2) && decide (x3 ≤ y3)
  | 5 => true && decide (x0 ≤ y0) && decide (x1 ≤ y1) && decide (x2 ≤ y2) && decide (x3 ≤ y3) && decide (x4 ≤ y4)
  | 6 => true && decide (x0 ≤ y0) && decide (x1 ≤ y1) && decide (x2 ≤ y2) && decide (x3 ≤ y3) && decide (x4 ≤ y4) && decide (x5 ≤ y5)
  | 7 => true && decide (x0 ≤ y0) && decide (x1 ≤ y1) && decide (x2 ≤ y2) && decide (x3 ≤ y3) && decide (x4 ≤ y4) && decide (x5 ≤ y5) && decide (x6 ≤ y6)
  | _ => true && decide (x0 ≤ y0) && decide (x1 ≤ y1) && decide (x2 ≤ y2) && decide (x3 ≤ y3) && decide (x4 ≤ y4) && decide (x5 ≤ y5) && decide (x6 ≤ y6) && decide (x7 ≤ y7)

/-- The counter's number. -/
def ki : Nat → Int
  | 0 => 0
  | 1 => 1
  | 2 => 2
  | 3 => 3
  | 4 => 4
  | 5 => 5
  | 6 => 6
  | 7 => 7
  | _ => 8

/-- What holds at a round's head. -/
def JRel (x0 x1 x2 x3 x4 x5 x6 x7 y0 y1 y2 y3 y4 y5 y6 y7 : Int) (w : World) (b i : Value) (wr : World) : Prop :=
  ∃ k n : Nat, k ≤ 8 ∧ i = .int .i64 (ki k) ∧ b = .bool (wit x0 x1 x2 x3 x4 x5 x6 x7 y0 y1 y2 y3 y4 y5 y6 y7 k) ∧ wr = (((w.alloc (.cells #[.int .i64 x0, .int .i64 x1, .int .i64 x2, .int .i64 x3, .int .i64 x4, .int .i64 x5, .int .i64 x6, .int .i64 x7] 22)).alloc (.cells #[.int .i64 y0, .int .i64 y1, .int .i64 y2, .int .i64 y3, .int .i64 y4, .int .i64 y5, .int .i64 y6, .int .i64 y7] 22)).alloc (.cells (jcells x0 x1 x2 x3 x4 x5 x6 x7 y0 y1 y2 y3 y4 y5 y6 y7 k) 22)).drewN n

theorem jrel0 (x0 x1 x2 x3 x4 x5 x6 x7 y0 y1 y2 y3 y4 y5 y6 y7 : Int) (w : World) (b : Bool) (n : Nat) (h : wit x0 x1 x2 x3 x4 x5 x6 x7 y0 y1 y2 y3 y4 y5 y6 y7 0 = b) : JRel x0 x1 x2 x3 x4 x5 x6 x7 y0 y1 y2 y3 y4 y5 y6 y7 w (.bool b) (.int .i64 0) ((((w.alloc (.cells #[.int .i64 x0, .int .i64 x1, .int .i64 x2, .int .i64 x3, .int .i64 x4, .int .i64 x5, .int .i64 x6, .int .i64 x7] 22)).alloc (.cells #[.int .i64 y0, .int .i64 y1, .int .i64 y2, .int .i64 y3, .int .i64 y4, .int .i64 y5, .int .i64 y6, .int .i64 y7] 22)).alloc (.cells #[.int .i64 x0, .int .i64 x1, .int .i64 x2, .int .i64 x3, .int .i64 x4, .int .i64 x5, .int .i64 x6, .int .i64 x7] 22)).drewN n) :=
  ⟨0, n, by omega, rfl, by rw [h], rfl⟩
theorem jrel1 (x0 x1 x2 x3 x4 x5 x6 x7 y0 y1 y2 y3 y4 y5 y6 y7 : Int) (w : World) (b : Bool) (n : Nat) (h : wit x0 x1 x2 x3 x4 x5 x6 x7 y0 y1 y2 y3 y4 y5 y6 y7 1 = b) : JRel x0 x1 x2 x3 x4 x5 x6 x7 y0 y1 y2 y3 y4 y5 y6 y7 w (.bool b) (.int .i64 1) ((((w.alloc (.cells #[.int .i64 x0, .int .i64 x1, .int .i64 x2, .int .i64 x3, .int .i64 x4, .int .i64 x5, .int .i64 x6, .int .i64 x7] 22)).alloc (.cells #[.int .i64 y0, .int .i64 y1, .int .i64 y2, .int .i64 y3, .int .i64 y4, .int .i64 y5, .int .i64 y6, .int .i64 y7] 22)).alloc (.cells #[.int .i64 (max x0 y0), .int .i64 x1, .int .i64 x2, .int .i64 x3, .int .i64 x4, .int .i64 x5, .int .i64 x6, .int .i64 x7] 22)).drewN n) :=
  ⟨1, n, by omega, rfl, by rw [h], rfl⟩
theorem jrel2 (x0 x1 x2 x3 x4 x5 x6 x7 y0 y1 y2 y3 y4 y5 y6 y7 : Int) (w : World) (b : Bool) (n : Nat) (h : wit x0 x1 x2 x3 x4 x5 x6 x7 y0 y1 y2 y3 y4 y5 y6 y7 2 = b) : JRel x0 x1 x2 x3 x4 x5 x6 x7 y0 y1 y2 y3 y4 y5 y6 y7 w (.bool b) (.int .i64 2) ((((w.alloc (.cells #[.int .i64 x0, .int .i64 x1, .int .i64 x2, .int .i64 x3, .int .i64 x4, .int .i64 x5, .int .i64 x6, .int .i64 x7] 22)).alloc (.cells #[.int .i64 y0, .int .i64 y1, .int .i64 y2, .int .i64 y3, .int .i64 y4, .int .i64 y5, .int .i64 y6, .int .i64 y7] 22)).alloc (.cells #[.int .i64 (max x0 y0), .int .i64 (max x1 y1), .int .i64 x2, .int .i64 x3, .int .i64 x4, .int .i64 x5, .int .i64 x6, .int .i64 x7] 22)).drewN n) :=
  ⟨2, n, by omega, rfl, by rw [h], rfl⟩
theorem jrel3 (x0 x1 x2 x3 x4 x5 x6 x7 y0 y1 y2 y3 y4 y5 y6 y7 : Int) (w : World) (b : Bool) (n : Nat) (h : wit x0 x1 x2 x3 x4 x5 x6 x7 y0 y1 y2 y3 y4 y5 y6 y7 3 = b) : JRel x0 x1 x2 x3 x4 x5 x6 x7 y0 y1 y2 y3 y4 y5 y6 y7 w (.bool b) (.int .i64 3) ((((w.alloc (.cells #[.int .i64 x0, .int .i64 x1, .int .i64 x2, .int .i64 x3, .int .i64 x4, .int .i64 x5, .int .i64 x6, .int .i64 x7] 22)).alloc (.cells #[.int .i64 y0, .int .i64 y1, .int .i64 y2, .int .i64 y3, .int .i64 y4, .int .i64 y5, .int .i64 y6, .int .i64 y7] 22)).alloc (.cells #[.int .i64 (max x0 y0), .int .i64 (max x1 y1), .int .i64 (max x2 y2), .int .i64 x3, .int .i64 x4, .int .i64 x5, .int .i64 x6, .int .i64 x7] 22)).drewN n) :=
  ⟨3, n, by omega, rfl, by rw [h], rfl⟩
theorem jrel4 (x0 x1 x2 x3 x4 x5 x6 x7 y0 y1 y2 y3 y4 y5 y6 y7 : Int) (w : World) (b : Bool) (n : Nat) (h : wit x0 x1 x2 x3 x4 x5 x6 x7 y0 y1 y2 y3 y4 y5 y6 y7 4 = b) : JRel x0 x1 x2 x3 x4 x5 x6 x7 y0 y1 y2 y3 y4 y5 y6 y7 w (.bool b) (.int .i64 4) ((((w.alloc (.cells #[.int .i64 x0, .int .i64 x1, .int .i64 x2, .int .i64 x3, .int .i64 x4, .int .i64 x5, .int .i64 x6, .int .i64 x7] 22)).alloc (.cells #[.int .i64 y0, .int .i64 y1, .int .i64 y2, .int .i64 y3, .int .i64 y4, .int .i64 y5, .int .i64 y6, .int .i64 y7] 22)).alloc (.cells #[.int .i64 (max x0 y0), .int .i64 (max x1 y1), .int .i64 (max x2 y2), .int .i64 (max x3 y3), .int .i64 x4, .int .i64 x5, .int .i64 x6, .int .i64 x7] 22)).drewN n) :=
  ⟨4, n, by omega, rfl, by rw [h], rfl⟩
theorem jrel5 (x0 x1 x2 x3 x4 x5 x6 x7 y0 y1 y2 y3 y4 y5 y6 y7 : Int) (w : World) (b : Bool) (n : Nat) (h : wit x0 x1 x2 x3 x4 x5 x6 x7 y0 y1 y2 y3 y4 y5 y6 y7 5 = b) : JRel x0 x1 x2 x3 x4 x5 x6 x7 y0 y1 y2 y3 y4 y5 y6 y7 w (.bool b) (.int .i64 5) ((((w.alloc (.cells #[.int .i64 x0, .int .i64 x1, .int .i64 x2, .int .i64 x3, .int .i64 x4, .int .i64 x5, .int .i64 x6, .int .i64 x7] 22)).alloc (.cells #[.int .i64 y0, .int .i64 y1, .int .i64 y2, .int .i64 y3, .int .i64 y4, .int .i64 y5, .int .i64 y6, .int .i64 y7] 22)).alloc (.cells #[.int .i64 (max x0 y0), .int .i64 (max x1 y1), .int .i64 (max x2 y2), .int .i64 (max x3 y3), .int .i64 (max x4 y4), .int .i64 x5, .int .i64 x6, .int .i64 x7] 22)).drewN n) :=
  ⟨5, n, by omega, rfl, by rw [h], rfl⟩
theorem jrel6 (x0 x1 x2 x3 x4 x5 x6 x7 y0 y1 y2 y3 y4 y5 y6 y7 : Int) (w : World) (b : Bool) (n : Nat) (h : wit x0 x1 x2 x3 x4 x5 x6 x7 y0 y1 y2 y3 y4 y5 y6 y7 6 = b) : JRel x0 x1 x2 x3 x4 x5 x6 x7 y0 y1 y2 y3 y4 y5 y6 y7 w (.bool b) (.int .i64 6) ((((w.alloc (.cells #[.int .i64 x0, .int .i64 x1, .int .i64 x2, .int .i64 x3, .int .i64 x4, .int .i64 x5, .int .i64 x6, .int .i64 x7] 22)).alloc (.cells #[.int .i64 y0, .int .i64 y1, .int .i64 y2, .int .i64 y3, .int .i64 y4, .int .i64 y5, .int .i64 y6, .int .i64 y7] 22)).alloc (.cells #[.int .i64 (max x0 y0), .int .i64 (max x1 y1), .int .i64 (max x2 y2), .int .i64 (max x3 y3), .int .i64 (max x4 y4), .int .i64 (max x5 y5), .int .i64 x6, .int .i64 x7] 22)).drewN n) :=
  ⟨6, n, by omega, rfl, by rw [h], rfl⟩
theorem jrel7 (x0 x1 x2 x3 x4 x5 x6 x7 y0 y1 y2 y3 y4 y5 y6 y7 : Int) (w : World) (b : Bool) (n : Nat) (h : wit x0 x1 x2 x3 x4 x5 x6 x7 y0 y1 y2 y3 y4 y5 y6 y7 7 = b) : JRel x0 x1 x2 x3 x4 x5 x6 x7 y0 y1 y2 y3 y4 y5 y6 y7 w (.bool b) (.int .i64 7) ((((w.alloc (.cells #[.int .i64 x0, .int .i64 x1, .int .i64 x2, .int .i64 x3, .int .i64 x4, .int .i64 x5, .int .i64 x6, .int .i64 x7] 22)).alloc (.cells #[.int .i64 y0, .int .i64 y1, .int .i64 y2, .int .i64 y3, .int .i64 y4, .int .i64 y5, .int .i64 y6, .int .i64 y7] 22)).alloc (.cells #[.int .i64 (max x0 y0), .int .i64 (max x1 y1), .int .i64 (max x2 y2), .int .i64 (max x3 y3), .int .i64 (max x4 y4), .int .i64 (max x5 y5), .int .i64 (max x6 y6), .int .i64 x7] 22)).drewN n) :=
  ⟨7, n, by omega, rfl, by rw [h], rfl⟩
theorem jrel8 (x0 x1 x2 x3 x4 x5 x6 x7 y0 y1 y2 y3 y4 y5 y6 y7 : Int) (w : World) (b : Bool) (n : Nat) (h : wit x0 x1 x2 x3 x4 x5 x6 x7 y0 y1 y2 y3 y4 y5 y6 y7 8 = b) : JRel x0 x1 x2 x3 x4 x5 x6 x7 y0 y1 y2 y3 y4 y5 y6 y7 w (.bool b) (.int .i64 8) ((((w.alloc (.cells #[.int .i64 x0, .int .i64 x1, .int .i64 x2, .int .i64 x3, .int .i64 x4, .int .i64 x5, .int .i64 x6, .int .i64 x7] 22)).alloc (.cells #[.int .i64 y0, .int .i64 y1, .int .i64 y2, .int .i64 y3, .int .i64 y4, .int .i64 y5, .int .i64 y6, .int .i64 y7] 22)).alloc (.cells #[.int .i64 (max x0 y0), .int .i64 (max x1 y1), .int .i64 (max x2 y2), .int .i64 (max x3 y3), .int .i64 (max x4 y4), .int .i64 (max x5 y5), .int .i64 (max x6 y6), .int .i64 (max x7 y7)] 22)).drewN n) :=
  ⟨8, n, by omega, rfl, by rw [h], rfl⟩
theorem wit_no0 (x0 x1 x2 x3 x4 x5 x6 x7 y0 y1 y2 y3 y4 y5 y6 y7 : Int) (h : wit x0 x1 x2 x3 x4 x5 x6 x7 y0 y1 y2 y3 y4 y5 y6 y7 0 = false) : wit x0 x1 x2 x3 x4 x5 x6 x7 y0 y1 y2 y3 y4 y5 y6 y7 1 = false := by
  show (wit x0 x1 x2 x3 x4 x5 x6 x7 y0 y1 y2 y3 y4 y5 y6 y7 0 && decide (x0 ≤ y0)) = false
  rw [h]; rfl
theorem wit_le0 (x0 x1 x2 x3 x4 x5 x6 x7 y0 y1 y2 y3 y4 y5 y6 y7 : Int) (h : wit x0 x1 x2 x3 x4 x5 x6 x7 y0 y1 y2 y3 y4 y5 y6 y7 0 = true) (hle : x0 ≤ y0) : wit x0 x1 x2 x3 x4 x5 x6 x7 y0 y1 y2 y3 y4 y5 y6 y7 1 = true := by
  show (wit x0 x1 x2 x3 x4 x5 x6 x7 y0 y1 y2 y3 y4 y5 y6 y7 0 && decide (x0 ≤ y0)) = true
  rw [h]; simpa using hle
theorem wit_gt0 (x0 x1 x2 x3 x4 x5 x6 x7 y0 y1 y2 y3 y4 y5 y6 y7 : Int) (h : wit x0 x1 x2 x3 x4 x5 x6 x7 y0 y1 y2 y3 y4 y5 y6 y7 0 = true) (hle : ¬ x0 ≤ y0) : wit x0 x1 x2 x3 x4 x5 x6 x7 y0 y1 y2 y3 y4 y5 y6 y7 1 = false := by
  show (wit x0 x1 x2 x3 x4 x5 x6 x7 y0 y1 y2 y3 y4 y5 y6 y7 0 && decide (x0 ≤ y0)) = false
  rw [h]; simpa using hle
theorem wit_no1 (x0 x1 x2 x3 x4 x5 x6 x7 y0 y1 y2 y3 y4 y5 y6 y7 : Int) (h : wit x0 x1 x2 x3 x4 x5 x6 x7 y0 y1 y2 y3 y4 y5 y6 y7 1 = false) : wit x0 x1 x2 x3 x4 x5 x6 x7 y0 y1 y2 y3 y4 y5 y6 y7 2 = false := by
  show (wit x0 x1 x2 x3 x4 x5 x6 x7 y0 y1 y2 y3 y4 y5 y6 y7 1 && decide (x1 ≤ y1)) = false
  rw [h]; rfl
theorem wit_le1 (x0 x1 x2 x3 x4 x5 x6 x7 y0 y1 y2 y3 y4 y5 y6 y7 : Int) (h : wit x0 x1 x2 x3 x4 x5 x6 x7 y0 y1 y2 y3 y4 y5 y6 y7 1 = true) (hle : x1 ≤ y1) : wit x0 x1 x2 x3 x4 x5 x6 x7 y0 y1 y2 y3 y4 y5 y6 y7 2 = true := by
  show (wit x0 x1 x2 x3 x4 x5 x6 x7 y0 y1 y2 y3 y4 y5 y6 y7 1 && decide (x1 ≤ y1)) = true
  rw [h]; simpa using hle
theorem wit_gt1 (x0 x1 x2 x3 x4 x5 x6 x7 y0 y1 y2 y3 y4 y5 y6 y7 : Int) (h : wit x0 x1 x2 x3 x4 x5 x6 x7 y0 y1 y2 y3 y4 y5 y6 y7 1 = true) (hle : ¬ x1 ≤ y1) : wit x0 x1 x2 x3 x4 x5 x6 x7 y0 y1 y2 y3 y4 y5 y6 y7 2 = false := by
  show (wit x0 x1 x2 x3 x4 x5 x6 x7 y0 y1 y2 y3 y4 y5 y6 y7 1 && decide (x1 ≤ y1)) = false
  rw [h]; simpa using hle
theorem wit_no2 (x0 x1 x2 x3 x4 x5 x6 x7 y0 y1 y2 y3 y4 y5 y6 y7 : Int) (h : wit x0 x1 x2 x3 x4 x5 x6 x7 y0 y1 y2 y3 y4 y5 y6 y7 2 = false) : wit x0 x1 x2 x3 x4 x5 x6 x7 y0 y1 y2 y3 y4 y5 y6 y7 3 = false := by
  show (wit x0 x1 x2 x3 x4 x5 x6 x7 y0 y1 y2 y3 y4 y5 y6 y7 2 && decide (x2 ≤ y2)) = false
  rw [h]; rfl
theorem wit_le2 (x0 x1 x2 x3 x4 x5 x6 x7 y0 y1 y2 y3 y4 y5 y6 y7 : Int) (h : wit x0 x1 x2 x3 x4 x5 x6 x7 y0 y1 y2 y3 y4 y5 y6 y7 2 = true) (hle : x2 ≤ y2) : wit x0 x1 x2 x3 x4 x5 x6 x7 y0 y1 y2 y3 y4 y5 y6 y7 3 = true := by
  show (wit x0 x1 x2 x3 x4 x5 x6 x7 y0 y1 y2 y3 y4 y5 y6 y7 2 && decide (x2 ≤ y2)) = true
  rw [h]; simpa using hle
theorem wit_gt2 (x0 x1 x2 x3 x4 x5 x6 x7 y0 y1 y2 y3 y4 y5 y6 y7 : Int) (h : wit x0 x1 x2 x3 x4 x5 x6 x7 y0 y1 y2 y3 y4 y5 y6 y7 2 = true) (hle : ¬ x2 ≤ y2) : wit x0 x1 x2 x3 x4 x5 x6 x7 y0 y1 y2 y3 y4 y5 y6 y7 3 = false := by
  show (wit x0 x1 x2 x3 x4 x5 x6 x7 y0 y1 y2 y3 y4 y5 y6 y7 2 && decide (x2 ≤ y2)) = false
  rw [h]; simpa using hle
theorem wit_no3 (x0 x1 x2 x3 x4 x5 x6 x7 y0 y1 y2 y3 y4 y5 y6 y7 : Int) (h : wit x0 x1 x2 x3 x4 x5 x6 x7 y0 y1 y2 y3 y4 y5 y6 y7 3 = false) : wit x0 x1 x2 x3 x4 x5 x6 x7 y0 y1 y2 y3 y4 y5 y6 y7 4 = false := by
  show (wit x0 x1 x2 x3 x4 x5 x6 x7 y0 y1 y2 y3 y4 y5 y6 y7 3 && decide (x3 ≤ y3)) = false
  rw [h]; rfl
theorem wit_le3 (x0 x1 x2 x3 x4 x5 x6 x7 y0 y1 y2 y3 y4 y5 y6 y7 : Int) (h : wit x0 x1 x2 x3 x4 x5 x6 x7 y0 y1 y2 y3 y4 y5 y6 y7 3 = true) (hle : x3 ≤ y3) : wit x0 x1 x2 x3 x4 x5 x6 x7 y0 y1 y2 y3 y4 y5 y6 y7 4 = true := by
  show (wit x0 x1 x2 x3 x4 x5 x6 x7 y0 y1 y2 y3 y4 y5 y6 y7 3 && decide (x3 ≤ y3)) = true
  rw [h]; simpa using hle
theorem wit_gt3 (x0 x1 x2 x3 x4 x5 x6 x7 y0 y1 y2 y3 y4 y5 y6 y7 : Int) (h : wit x0 x1 x2 x3 x4 x5 x6 x7 y0 y1 y2 y3 y4 y5 y6 y7 3 = true) (hle : ¬ x3 ≤ y3) : wit x0 x1 x2 x3 x4 x5 x6 x7 y0 y1 y2 y3 y4 y5 y6 y7 4 = false := by
  show (wit x0 x1 x2 x3 x4 x5 x6 x7 y0 y1 y2 y3 y4 y5 y6 y7 3 && decide (x3 ≤ y3)) = false
  rw [h]; simpa using hle
theorem wit_no4 (x0 x1 x2 x3 x4 x5 x6 x7 y0 y1 y2 y3 y4 y5 y6 y7 : Int) (h : wit x0 x1 x2 x3 x4 x5 x6 x7 y0 y1 y2 y3 y4 y5 y6 y7 4 = false) : wit x0 x1 x2 x3 x4 x5 x6 x7 y0 y1 y2 y3 y4 y5 y6 y7 5 = false := by
  show (wit x0 x1 x2 x3 x4 x5 x6 x7 y0 y1 y2 y3 y4 y5 y6 y7 4 && decide (x4 ≤ y4)) = false
  rw [h]; rfl
theorem wit_le4 (x0 x1 x2 x3 x4 x5 x6 x7 y0 y1 y2 y3 y4 y5 y6 y7 : Int) (h : wit x0 x1 x2 x3 x4 x5 x6 x7 y0 y1 y2 y3 y4 y5 y6 y7 4 = true) (hle : x4 ≤ y4) : wit x0 x1 x2 x3 x4 x5 x6 x7 y0 y1 y2 y3 y4 y5 y6 y7 5 = true := by
  show (wit x0 x1 x2 x3 x4 x5 x6 x7 y0 y1 y2 y3 y4 y5 y6 y7 4 && decide (x4 ≤ y4)) = true
  rw [h]; simpa using hle
theorem wit_gt4 (x0 x1 x2 x3 x4 x5 x6 x7 y0 y1 y2 y3 y4 y5 y6 y7 : Int) (h : wit x0 x1 x2 x3 x4 x5 x6 x7 y0 y1 y2 y3 y4 y5 y6 y7 4 = true) (hle : ¬ x4 ≤ y4) : wit x0 x1 x2 x3 x4 x5 x6 x7 y0 y1 y2 y3 y4 y5 y6 y7 5 = false := by
  show (wit x0 x1 x2 x3 x4 x5 x6 x7 y0 y1 y2 y3 y4 y5 y6 y7 4 && decide (x4 ≤ y4)) = false
  rw [h]; simpa using hle
theorem wit_no5 (x0 x1 x2 x3 x4 x5 x6 x7 y0 y1 y2 y3 y4 y5 y6 y7 : Int) (h : wit x0 x1 x2 x3 x4 x5 x6 x7 y0 y1 y2 y3 y4 y5 y6 y7 5 = false) : wit x0 x1 x2 x3 x4 x5 x6 x7 y0 y1 y2 y3 y4 y5 y6 y7 6 = false := by
  show (wit x0 x1 x2 x3 x4 x5 x6 x7 y0 y1 y2 y3 y4 y5 y6 y7 5 && decide (x5 ≤ y5)) = false
  rw [h]; rfl
theorem wit_le5 (x0 x1 x2 x3 x4 x5 x6 x7 y0 y1 y2 y3 y4 y5 y6 y7 : Int) (h : wit x0 x1 x2 x3 x4 x5 x6 x7 y0 y1 y2 y3 y4 y5 y6 y7 5 = true) (hle : x5 ≤ y5) : wit x0 x1 x2 x3 x4 x5 x6 x7 y0 y1 y2 y3 y4 y5 y6 y7 6 = true := by
  show (wit x0 x1 x2 x3 x4 x5 x6 x7 y0 y1 y2 y3 y4 y5 y6 y7 5 && decide (x5 ≤ y5)) = true
  rw [h]; simpa using hle
theorem wit_gt5 (x0 x1 x2 x3 x4 x5 x6 x7 y0 y1 y2 y3 y4 y5 y6 y7 : Int) (h : wit x0 x1 x2 x3 x4 x5 x6 x7 y0 y1 y2 y3 y4 y5 y6 y7 5 = true) (hle : ¬ x5 ≤ y5) : wit x0 x1 x2 x3 x4 x5 x6 x7 y0 y1 y2 y3 y4 y5 y6 y7 6 = false := by
  show (wit x0 x1 x2 x3 x4 x5 x6 x7 y0 y1 y2 y3 y4 y5 y6 y7 5 && decide (x5 ≤ y5)) = false
  rw [h]; simpa using hle
theorem wit_no6 (x0 x1 x2 x3 x4 x5 x6 x7 y0 y1 y2 y3 y4 y5 y6 y7 : Int) (h : wit x0 x1 x2 x3 x4 x5 x6 x7 y0 y1 y2 y3 y4 y5 y6 y7 6 = false) : wit x0 x1 x2 x3 x4 x5 x6 x7 y0 y1 y2 y3 y4 y5 y6 y7 7 = false := by
  show (wit x0 x1 x2 x3 x4 x5 x6 x7 y0 y1 y2 y3 y4 y5 y6 y7 6 && decide (x6 ≤ y6)) = false
  rw [h]; rfl
theorem wit_le6 (x0 x1 x2 x3 x4 x5 x6 x7 y0 y1 y2 y3 y4 y5 y6 y7 : Int) (h : wit x0 x1 x2 x3 x4 x5 x6 x7 y0 y1 y2 y3 y4 y5 y6 y7 6 = true) (hle : x6 ≤ y6) : wit x0 x1 x2 x3 x4 x5 x6 x7 y0 y1 y2 y3 y4 y5 y6 y7 7 = true := by
  show (wit x0 x1 x2 x3 x4 x5 x6 x7 y0 y1 y2 y3 y4 y5 y6 y7 6 && decide (x6 ≤ y6)) = true
  rw [h]; simpa using hle
theorem wit_gt6 (x0 x1 x2 x3 x4 x5 x6 x7 y0 y1 y2 y3 y4 y5 y6 y7 : Int) (h : wit x0 x1 x2 x3 x4 x5 x6 x7 y0 y1 y2 y3 y4 y5 y6 y7 6 = true) (hle : ¬ x6 ≤ y6) : wit x0 x1 x2 x3 x4 x5 x6 x7 y0 y1 y2 y3 y4 y5 y6 y7 7 = false := by
  show (wit x0 x1 x2 x3 x4 x5 x6 x7 y0 y1 y2 y3 y4 y5 y6 y7 6 && decide (x6 ≤ y6)) = false
  rw [h]; simpa using hle
theorem wit_no7 (x0 x1 x2 x3 x4 x5 x6 x7 y0 y1 y2 y3 y4 y5 y6 y7 : Int) (h : wit x0 x1 x2 x3 x4 x5 x6 x7 y0 y1 y2 y3 y4 y5 y6 y7 7 = false) : wit x0 x1 x2 x3 x4 x5 x6 x7 y0 y1 y2 y3 y4 y5 y6 y7 8 = false := by
  show (wit x0 x1 x2 x3 x4 x5 x6 x7 y0 y1 y2 y3 y4 y5 y6 y7 7 && decide (x7 ≤ y7)) = false
  rw [h]; rfl
theorem wit_le7 (x0 x1 x2 x3 x4 x5 x6 x7 y0 y1 y2 y3 y4 y5 y6 y7 : Int) (h : wit x0 x1 x2 x3 x4 x5 x6 x7 y0 y1 y2 y3 y4 y5 y6 y7 7 = true) (hle : x7 ≤ y7) : wit x0 x1 x2 x3 x4 x5 x6 x7 y0 y1 y2 y3 y4 y5 y6 y7 8 = true := by
  show (wit x0 x1 x2 x3 x4 x5 x6 x7 y0 y1 y2 y3 y4 y5 y6 y7 7 && decide (x7 ≤ y7)) = true
  rw [h]; simpa using hle
theorem wit_gt7 (x0 x1 x2 x3 x4 x5 x6 x7 y0 y1 y2 y3 y4 y5 y6 y7 : Int) (h : wit x0 x1 x2 x3 x4 x5 x6 x7 y0 y1 y2 y3 y4 y5 y6 y7 7 = true) (hle : ¬ x7 ≤ y7) : wit x0 x1 x2 x3 x4 x5 x6 x7 y0 y1 y2 y3 y4 y5 y6 y7 8 = false := by
  show (wit x0 x1 x2 x3 x4 x5 x6 x7 y0 y1 y2 y3 y4 y5 y6 y7 7 && decide (x7 ≤ y7)) = false
  rw [h]; simpa using hle

/-- The loop's answer is the vectors' own. -/
theorem wit_eq (x0 x1 x2 x3 x4 x5 x6 x7 y0 y1 y2 y3 y4 y5 y6 y7 : Int) : wit x0 x1 x2 x3 x4 x5 x6 x7 y0 y1 y2 y3 y4 y5 y6 y7 8 = eqL [max x0 y0, max x1 y1, max x2 y2, max x3 y3, max x4 y4, max x5 y5, max x6 y6, max x7 y7] [y0, y1, y2, y3, y4, y5, y6, y7] := by
  rw [Bool.eq_iff_iff]
  simp only [wit, eqL, Bool.true_and, Bool.and_eq_true, decide_eq_true_eq, List.cons.injEq, and_true]
  omega


set_option maxRecDepth 100000 in
set_option maxHeartbeats 2000000 in
theorem law (x0 x1 x2 x3 x4 x5 x6 x7 y0 y1 y2 y3 y4 y5 y6 y7 : Int) (w : World) :
    Calls Try.prog 3 #[.agg #[.int .i64 x0, .int .i64 x1, .int .i64 x2, .int .i64 x3, .int .i64 x4, .int .i64 x5, .int .i64 x6, .int .i64 x7], .agg #[.int .i64 y0, .int .i64 y1, .int .i64 y2, .int .i64 y3, .int .i64 y4, .int .i64 y5, .int .i64 y6, .int .i64 y7]] w fun e w' => e = .returned (.bool true) ∧ Below w.heap.size w w' := by
  have hsd : ∀ (w : World) (n : Nat) (a : Addr) (v : Value), (w.drewN n).setCell a v = (w.setCell a v).drewN n := fun _ _ _ _ => rfl
  go_enter Try.func3, Try.ntmps3
  go_wp2
  go_region
  go_wp2
  go_loopw [5, 7] (fun b i wr => JRel x0 x1 x2 x3 x4 x5 x6 x7 y0 y1 y2 y3 y4 y5 y6 y7 w b i wr) (fun _ i _ => 8 - (intOf i).toNat)
  case atStart => exact jrel0 x0 x1 x2 x3 x4 x5 x6 x7 y0 y1 y2 y3 y4 y5 y6 y7 w true 1 rfl
  case round =>
    obtain ⟨k, n, hk, rfl, rfl, rfl⟩ := hrel
    have hk9 : k = 0 ∨ k = 1 ∨ k = 2 ∨ k = 3 ∨ k = 4 ∨ k = 5 ∨ k = 6 ∨ k = 7 ∨ k = 8 := by omega
    rcases hk9 with rfl | rfl | rfl | rfl | rfl | rfl | rfl | rfl | rfl
    · cases hb : wit x0 x1 x2 x3 x4 x5 x6 x7 y0 y1 y2 y3 y4 y5 y6 y7 0
      · have H := hid hb
        clear hb
        simp only [ki, jcells]
        go_wp2
        go_quiet (fail)
        go_wp2
        go_region
        go_wp2
        go_roundw
        case rel => exact jrel1 x0 x1 x2 x3 x4 x5 x6 x7 y0 y1 y2 y3 y4 y5 y6 y7 w _ _ (wit_no0 x0 x1 x2 x3 x4 x5 x6 x7 y0 y1 y2 y3 y4 y5 y6 y7 H.out)
        case measure => simp [intOf]
      · have H := hid hb
        clear hb
        simp only [ki, jcells]
        by_cases hle : x0 ≤ y0
        · have hd : decide (x0 ≤ y0) = true := by simpa using hle
          go_wp2
          go_quiet (fail)
          go_wp2
          go_region
          go_wp2
          go_roundw
          case rel => exact jrel1 x0 x1 x2 x3 x4 x5 x6 x7 y0 y1 y2 y3 y4 y5 y6 y7 w _ _ (wit_le0 x0 x1 x2 x3 x4 x5 x6 x7 y0 y1 y2 y3 y4 y5 y6 y7 H.out hle)
          case measure => simp [intOf]
        · have hd : decide (x0 ≤ y0) = false := by simpa using hle
          go_wp2
          go_quiet (fail)
          go_wp2
          go_region
          go_wp2
          go_roundw
          case rel => exact jrel1 x0 x1 x2 x3 x4 x5 x6 x7 y0 y1 y2 y3 y4 y5 y6 y7 w _ _ (wit_gt0 x0 x1 x2 x3 x4 x5 x6 x7 y0 y1 y2 y3 y4 y5 y6 y7 H.out (Int.not_le.2 hle))
          case measure => simp [intOf]
    · cases hb : wit x0 x1 x2 x3 x4 x5 x6 x7 y0 y1 y2 y3 y4 y5 y6 y7 1
      · have H := hid hb
        clear hb
        simp only [ki, jcells]
        go_wp2
        go_quiet (fail)
        go_wp2
        go_region
        go_wp2
        go_roundw
        case rel => exact jrel2 x0 x1 x2 x3 x4 x5 x6 x7 y0 y1 y2 y3 y4 y5 y6 y7 w _ _ (wit_no1 x0 x1 x2 x3 x4 x5 x6 x7 y0 y1 y2 y3 y4 y5 y6 y7 H.out)
        case measure => simp [intOf]
      · have H := hid hb
        clear hb
        simp only [ki, jcells]
        by_cases hle : x1 ≤ y1
        · have hd : decide (x1 ≤ y1) = true := by simpa using hle
          go_wp2
          go_quiet (fail)
          go_wp2
          go_region
          go_wp2
          go_roundw
          case rel => exact jrel2 x0 x1 x2 x3 x4 x5 x6 x7 y0 y1 y2 y3 y4 y5 y6 y7 w _ _ (wit_le1 x0 x1 x2 x3 x4 x5 x6 x7 y0 y1 y2 y3 y4 y5 y6 y7 H.out hle)
          case measure => simp [intOf]
        · have hd : decide (x1 ≤ y1) = false := by simpa using hle
          go_wp2
          go_quiet (fail)
          go_wp2
          go_region
          go_wp2
          go_roundw
          case rel => exact jrel2 x0 x1 x2 x3 x4 x5 x6 x7 y0 y1 y2 y3 y4 y5 y6 y7 w _ _ (wit_gt1 x0 x1 x2 x3 x4 x5 x6 x7 y0 y1 y2 y3 y4 y5 y6 y7 H.out (Int.not_le.2 hle))
          case measure => simp [intOf]
    · cases hb : wit x0 x1 x2 x3 x4 x5 x6 x7 y0 y1 y2 y3 y4 y5 y6 y7 2
      · have H := hid hb
        clear hb
        simp only [ki, jcells]
        go_wp2
        go_quiet (fail)
        go_wp2
        go_region
        go_wp2
        go_roundw
        case rel => exact jrel3 x0 x1 x2 x3 x4 x5 x6 x7 y0 y1 y2 y3 y4 y5 y6 y7 w _ _ (wit_no2 x0 x1 x2 x3 x4 x5 x6 x7 y0 y1 y2 y3 y4 y5 y6 y7 H.out)
        case measure => simp [intOf]
      · have H := hid hb
        clear hb
        simp only [ki, jcells]
        by_cases hle : x2 ≤ y2
        · have hd : decide (x2 ≤ y2) = true := by simpa using hle
          go_wp2
          go_quiet (fail)
          go_wp2
          go_region
          go_wp2
          go_roundw
          case rel => exact jrel3 x0 x1 x2 x3 x4 x5 x6 x7 y0 y1 y2 y3 y4 y5 y6 y7 w _ _ (wit_le2 x0 x1 x2 x3 x4 x5 x6 x7 y0 y1 y2 y3 y4 y5 y6 y7 H.out hle)
          case measure => simp [intOf]
        · have hd : decide (x2 ≤ y2) = false := by simpa using hle
          go_wp2
          go_quiet (fail)
          go_wp2
          go_region
          go_wp2
          go_roundw
          case rel => exact jrel3 x0 x1 x2 x3 x4 x5 x6 x7 y0 y1 y2 y3 y4 y5 y6 y7 w _ _ (wit_gt2 x0 x1 x2 x3 x4 x5 x6 x7 y0 y1 y2 y3 y4 y5 y6 y7 H.out (Int.not_le.2 hle))
          case measure => simp [intOf]
    · cases hb : wit x0 x1 x2 x3 x4 x5 x6 x7 y0 y1 y2 y3 y4 y5 y6 y7 3
      · have H := hid hb
        clear hb
        simp only [ki, jcells]
        go_wp2
        go_quiet (fail)
        go_wp2
        go_region
        go_wp2
        go_roundw
        case rel => exact jrel4 x0 x1 x2 x3 x4 x5 x6 x7 y0 y1 y2 y3 y4 y5 y6 y7 w _ _ (wit_no3 x0 x1 x2 x3 x4 x5 x6 x7 y0 y1 y2 y3 y4 y5 y6 y7 H.out)
        case measure => simp [intOf]
      · have H := hid hb
        clear hb
        simp only [ki, jcells]
        by_cases hle : x3 ≤ y3
        · have hd : decide (x3 ≤ y3) = true := by simpa using hle
          go_wp2
          go_quiet (fail)
          go_wp2
          go_region
          go_wp2
          go_roundw
          case rel => exact jrel4 x0 x1 x2 x3 x4 x5 x6 x7 y0 y1 y2 y3 y4 y5 y6 y7 w _ _ (wit_le3 x0 x1 x2 x3 x4 x5 x6 x7 y0 y1 y2 y3 y4 y5 y6 y7 H.out hle)
          case measure => simp [intOf]
        · have hd : decide (x3 ≤ y3) = false := by simpa using hle
          go_wp2
          go_quiet (fail)
          go_wp2
          go_region
          go_wp2
          go_roundw
          case rel => exact jrel4 x0 x1 x2 x3 x4 x5 x6 x7 y0 y1 y2 y3 y4 y5 y6 y7 w _ _ (wit_gt3 x0 x1 x2 x3 x4 x5 x6 x7 y0 y1 y2 y3 y4 y5 y6 y7 H.out (Int.not_le.2 hle))
          case measure => simp [intOf]
    · cases hb : wit x0 x1 x2 x3 x4 x5 x6 x7 y0 y1 y2 y3 y4 y5 y6 y7 4
      · have H := hid hb
        clear hb
        simp only [ki, jcells]
        go_wp2
        go_quiet (fail)
        go_wp2
        go_region
        go_wp2
        go_roundw
        case rel => exact jrel5 x0 x1 x2 x3 x4 x5 x6 x7 y0 y1 y2 y3 y4 y5 y6 y7 w _ _ (wit_no4 x0 x1 x2 x3 x4 x5 x6 x7 y0 y1 y2 y3 y4 y5 y6 y7 H.out)
        case measure => simp [intOf]
      · have H := hid hb
        clear hb
        simp only [ki, jcells]
        by_cases hle : x4 ≤ y4
        · have hd : decide (x4 ≤ y4) = true := by simpa using hle
          go_wp2
          go_quiet (fail)
          go_wp2
          go_region
          go_wp2
          go_roundw
          case rel => exact jrel5 x0 x1 x2 x3 x4 x5 x6 x7 y0 y1 y2 y3 y4 y5 y6 y7 w _ _ (wit_le4 x0 x1 x2 x3 x4 x5 x6 x7 y0 y1 y2 y3 y4 y5 y6 y7 H.out hle)
          case measure => simp [intOf]
        · have hd : decide (x4 ≤ y4) = false := by simpa using hle
          go_wp2
          go_quiet (fail)
          go_wp2
          go_region
          go_wp2
          go_roundw
          case rel => exact jrel5 x0 x1 x2 x3 x4 x5 x6 x7 y0 y1 y2 y3 y4 y5 y6 y7 w _ _ (wit_gt4 x0 x1 x2 x3 x4 x5 x6 x7 y0 y1 y2 y3 y4 y5 y6 y7 H.out (Int.not_le.2 hle))
          case measure => simp [intOf]
    · cases hb : wit x0 x1 x2 x3 x4 x5 x6 x7 y0 y1 y2 y3 y4 y5 y6 y7 5
      · have H := hid hb
        clear hb
        simp only [ki, jcells]
        go_wp2
        go_quiet (fail)
        go_wp2
        go_region
        go_wp2
        go_roundw
        case rel => exact jrel6 x0 x1 x2 x3 x4 x5 x6 x7 y0 y1 y2 y3 y4 y5 y6 y7 w _ _ (wit_no5 x0 x1 x2 x3 x4 x5 x6 x7 y0 y1 y2 y3 y4 y5 y6 y7 H.out)
        case measure => simp [intOf]
      · have H := hid hb
        clear hb
        simp only [ki, jcells]
        by_cases hle : x5 ≤ y5
        · have hd : decide (x5 ≤ y5) = true := by simpa using hle
          go_wp2
          go_quiet (fail)
          go_wp2
          go_region
          go_wp2
          go_roundw
          case rel => exact jrel6 x0 x1 x2 x3 x4 x5 x6 x7 y0 y1 y2 y3 y4 y5 y6 y7 w _ _ (wit_le5 x0 x1 x2 x3 x4 x5 x6 x7 y0 y1 y2 y3 y4 y5 y6 y7 H.out hle)
          case measure => simp [intOf]
        · have hd : decide (x5 ≤ y5) = false := by simpa using hle
          go_wp2
          go_quiet (fail)
          go_wp2
          go_region
          go_wp2
          go_roundw
          case rel => exact jrel6 x0 x1 x2 x3 x4 x5 x6 x7 y0 y1 y2 y3 y4 y5 y6 y7 w _ _ (wit_gt5 x0 x1 x2 x3 x4 x5 x6 x7 y0 y1 y2 y3 y4 y5 y6 y7 H.out (Int.not_le.2 hle))
          case measure => simp [intOf]
    · cases hb : wit x0 x1 x2 x3 x4 x5 x6 x7 y0 y1 y2 y3 y4 y5 y6 y7 6
      · have H := hid hb
        clear hb
        simp only [ki, jcells]
        go_wp2
        go_quiet (fail)
        go_wp2
        go_region
        go_wp2
        go_roundw
        case rel => exact jrel7 x0 x1 x2 x3 x4 x5 x6 x7 y0 y1 y2 y3 y4 y5 y6 y7 w _ _ (wit_no6 x0 x1 x2 x3 x4 x5 x6 x7 y0 y1 y2 y3 y4 y5 y6 y7 H.out)
        case measure => simp [intOf]
      · have H := hid hb
        clear hb
        simp only [ki, jcells]
        by_cases hle : x6 ≤ y6
        · have hd : decide (x6 ≤ y6) = true := by simpa using hle
          go_wp2
          go_quiet (fail)
          go_wp2
          go_region
          go_wp2
          go_roundw
          case rel => exact jrel7 x0 x1 x2 x3 x4 x5 x6 x7 y0 y1 y2 y3 y4 y5 y6 y7 w _ _ (wit_le6 x0 x1 x2 x3 x4 x5 x6 x7 y0 y1 y2 y3 y4 y5 y6 y7 H.out hle)
          case measure => simp [intOf]
        · have hd : decide (x6 ≤ y6) = false := by simpa using hle
          go_wp2
          go_quiet (fail)
          go_wp2
          go_region
          go_wp2
          go_roundw
          case rel => exact jrel7 x0 x1 x2 x3 x4 x5 x6 x7 y0 y1 y2 y3 y4 y5 y6 y7 w _ _ (wit_gt6 x0 x1 x2 x3 x4 x5 x6 x7 y0 y1 y2 y3 y4 y5 y6 y7 H.out (Int.not_le.2 hle))
          case measure => simp [intOf]
    · cases hb : wit x0 x1 x2 x3 x4 x5 x6 x7 y0 y1 y2 y3 y4 y5 y6 y7 7
      · have H := hid hb
        clear hb
        simp only [ki, jcells]
        go_wp2
        go_quiet (fail)
        go_wp2
        go_region
        go_wp2
        go_roundw
        case rel => exact jrel8 x0 x1 x2 x3 x4 x5 x6 x7 y0 y1 y2 y3 y4 y5 y6 y7 w _ _ (wit_no7 x0 x1 x2 x3 x4 x5 x6 x7 y0 y1 y2 y3 y4 y5 y6 y7 H.out)
        case measure => simp [intOf]
      · have H := hid hb
        clear hb
        simp only [ki, jcells]
        by_cases hle : x7 ≤ y7
        · have hd : decide (x7 ≤ y7) = true := by simpa using hle
          go_wp2
          go_quiet (fail)
          go_wp2
          go_region
          go_wp2
          go_roundw
          case rel => exact jrel8 x0 x1 x2 x3 x4 x5 x6 x7 y0 y1 y2 y3 y4 y5 y6 y7 w _ _ (wit_le7 x0 x1 x2 x3 x4 x5 x6 x7 y0 y1 y2 y3 y4 y5 y6 y7 H.out hle)
          case measure => simp [intOf]
        · have hd : decide (x7 ≤ y7) = false := by simpa using hle
          go_wp2
          go_quiet (fail)
          go_wp2
          go_region
          go_wp2
          go_roundw
          case rel => exact jrel8 x0 x1 x2 x3 x4 x5 x6 x7 y0 y1 y2 y3 y4 y5 y6 y7 w _ _ (wit_gt7 x0 x1 x2 x3 x4 x5 x6 x7 y0 y1 y2 y3 y4 y5 y6 y7 H.out (Int.not_le.2 hle))
          case measure => simp [intOf]
    · rw [wit_eq]
      have he1 : ∀ w : World, (Op.equalIn 10000 22 (.agg #[.int .i64 (max x0 y0), .int .i64 (max x1 y1), .int .i64 (max x2 y2), .int .i64 (max x3 y3), .int .i64 (max x4 y4), .int .i64 (max x5 y5), .int .i64 (max x6 y6), .int .i64 (max x7 y7)]) (.agg #[.int .i64 (max x0 y0), .int .i64 (max x1 y1), .int .i64 (max x2 y2), .int .i64 (max x3 y3), .int .i64 (max x4 y4), .int .i64 (max x5 y5), .int .i64 (max x6 y6), .int .i64 (max x7 y7)])).run Try.prog w = .ok true w := fun w => by
        rw [eq_vec (max x0 y0) (max x1 y1) (max x2 y2) (max x3 y3) (max x4 y4) (max x5 y5) (max x6 y6) (max x7 y7) (max x0 y0) (max x1 y1) (max x2 y2) (max x3 y3) (max x4 y4) (max x5 y5) (max x6 y6) (max x7 y7) 22 (.inl rfl) w]
        simp [eqL]
      have he2 := fun w => eq_vec x0 x1 x2 x3 x4 x5 x6 x7 y0 y1 y2 y3 y4 y5 y6 y7 22 (.inl rfl) w
      cases hb : eqL [max x0 y0, max x1 y1, max x2 y2, max x3 y3, max x4 y4, max x5 y5, max x6 y6, max x7 y7] [y0, y1, y2, y3, y4, y5, y6, y7]
      all_goals
        have H := hid hb
        clear hb
        simp only [ki, jcells]
        go_wp2
        go_region
        · go_wp2
          refine name_world ?_
          intro W hW
          have hB : Below w.heap.size w W := by rw [hW]; repeat (first | exact Below.refl _ _ | apply Below.drew | apply below_draws | apply below_alloc)
          have kx0 := cell_regrown (show W.cell? ⟨w.heap.size, 0, none⟩ = some (.int .i64 x0) by rw [hW]; simp [go_sem, World.cell?_alloc_past])
          have kx1 := cell_regrown (show W.cell? ⟨w.heap.size, 1, none⟩ = some (.int .i64 x1) by rw [hW]; simp [go_sem, World.cell?_alloc_past])
          have kx2 := cell_regrown (show W.cell? ⟨w.heap.size, 2, none⟩ = some (.int .i64 x2) by rw [hW]; simp [go_sem, World.cell?_alloc_past])
          have kx3 := cell_regrown (show W.cell? ⟨w.heap.size, 3, none⟩ = some (.int .i64 x3) by rw [hW]; simp [go_sem, World.cell?_alloc_past])
          have kx4 := cell_regrown (show W.cell? ⟨w.heap.size, 4, none⟩ = some (.int .i64 x4) by rw [hW]; simp [go_sem, World.cell?_alloc_past])
          have kx5 := cell_regrown (show W.cell? ⟨w.heap.size, 5, none⟩ = some (.int .i64 x5) by rw [hW]; simp [go_sem, World.cell?_alloc_past])
          have kx6 := cell_regrown (show W.cell? ⟨w.heap.size, 6, none⟩ = some (.int .i64 x6) by rw [hW]; simp [go_sem, World.cell?_alloc_past])
          have kx7 := cell_regrown (show W.cell? ⟨w.heap.size, 7, none⟩ = some (.int .i64 x7) by rw [hW]; simp [go_sem, World.cell?_alloc_past])
          have ky0 := cell_regrown (show W.cell? ⟨w.heap.size + 1, 0, none⟩ = some (.int .i64 y0) by rw [hW]; simp [go_sem, World.cell?_alloc_past])
          have ky1 := cell_regrown (show W.cell? ⟨w.heap.size + 1, 1, none⟩ = some (.int .i64 y1) by rw [hW]; simp [go_sem, World.cell?_alloc_past])
          have ky2 := cell_regrown (show W.cell? ⟨w.heap.size + 1, 2, none⟩ = some (.int .i64 y2) by rw [hW]; simp [go_sem, World.cell?_alloc_past])
          have ky3 := cell_regrown (show W.cell? ⟨w.heap.size + 1, 3, none⟩ = some (.int .i64 y3) by rw [hW]; simp [go_sem, World.cell?_alloc_past])
          have ky4 := cell_regrown (show W.cell? ⟨w.heap.size + 1, 4, none⟩ = some (.int .i64 y4) by rw [hW]; simp [go_sem, World.cell?_alloc_past])
          have ky5 := cell_regrown (show W.cell? ⟨w.heap.size + 1, 5, none⟩ = some (.int .i64 y5) by rw [hW]; simp [go_sem, World.cell?_alloc_past])
          have ky6 := cell_regrown (show W.cell? ⟨w.heap.size + 1, 6, none⟩ = some (.int .i64 y6) by rw [hW]; simp [go_sem, World.cell?_alloc_past])
          have ky7 := cell_regrown (show W.cell? ⟨w.heap.size + 1, 7, none⟩ = some (.int .i64 y7) by rw [hW]; simp [go_sem, World.cell?_alloc_past])
          have km0 := cell_regrown (show W.cell? ⟨w.heap.size + 1 + 1, 0, none⟩ = some (.int .i64 (max x0 y0)) by rw [hW]; simp [go_sem, World.cell?_alloc_past])
          have km1 := cell_regrown (show W.cell? ⟨w.heap.size + 1 + 1, 1, none⟩ = some (.int .i64 (max x1 y1)) by rw [hW]; simp [go_sem, World.cell?_alloc_past])
          have km2 := cell_regrown (show W.cell? ⟨w.heap.size + 1 + 1, 2, none⟩ = some (.int .i64 (max x2 y2)) by rw [hW]; simp [go_sem, World.cell?_alloc_past])
          have km3 := cell_regrown (show W.cell? ⟨w.heap.size + 1 + 1, 3, none⟩ = some (.int .i64 (max x3 y3)) by rw [hW]; simp [go_sem, World.cell?_alloc_past])
          have km4 := cell_regrown (show W.cell? ⟨w.heap.size + 1 + 1, 4, none⟩ = some (.int .i64 (max x4 y4)) by rw [hW]; simp [go_sem, World.cell?_alloc_past])
          have km5 := cell_regrown (show W.cell? ⟨w.heap.size + 1 + 1, 5, none⟩ = some (.int .i64 (max x5 y5)) by rw [hW]; simp [go_sem, World.cell?_alloc_past])
          have km6 := cell_regrown (show W.cell? ⟨w.heap.size + 1 + 1, 6, none⟩ = some (.int .i64 (max x6 y6)) by rw [hW]; simp [go_sem, World.cell?_alloc_past])
          have km7 := cell_regrown (show W.cell? ⟨w.heap.size + 1 + 1, 7, none⟩ = some (.int .i64 (max x7 y7)) by rw [hW]; simp [go_sem, World.cell?_alloc_past])
          have kp0 := cell_regrown (show W.cell? ⟨w.heap.size + 1 + 1 + 1, 0, none⟩ = some (.int .i64 x0) by rw [hW]; simp [go_sem, World.cell?_alloc_past])
          have kp1 := cell_regrown (show W.cell? ⟨w.heap.size + 1 + 1 + 1, 1, none⟩ = some (.int .i64 x1) by rw [hW]; simp [go_sem, World.cell?_alloc_past])
          have kp2 := cell_regrown (show W.cell? ⟨w.heap.size + 1 + 1 + 1, 2, none⟩ = some (.int .i64 x2) by rw [hW]; simp [go_sem, World.cell?_alloc_past])
          have kp3 := cell_regrown (show W.cell? ⟨w.heap.size + 1 + 1 + 1, 3, none⟩ = some (.int .i64 x3) by rw [hW]; simp [go_sem, World.cell?_alloc_past])
          have kp4 := cell_regrown (show W.cell? ⟨w.heap.size + 1 + 1 + 1, 4, none⟩ = some (.int .i64 x4) by rw [hW]; simp [go_sem, World.cell?_alloc_past])
          have kp5 := cell_regrown (show W.cell? ⟨w.heap.size + 1 + 1 + 1, 5, none⟩ = some (.int .i64 x5) by rw [hW]; simp [go_sem, World.cell?_alloc_past])
          have kp6 := cell_regrown (show W.cell? ⟨w.heap.size + 1 + 1 + 1, 6, none⟩ = some (.int .i64 x6) by rw [hW]; simp [go_sem, World.cell?_alloc_past])
          have kp7 := cell_regrown (show W.cell? ⟨w.heap.size + 1 + 1 + 1, 7, none⟩ = some (.int .i64 x7) by rw [hW]; simp [go_sem, World.cell?_alloc_past])
          have kq0 := cell_regrown (show W.cell? ⟨w.heap.size + 1 + 1 + 1 + 1, 0, none⟩ = some (.int .i64 y0) by rw [hW]; simp [go_sem])
          have kq1 := cell_regrown (show W.cell? ⟨w.heap.size + 1 + 1 + 1 + 1, 1, none⟩ = some (.int .i64 y1) by rw [hW]; simp [go_sem])
          have kq2 := cell_regrown (show W.cell? ⟨w.heap.size + 1 + 1 + 1 + 1, 2, none⟩ = some (.int .i64 y2) by rw [hW]; simp [go_sem])
          have kq3 := cell_regrown (show W.cell? ⟨w.heap.size + 1 + 1 + 1 + 1, 3, none⟩ = some (.int .i64 y3) by rw [hW]; simp [go_sem])
          have kq4 := cell_regrown (show W.cell? ⟨w.heap.size + 1 + 1 + 1 + 1, 4, none⟩ = some (.int .i64 y4) by rw [hW]; simp [go_sem])
          have kq5 := cell_regrown (show W.cell? ⟨w.heap.size + 1 + 1 + 1 + 1, 5, none⟩ = some (.int .i64 y5) by rw [hW]; simp [go_sem])
          have kq6 := cell_regrown (show W.cell? ⟨w.heap.size + 1 + 1 + 1 + 1, 6, none⟩ = some (.int .i64 y6) by rw [hW]; simp [go_sem])
          have kq7 := cell_regrown (show W.cell? ⟨w.heap.size + 1 + 1 + 1 + 1, 7, none⟩ = some (.int .i64 y7) by rw [hW]; simp [go_sem])
          have cJ := fun (d : Nat) (os : Array Obj) => Calls.regrown_of (join_below x0 x1 x2 x3 x4 x5 x6 x7 y0 y1 y2 y3 y4 y5 y6 y7 (Sort.grow (redrawn W d) os))
          have cW := fun (d : Nat) (os : Array Obj) => Calls.regrown_of (within_any x0 x1 x2 x3 x4 x5 x6 x7 y0 y1 y2 y3 y4 y5 y6 y7 (Sort.grow (redrawn W d) os))
          have cL := fun (d : Nat) (os : Array Obj) => Calls.regrown_of (less_any x0 x1 x2 x3 x4 x5 x6 x7 y0 y1 y2 y3 y4 y5 y6 y7 (Sort.grow (redrawn W d) os))
          simp only [H.out] at cW cL
          clear hW
          refine wp_region_quiet_below (by kernel_rfl) (by kernel_rfl) ?_
          repeat (go_big_quiet_step (first | (go_at_call 8; exact cJ _ _) | (go_at_call 9; exact cW _ _) | (go_at_call 10; exact cL _ _)))
          refine wpQuiet_nil ?_
          intro _ hw'
          obtain ⟨⟨dq, osq⟩, hw''⟩ := hw'
          subst hw''
          go_wp2
          go_ret
          exact ⟨rfl, below_grow hB _ _⟩
        · go_wp2
          refine name_world ?_
          intro W hW
          have hB : Below w.heap.size w W := by rw [hW]; repeat (first | exact Below.refl _ _ | apply Below.drew | apply below_draws | apply below_alloc)
          have kx0 := cell_regrown (show W.cell? ⟨w.heap.size, 0, none⟩ = some (.int .i64 x0) by rw [hW]; simp [go_sem, World.cell?_alloc_past])
          have kx1 := cell_regrown (show W.cell? ⟨w.heap.size, 1, none⟩ = some (.int .i64 x1) by rw [hW]; simp [go_sem, World.cell?_alloc_past])
          have kx2 := cell_regrown (show W.cell? ⟨w.heap.size, 2, none⟩ = some (.int .i64 x2) by rw [hW]; simp [go_sem, World.cell?_alloc_past])
          have kx3 := cell_regrown (show W.cell? ⟨w.heap.size, 3, none⟩ = some (.int .i64 x3) by rw [hW]; simp [go_sem, World.cell?_alloc_past])
          have kx4 := cell_regrown (show W.cell? ⟨w.heap.size, 4, none⟩ = some (.int .i64 x4) by rw [hW]; simp [go_sem, World.cell?_alloc_past])
          have kx5 := cell_regrown (show W.cell? ⟨w.heap.size, 5, none⟩ = some (.int .i64 x5) by rw [hW]; simp [go_sem, World.cell?_alloc_past])
          have kx6 := cell_regrown (show W.cell? ⟨w.heap.size, 6, none⟩ = some (.int .i64 x6) by rw [hW]; simp [go_sem, World.cell?_alloc_past])
          have kx7 := cell_regrown (show W.cell? ⟨w.heap.size, 7, none⟩ = some (.int .i64 x7) by rw [hW]; simp [go_sem, World.cell?_alloc_past])
          have ky0 := cell_regrown (show W.cell? ⟨w.heap.size + 1, 0, none⟩ = some (.int .i64 y0) by rw [hW]; simp [go_sem, World.cell?_alloc_past])
          have ky1 := cell_regrown (show W.cell? ⟨w.heap.size + 1, 1, none⟩ = some (.int .i64 y1) by rw [hW]; simp [go_sem, World.cell?_alloc_past])
          have ky2 := cell_regrown (show W.cell? ⟨w.heap.size + 1, 2, none⟩ = some (.int .i64 y2) by rw [hW]; simp [go_sem, World.cell?_alloc_past])
          have ky3 := cell_regrown (show W.cell? ⟨w.heap.size + 1, 3, none⟩ = some (.int .i64 y3) by rw [hW]; simp [go_sem, World.cell?_alloc_past])
          have ky4 := cell_regrown (show W.cell? ⟨w.heap.size + 1, 4, none⟩ = some (.int .i64 y4) by rw [hW]; simp [go_sem, World.cell?_alloc_past])
          have ky5 := cell_regrown (show W.cell? ⟨w.heap.size + 1, 5, none⟩ = some (.int .i64 y5) by rw [hW]; simp [go_sem, World.cell?_alloc_past])
          have ky6 := cell_regrown (show W.cell? ⟨w.heap.size + 1, 6, none⟩ = some (.int .i64 y6) by rw [hW]; simp [go_sem, World.cell?_alloc_past])
          have ky7 := cell_regrown (show W.cell? ⟨w.heap.size + 1, 7, none⟩ = some (.int .i64 y7) by rw [hW]; simp [go_sem, World.cell?_alloc_past])
          have km0 := cell_regrown (show W.cell? ⟨w.heap.size + 1 + 1, 0, none⟩ = some (.int .i64 (max x0 y0)) by rw [hW]; simp [go_sem, World.cell?_alloc_past])
          have km1 := cell_regrown (show W.cell? ⟨w.heap.size + 1 + 1, 1, none⟩ = some (.int .i64 (max x1 y1)) by rw [hW]; simp [go_sem, World.cell?_alloc_past])
          have km2 := cell_regrown (show W.cell? ⟨w.heap.size + 1 + 1, 2, none⟩ = some (.int .i64 (max x2 y2)) by rw [hW]; simp [go_sem, World.cell?_alloc_past])
          have km3 := cell_regrown (show W.cell? ⟨w.heap.size + 1 + 1, 3, none⟩ = some (.int .i64 (max x3 y3)) by rw [hW]; simp [go_sem, World.cell?_alloc_past])
          have km4 := cell_regrown (show W.cell? ⟨w.heap.size + 1 + 1, 4, none⟩ = some (.int .i64 (max x4 y4)) by rw [hW]; simp [go_sem, World.cell?_alloc_past])
          have km5 := cell_regrown (show W.cell? ⟨w.heap.size + 1 + 1, 5, none⟩ = some (.int .i64 (max x5 y5)) by rw [hW]; simp [go_sem, World.cell?_alloc_past])
          have km6 := cell_regrown (show W.cell? ⟨w.heap.size + 1 + 1, 6, none⟩ = some (.int .i64 (max x6 y6)) by rw [hW]; simp [go_sem, World.cell?_alloc_past])
          have km7 := cell_regrown (show W.cell? ⟨w.heap.size + 1 + 1, 7, none⟩ = some (.int .i64 (max x7 y7)) by rw [hW]; simp [go_sem, World.cell?_alloc_past])
          have kp0 := cell_regrown (show W.cell? ⟨w.heap.size + 1 + 1 + 1, 0, none⟩ = some (.int .i64 y0) by rw [hW]; simp [go_sem, World.cell?_alloc_past])
          have kp1 := cell_regrown (show W.cell? ⟨w.heap.size + 1 + 1 + 1, 1, none⟩ = some (.int .i64 y1) by rw [hW]; simp [go_sem, World.cell?_alloc_past])
          have kp2 := cell_regrown (show W.cell? ⟨w.heap.size + 1 + 1 + 1, 2, none⟩ = some (.int .i64 y2) by rw [hW]; simp [go_sem, World.cell?_alloc_past])
          have kp3 := cell_regrown (show W.cell? ⟨w.heap.size + 1 + 1 + 1, 3, none⟩ = some (.int .i64 y3) by rw [hW]; simp [go_sem, World.cell?_alloc_past])
          have kp4 := cell_regrown (show W.cell? ⟨w.heap.size + 1 + 1 + 1, 4, none⟩ = some (.int .i64 y4) by rw [hW]; simp [go_sem, World.cell?_alloc_past])
          have kp5 := cell_regrown (show W.cell? ⟨w.heap.size + 1 + 1 + 1, 5, none⟩ = some (.int .i64 y5) by rw [hW]; simp [go_sem, World.cell?_alloc_past])
          have kp6 := cell_regrown (show W.cell? ⟨w.heap.size + 1 + 1 + 1, 6, none⟩ = some (.int .i64 y6) by rw [hW]; simp [go_sem, World.cell?_alloc_past])
          have kp7 := cell_regrown (show W.cell? ⟨w.heap.size + 1 + 1 + 1, 7, none⟩ = some (.int .i64 y7) by rw [hW]; simp [go_sem, World.cell?_alloc_past])
          have kq0 := cell_regrown (show W.cell? ⟨w.heap.size + 1 + 1 + 1 + 1, 0, none⟩ = some (.int .i64 x0) by rw [hW]; simp [go_sem])
          have kq1 := cell_regrown (show W.cell? ⟨w.heap.size + 1 + 1 + 1 + 1, 1, none⟩ = some (.int .i64 x1) by rw [hW]; simp [go_sem])
          have kq2 := cell_regrown (show W.cell? ⟨w.heap.size + 1 + 1 + 1 + 1, 2, none⟩ = some (.int .i64 x2) by rw [hW]; simp [go_sem])
          have kq3 := cell_regrown (show W.cell? ⟨w.heap.size + 1 + 1 + 1 + 1, 3, none⟩ = some (.int .i64 x3) by rw [hW]; simp [go_sem])
          have kq4 := cell_regrown (show W.cell? ⟨w.heap.size + 1 + 1 + 1 + 1, 4, none⟩ = some (.int .i64 x4) by rw [hW]; simp [go_sem])
          have kq5 := cell_regrown (show W.cell? ⟨w.heap.size + 1 + 1 + 1 + 1, 5, none⟩ = some (.int .i64 x5) by rw [hW]; simp [go_sem])
          have kq6 := cell_regrown (show W.cell? ⟨w.heap.size + 1 + 1 + 1 + 1, 6, none⟩ = some (.int .i64 x6) by rw [hW]; simp [go_sem])
          have kq7 := cell_regrown (show W.cell? ⟨w.heap.size + 1 + 1 + 1 + 1, 7, none⟩ = some (.int .i64 x7) by rw [hW]; simp [go_sem])
          have cJ := fun (d : Nat) (os : Array Obj) => Calls.regrown_of (join_below x0 x1 x2 x3 x4 x5 x6 x7 y0 y1 y2 y3 y4 y5 y6 y7 (Sort.grow (redrawn W d) os))
          have cW := fun (d : Nat) (os : Array Obj) => Calls.regrown_of (within_any x0 x1 x2 x3 x4 x5 x6 x7 y0 y1 y2 y3 y4 y5 y6 y7 (Sort.grow (redrawn W d) os))
          have cL := fun (d : Nat) (os : Array Obj) => Calls.regrown_of (less_any x0 x1 x2 x3 x4 x5 x6 x7 y0 y1 y2 y3 y4 y5 y6 y7 (Sort.grow (redrawn W d) os))
          simp only [H.out] at cW cL
          clear hW
          refine wp_region_quiet_below (by kernel_rfl) (by kernel_rfl) ?_
          repeat (go_big_quiet_step (first | (go_at_call 8; exact cJ _ _) | (go_at_call 9; exact cW _ _) | (go_at_call 10; exact cL _ _)))
          refine wpQuiet_nil ?_
          intro _ hw'
          obtain ⟨⟨dq, osq⟩, hw''⟩ := hw'
          subst hw''
          go_wp2
          go_ret
          exact ⟨rfl, below_grow hB _ _⟩
end Go.Proofs.Ytcjmhiimeaphoaa
