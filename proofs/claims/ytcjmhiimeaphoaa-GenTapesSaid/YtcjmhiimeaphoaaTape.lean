/-
  DERIVED. GenTapes: the walks of gen.Tape's Below and Used, and of testimonyref.Tape's Below.
-/
import Derived.Test.YtcjmhiimeaphoaaRows
import Derived.Test.YtcjmhiimeaphoaaBase
namespace Go.Proofs.Ytcjmhiimeaphoaa
open Go.RowKit

/-- A number of the tape, below n. -/
def blA (x n : Int) : Int := wrap64 ((IntKind.u64.wrap x).tmod n)



/-- What a call of Below leaves of the world: the tape's own count; nothing else has turned. -/
structure Took (g : Nat) (u : Int) (w w' : World) : Prop where
  count : w'.cell? ⟨g, 1, none⟩ = some (.int .i64 u)
  cells : ∀ b o, b ≠ g → w'.cell? ⟨b, o, none⟩ = w.cell? ⟨b, o, none⟩
  first : w'.cell? ⟨g, 0, none⟩ = w.cell? ⟨g, 0, none⟩
  frozen : ∀ b o, w'.frozen? ⟨b, o, none⟩ = w.frozen? ⟨b, o, none⟩
  below : ∀ B, B ≤ g → Below B w w'

theorem took_same {g : Nat} {u : Int} {w : World} (h : w.cell? ⟨g, 1, none⟩ = some (.int .i64 u)) (q : Nat) : Took g u w (w.drewN q) :=
  ⟨h, fun _ _ _ => rfl, rfl, fun _ _ => rfl, fun B _ => below_draws (Below.refl B w) q⟩

theorem took_set {g : Nat} {u : Int} {v : Value} {w : World} (h : w.cell? ⟨g, 1, none⟩ = some v) (q : Nat) : Took g u w ((w.drewN q).setCell ⟨g, 1, none⟩ (.int .i64 u)) :=
  ⟨World.cell?_setCell_same _ _ _ h, fun b o hb => World.cell?_setCell_other _ _ _ _ (fun e => hb (by injection e with e _ _; exact e.symm)), World.cell?_setCell_other _ _ _ _ (fun e => by injection e with _ e _; simp at e), fun _ _ => World.frozen?_setCell _ _ _ _,
    fun B hB => (below_draws (Below.refl B w) q).setCell hB _⟩

theorem below_zero (g : Nat) (u n : Int) (w : World) (h1 : w.cell? ⟨g, 1, none⟩ = some (.int .i64 u)) (hn : n ≤ 0) :
    Calls Try.prog 15 #[.pointer (some ⟨g, 0, none⟩), .int .i64 n] w fun e w' => e = .returned (.int .i64 0) ∧ Took g u w w' := by
  have hn0 : decide (n ≤ 0) = true := by simpa using hn
  go_enter Try.func15, Try.ntmps15
  go_wp2
  go_ret
  exact ⟨rfl, took_same h1 0⟩

set_option maxHeartbeats 1000000 in
theorem below_hit (g b off len cap u : Nat) (x n : Int) (w : World) (h0 : w.cell? ⟨g, 0, none⟩ = some (.slice (some ⟨b, off, none⟩) len cap)) (h1 : w.cell? ⟨g, 1, none⟩ = some (.int .i64 u))
    (hf : w.frozen? ⟨g, 1, none⟩ = false) (hx : w.cell? ⟨b, off + u, none⟩ = some (.int .i64 x)) (hu : u < len) (hl : len ≤ 60) (hn : 1 ≤ n) (hm : n ≤ 9223372036854775807) :
    Calls Try.prog 15 #[.pointer (some ⟨g, 0, none⟩), .int .i64 n] w fun e w' => e = .returned (.int .i64 (blA x n)) ∧ Took g (u + 1) w w' := by
  have hn0 : decide (n ≤ 0) = false := by simp; omega
  go_enter Try.func15, Try.ntmps15
  go_wp2
  go_quiet (fail)
  go_wp2
  go_quiet (fail)
  go_wp2
  go_ret
  exact ⟨rfl, took_set h1 _⟩

set_option maxHeartbeats 1000000 in
theorem below_miss (g : Nat) (A : Option Addr) (len cap u : Nat) (n : Int) (w : World) (h0 : w.cell? ⟨g, 0, none⟩ = some (.slice A len cap)) (h1 : w.cell? ⟨g, 1, none⟩ = some (.int .i64 u))
    (hf : w.frozen? ⟨g, 1, none⟩ = false) (hu : len ≤ u) (hl : u ≤ 80) (hn : 1 ≤ n) (hm : n ≤ 9223372036854775807) :
    Calls Try.prog 15 #[.pointer (some ⟨g, 0, none⟩), .int .i64 n] w fun e w' => e = .returned (.int .i64 (0)) ∧ Took g (u + 1) w w' := by
  have hn0 : decide (n ≤ 0) = false := by simp; omega
  go_enter Try.func15, Try.ntmps15
  go_wp2
  go_quiet (fail)
  go_wp2
  go_ret
  exact ⟨rfl, took_set h1 _⟩

theorem want_zero (g : Nat) (u n : Int) (w : World) (h1 : w.cell? ⟨g, 1, none⟩ = some (.int .i64 u)) (hn : n ≤ 0) :
    Calls Try.prog 16 #[.pointer (some ⟨g, 0, none⟩), .int .i64 n] w fun e w' => e = .returned (.int .i64 0) ∧ Took g u w w' := by
  have hn0 : decide (n ≤ 0) = true := by simpa using hn
  go_enter Try.func16, Try.ntmps16
  go_wp2
  go_ret
  exact ⟨rfl, took_same h1 0⟩

set_option maxHeartbeats 1000000 in
theorem want_hit (g b off len cap u : Nat) (x n : Int) (w : World) (h0 : w.cell? ⟨g, 0, none⟩ = some (.slice (some ⟨b, off, none⟩) len cap)) (h1 : w.cell? ⟨g, 1, none⟩ = some (.int .i64 u))
    (hf : w.frozen? ⟨g, 1, none⟩ = false) (hx : w.cell? ⟨b, off + u, none⟩ = some (.int .i64 x)) (hu : u < len) (hl : len ≤ 60) (hn : 1 ≤ n) (hm : n ≤ 9223372036854775807) :
    Calls Try.prog 16 #[.pointer (some ⟨g, 0, none⟩), .int .i64 n] w fun e w' => e = .returned (.int .i64 (blA x n)) ∧ Took g (u + 1) w w' := by
  have hn0 : decide (n ≤ 0) = false := by simp; omega
  go_enter Try.func16, Try.ntmps16
  go_wp2
  go_quiet (fail)
  go_wp2
  go_quiet (fail)
  go_wp2
  go_ret
  exact ⟨rfl, took_set h1 _⟩

set_option maxHeartbeats 1000000 in
theorem want_miss (g : Nat) (A : Option Addr) (len cap u : Nat) (n : Int) (w : World) (h0 : w.cell? ⟨g, 0, none⟩ = some (.slice A len cap)) (h1 : w.cell? ⟨g, 1, none⟩ = some (.int .i64 u))
    (hf : w.frozen? ⟨g, 1, none⟩ = false) (hu : len ≤ u) (hl : u ≤ 80) (hn : 1 ≤ n) (hm : n ≤ 9223372036854775807) :
    Calls Try.prog 16 #[.pointer (some ⟨g, 0, none⟩), .int .i64 n] w fun e w' => e = .returned (.int .i64 (0)) ∧ Took g (u + 1) w w' := by
  have hn0 : decide (n ≤ 0) = false := by simp; omega
  go_enter Try.func16, Try.ntmps16
  go_wp2
  go_quiet (fail)
  go_wp2
  go_ret
  exact ⟨rfl, took_set h1 _⟩

theorem used_any (g : Nat) (u : Int) (w : World) (h1 : w.cell? ⟨g, 1, none⟩ = some (.int .i64 u)) :
    Calls Try.prog 17 #[.pointer (some ⟨g, 0, none⟩)] w fun e w' => e = .returned (.int .i64 u) ∧ w = w' := by
  go_enter Try.func17, Try.ntmps17
  go_wp2
  go_ret
  exact ⟨rfl, rfl⟩
end Go.Proofs.Ytcjmhiimeaphoaa
