/-
  DERIVED. GenTapes: the law's walk.
-/
import Derived.Test.YtcjmhiimeaphoaaTape
import Derived.Deep.RegionWith
namespace Go.Proofs.Ytcjmhiimeaphoaa
open Go.RowKit

/-- A slice of integers that lies below block B. -/
def Nums (B : Nat) (A : Option Addr) (len : Nat) (zs : Nat → Int) (W : World) : Prop :=
  ∀ i, i < len → ∃ b off, A = some ⟨b, off, none⟩ ∧ b < B ∧ W.cell? ⟨b, off + i, none⟩ = some (.int .i64 (zs i))
theorem Nums.later {B : Nat} {A : Option Addr} {len : Nat} {zs : Nat → Int} {W W' : World} (h : Nums B A len zs W) (hb : Below B W W') : Nums B A len zs W' := fun i hi => by
  obtain ⟨b, off, e, hB, hc⟩ := h i hi
  exact ⟨b, off, e, hB, (hb.cell (p := ⟨b, off + i, none⟩) hB).trans hc⟩

/-- What a tape gives that has given u numbers. -/
def giveR (zs : Nat → Int) (len u : Nat) (n : Int) : Int := if n ≤ 0 then 0 else if u < len then blA (zs u) n else 0
/-- How many numbers it has given then. -/
def giveU (u : Nat) (n : Int) : Nat := if n ≤ 0 then u else u + 1

theorem below_any (B g len cap u : Nat) (A : Option Addr) (zs : Nat → Int) (n : Int) (w : World) (hN : Nums B A len zs w) (h0 : w.cell? ⟨g, 0, none⟩ = some (.slice A len cap)) (h1 : w.cell? ⟨g, 1, none⟩ = some (.int .i64 u))
    (hf : w.frozen? ⟨g, 1, none⟩ = false) (hl : len ≤ 60) (hu : u ≤ 80) (hm : n ≤ 9223372036854775807) :
    Calls Try.prog 15 #[.pointer (some ⟨g, 0, none⟩), .int .i64 n] w fun e w' => e = .returned (.int .i64 (giveR zs len u n)) ∧ Took g (giveU u n) w w' := by
  unfold giveR giveU
  by_cases hn : n ≤ 0
  · rw [if_pos hn, if_pos hn]; exact below_zero g u n w h1 hn
  · rw [if_neg hn, if_neg hn]
    by_cases hlt : u < len
    · rw [if_pos hlt]
      obtain ⟨b, off, rfl, _, hc⟩ := hN u hlt
      exact below_hit g b off len cap u (zs u) n w h0 h1 hf hc hlt hl (by omega) hm
    · rw [if_neg hlt]
      exact below_miss g A len cap u n w h0 h1 hf (by omega) hu (by omega) hm

theorem want_any (B g len cap u : Nat) (A : Option Addr) (zs : Nat → Int) (n : Int) (w : World) (hN : Nums B A len zs w) (h0 : w.cell? ⟨g, 0, none⟩ = some (.slice A len cap)) (h1 : w.cell? ⟨g, 1, none⟩ = some (.int .i64 u))
    (hf : w.frozen? ⟨g, 1, none⟩ = false) (hl : len ≤ 60) (hu : u ≤ 80) (hm : n ≤ 9223372036854775807) :
    Calls Try.prog 16 #[.pointer (some ⟨g, 0, none⟩), .int .i64 n] w fun e w' => e = .returned (.int .i64 (giveR zs len u n)) ∧ Took g (giveU u n) w w' := by
  unfold giveR giveU
  by_cases hn : n ≤ 0
  · rw [if_pos hn, if_pos hn]; exact want_zero g u n w h1 hn
  · rw [if_neg hn, if_neg hn]
    by_cases hlt : u < len
    · rw [if_pos hlt]
      obtain ⟨b, off, rfl, _, hc⟩ := hN u hlt
      exact want_hit g b off len cap u (zs u) n w h0 h1 hf hc hlt hl (by omega) hm
    · rw [if_neg hlt]
      exact want_miss g A len cap u n w h0 h1 hf (by omega) hu (by omega) hm

theorem Took.undrew {g : Nat} {u : Int} {w w' : World} (h : Took g u w.drew w') : Took g u w w' :=
  ⟨h.count, h.cells, h.first, h.frozen, fun B hB => ⟨(h.below B hB).os, (h.below B hB).tape, (h.below B hB).output, (h.below B hB).size, (h.below B hB).block⟩⟩

/-- Both tapes have given u numbers. -/
structure Both (A0 : Option Addr) (len0 cap0 u : Nat) (w wr : World) : Prop where
  c0 : wr.cell? ⟨w.heap.size, 0, none⟩ = some (.slice A0 len0 cap0)
  c1 : wr.cell? ⟨w.heap.size, 1, none⟩ = some (.int .i64 u)
  f1 : wr.frozen? ⟨w.heap.size, 1, none⟩ = false
  e0 : wr.cell? ⟨w.heap.size + 1, 0, none⟩ = some (.slice A0 len0 cap0)
  e1 : wr.cell? ⟨w.heap.size + 1, 1, none⟩ = some (.int .i64 u)
  g1 : wr.frozen? ⟨w.heap.size + 1, 1, none⟩ = false
  below : Below w.heap.size w wr

theorem Both.next {A0 : Option Addr} {len0 cap0 u u' : Nat} {w wr w1 w2 : World} (h : Both A0 len0 cap0 u w wr) (T1 : Took w.heap.size u' wr w1) (T2 : Took (w.heap.size + 1) u' w1 w2) : Both A0 len0 cap0 u' w w2 :=
  ⟨((T2.cells _ _ (by omega)).trans T1.first).trans h.c0, (T2.cells _ _ (by omega)).trans T1.count, (T2.frozen _ _).trans ((T1.frozen _ _).trans h.f1), T2.first.trans ((T1.cells _ _ (by omega)).trans h.e0), T2.count,
    (T2.frozen _ _).trans ((T1.frozen _ _).trans h.g1), h.below.trans ((T1.below _ (Nat.le_refl _)).trans (T2.below _ (by omega)))⟩

/-- What holds at a round's head. -/
def GRel (A0 : Option Addr) (len0 cap0 len1 : Nat) (w : World) (i : Value) (wr : World) : Prop :=
  ∃ k u : Nat, k ≤ len1 ∧ u ≤ k ∧ i = .int .i64 k ∧ Both A0 len0 cap0 u w wr

theorem giveU_le (u k : Nat) (n : Int) (h : u ≤ k) : giveU u n ≤ k + 1 := by unfold giveU; split <;> omega

set_option maxHeartbeats 4000000 in
theorem gen_law (A0 : Option Addr) (len0 cap0 : Nat) (zs : Nat → Int) (A1 : Option Addr) (len1 cap1 : Nat) (bs : Nat → Int) (w : World)
    (hN : Nums w.heap.size A0 len0 zs w) (hB : Nums w.heap.size A1 len1 bs w) (hbs : ∀ i, bs i ≤ 9223372036854775807) (h0 : len0 ≤ 60) (h1 : len1 ≤ 80) :
    Calls Try.prog 5 #[.slice A0 len0 cap0, .slice A1 len1 cap1] w fun e w' => e = .returned (.bool true) ∧ Below w.heap.size w w' := by
  have HN := hid hN
  have HB := hid hB
  have HS := hid hbs
  clear hN hB hbs
  have d0 : decide (len0 > 60) = false := by simp; omega
  have d1 : decide (len1 > 80) = false := by simp; omega
  go_enter Try.func5, Try.ntmps5
  go_wp2
  go_loopw [7] (fun i wr => GRel A0 len0 cap0 len1 w i wr) (fun i _ => len1 - (intOf i).toNat)
  case atStart =>
    exact ⟨0, 0, Nat.zero_le _, Nat.zero_le _, rfl, by simp [go_sem], by simp [go_sem], by simp [go_sem], by simp [go_sem], by simp [go_sem], by simp [go_sem], below_alloc (below_alloc (Below.refl _ _) _) _⟩
  case round =>
    obtain ⟨k, u, hk, hu, rfl, hBo⟩ := hrel
    by_cases hlt : k < len1
    · obtain ⟨bb, boff, rfl, hbb, hx⟩ := (HB.out.later hBo.below) k hlt
      have HNr := hid (HN.out.later hBo.below)
      have HM := hid (HS.out k)
      have n1 : bb ≠ w.heap.size := by omega
      have n2 : bb ≠ w.heap.size + 1 := by omega
      have hc : decide ((k : Int) < (len1 : Int)) = true := by simp; omega
      generalize hb : bs k = x at *
      clear hb HB HS
      have hu80 : u ≤ 80 := by omega
      go_wp2
      go_region_with (first | (go_at_call 15; refine (below_any w.heap.size _ len0 cap0 u A0 zs x _ (by exact HNr.out) (by exact hBo.c0) (by exact hBo.c1) (by exact hBo.f1) h0 hu80 HM.out).mono ?_; rintro e w1 ⟨rfl, T1⟩; have hx1 := (T1.cells _ _ n1).trans hx) | (go_at_call 16; refine (want_any w.heap.size _ len0 cap0 u A0 zs x w1 (Nums.later (HNr.out) ((T1.undrew).below _ (Nat.le_refl _))) (by rw [T1.cells _ _ (by omega)]; exact hBo.e0) (by rw [T1.cells _ _ (by omega)]; exact hBo.e1) (by rw [T1.frozen]; exact hBo.g1) h0 hu80 HM.out).mono ?_; rintro e w2 ⟨rfl, T2⟩; have T2c := T2.count) | (go_at_call 17; refine (used_any _ _ w2 (by rw [T2.cells _ _ (by omega)]; exact T1.count)).mono ?_; rintro e w3 ⟨rfl, rfl⟩))
      all_goals
        go_wp2
        go_roundw
        case rel => exact ⟨k + 1, giveU u x, by omega, giveU_le u k x hu, by go_num, hBo.next T1.undrew T2⟩
        case measure => simp [intOf]; omega
    · have hc : decide ((k : Int) < (len1 : Int)) = false := by simp; omega
      go_wp2
      go_ret
      exact ⟨rfl, hBo.below⟩
end Go.Proofs.Ytcjmhiimeaphoaa
