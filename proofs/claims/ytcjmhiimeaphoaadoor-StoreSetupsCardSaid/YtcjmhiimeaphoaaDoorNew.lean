/-
  DERIVED. StoreSetups: store.New of a setup that may be.
-/
import Derived.Test.YtcjmhiimeaphoaaDoorSetup
import Derived.Laws.MakeOwn
import Derived.BigRegion
namespace Go.Proofs.YtcjmhiimeaphoaaDoor
open Go.RowKit

theorem make_nodes (n : Nat) (h : n ≤ 7) : ∃ cs : Array Value, cs.size = n * 24 ∧ ∀ w : World, (Instr.makeSlice 67 (.int .i64 n) (.int .i64 n)).run Tryd.prog w = .ok (.slice (some ⟨w.heap.size, 0, none⟩) n n) (w.alloc (.cells cs 79)) := by
  obtain ⟨i, hi, hs, hb⟩ : ∃ i, Tryd.prog.info? 79 = some i ∧ i.size = 24 ∧ i.bytes = 192 := by
    have e : (Tryd.prog.info? 79).map (fun i => (i.size, i.bytes)) = some (24, 192) := by kernel_rfl
    obtain ⟨i, hi, h2⟩ := Option.map_eq_some_iff.1 e
    exact ⟨i, hi, congrArg Prod.fst h2, congrArg Prod.snd h2⟩
  obtain ⟨z, hz⟩ : ∃ z, i.zero = some z := by
    have e : (Tryd.prog.info? 79).map (fun i => i.zero.isSome) = some true := by kernel_rfl
    rw [hi] at e
    exact Option.isSome_iff_exists.1 (Option.some.inj e)
  refine ⟨madeCells z.cells (n * 24), size_madeCells _ _, fun w => ?_⟩
  have hr := run_make (P := Tryd.prog) w 67 79 i z Tryd.underlying67 hi hz .i64 .i64 n n (by omega) (Int.le_refl _) (by rw [hb]; omega) (by omega)
  simpa [hs] using hr

theorem make_clients (n : Nat) (h : n ≤ 8) : ∃ cs : Array Value, ∀ w : World, (Instr.makeSlice 68 (.int .i64 n) (.int .i64 n)).run Tryd.prog w = .ok (.slice (some ⟨w.heap.size, 0, none⟩) n n) (w.alloc (.cells cs 133)) := by
  obtain ⟨i, hi, hb⟩ : ∃ i, Tryd.prog.info? 133 = some i ∧ i.bytes ≤ 100000 := by
    have e : (Tryd.prog.info? 133).map (fun i => decide (i.bytes ≤ 100000)) = some true := by kernel_rfl
    obtain ⟨i, hi, h2⟩ := Option.map_eq_some_iff.1 e
    exact ⟨i, hi, of_decide_eq_true h2⟩
  obtain ⟨z, hz⟩ : ∃ z, i.zero = some z := by
    have e : (Tryd.prog.info? 133).map (fun i => i.zero.isSome) = some true := by kernel_rfl
    rw [hi] at e
    exact Option.isSome_iff_exists.1 (Option.some.inj e)
  refine ⟨madeCells z.cells (n * i.size), fun w => ?_⟩
  have hx : (i.bytes : Int) * (n : Int) ≤ 100000 * 8 := Int.mul_le_mul (by omega) (by omega) (by omega) (by omega)
  have hr := run_make (P := Tryd.prog) w 68 133 i z Tryd.underlying68 hi hz .i64 .i64 n n (by omega) (Int.le_refl _) (by omega) (by omega)
  simpa using hr

theorem top3_a (W : World) (a b c : Obj) : (((W.alloc a).alloc b).alloc c).drew.heap[W.heap.size]? = some a := by
  show (((W.alloc a).alloc b).alloc c).heap[W.heap.size]? = some a
  rw [heap_alloc_old _ _ (by simp; omega), heap_alloc_old _ _ (by simp), heap_alloc_new]
theorem top3_b (W : World) (a b c : Obj) : (((W.alloc a).alloc b).alloc c).drew.heap[W.heap.size + 1]? = some b := by
  show (((W.alloc a).alloc b).alloc c).heap[W.heap.size + 1]? = some b
  rw [heap_alloc_old _ _ (by simp)]
  have h := heap_alloc_new (W.alloc a) b
  simpa using h

/-- A block of nodes. -/
def NB (g n : Nat) (W : World) : Prop := ∃ cs : Array Value, W.heap[g]? = some (.cells cs 79 (0, 0)) ∧ cs.size = n * 24
theorem NB.cell {g n : Nat} {W : World} (h : NB g n W) (o : Nat) (ho : o < n * 24) : ∃ v, W.cell? ⟨g, o, none⟩ = some v := by
  obtain ⟨cs, hh, hs⟩ := h
  exact ⟨cs[o]'(by omega), by simp [World.cell?, hh]⟩
theorem NB.frozen {g n : Nat} {W : World} (h : NB g n W) (o : Nat) : W.frozen? ⟨g, o, none⟩ = false := by
  obtain ⟨cs, hh, hs⟩ := h
  simp [World.frozen?, hh]
theorem NB.set {g n : Nat} {W : World} (h : NB g n W) (o : Nat) (v : Value) : NB g n (W.setCell ⟨g, o, none⟩ v) := by
  obtain ⟨cs, hh, hs⟩ := h
  refine ⟨cs.setIfInBounds o v, ?_, by simpa using hs⟩
  simp [World.setCell, Array.getElem?_modify, hh]

/-- What holds at a round's head: the store, its nodes. -/
def NRel (g st n : Nat) (w : World) (top : Nat) (i : Value) (wr : World) : Prop :=
  ∃ k : Nat, k ≤ top ∧ i = .int .i64 k ∧ NB g n wr ∧ wr.cell? ⟨st, 5, none⟩ = some (.slice (some ⟨g, 0, none⟩) n n) ∧ Below w.heap.size w wr

/-- What New gives: a store that is not nil, and no error. -/
def IsNew (w : World) (e : Ending) (w' : World) : Prop := (∃ x : Addr, e = .returned (.tuple #[.pointer (some x), .nilIface])) ∧ Below w.heap.size w w'

set_option maxRecDepth 100000 in
set_option maxHeartbeats 1000000 in
theorem new_ok (n m : Nat) (a t : Int) (b : Bool) (w : World) (hn : 1 ≤ n) (hn7 : n ≤ 7) (_hm : 1 ≤ m) (hm8 : m ≤ 8) (h : sc n m a t = 0) :
    Calls Tryd.prog 17 #[.agg #[.int .i64 n, .int .i64 m, .int .i64 a, .int .i64 t, .bool b]] w (IsNew w) := by
  have H := hid h
  clear h
  obtain ⟨cs, hcs, hmk⟩ := make_nodes n hn7
  obtain ⟨ds, hmk2⟩ := make_clients m hm8
  have HC := hid hcs
  clear hcs
  go_enter Tryd.func17, Tryd.ntmps17
  go_wp2_with fail
  refine (scheck_ok n m a t b _ H.out).mono ?_
  rintro e w1 ⟨rfl, hb⟩
  have c0 := (hb.cell (p := ⟨w.heap.size, 0, none⟩) (by simp))
  have c1 := (hb.cell (p := ⟨w.heap.size, 1, none⟩) (by simp))
  have c2 := (hb.cell (p := ⟨w.heap.size, 2, none⟩) (by simp))
  have c3 := (hb.cell (p := ⟨w.heap.size, 3, none⟩) (by simp))
  have c4 := (hb.cell (p := ⟨w.heap.size, 4, none⟩) (by simp))
  have z0 : w.heap.size < w1.heap.size := by have hq := hb.size; simp at hq; omega
  have z1 : w.heap.size ≠ w1.heap.size := by omega
  have z2 : w.heap.size ≠ w1.heap.size + 1 := by omega
  have HB := hid hb
  clear hb
  simp [go_sem] at c0 c1 c2 c3 c4
  go_wp2_with fail
  go_region
  · go_wp2
    go_loopw [27] (fun i wr => NRel (w1.heap.size) (w1.heap.size + 1 + 1) n w n i wr) (fun i _ => n - (intOf i).toNat)
    case atStart => exact ⟨0, by omega, rfl, ⟨cs, top3_a w1 _ _ _, HC.out⟩, by simp [go_sem], by
      have HB1 := below_next (below_alloc (Below.refl w.heap.size w) _) HB.out
      repeat (first | exact HB1 | apply Below.drew | apply below_alloc)⟩
    case round =>
      obtain ⟨k, hk, rfl, hN, hst, hBe⟩ := hrel
      by_cases hlt : k < n
      · have hc : decide ((k : Int) < (n : Int)) = true := by simp; omega
        go_wp2
        obtain ⟨wo, hwo⟩ : ∃ wo : World, wo = wr := ⟨_, rfl⟩
        subst hwo
        go_loopw [30] (fun i wr => NRel (w1.heap.size) (w1.heap.size + 1 + 1) n w 8 i wr) (fun i _ => 8 - (intOf i).toNat)
        case atStart => exact ⟨0, by omega, rfl, hN, hst, hBe⟩
        case round =>
          obtain ⟨j, hj, rfl, hN, hst, hBe⟩ := hrel
          by_cases hlt2 : j < 8
          · have hc2 : decide ((j : Int) < (8 : Int)) = true := by simp; omega
            obtain ⟨x0, hx0⟩ := hN.cell (k * 24 + j * 3) (by omega)
            obtain ⟨x1, hx1⟩ := hN.cell (k * 24 + j * 3 + 1) (by omega)
            obtain ⟨x2, hx2⟩ := hN.cell (k * 24 + j * 3 + 2) (by omega)
            have hf := hN.frozen
            go_wp2
            go_roundw
            case rel => exact ⟨j + 1, by omega, by go_num, ((hN.set _ _).set _ _).set _ _, by simp [go_sem, hst], ((hBe.setCell (by simp; omega) _).setCell (by simp; omega) _).setCell (by simp; omega) _⟩
            case measure => simp [intOf]; omega
          · have hc2 : decide ((j : Int) < (8 : Int)) = false := by simp; omega
            go_wp2
            go_roundw
            case rel => exact ⟨k + 1, by omega, by go_num, hN, hst, hBe⟩
            case measure => simp [intOf]; omega
      · have hc : decide ((k : Int) < (n : Int)) = false := by simp; omega
        go_wp2
        go_ret2
        exact ⟨⟨_, rfl⟩, hBe⟩
  · go_wp2
    go_loopw [27] (fun i wr => NRel (w1.heap.size + 1) (w1.heap.size + 1 + 1) n w n i wr) (fun i _ => n - (intOf i).toNat)
    case atStart => exact ⟨0, by omega, rfl, ⟨cs, top3_b w1 _ _ _, HC.out⟩, by simp [go_sem], by
      have HB1 := below_next (below_alloc (Below.refl w.heap.size w) _) HB.out
      repeat (first | exact HB1 | apply Below.drew | apply below_alloc)⟩
    case round =>
      obtain ⟨k, hk, rfl, hN, hst, hBe⟩ := hrel
      by_cases hlt : k < n
      · have hc : decide ((k : Int) < (n : Int)) = true := by simp; omega
        go_wp2
        obtain ⟨wo, hwo⟩ : ∃ wo : World, wo = wr := ⟨_, rfl⟩
        subst hwo
        go_loopw [30] (fun i wr => NRel (w1.heap.size + 1) (w1.heap.size + 1 + 1) n w 8 i wr) (fun i _ => 8 - (intOf i).toNat)
        case atStart => exact ⟨0, by omega, rfl, hN, hst, hBe⟩
        case round =>
          obtain ⟨j, hj, rfl, hN, hst, hBe⟩ := hrel
          by_cases hlt2 : j < 8
          · have hc2 : decide ((j : Int) < (8 : Int)) = true := by simp; omega
            obtain ⟨x0, hx0⟩ := hN.cell (k * 24 + j * 3) (by omega)
            obtain ⟨x1, hx1⟩ := hN.cell (k * 24 + j * 3 + 1) (by omega)
            obtain ⟨x2, hx2⟩ := hN.cell (k * 24 + j * 3 + 2) (by omega)
            have hf := hN.frozen
            go_wp2
            go_roundw
            case rel => exact ⟨j + 1, by omega, by go_num, ((hN.set _ _).set _ _).set _ _, by simp [go_sem, hst], ((hBe.setCell (by simp; omega) _).setCell (by simp; omega) _).setCell (by simp; omega) _⟩
            case measure => simp [intOf]; omega
          · have hc2 : decide ((j : Int) < (8 : Int)) = false := by simp; omega
            go_wp2
            go_roundw
            case rel => exact ⟨k + 1, by omega, by go_num, hN, hst, hBe⟩
            case measure => simp [intOf]; omega
      · have hc : decide ((k : Int) < (n : Int)) = false := by simp; omega
        go_wp2
        go_ret2
        exact ⟨⟨_, rfl⟩, hBe⟩
end Go.Proofs.YtcjmhiimeaphoaaDoor
