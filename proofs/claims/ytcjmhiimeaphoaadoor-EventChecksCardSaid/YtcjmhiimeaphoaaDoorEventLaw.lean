/-
  DERIVED. EventChecks: the law's walk.
-/
import Derived.Test.YtcjmhiimeaphoaaDoorEvent
import Derived.Test.YtcjmhiimeaphoaaDoorPlace
import Derived.Deep.RegionWith
namespace Go.Proofs.YtcjmhiimeaphoaaDoor
open Go.RowKit PEventChecks Go.Proofs.YtcjmhiimeaphoaaDoorW.PrintWords

theorem check_ok (p t k d a b r : Int) (w : World) (h : ec p t k d a b r = 0) : Calls Tryd.prog 13 #[.agg #[.int .i64 p, .int .i64 t, .int .i64 k, .int .i64 d, .int .i64 a, .int .i64 b, .int .i64 r]] w fun e w' => e = .returned .nilIface ∧ Below w.heap.size w w' :=
  event_Check.calls 4 p t k d a b r none w (by rw [check_f, if_pos h])
theorem check_bad (p t k d a b r : Int) (w : World) (h : ¬ ec p t k d a b r = 0) : Calls Tryd.prog 13 #[.agg #[.int .i64 p, .int .i64 t, .int .i64 k, .int .i64 d, .int .i64 a, .int .i64 b, .int .i64 r]] w fun e w' => e = .returned (.iface 32 (.int .i64 (ec p t k d a b r))) ∧ Below w.heap.size w w' :=
  event_Check.calls 4 p t k d a b r (some (ec p t k d a b r)) w (by rw [check_f, if_neg h])
theorem want_calls (p t k d a b r : Int) (w : World) : Calls Tryd.prog 14 #[.agg #[.int .i64 p, .int .i64 t, .int .i64 k, .int .i64 d, .int .i64 a, .int .i64 b, .int .i64 r]] w fun e w' => e = .returned (.int .i64 (ec p t k d a b r)) ∧ Below w.heap.size w w' :=
  testimonyref_EventCheck.calls 4 p t k d a b r (ec p t k d a b r) w (want_f p t k d a b r)

/-- What events makes of one event. -/
def OneEvent (p t k d a b r : Int) (w : World) (e : Ending) (w' : World) : Prop :=
  ∃ g cap : Nat, e = .returned (.slice (some ⟨g, 0, none⟩) 1 cap) ∧ w.heap.size ≤ g ∧ (w'.cell? ⟨g, 0, none⟩ = some (.int .i64 p) ∧ w'.cell? ⟨g, 1, none⟩ = some (.int .i64 t) ∧ w'.cell? ⟨g, 2, none⟩ = some (.int .i64 k) ∧ w'.cell? ⟨g, 3, none⟩ = some (.int .i64 d) ∧ w'.cell? ⟨g, 4, none⟩ = some (.int .i64 a) ∧ w'.cell? ⟨g, 5, none⟩ = some (.int .i64 b) ∧ w'.cell? ⟨g, 6, none⟩ = some (.int .i64 r)) ∧ Below w.heap.size w w'

theorem events_one (p t k d a b r : Int) (bl : Nat) (w : World) (hc : w.cell? ⟨bl, 0, none⟩ = some (.int .i64 p) ∧ w.cell? ⟨bl, 1, none⟩ = some (.int .i64 t) ∧ w.cell? ⟨bl, 2, none⟩ = some (.int .i64 k) ∧ w.cell? ⟨bl, 3, none⟩ = some (.int .i64 d) ∧ w.cell? ⟨bl, 4, none⟩ = some (.int .i64 a) ∧ w.cell? ⟨bl, 5, none⟩ = some (.int .i64 b) ∧ w.cell? ⟨bl, 6, none⟩ = some (.int .i64 r)) :
    Calls Tryd.prog 15 #[.slice (some ⟨bl, 0, none⟩) 1 1] w (OneEvent p t k d a b r w) := by
  obtain ⟨c0, c1, c2, c3, c4, c5, c6⟩ := hc
  have hr : Kd.C k27 w (some ⟨bl, 0, none⟩) [(⟨p, t, k, d, a, b, r⟩ : S27)].length [(⟨p, t, k, d, a, b, r⟩ : S27)] :=
    ⟨rfl, by simp, fun _ => ⟨⟨bl, 0, none⟩, rfl, fun j x hj => by
      have hj0 : j = 0 := by
        rcases Nat.eq_zero_or_pos j with h | h
        · exact h
        · rw [List.getElem?_eq_none (by simp; omega)] at hj; simp at hj
      subst hj0
      obtain rfl : (⟨p, t, k, d, a, b, r⟩ : S27) = x := by simpa using hj
      refine ⟨_, rfl, k27_mk w _, fun i u hi => ?_⟩
      match i, hi with
      | 0, hi => simp at hi; subst hi; simpa [Addr.add] using c0
      | 1, hi => simp at hi; subst hi; simpa [Addr.add] using c1
      | 2, hi => simp at hi; subst hi; simpa [Addr.add] using c2
      | 3, hi => simp at hi; subst hi; simpa [Addr.add] using c3
      | 4, hi => simp at hi; subst hi; simpa [Addr.add] using c4
      | 5, hi => simp at hi; subst hi; simpa [Addr.add] using c5
      | 6, hi => simp at hi; subst hi; simpa [Addr.add] using c6
      | n + 7, hi => simp at hi⟩⟩
  have w1 : wrap64 1 = 1 := by unfold wrap64; omega
  have hf : testimonylaw_events.f 2 [(⟨p, t, k, d, a, b, r⟩ : S27)] = some [(⟨p, t, k, d, a, b, r⟩ : S34)] := by
    unfold testimonylaw_events.f
    simp [testimonylaw_events.l0, rd_T27, w1]
  refine (testimonylaw_events.calls 2 _ 1 _ _ w hr (by simp) hf).mono ?_
  rintro e w' ⟨v0, rfl, hR, hb⟩
  obtain ⟨g, cap, rfl, hg, hlt, _⟩ := Kd.R_form hR (by simp)
  have hC := (Kd.R_reads' hR).2.2
  obtain ⟨ad, had, h0, h1, h2, h3, h4, h5, h6⟩ := at_T34 hC 0 (by omega) (by simp)
  obtain rfl : ad = ⟨g, 0, none⟩ := by simpa using had.symm
  exact ⟨g, cap, rfl, hg, ⟨by simpa [Addr.add, rd_T34] using h0, by simpa [Addr.add, rd_T34] using h1, by simpa [Addr.add, rd_T34] using h2, by simpa [Addr.add, rd_T34] using h3, by simpa [Addr.add, rd_T34] using h4, by simpa [Addr.add, rd_T34] using h5, by simpa [Addr.add, rd_T34] using h6⟩, hb⟩

theorem seven {n : Nat} {p t k d a b r : Int} {W W' : World} (hb : Below W.heap.size W W') (h : W.cell? ⟨1, 0, none⟩ = some (.iface 105 (.agg #[.pointer (some ⟨2, 30, none⟩)])) ∧ W.cell? ⟨n, 0, none⟩ = some (.int .i64 p) ∧ W.cell? ⟨n, 1, none⟩ = some (.int .i64 t) ∧ W.cell? ⟨n, 2, none⟩ = some (.int .i64 k) ∧ W.cell? ⟨n, 3, none⟩ = some (.int .i64 d) ∧ W.cell? ⟨n, 4, none⟩ = some (.int .i64 a) ∧ W.cell? ⟨n, 5, none⟩ = some (.int .i64 b) ∧ W.cell? ⟨n, 6, none⟩ = some (.int .i64 r) ∧ n < W.heap.size) : W'.cell? ⟨1, 0, none⟩ = some (.iface 105 (.agg #[.pointer (some ⟨2, 30, none⟩)])) ∧ W'.cell? ⟨n, 0, none⟩ = some (.int .i64 p) ∧ W'.cell? ⟨n, 1, none⟩ = some (.int .i64 t) ∧ W'.cell? ⟨n, 2, none⟩ = some (.int .i64 k) ∧ W'.cell? ⟨n, 3, none⟩ = some (.int .i64 d) ∧ W'.cell? ⟨n, 4, none⟩ = some (.int .i64 a) ∧ W'.cell? ⟨n, 5, none⟩ = some (.int .i64 b) ∧ W'.cell? ⟨n, 6, none⟩ = some (.int .i64 r) ∧ n < W'.heap.size := by
  obtain ⟨hE, h0, h1, h2, h3, h4, h5, h6, hz⟩ := h
  exact ⟨(hb.cell (p := ⟨1, 0, none⟩) (World.block_lt_of_cell? _ _ hE)).trans hE, (hb.cell (p := ⟨_, _, none⟩) hz).trans h0, (hb.cell (p := ⟨_, _, none⟩) hz).trans h1, (hb.cell (p := ⟨_, _, none⟩) hz).trans h2, (hb.cell (p := ⟨_, _, none⟩) hz).trans h3, (hb.cell (p := ⟨_, _, none⟩) hz).trans h4, (hb.cell (p := ⟨_, _, none⟩) hz).trans h5, (hb.cell (p := ⟨_, _, none⟩) hz).trans h6, Nat.lt_of_lt_of_le hz hb.size⟩

set_option maxRecDepth 100000 in
set_option maxHeartbeats 2000000 in
theorem event_law_ok (p t k d a b r : Int) (w : World) (hE : ErrType w) (h : ec p t k d a b r = 0) :
    Calls Tryd.prog 4 #[.agg #[.int .i64 p, .int .i64 t, .int .i64 k, .int .i64 d, .int .i64 a, .int .i64 b, .int .i64 r]] w fun e w' => e = .returned (.bool true) ∧ Below w.heap.size w w' := by
  have H := hid h
  clear h
  have hlt := World.block_lt_of_cell? _ _ hE
  have HE := hid hE
  clear hE
  go_enter Tryd.func4, Tryd.ntmps4
  go_wp2_with fail
  refine name_world ?_
  intro W hW
  have hB : Below w.heap.size w W := by rw [hW]; repeat (first | exact Below.refl _ _ | apply Below.drew | apply below_draws | apply below_alloc)
  have hS : W.cell? ⟨1, 0, none⟩ = some (.iface 105 (.agg #[.pointer (some ⟨2, 30, none⟩)])) ∧ W.cell? ⟨w.heap.size, 0, none⟩ = some (.int .i64 p) ∧ W.cell? ⟨w.heap.size, 1, none⟩ = some (.int .i64 t) ∧ W.cell? ⟨w.heap.size, 2, none⟩ = some (.int .i64 k) ∧ W.cell? ⟨w.heap.size, 3, none⟩ = some (.int .i64 d) ∧ W.cell? ⟨w.heap.size, 4, none⟩ = some (.int .i64 a) ∧ W.cell? ⟨w.heap.size, 5, none⟩ = some (.int .i64 b) ∧ W.cell? ⟨w.heap.size, 6, none⟩ = some (.int .i64 r) ∧ w.heap.size < W.heap.size := by
    refine ⟨(hB.cell (p := ⟨1, 0, none⟩) hlt).trans HE.out, ?_⟩
    rw [hW]; simp [go_sem]
  clear hW
  obtain ⟨uE, u0, u1, u2, u3, u4, u5, u6, uz⟩ := hS
  go_region_with (first | (go_at_call 13; refine (check_ok p t k d a b r _ H.out).mono ?_; rintro e w1 ⟨rfl, B1⟩; have D0 : Below W.heap.size W w1 := below_next (Below.drew (Below.refl _ _)) B1; have D1 := below_next hB D0; have s1 := seven D0 ⟨uE, u0, u1, u2, u3, u4, u5, u6, uz⟩; obtain ⟨vE, v0, v1, v2, v3, v4, v5, v6, vz⟩ := s1) | (go_at_call 13; refine (check_ok p t k d a b r _ H.out).mono ?_; rintro e w1 ⟨rfl, B1⟩; have D0 : Below W.heap.size W w1 := below_next (Below.drew (below_alloc (Below.refl _ _) _)) B1; have D1 := below_next hB D0; have s1 := seven D0 ⟨uE, u0, u1, u2, u3, u4, u5, u6, uz⟩; obtain ⟨vE, v0, v1, v2, v3, v4, v5, v6, vz⟩ := s1; have x0 : w1.cell? ⟨W.heap.size, 0, none⟩ = some (.int .i64 p) := (B1.cell (p := ⟨W.heap.size, 0, none⟩) (by simp)).trans (by simp [go_sem]); have x1 : w1.cell? ⟨W.heap.size, 1, none⟩ = some (.int .i64 t) := (B1.cell (p := ⟨W.heap.size, 1, none⟩) (by simp)).trans (by simp [go_sem]); have x2 : w1.cell? ⟨W.heap.size, 2, none⟩ = some (.int .i64 k) := (B1.cell (p := ⟨W.heap.size, 2, none⟩) (by simp)).trans (by simp [go_sem]); have x3 : w1.cell? ⟨W.heap.size, 3, none⟩ = some (.int .i64 d) := (B1.cell (p := ⟨W.heap.size, 3, none⟩) (by simp)).trans (by simp [go_sem]); have x4 : w1.cell? ⟨W.heap.size, 4, none⟩ = some (.int .i64 a) := (B1.cell (p := ⟨W.heap.size, 4, none⟩) (by simp)).trans (by simp [go_sem]); have x5 : w1.cell? ⟨W.heap.size, 5, none⟩ = some (.int .i64 b) := (B1.cell (p := ⟨W.heap.size, 5, none⟩) (by simp)).trans (by simp [go_sem]); have x6 : w1.cell? ⟨W.heap.size, 6, none⟩ = some (.int .i64 r) := (B1.cell (p := ⟨W.heap.size, 6, none⟩) (by simp)).trans (by simp [go_sem])) | (go_at_call 15; refine (events_one p t k d a b r _ _ (by simp [go_sem, *])).mono ?_; rintro e w2 ⟨g, cap, rfl, G2, ⟨y0, y1, y2, y3, y4, y5, y6⟩, B2⟩; have D2 : Below w.heap.size w w2 := by first | exact below_next D1 B2 | exact below_next (below_alloc D1 _) B2) | (go_at_call 14; refine (want_calls p t k d a b r _).mono ?_; rintro e w3 ⟨rfl, B3⟩; have D3 := below_next D2 B3; have E3 := HE.out.later D3) | (go_at_call 12; refine (bare_nil _ _).mono ?_; rintro e w4 ⟨rfl, B4⟩; have D4 := below_next D3 B4))
  all_goals
    go_wp2
    go_ret
    exact ⟨ret_bool' (by rw [H.out]; rfl), D4⟩

set_option maxRecDepth 100000 in
set_option maxHeartbeats 2000000 in
theorem event_law_bad (p t k d a b r : Int) (w : World) (hE : ErrType w) (h : ¬ ec p t k d a b r = 0) :
    Calls Tryd.prog 4 #[.agg #[.int .i64 p, .int .i64 t, .int .i64 k, .int .i64 d, .int .i64 a, .int .i64 b, .int .i64 r]] w fun e w' => e = .returned (.bool true) ∧ Below w.heap.size w w' := by
  have H := hid h
  clear h
  have hlt := World.block_lt_of_cell? _ _ hE
  have HE := hid hE
  clear hE
  go_enter Tryd.func4, Tryd.ntmps4
  go_wp2_with fail
  refine name_world ?_
  intro W hW
  have hB : Below w.heap.size w W := by rw [hW]; repeat (first | exact Below.refl _ _ | apply Below.drew | apply below_draws | apply below_alloc)
  have hS : W.cell? ⟨1, 0, none⟩ = some (.iface 105 (.agg #[.pointer (some ⟨2, 30, none⟩)])) ∧ W.cell? ⟨w.heap.size, 0, none⟩ = some (.int .i64 p) ∧ W.cell? ⟨w.heap.size, 1, none⟩ = some (.int .i64 t) ∧ W.cell? ⟨w.heap.size, 2, none⟩ = some (.int .i64 k) ∧ W.cell? ⟨w.heap.size, 3, none⟩ = some (.int .i64 d) ∧ W.cell? ⟨w.heap.size, 4, none⟩ = some (.int .i64 a) ∧ W.cell? ⟨w.heap.size, 5, none⟩ = some (.int .i64 b) ∧ W.cell? ⟨w.heap.size, 6, none⟩ = some (.int .i64 r) ∧ w.heap.size < W.heap.size := by
    refine ⟨(hB.cell (p := ⟨1, 0, none⟩) hlt).trans HE.out, ?_⟩
    rw [hW]; simp [go_sem]
  clear hW
  obtain ⟨uE, u0, u1, u2, u3, u4, u5, u6, uz⟩ := hS
  go_region_with (first | (go_at_call 13; refine (check_bad p t k d a b r _ H.out).mono ?_; rintro e w1 ⟨rfl, B1⟩; have D0 : Below W.heap.size W w1 := below_next (Below.drew (Below.refl _ _)) B1; have D1 := below_next hB D0; have s1 := seven D0 ⟨uE, u0, u1, u2, u3, u4, u5, u6, uz⟩; obtain ⟨vE, v0, v1, v2, v3, v4, v5, v6, vz⟩ := s1) | (go_at_call 13; refine (check_bad p t k d a b r _ H.out).mono ?_; rintro e w1 ⟨rfl, B1⟩; have D0 : Below W.heap.size W w1 := below_next (Below.drew (below_alloc (Below.refl _ _) _)) B1; have D1 := below_next hB D0; have s1 := seven D0 ⟨uE, u0, u1, u2, u3, u4, u5, u6, uz⟩; obtain ⟨vE, v0, v1, v2, v3, v4, v5, v6, vz⟩ := s1; have x0 : w1.cell? ⟨W.heap.size, 0, none⟩ = some (.int .i64 p) := (B1.cell (p := ⟨W.heap.size, 0, none⟩) (by simp)).trans (by simp [go_sem]); have x1 : w1.cell? ⟨W.heap.size, 1, none⟩ = some (.int .i64 t) := (B1.cell (p := ⟨W.heap.size, 1, none⟩) (by simp)).trans (by simp [go_sem]); have x2 : w1.cell? ⟨W.heap.size, 2, none⟩ = some (.int .i64 k) := (B1.cell (p := ⟨W.heap.size, 2, none⟩) (by simp)).trans (by simp [go_sem]); have x3 : w1.cell? ⟨W.heap.size, 3, none⟩ = some (.int .i64 d) := (B1.cell (p := ⟨W.heap.size, 3, none⟩) (by simp)).trans (by simp [go_sem]); have x4 : w1.cell? ⟨W.heap.size, 4, none⟩ = some (.int .i64 a) := (B1.cell (p := ⟨W.heap.size, 4, none⟩) (by simp)).trans (by simp [go_sem]); have x5 : w1.cell? ⟨W.heap.size, 5, none⟩ = some (.int .i64 b) := (B1.cell (p := ⟨W.heap.size, 5, none⟩) (by simp)).trans (by simp [go_sem]); have x6 : w1.cell? ⟨W.heap.size, 6, none⟩ = some (.int .i64 r) := (B1.cell (p := ⟨W.heap.size, 6, none⟩) (by simp)).trans (by simp [go_sem])) | (go_at_call 15; refine (events_one p t k d a b r _ _ (by simp [go_sem, *])).mono ?_; rintro e w2 ⟨g, cap, rfl, G2, ⟨y0, y1, y2, y3, y4, y5, y6⟩, B2⟩; have D2 : Below w.heap.size w w2 := by first | exact below_next D1 B2 | exact below_next (below_alloc D1 _) B2) | (go_at_call 14; refine (want_calls p t k d a b r _).mono ?_; rintro e w3 ⟨rfl, B3⟩; have D3 := below_next D2 B3; have E3 := HE.out.later D3) | (go_at_call 12; refine (bare_errno _ _ _ E3).mono ?_; rintro e w4 ⟨rfl, B4⟩; have D4 := below_next D3 B4))
  all_goals
    go_wp2
    go_ret
    exact ⟨ret_bool' (by simp), D4⟩

end Go.Proofs.YtcjmhiimeaphoaaDoor
