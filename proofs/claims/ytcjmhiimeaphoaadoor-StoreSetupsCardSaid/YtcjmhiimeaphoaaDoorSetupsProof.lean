/-
  The statement that is proved: whatever the arguments are, the law StoreSetups of the given program returns true, and each argument reads behind the call as it read before; the package-level variable that the row lists holds what the program's text lays (the tied card). Conditions: none but the row's own.
-/
import Derived.Test.YtcjmhiimeaphoaaDoorSetupsLaw
import Derived.Test.YtcjmhiimeaphoaaDoorErrType
import Derived.Test.YtcjmhiimeaphoaaDoorStruct
import Derived.LaidMore
import Derived.Stop.Joined
import Derived.SevenTiedAt
namespace Go.Proofs.YtcjmhiimeaphoaaDoor
open Go.ChangeShapes Go.WideShapes Go.ChangeAt Go.RowKit
set_option linter.unusedVariables false

theorem ownStoreSetups : ownKnob Tryd.prog.godebug = none := by kernel_rfl
theorem laidOutStoreSetups : laidOutB Tryd.prog = true := by kernel_rfl

/-- The door's own heap meets the condition. -/
theorem metStoreSetups (os : Os) (args : Array Value) : laidMetH Tryd.prog Rows.storeSetupsRow.laid ((World.doorLaid Tryd.prog 21 os).forCall (fun _ _ => 0) ⟨#[], args, []⟩).memory :=
  laidMetH_of_parts3 (fuel := 8) (laidMet_of_run' 8 (by kernel_rfl) (by kernel_rfl)) (by kernel_rfl) (by kernel_rfl)

theorem list2s {xs : List Int} (h : xs.length = 2) : ∃ a b, xs = [a, b] := by
  match xs, h with
  | [a, b], _ => exact ⟨a, b, rfl⟩

set_option maxRecDepth 100000 in
theorem setup_open {w : World} {r : Reach} {b0 : Nat} {v : Value} (hv : Value.okWide Tryd.prog w r b0 40 v) : ∃ n m p q b, v = .agg #[.int .i64 n, .int .i64 m, .int .i64 p, .int .i64 q, .bool b] := by
  unfold Value.okWide at hv
  rw [Tryd.underlying40] at hv
  obtain ⟨cs, rfl, hsz, ts, hts, _, hall⟩ := hv
  rw [show Tryd.prog.cellTypes Tryd.prog.depth 40 = some [3, 3, 3, 3, 4] by kernel_rfl] at hts
  obtain rfl := Option.some.inj hts
  rw [show Tryd.prog.cellsOf 40 = 5 by kernel_rfl] at hsz
  obtain ⟨l⟩ := cs
  have hl : l.length = 5 := by simpa using hsz
  match l, hl with
  | [c0, c1, c2, c3, c4], _ =>
    have int3 : ∀ c : Value, Cell.okWide Tryd.prog w r b0 3 c → ∃ x, c = .int .i64 x := by
      intro c hok
      unfold Cell.okWide at hok
      rw [Tryd.underlying3] at hok
      cases c <;> simp only [Cell.ok, Tryd.underlying3] at hok
      all_goals first | exact absurd hok id | (obtain ⟨rfl, hh⟩ := hok; exact ⟨_, rfl⟩)
    have bool4 : ∀ c : Value, Cell.okWide Tryd.prog w r b0 4 c → ∃ x, c = .bool x := by
      intro c hok
      unfold Cell.okWide at hok
      rw [Tryd.underlying4] at hok
      cases c <;> simp only [Cell.ok, Tryd.underlying4] at hok
      all_goals first | exact absurd hok id | exact ⟨_, rfl⟩
    obtain ⟨u0, hu0, o0⟩ := hall 0 c0 rfl
    obtain ⟨u1, hu1, o1⟩ := hall 1 c1 rfl
    obtain ⟨u2, hu2, o2⟩ := hall 2 c2 rfl
    obtain ⟨u3, hu3, o3⟩ := hall 3 c3 rfl
    obtain ⟨u4, hu4, o4⟩ := hall 4 c4 rfl
    obtain rfl : 3 = u0 := by simpa using hu0
    obtain rfl : 3 = u1 := by simpa using hu1
    obtain rfl : 3 = u2 := by simpa using hu2
    obtain rfl : 3 = u3 := by simpa using hu3
    obtain rfl : 4 = u4 := by simpa using hu4
    obtain ⟨n, rfl⟩ := int3 _ o0
    obtain ⟨m, rfl⟩ := int3 _ o1
    obtain ⟨p, rfl⟩ := int3 _ o2
    obtain ⟨q, rfl⟩ := int3 _ o3
    obtain ⟨b, rfl⟩ := bool4 _ o4
    exact ⟨_, _, _, _, _, rfl⟩

theorem sc_zero {n c a t : Int} (h : sc n c a t = 0) : 1 ≤ n ∧ n ≤ 7 ∧ 1 ≤ c ∧ c ≤ 8 := by
  unfold sc at h
  split at h
  · assumption
  · exact absurd h (by decide)

theorem setups_law (n m p q x y u v : Int) (b : Bool) (w : World) (hE : ErrType w) :
    Calls Tryd.prog 5 #[.agg #[.int .i64 n, .int .i64 m, .int .i64 p, .int .i64 q, .bool b], .agg #[.int .i64 x, .int .i64 y], .agg #[.int .i64 u, .int .i64 v]] w fun e w' => e = .returned (.bool true) ∧ Below w.heap.size w w' := by
  by_cases h : sc n m p q = 0
  · obtain ⟨h1, h2, h3, h4⟩ := sc_zero h
    obtain ⟨n', rfl⟩ : ∃ k : Nat, n = k := ⟨n.toNat, by omega⟩
    obtain ⟨m', rfl⟩ : ∃ k : Nat, m = k := ⟨m.toNat, by omega⟩
    rcases Int.lt_trichotomy x u with o | rfl | o
    · exact setups_ok_lt n' m' p q x y u v b w (by omega) (by omega) (by omega) (by omega) hE h o
    · by_cases o : y < v
      · exact setups_ok_eqlt n' m' p q x y v b w (by omega) (by omega) (by omega) (by omega) hE h o
      · exact setups_ok_eqge n' m' p q x y v b w (by omega) (by omega) (by omega) (by omega) hE h (by omega)
    · exact setups_ok_gt n' m' p q x y u v b w (by omega) (by omega) (by omega) (by omega) hE h o
  · rcases Int.lt_trichotomy x u with o | rfl | o
    · exact setups_bad_lt n m p q x y u v b w hE h o
    · by_cases o : y < v
      · exact setups_bad_eqlt n m p q x y v b w hE h o
      · exact setups_bad_eqge n m p q x y v b w hE h (by omega)
    · exact setups_bad_gt n m p q x y u v b w hE h o

set_option maxRecDepth 100000 in
theorem liftedStoreSetups (os : Os) (started : os.Started) (H : Type) (enc : TypeId × Value → H) :
    ReturnsInHanded {} Tryd.checked os 5 .any (fun w args => (Rows.storeSetupsSpec.pre enc Tryd.prog Tryd.f5 [] false w args ∧ laidMetH Tryd.prog Rows.storeSetupsRow.laid w) ∧ sizedMet enc Tryd.prog Tryd.f5 (OpenSpec.ofChange Rows.storeSetupsSpec) false w args)
      (Rows.storeSetupsSpec.post enc Tryd.prog Tryd.f5 false true false false) := by
  refine returnsInHanded_of_change_and (C := Tryd.checked) (X := fun w _ => laidMetH Tryd.prog Rows.storeSetupsRow.laid w) (fun _ _ _ hh h => h.of_heap hh) ownStoreSetups started (by kernel_rfl) Tryd.func5
    (ChangeSpec.witness_shaped (enc := enc) (C := Tryd.checked) (os := os) (X := fun w _ => laidMetH Tryd.prog Rows.storeSetupsRow.laid w) false (World.doorLaid Tryd.prog 21 os) #[.agg #[.int .i64 0, .int .i64 0, .int .i64 0, .int .i64 0, .bool false], .agg #[.int .i64 0, .int .i64 0], .agg #[.int .i64 0, .int .i64 0]] 8 rfl (World.shaped_of_RefB (by kernel_rfl) (by kernel_rfl)) (by kernel_rfl) (by kernel_rfl) (by kernel_rfl) (metStoreSetups os _)) ?_
  intro W base args ds gs before hval0 hW _ _ hL _
  have hval : ∀ (j : Nat) t v, Tryd.f5.params[j]? = some t → args[j]? = some v → Value.okWide Tryd.prog W .any base t v := hval0
  have hW' := hW
  obtain ⟨p, q, hA0, hV, rfl, hfz, hnd⟩ := hW
  have hA : DataW.TrodAll enc Tryd.prog W 0 (fun _ => true) true Tryd.f5.params.toList args.toList ds p := hA0
  rw [Tryd.params5] at hA hval
  obtain ⟨v0, vs0, d0, ds0, p0, q0, hargs, rfl, rfl, h0, r0⟩ := trodAll_cons hA
  obtain ⟨v1, vs1, d1, ds1, p1, q1, rfl, rfl, rfl, h1, r1⟩ := trodAll_cons r0
  obtain ⟨v2, vs2, d2, ds2, p2, q2, rfl, rfl, rfl, h2, r2⟩ := trodAll_cons r1
  obtain ⟨rfl, rfl, rfl⟩ := trodAll_nil r2
  obtain rfl : args = #[v0, v1, v2] := by cases args; simp_all
  obtain ⟨rfl, rfl⟩ := trodVars_none hV
  have k0 := h0
  have lt0 : ∀ x ∈ p0, x.block < W.heap.size := by obtain ⟨m, hm⟩ := k0; exact DataW.trod_lt m _ _ _ hm
  have ok0 := hval 0 40 v0 rfl rfl
  have k1 := h1
  have lt1 : ∀ x ∈ p1, x.block < W.heap.size := by obtain ⟨m, hm⟩ := k1; exact DataW.trod_lt m _ _ _ hm
  have ok1 := hval 1 42 v1 rfl rfl
  have k2 := h2
  have lt2 : ∀ x ∈ p2, x.block < W.heap.size := by obtain ⟨m, hm⟩ := k2; exact DataW.trod_lt m _ _ _ hm
  have ok2 := hval 2 42 v2 rfl rfl
  clear hA0 hval0 hval
  obtain ⟨n, m, a, t, b, rfl⟩ := setup_open ok0
  obtain ⟨l1, hl1, rfl, _⟩ := struct_ints ok1 Tryd.underlying42 (by kernel_rfl) (by kernel_rfl) Tryd.underlying3
  obtain ⟨x, y, rfl⟩ := list2s hl1
  obtain ⟨l2, hl2, rfl, _⟩ := struct_ints ok2 Tryd.underlying42 (by kernel_rfl) (by kernel_rfl) Tryd.underlying3
  obtain ⟨u, v, rfl⟩ := list2s hl2
  have hT := errType_of hL
  refine (setups_law n m a t x y u v b W hT).mono fun e W' ⟨he, bel⟩ => ?_
  subst he
  exact ⟨_, rfl, _, _, _, [], _, [], hW', trodAll_mk1 (shut_bool Tryd.underlying4 _), (trodAll_cons_mk (Below.trod laidOutStoreSetups (by kernel_rfl) (of_decide_eq_true (by kernel_rfl)) k0 bel lt0) (trodAll_cons_mk (Below.trod laidOutStoreSetups (by kernel_rfl) (of_decide_eq_true (by kernel_rfl)) k1 bel lt1) (trodAll_cons_mk (Below.trod laidOutStoreSetups (by kernel_rfl) (of_decide_eq_true (by kernel_rfl)) k2 bel lt2) trodAll_mk0))), rfl, bel.frame _, fun h => by cases h⟩

/-- The row's statement. -/
theorem storeSetups_holds : Rows.StoreSetupsSaid :=
  OpenClaim.holds_of_wide 5 Tryd.f5 rfl rfl rfl rfl rfl rfl rfl ⟨rfl, rfl, rfl, rfl, rfl⟩ rfl rfl rfl rfl rfl (by kernel_rfl) Tryd.func5 (by kernel_rfl)
    (of_decide_eq_true (by kernel_rfl)) (by unfold Func.isWrapper; first | (rw [if_pos (by decide +kernel)]; kernel_rfl) | (rw [if_neg (by decide +kernel)]; exact ⟨rfl, rfl⟩))
    (fun os started H enc _ => liftedStoreSetups os started H enc)

/-- The statement: the tied card. -/
theorem storeSetups_card : Rows.StoreSetupsCardSaid :=
  Claim7.holds_tied_plain_at .later [] [.handle] true (true, "3a8e3a40fbda770e44bd44806238246b1a84d061242c100a29481b44c9614d27") true
    storeSetups_holds (fun _ h => by cases h) (by kernel_rfl) (fun _ h => by cases h) storeSetups_row_tie rfl ⟨rfl, rfl⟩ (by kernel_rfl) rfl
    (fun f fn hf hfn => by
      obtain rfl : f = 5 := Option.some.inj ((show Tryd.prog.funcNamed "testimony/testimonylaw.StoreSetups" = some 5 by kernel_rfl).symm.trans hf) |>.symm
      obtain rfl : fn = Tryd.f5 := (Option.some.inj (Tryd.func5.symm.trans hfn)).symm
      exact ⟨by kernel_rfl, fun j t ht => by
        rw [Tryd.params5] at ht
        have hm : t ∈ [40, 42, 42] := by simpa using Array.mem_of_getElem? ht
        have hall : ([40, 42, 42].all fun u => !Tryd.prog.wantsStandIn u) = true := by kernel_rfl
        exact (show Tryd.prog.wantsStandIn t = false by simpa using List.all_eq_true.1 hall t hm)⟩)
    (by kernel_rfl)
#print axioms storeSetups_card
end Go.Proofs.YtcjmhiimeaphoaaDoor
