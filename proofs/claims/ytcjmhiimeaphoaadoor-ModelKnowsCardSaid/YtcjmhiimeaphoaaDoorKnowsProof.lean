/-
  The statement that is proved: whatever the arguments are, the law ModelKnows of the given program returns true, and each argument reads behind the call as it read before; the package-level variable that the row lists holds what the program's text lays (the tied card). Conditions: none but the row's own.
-/
import Derived.Test.YtcjmhiimeaphoaaDoorKnowsLaw
import Derived.Test.YtcjmhiimeaphoaaDoorCards
import Derived.Test.YtcjmhiimeaphoaaDoorTie
import Derived.Lib.LaidTab
import Derived.LaidMore
import Derived.Stop.Joined
import Derived.SevenTiedAt
namespace Go.Proofs.YtcjmhiimeaphoaaDoor
open Go.ChangeShapes Go.WideShapes Go.ChangeAt Go.RowKit
set_option linter.unusedVariables false

theorem ownModelKnows : ownKnob Tryd.prog.godebug = none := by kernel_rfl
theorem laidOutModelKnows : laidOutB Tryd.prog = true := by kernel_rfl

/-- The door's own heap meets the condition. -/
theorem metModelKnows (os : Os) (args : Array Value) : laidMetH Tryd.prog Rows.modelKnowsRow.laid ((World.doorLaid Tryd.prog 21 os).forCall (fun _ _ => 0) ⟨#[], args, []⟩).memory :=
  laidMetH_of_parts3 (fuel := 8) (laidMet_of_run' 8 (by kernel_rfl) (by kernel_rfl)) (by kernel_rfl) (by kernel_rfl)

theorem table_of {W : World} (h : laidMetH Tryd.prog Rows.modelKnowsRow.laid W) : Table W := by
  rw [MakeChecks.laidMetH_plain _ _ _ (by kernel_rfl)] at h
  have hT : Lib.TabIs Tryd.prog W "testimony/model.knows" .i64 [0, 14, 48, 448, 1536, 1536, 6144] :=
    Lib.tabIs_of_head (rest := []) (g := 0) (t := 51) (e := 3) (n := 7) (by kernel_rfl) (by kernel_rfl) Tryd.underlying51 Tryd.underlying3 (by kernel_rfl) (by kernel_rfl) h
  have hg : Tryd.prog.globalNamed "testimony/model.knows" = some 0 := by kernel_rfl
  exact ⟨hT.cell hg 1 (by decide), hT.cell hg 2 (by decide), hT.cell hg 3 (by decide), hT.cell hg 4 (by decide), hT.cell hg 5 (by decide), hT.cell hg 6 (by decide)⟩

set_option maxRecDepth 100000 in
theorem liftedModelKnows (os : Os) (started : os.Started) (H : Type) (enc : TypeId × Value → H) :
    ReturnsInHanded {} Tryd.checked os 3 .any (fun w args => (Rows.modelKnowsSpec.pre enc Tryd.prog Tryd.f3 [] false w args ∧ laidMetH Tryd.prog Rows.modelKnowsRow.laid w) ∧ sizedMet enc Tryd.prog Tryd.f3 (OpenSpec.ofChange Rows.modelKnowsSpec) false w args)
      (Rows.modelKnowsSpec.post enc Tryd.prog Tryd.f3 false true false false) := by
  refine returnsInHanded_of_change_and (C := Tryd.checked) (X := fun w _ => laidMetH Tryd.prog Rows.modelKnowsRow.laid w) (fun _ _ _ hh h => h.of_heap hh) ownModelKnows started (by kernel_rfl) Tryd.func3
    (ChangeSpec.witness_shaped (enc := enc) (C := Tryd.checked) (os := os) (X := fun w _ => laidMetH Tryd.prog Rows.modelKnowsRow.laid w) false (World.doorLaid Tryd.prog 21 os) #[.int .i64 0, .int .i64 0] 8 rfl (World.shaped_of_RefB (by kernel_rfl) (by kernel_rfl)) (by kernel_rfl) (by kernel_rfl) (by kernel_rfl) (metModelKnows os _)) ?_
  intro W base args ds gs before hval0 hW _ _ hL _
  have hval : ∀ (j : Nat) t v, Tryd.f3.params[j]? = some t → args[j]? = some v → Value.okWide Tryd.prog W .any base t v := hval0
  have hW' := hW
  obtain ⟨p, q, hA0, hV, rfl, hfz, hnd⟩ := hW
  have hA : DataW.TrodAll enc Tryd.prog W 0 (fun _ => true) true Tryd.f3.params.toList args.toList ds p := hA0
  rw [Tryd.params3] at hA hval
  obtain ⟨v0, vs0, d0, ds0, p0, q0, hargs, rfl, rfl, h0, r0⟩ := trodAll_cons hA
  obtain ⟨v1, vs1, d1, ds1, p1, q1, rfl, rfl, rfl, h1, r1⟩ := trodAll_cons r0
  obtain ⟨rfl, rfl, rfl⟩ := trodAll_nil r1
  obtain rfl : args = #[v0, v1] := by cases args; simp_all
  obtain ⟨rfl, rfl⟩ := trodVars_none hV
  have k0 := h0
  have lt0 : ∀ x ∈ p0, x.block < W.heap.size := by obtain ⟨m, hm⟩ := k0; exact DataW.trod_lt m _ _ _ hm
  have ok0 := hval 0 3 v0 rfl rfl
  have k1 := h1
  have lt1 : ∀ x ∈ p1, x.block < W.heap.size := by obtain ⟨m, hm⟩ := k1; exact DataW.trod_lt m _ _ _ hm
  have ok1 := hval 1 3 v1 rfl rfl
  clear hA0 hval0 hval
  obtain ⟨o, rfl⟩ := okWide_int Tryd.underlying3 ok0
  obtain ⟨k, rfl⟩ := okWide_int Tryd.underlying3 ok1
  have hT := table_of hL
  refine (model_law o k W hT).mono fun e W' ⟨he, bel⟩ => ?_
  subst he
  exact ⟨_, rfl, _, _, _, [], _, [], hW', trodAll_mk1 (shut_bool Tryd.underlying4 _), (trodAll_cons_mk (Below.trod laidOutModelKnows (by kernel_rfl) (of_decide_eq_true (by kernel_rfl)) k0 bel lt0) (trodAll_cons_mk (Below.trod laidOutModelKnows (by kernel_rfl) (of_decide_eq_true (by kernel_rfl)) k1 bel lt1) trodAll_mk0)), rfl, bel.frame _, fun h => by cases h⟩

/-- The row's statement. -/
theorem modelKnows_holds : Rows.ModelKnowsSaid :=
  OpenClaim.holds_of_wide 3 Tryd.f3 rfl rfl rfl rfl rfl rfl rfl ⟨rfl, rfl, rfl, rfl, rfl⟩ rfl rfl rfl rfl rfl (by kernel_rfl) Tryd.func3 (by kernel_rfl)
    (of_decide_eq_true (by kernel_rfl)) (by unfold Func.isWrapper; first | (rw [if_pos (by decide +kernel)]; kernel_rfl) | (rw [if_neg (by decide +kernel)]; exact ⟨rfl, rfl⟩))
    (fun os started H enc _ => liftedModelKnows os started H enc)

/-- The statement: the tied card. -/
theorem modelKnows_card : Rows.ModelKnowsCardSaid :=
  Claim7.holds_tied_plain_at .later [] [.data] true (true, "3a8e3a40fbda770e44bd44806238246b1a84d061242c100a29481b44c9614d27") true
    modelKnows_holds (fun _ h => by cases h) (by kernel_rfl) (fun _ h => by cases h) modelKnows_row_tie rfl ⟨rfl, rfl⟩ (by kernel_rfl) rfl
    (fun f fn hf hfn => by
      obtain rfl : f = 3 := Option.some.inj ((show Tryd.prog.funcNamed "testimony/testimonylaw.ModelKnows" = some 3 by kernel_rfl).symm.trans hf) |>.symm
      obtain rfl : fn = Tryd.f3 := (Option.some.inj (Tryd.func3.symm.trans hfn)).symm
      exact ⟨by kernel_rfl, fun j t ht => by
        rw [Tryd.params3] at ht
        have hm : t ∈ [3, 3] := by simpa using Array.mem_of_getElem? ht
        have hall : ([3, 3].all fun u => !Tryd.prog.wantsStandIn u) = true := by kernel_rfl
        exact (show Tryd.prog.wantsStandIn t = false by simpa using List.all_eq_true.1 hall t hm)⟩)
    (by kernel_rfl)
#print axioms modelKnows_card
end Go.Proofs.YtcjmhiimeaphoaaDoor
