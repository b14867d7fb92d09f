/-
  The statement that is proved: whatever the arguments are, the law MergeLast of the given program returns true, and each argument reads behind the call as it read before. Conditions: none but the row's own.
-/
import Derived.Test.YtcjmhiimeaphoaaRows
import Derived.Test.YtcjmhiimeaphoaaLastLaw
import Derived.Test.YtcjmhiimeaphoaaStruct
import Derived.Test.YtcjmhiimeaphoaaFrame
namespace Go.Proofs.Ytcjmhiimeaphoaa
open Go.ChangeShapes Go.WideShapes Go.ChangeAt Go.RowKit
set_option linter.unusedVariables false

theorem law_last (a0 a1 a2 b0 b1 b2 : Int) (w : World) :
    Calls Try.prog 6 #[.agg #[.int .i64 a0, .int .i64 a1, .int .i64 a2], .agg #[.int .i64 b0, .int .i64 b1, .int .i64 b2]] w fun e w' => e = .returned (.bool true) ∧ Below w.heap.size w w' := by
  rcases Int.lt_trichotomy a0 b0 with h | rfl | h
  · exact law_later0 a0 a1 a2 b0 b1 b2 w h
  · rcases Int.lt_trichotomy a1 b1 with h | rfl | h
    · exact law_later1 _ _ _ _ _ w h
    · rcases Int.lt_trichotomy a2 b2 with h | rfl | h
      · exact law_later2 _ _ _ _ w h
      · exact law_same2 _ _ _ w
      · exact law_elder2 _ _ _ _ w h
    · exact law_elder1 _ _ _ _ _ w h
  · exact law_elder0 a0 a1 a2 b0 b1 b2 w h

theorem ownMergeLast : ownKnob Try.prog.godebug = none := by kernel_rfl
theorem laidOutMergeLast : laidOutB Try.prog = true := by kernel_rfl

set_option maxRecDepth 100000 in
theorem liftedMergeLast (os : Os) (started : os.Started) (H : Type) (enc : TypeId × Value → H) :
    ReturnsInHanded {} Try.checked os 6 .any (Rows.mergeLastSpec.pre6 enc Try.prog Try.f6 Rows.mergeLastRow.domain false) (Rows.mergeLastSpec.post enc Try.prog Try.f6 false true false false) := by
  refine returnsInHanded_of_change (C := Try.checked) ownMergeLast started (by kernel_rfl) Try.func6
    (ChangeSpec.witness6 (enc := enc) (C := Try.checked) false ⟨#[], #[.agg #[.int .i64 0, .int .i64 0, .int .i64 0], .agg #[.int .i64 0, .int .i64 0, .int .i64 0]], []⟩ 8 (by kernel_rfl) (by kernel_rfl) (by kernel_rfl) (by kernel_rfl)) ?_
  intro W base args ds gs before hval0 hW hcnd _
  have hval : ∀ (j : Nat) t v, Try.f6.params[j]? = some t → args[j]? = some v → Value.okWide Try.prog W .any base t v := hval0
  have hW' := hW
  obtain ⟨p, q, hA0, hV, rfl, hfz, hnd⟩ := hW
  have hA : DataW.TrodAll enc Try.prog W 0 (fun _ => true) true Try.f6.params.toList args.toList ds p := hA0
  rw [Try.params6] at hA hval
  obtain ⟨v0, vs0, d0, ds0, p0, q0, hargs, rfl, rfl, h0, r0⟩ := trodAll_cons hA
  obtain ⟨v1, vs1, d1, ds1, p1, q1, rfl, rfl, rfl, h1, r1⟩ := trodAll_cons r0
  obtain ⟨rfl, rfl, rfl⟩ := trodAll_nil r1
  obtain rfl : args = #[v0, v1] := by cases args; simp_all
  obtain ⟨rfl, rfl⟩ := trodVars_none hV
  have k0 := h0
  have lt0 : ∀ x ∈ p0, x.block < W.heap.size := by obtain ⟨m, hm⟩ := k0; exact DataW.trod_lt m _ _ _ hm
  have ok0 := hval 0 47 v0 rfl rfl
  have k1 := h1
  have lt1 : ∀ x ∈ p1, x.block < W.heap.size := by obtain ⟨m, hm⟩ := k1; exact DataW.trod_lt m _ _ _ hm
  have ok1 := hval 1 47 v1 rfl rfl
  clear hA0 hval0 hval
  obtain ⟨l0, hl0, rfl, _⟩ := struct_ints ok0 Try.underlying47 (by kernel_rfl) (by kernel_rfl) Try.underlying3
  obtain ⟨a0, a1, a2, rfl⟩ := list3 hl0
  obtain ⟨l1, hl1, rfl, _⟩ := struct_ints ok1 Try.underlying47 (by kernel_rfl) (by kernel_rfl) Try.underlying3
  obtain ⟨b0, b1, b2, rfl⟩ := list3 hl1
  refine (law_last a0 a1 a2 b0 b1 b2 W).mono fun e W' ⟨he, bel⟩ => ?_
  subst he
  exact ⟨_, rfl, _, _, _, [], _, [], hW', trodAll_mk1 (shut_bool Try.underlying4 _), (trodAll_cons_mk (Below.trod laidOutMergeLast (by kernel_rfl) (of_decide_eq_true (by kernel_rfl)) k0 bel lt0) (trodAll_cons_mk (Below.trod laidOutMergeLast (by kernel_rfl) (of_decide_eq_true (by kernel_rfl)) k1 bel lt1) trodAll_mk0)), rfl, bel.frame _, fun h => by cases h⟩

/-- The statement. -/
theorem mergeLast_holds : Rows.MergeLastSaid :=
  OpenClaim.holds_of_wide 6 Try.f6 rfl rfl rfl rfl rfl rfl rfl ⟨rfl, rfl, rfl, rfl, rfl⟩ rfl rfl rfl rfl rfl (by kernel_rfl) Try.func6 (by kernel_rfl)
    (of_decide_eq_true (by kernel_rfl)) (by unfold Func.isWrapper; first | (rw [if_pos (by decide +kernel)]; kernel_rfl) | (rw [if_neg (by decide +kernel)]; exact ⟨rfl, rfl⟩))
    (fun os started H enc _ => liftedMergeLast os started H enc)
#print axioms mergeLast_holds
end Go.Proofs.Ytcjmhiimeaphoaa
