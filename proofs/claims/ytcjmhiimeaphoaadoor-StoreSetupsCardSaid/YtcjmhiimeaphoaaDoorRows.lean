/-
  NARROWER THAN 'FOR EVERY INPUT', by the rows' own cells (each row's printed sentence says how): ModelKnows: laid · EventChecks: laid · StoreSetups: laid · MergeCounts: laid.
  DERIVED. THE GIVEN ROWS OF THIS SEAT. 4 by the template 'for every input the law returns true; each argument reads behind the call as it read before'; 0 by the template 'total and deterministic' (their statements: YtcjmhiimeaphoaaDoorTotals.lean).
  GIVEN WITH THE SEED: the statements are not yours to turn. If you find one false, say at which input.
  Laid BY PROGRAM, IN A SANDBOX (cutbox-rows.mjs): the forced cells as the released guide's own fill.sh prints them over the translation 520b7e40e7c4f3bd… (all of the seat's roots in one cut). By AI agents, Wed Nov 11 2026. No macro, syntax, notation, axiom, sorry.
-/
import Derived.Test.YtcjmhiimeaphoaaDoorChecked
import GoSem.Claim
import GoSem.ClaimJoined
import GoSem.ClaimMapViews
import Derived.JoinedTies
import Derived.KernelRfl
namespace Go.Proofs.YtcjmhiimeaphoaaDoor
/- THE CELL 'sum', in the pinned program and in every row, IS THE sha256 OF THE DUMP (.gsa) THAT YtcjmhiimeaphoaaDoorProg.lean LOADS. Nothing in Lean hashes anything: it is a label: what it is worth is what the hold of that sum in a sandbox is worth. -/
noncomputable def Tryd.pinned : Pinned := { name := "ytcjmhiimeaphoaadoor", sum := "520b7e40e7c4f3bd984befe85dccc04fac07ce896787dff3076bd0cc15e2e950", checked := Tryd.checked }
namespace Rows
def none {H : Type} : Left H := { results := [], args := [] }

/- WHAT THE LISTED PACKAGE-LEVEL VARIABLES READ AS WHEN THE CALL BEGINS. Each datum BY PROGRAM (the guide's laid-datum.mjs) off the statement by which the dump's own 'gosem.cut.vars' lays the variable. In a bare row this is a premise. The card (YtcjmhiimeaphoaaDoorCards.lean) ties it to the program's text. -/
def laid_testimony_model_knows {H : Type} : DataW H := .agg [.lit (.int .i64 0), .lit (.int .i64 14), .lit (.int .i64 48), .lit (.int .i64 448), .lit (.int .i64 1536), .lit (.int .i64 1536), .lit (.int .i64 6144)]
def laid_errors_errorType {H : Type} : DataW H := .iface "internal/reflectlite.rtype" (.agg [.ptr (.lit (.string [101, 114, 114, 111, 114]))])

/-- 'testimonylaw.ModelKnows': WHATEVER THE INPUT: true; the input reads as it did. -/
def modelKnowsSpec : ChangeSpec := { name := "modelKnows", fn := fun _ => fun
  | [d1, d2] => { results := [.lit (.bool true)], args := [d1, d2] }
  | _ => none }
def modelKnowsRow : OpenClaim := { program := "ytcjmhiimeaphoaadoor", sum := "520b7e40e7c4f3bd984befe85dccc04fac07ce896787dff3076bd0cc15e2e950", func := "testimony/testimonylaw.ModelKnows", spec := "modelKnows", named := ["testimony/model.knows"], apart := false, laid := [("testimony/model.knows", laid_testimony_model_knows)] }
def ModelKnowsSaid : Prop := modelKnowsRow.holds Tryd.pinned (OpenSpec.ofChange modelKnowsSpec)

/-- ITS FALSE NEIGHBOUR: 'it returns false'. Refute it at one input. -/
def modelKnowsWrong : ChangeSpec := { name := "modelKnows", fn := fun _ => fun
  | [d1, d2] => { results := [.lit (.bool false)], args := [d1, d2] }
  | _ => none }
def ModelKnowsWrongFalsely : Prop := modelKnowsRow.holds Tryd.pinned (OpenSpec.ofChange modelKnowsWrong)

/-- 'testimonylaw.EventChecks': WHATEVER THE INPUT: true; the input reads as it did. -/
def eventChecksSpec : ChangeSpec := { name := "eventChecks", fn := fun _ => fun
  | [d] => { results := [.lit (.bool true)], args := [d] }
  | _ => none }
def eventChecksRow : OpenClaim := { program := "ytcjmhiimeaphoaadoor", sum := "520b7e40e7c4f3bd984befe85dccc04fac07ce896787dff3076bd0cc15e2e950", func := "testimony/testimonylaw.EventChecks", spec := "eventChecks", inPlace := ["internal/reflectlite.ValueOf", "(internal/reflectlite.Value).Type", "(internal/reflectlite.Value).IsNil", "internal/reflectlite.TypeOf", "(internal/reflectlite.Value).Elem", "(internal/reflectlite.Value).Set"], unfollowed := true, recurses := true, named := ["errors.errorType"], apart := false, laid := [("errors.errorType", laid_errors_errorType)] }
def EventChecksSaid : Prop := eventChecksRow.holds Tryd.pinned (OpenSpec.ofChange eventChecksSpec)

/-- ITS FALSE NEIGHBOUR: 'it returns false'. Refute it at one input. -/
def eventChecksWrong : ChangeSpec := { name := "eventChecks", fn := fun _ => fun
  | [d] => { results := [.lit (.bool false)], args := [d] }
  | _ => none }
def EventChecksWrongFalsely : Prop := eventChecksRow.holds Tryd.pinned (OpenSpec.ofChange eventChecksWrong)

/-- 'testimonylaw.StoreSetups': WHATEVER THE INPUT: true; the input reads as it did. -/
def storeSetupsSpec : ChangeSpec := { name := "storeSetups", fn := fun _ => fun
  | [d1, d2, d3] => { results := [.lit (.bool true)], args := [d1, d2, d3] }
  | _ => none }
def storeSetupsRow : OpenClaim := { program := "ytcjmhiimeaphoaadoor", sum := "520b7e40e7c4f3bd984befe85dccc04fac07ce896787dff3076bd0cc15e2e950", func := "testimony/testimonylaw.StoreSetups", spec := "storeSetups", inPlace := ["internal/reflectlite.ValueOf", "(internal/reflectlite.Value).Type", "(internal/reflectlite.Value).IsNil", "internal/reflectlite.TypeOf", "(internal/reflectlite.Value).Elem", "(internal/reflectlite.Value).Set"], unfollowed := true, recurses := true, named := ["errors.errorType"], apart := false, laid := [("errors.errorType", laid_errors_errorType)] }
def StoreSetupsSaid : Prop := storeSetupsRow.holds Tryd.pinned (OpenSpec.ofChange storeSetupsSpec)

/-- ITS FALSE NEIGHBOUR: 'it returns false'. Refute it at one input. -/
def storeSetupsWrong : ChangeSpec := { name := "storeSetups", fn := fun _ => fun
  | [d1, d2, d3] => { results := [.lit (.bool false)], args := [d1, d2, d3] }
  | _ => none }
def StoreSetupsWrongFalsely : Prop := storeSetupsRow.holds Tryd.pinned (OpenSpec.ofChange storeSetupsWrong)

/-- 'testimonylaw.MergeCounts': WHATEVER THE INPUT: true; the input reads as it did. -/
def mergeCountsSpec : ChangeSpec := { name := "mergeCounts", fn := fun _ => fun
  | [d1, d2, d3] => { results := [.lit (.bool true)], args := [d1, d2, d3] }
  | _ => none }
def mergeCountsRow : OpenClaim := { program := "ytcjmhiimeaphoaadoor", sum := "520b7e40e7c4f3bd984befe85dccc04fac07ce896787dff3076bd0cc15e2e950", func := "testimony/testimonylaw.MergeCounts", spec := "mergeCounts", inPlace := ["internal/reflectlite.ValueOf", "(internal/reflectlite.Value).Type", "(internal/reflectlite.Value).IsNil", "internal/reflectlite.TypeOf", "(internal/reflectlite.Value).Elem", "(internal/reflectlite.Value).Set"], unfollowed := true, recurses := true, named := ["errors.errorType"], apart := false, laid := [("errors.errorType", laid_errors_errorType)] }
def MergeCountsSaid : Prop := mergeCountsRow.holds Tryd.pinned (OpenSpec.ofChange mergeCountsSpec)

/-- ITS FALSE NEIGHBOUR: 'it returns false'. Refute it at one input. -/
def mergeCountsWrong : ChangeSpec := { name := "mergeCounts", fn := fun _ => fun
  | [d1, d2, d3] => { results := [.lit (.bool false)], args := [d1, d2, d3] }
  | _ => none }
def MergeCountsWrongFalsely : Prop := mergeCountsRow.holds Tryd.pinned (OpenSpec.ofChange mergeCountsWrong)

/- THE SECOND FORM. 'bulk': how many values and letters a reading holds, each counted each time it is reached (what is shared counts as often as it is met; a slice's spare places count too). A statement '..UptoSaid' is the law's where the arguments, and the package variables that the reading takes, are together of bulk at most 1048576: NARROWER than '..Said'. Prove '..Said' where nothing that the law and all that it calls make is longer than what came in: it says more and counts as full. Else prove '..UptoSaid'. A law counts once. -/
mutual
def uptoBulk {H : Type} : DataW H → Nat
  | .lit (.string bytes) => bytes.length + 1
  | .lit _ => 1
  | .nil => 1
  | .ptr d => uptoBulk d + 1
  | .slice elems spare => uptoBulkAll elems + uptoBulkAll spare + 1
  | .agg parts => uptoBulkAll parts + 1
  | .iface _ d => uptoBulk d + 1
  | .map entries => uptoBulkEntries entries + 1
  | .held _ => 1
def uptoBulkAll {H : Type} : List (DataW H) → Nat
  | [] => 0
  | d :: r => uptoBulk d + uptoBulkAll r
def uptoBulkEntries {H : Type} : List (Lit × DataW H) → Nat
  | [] => 0
  | x :: r => uptoBulkEntry x + uptoBulkEntries r
def uptoBulkEntry {H : Type} : Lit × DataW H → Nat
  | (.string bytes, d) => bytes.length + uptoBulk d + 1
  | (_, d) => uptoBulk d + 1
 end
def uptoSmall : (H : Type) → List (DataW H) → Bool := fun _ ds => decide (uptoBulkAll ds ≤ 1048576)
def OpenSpec.upto (s : _root_.Go.ChangeSpec) : _root_.Go.OpenSpec := { _root_.Go.OpenSpec.ofChange s with cond := some uptoSmall }

/-- 'testimonylaw.ModelKnows', WHERE WHAT IT READS IS OF BULK AT MOST 1048576: true; the input reads as it did. -/
def modelKnowsUptoRow : OpenClaim := { program := "ytcjmhiimeaphoaadoor", sum := "520b7e40e7c4f3bd984befe85dccc04fac07ce896787dff3076bd0cc15e2e950", func := "testimony/testimonylaw.ModelKnows", spec := "modelKnows", named := ["testimony/model.knows"], apart := false, laid := [("testimony/model.knows", laid_testimony_model_knows)], narrowed := true }
def ModelKnowsUptoSaid : Prop := modelKnowsUptoRow.holds Tryd.pinned (OpenSpec.upto modelKnowsSpec)

/-- 'testimonylaw.EventChecks', WHERE WHAT IT READS IS OF BULK AT MOST 1048576: true; the input reads as it did. -/
def eventChecksUptoRow : OpenClaim := { program := "ytcjmhiimeaphoaadoor", sum := "520b7e40e7c4f3bd984befe85dccc04fac07ce896787dff3076bd0cc15e2e950", func := "testimony/testimonylaw.EventChecks", spec := "eventChecks", inPlace := ["internal/reflectlite.ValueOf", "(internal/reflectlite.Value).Type", "(internal/reflectlite.Value).IsNil", "internal/reflectlite.TypeOf", "(internal/reflectlite.Value).Elem", "(internal/reflectlite.Value).Set"], unfollowed := true, recurses := true, named := ["errors.errorType"], apart := false, laid := [("errors.errorType", laid_errors_errorType)], narrowed := true }
def EventChecksUptoSaid : Prop := eventChecksUptoRow.holds Tryd.pinned (OpenSpec.upto eventChecksSpec)

/-- 'testimonylaw.StoreSetups', WHERE WHAT IT READS IS OF BULK AT MOST 1048576: true; the input reads as it did. -/
def storeSetupsUptoRow : OpenClaim := { program := "ytcjmhiimeaphoaadoor", sum := "520b7e40e7c4f3bd984befe85dccc04fac07ce896787dff3076bd0cc15e2e950", func := "testimony/testimonylaw.StoreSetups", spec := "storeSetups", inPlace := ["internal/reflectlite.ValueOf", "(internal/reflectlite.Value).Type", "(internal/reflectlite.Value).IsNil", "internal/reflectlite.TypeOf", "(internal/reflectlite.Value).Elem", "(internal/reflectlite.Value).Set"], unfollowed := true, recurses := true, named := ["errors.errorType"], apart := false, laid := [("errors.errorType", laid_errors_errorType)], narrowed := true }
def StoreSetupsUptoSaid : Prop := storeSetupsUptoRow.holds Tryd.pinned (OpenSpec.upto storeSetupsSpec)

/-- 'testimonylaw.MergeCounts', WHERE WHAT IT READS IS OF BULK AT MOST 1048576: true; the input reads as it did. -/
def mergeCountsUptoRow : OpenClaim := { program := "ytcjmhiimeaphoaadoor", sum := "520b7e40e7c4f3bd984befe85dccc04fac07ce896787dff3076bd0cc15e2e950", func := "testimony/testimonylaw.MergeCounts", spec := "mergeCounts", inPlace := ["internal/reflectlite.ValueOf", "(internal/reflectlite.Value).Type", "(internal/reflectlite.Value).IsNil", "internal/reflectlite.TypeOf", "(internal/reflectlite.Value).Elem", "(internal/reflectlite.Value).Set"], unfollowed := true, recurses := true, named := ["errors.errorType"], apart := false, laid := [("errors.errorType", laid_errors_errorType)], narrowed := true }
def MergeCountsUptoSaid : Prop := mergeCountsUptoRow.holds Tryd.pinned (OpenSpec.upto mergeCountsSpec)

end Rows
end Go.Proofs.YtcjmhiimeaphoaaDoor
