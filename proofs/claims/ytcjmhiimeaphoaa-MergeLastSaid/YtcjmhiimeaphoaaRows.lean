/-
  No cell of these rows narrows 'for every input' (looked for: loops, veiled, ifaces, maps, wideKeys, modest, calm, conditions, laid).
  DERIVED. THE GIVEN ROWS OF THIS SEAT. 5 by the template 'for every input the law returns true; each argument reads behind the call as it read before'; 0 by the template 'total and deterministic' (their statements: YtcjmhiimeaphoaaTotals.lean).
  GIVEN WITH THE SEED: the statements are not yours to turn. If you find one false, say at which input.
  Laid BY PROGRAM, IN A SANDBOX (cutbox-rows.mjs): the forced cells as the released guide's own fill.sh prints them over the translation b96ff158458fd750… (all of the seat's roots in one cut). By AI agents, Wed Nov 11 2026. No macro, syntax, notation, axiom, sorry.
-/
import Derived.Test.YtcjmhiimeaphoaaChecked
import GoSem.Claim
import GoSem.ClaimJoined
import GoSem.ClaimMapViews
import Derived.JoinedTies
import Derived.KernelRfl
namespace Go.Proofs.Ytcjmhiimeaphoaa
/- THE CELL 'sum', in the pinned program and in every row, IS THE sha256 OF THE DUMP (.gsa) THAT YtcjmhiimeaphoaaProg.lean LOADS. Nothing in Lean hashes anything: it is a label: what it is worth is what the hold of that sum in a sandbox is worth. -/
noncomputable def Try.pinned : Pinned := { name := "ytcjmhiimeaphoaa", sum := "b96ff158458fd750ac389c097e2911ca5f4f2cd379a146eb53a2019ffa6fbfe6", checked := Try.checked }
namespace Rows
def none {H : Type} : Left H := { results := [], args := [] }

/-- 'testimonylaw.ClockJoins': WHATEVER THE INPUT: true; the input reads as it did. -/
def clockJoinsSpec : ChangeSpec := { name := "clockJoins", fn := fun _ => fun
  | [d1, d2] => { results := [.lit (.bool true)], args := [d1, d2] }
  | _ => none }
def clockJoinsRow : OpenClaim := { program := "ytcjmhiimeaphoaa", sum := "b96ff158458fd750ac389c097e2911ca5f4f2cd379a146eb53a2019ffa6fbfe6", func := "testimony/testimonylaw.ClockJoins", spec := "clockJoins", apart := false }
def ClockJoinsSaid : Prop := clockJoinsRow.holds Try.pinned (OpenSpec.ofChange clockJoinsSpec)

/-- ITS FALSE NEIGHBOUR: 'it returns false'. Refute it at one input. -/
def clockJoinsWrong : ChangeSpec := { name := "clockJoins", fn := fun _ => fun
  | [d1, d2] => { results := [.lit (.bool false)], args := [d1, d2] }
  | _ => none }
def ClockJoinsWrongFalsely : Prop := clockJoinsRow.holds Try.pinned (OpenSpec.ofChange clockJoinsWrong)

/-- 'testimonylaw.LocalSplits': WHATEVER THE INPUT: true; the input reads as it did. -/
def localSplitsSpec : ChangeSpec := { name := "localSplits", fn := fun _ => fun
  | [d] => { results := [.lit (.bool true)], args := [d] }
  | _ => none }
def localSplitsRow : OpenClaim := { program := "ytcjmhiimeaphoaa", sum := "b96ff158458fd750ac389c097e2911ca5f4f2cd379a146eb53a2019ffa6fbfe6", func := "testimony/testimonylaw.LocalSplits", spec := "localSplits", apart := false }
def LocalSplitsSaid : Prop := localSplitsRow.holds Try.pinned (OpenSpec.ofChange localSplitsSpec)

/-- ITS FALSE NEIGHBOUR: 'it returns false'. Refute it at one input. -/
def localSplitsWrong : ChangeSpec := { name := "localSplits", fn := fun _ => fun
  | [d] => { results := [.lit (.bool false)], args := [d] }
  | _ => none }
def LocalSplitsWrongFalsely : Prop := localSplitsRow.holds Try.pinned (OpenSpec.ofChange localSplitsWrong)

/-- 'testimonylaw.GenTapes': WHATEVER THE INPUT: true; the input reads as it did. -/
def genTapesSpec : ChangeSpec := { name := "genTapes", fn := fun _ => fun
  | [d1, d2] => { results := [.lit (.bool true)], args := [d1, d2] }
  | _ => none }
def genTapesRow : OpenClaim := { program := "ytcjmhiimeaphoaa", sum := "b96ff158458fd750ac389c097e2911ca5f4f2cd379a146eb53a2019ffa6fbfe6", func := "testimony/testimonylaw.GenTapes", spec := "genTapes", apart := false }
def GenTapesSaid : Prop := genTapesRow.holds Try.pinned (OpenSpec.ofChange genTapesSpec)

/-- ITS FALSE NEIGHBOUR: 'it returns false'. Refute it at one input. -/
def genTapesWrong : ChangeSpec := { name := "genTapes", fn := fun _ => fun
  | [d1, d2] => { results := [.lit (.bool false)], args := [d1, d2] }
  | _ => none }
def GenTapesWrongFalsely : Prop := genTapesRow.holds Try.pinned (OpenSpec.ofChange genTapesWrong)

/-- 'testimonylaw.MergeLast': WHATEVER THE INPUT: true; the input reads as it did. -/
def mergeLastSpec : ChangeSpec := { name := "mergeLast", fn := fun _ => fun
  | [d1, d2] => { results := [.lit (.bool true)], args := [d1, d2] }
  | _ => none }
def mergeLastRow : OpenClaim := { program := "ytcjmhiimeaphoaa", sum := "b96ff158458fd750ac389c097e2911ca5f4f2cd379a146eb53a2019ffa6fbfe6", func := "testimony/testimonylaw.MergeLast", spec := "mergeLast", unfollowed := true, recurses := true, apart := false }
def MergeLastSaid : Prop := mergeLastRow.holds Try.pinned (OpenSpec.ofChange mergeLastSpec)

/-- ITS FALSE NEIGHBOUR: 'it returns false'. Refute it at one input. -/
def mergeLastWrong : ChangeSpec := { name := "mergeLast", fn := fun _ => fun
  | [d1, d2] => { results := [.lit (.bool false)], args := [d1, d2] }
  | _ => none }
def MergeLastWrongFalsely : Prop := mergeLastRow.holds Try.pinned (OpenSpec.ofChange mergeLastWrong)

/-- 'testimonylaw.RecordRecovers': WHATEVER THE INPUT: true; the input reads as it did. -/
def recordRecoversSpec : ChangeSpec := { name := "recordRecovers", fn := fun _ => fun
  | [d] => { results := [.lit (.bool true)], args := [d] }
  | _ => none }
def recordRecoversRow : OpenClaim := { program := "ytcjmhiimeaphoaa", sum := "b96ff158458fd750ac389c097e2911ca5f4f2cd379a146eb53a2019ffa6fbfe6", func := "testimony/testimonylaw.RecordRecovers", spec := "recordRecovers", apart := false }
def RecordRecoversSaid : Prop := recordRecoversRow.holds Try.pinned (OpenSpec.ofChange recordRecoversSpec)

/-- ITS FALSE NEIGHBOUR: 'it returns false'. Refute it at one input. -/
def recordRecoversWrong : ChangeSpec := { name := "recordRecovers", fn := fun _ => fun
  | [d] => { results := [.lit (.bool false)], args := [d] }
  | _ => none }
def RecordRecoversWrongFalsely : Prop := recordRecoversRow.holds Try.pinned (OpenSpec.ofChange recordRecoversWrong)

/- THE SECOND FORM. 'bulk': how many values and letters a reading holds, each counted each time it is reached (what is shared counts as often as it is met; a slice's spare places count too). A statement '..UptoSaid' is the law's where the arguments, and the package variables that the reading takes, are together of bulk at most 1048576: NARROWER than '..Said'. Prove '..Said' where nothing that the law and all that it calls make is longer than what came in: it says more and counts as full. Else prove '..UptoSaid'. A law counts once. -/
mutual
def uptoBulk {H : Type} : DataW H → Nat
  | .lit (.string bytes) => bytes.length + 1
  | .lit _ => 1
  | .nil => 1
  | .ptr d => uptoBulk d + 1
  | .slice elems spare => uptoBulkAll elems + uptoBulkAll spare + 1
  | .agg parts => uptoBulkAll parts + 1
  | .iface _ d => uptoBulk d + 1
  | .map entries => uptoBulkEntries entries + 1
  | .held _ => 1
def uptoBulkAll {H : Type} : List (DataW H) → Nat
  | [] => 0
  | d :: r => uptoBulk d + uptoBulkAll r
def uptoBulkEntries {H : Type} : List (Lit × DataW H) → Nat
  | [] => 0
  | x :: r => uptoBulkEntry x + uptoBulkEntries r
def uptoBulkEntry {H : Type} : Lit × DataW H → Nat
  | (.string bytes, d) => bytes.length + uptoBulk d + 1
  | (_, d) => uptoBulk d + 1
 end
def uptoSmall : (H : Type) → List (DataW H) → Bool := fun _ ds => decide (uptoBulkAll ds ≤ 1048576)
def OpenSpec.upto (s : _root_.Go.ChangeSpec) : _root_.Go.OpenSpec := { _root_.Go.OpenSpec.ofChange s with cond := some uptoSmall }

/-- 'testimonylaw.ClockJoins', WHERE WHAT IT READS IS OF BULK AT MOST 1048576: true; the input reads as it did. -/
def clockJoinsUptoRow : OpenClaim := { program := "ytcjmhiimeaphoaa", sum := "b96ff158458fd750ac389c097e2911ca5f4f2cd379a146eb53a2019ffa6fbfe6", func := "testimony/testimonylaw.ClockJoins", spec := "clockJoins", apart := false, narrowed := true }
def ClockJoinsUptoSaid : Prop := clockJoinsUptoRow.holds Try.pinned (OpenSpec.upto clockJoinsSpec)

/-- 'testimonylaw.LocalSplits', WHERE WHAT IT READS IS OF BULK AT MOST 1048576: true; the input reads as it did. -/
def localSplitsUptoRow : OpenClaim := { program := "ytcjmhiimeaphoaa", sum := "b96ff158458fd750ac389c097e2911ca5f4f2cd379a146eb53a2019ffa6fbfe6", func := "testimony/testimonylaw.LocalSplits", spec := "localSplits", apart := false, narrowed := true }
def LocalSplitsUptoSaid : Prop := localSplitsUptoRow.holds Try.pinned (OpenSpec.upto localSplitsSpec)

/-- 'testimonylaw.GenTapes', WHERE WHAT IT READS IS OF BULK AT MOST 1048576: true; the input reads as it did. -/
def genTapesUptoRow : OpenClaim := { program := "ytcjmhiimeaphoaa", sum := "b96ff158458fd750ac389c097e2911ca5f4f2cd379a146eb53a2019ffa6fbfe6", func := "testimony/testimonylaw.GenTapes", spec := "genTapes", apart := false, narrowed := true }
def GenTapesUptoSaid : Prop := genTapesUptoRow.holds Try.pinned (OpenSpec.upto genTapesSpec)

/-- 'testimonylaw.MergeLast', WHERE WHAT IT READS IS OF BULK AT MOST 1048576: true; the input reads as it did. -/
def mergeLastUptoRow : OpenClaim := { program := "ytcjmhiimeaphoaa", sum := "b96ff158458fd750ac389c097e2911ca5f4f2cd379a146eb53a2019ffa6fbfe6", func := "testimony/testimonylaw.MergeLast", spec := "mergeLast", unfollowed := true, recurses := true, apart := false, narrowed := true }
def MergeLastUptoSaid : Prop := mergeLastUptoRow.holds Try.pinned (OpenSpec.upto mergeLastSpec)

/-- 'testimonylaw.RecordRecovers', WHERE WHAT IT READS IS OF BULK AT MOST 1048576: true; the input reads as it did. -/
def recordRecoversUptoRow : OpenClaim := { program := "ytcjmhiimeaphoaa", sum := "b96ff158458fd750ac389c097e2911ca5f4f2cd379a146eb53a2019ffa6fbfe6", func := "testimony/testimonylaw.RecordRecovers", spec := "recordRecovers", apart := false, narrowed := true }
def RecordRecoversUptoSaid : Prop := recordRecoversUptoRow.holds Try.pinned (OpenSpec.upto recordRecoversSpec)

end Rows
end Go.Proofs.Ytcjmhiimeaphoaa
