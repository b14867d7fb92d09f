/-
  DERIVED. GIVEN WITH THE SEED: THE CARDS: each row of YtcjmhiimeaphoaaDoorRows.lean that lists a variable, with what it lists TIED to the program's text (the seventh form; the later family's looks); each row that meets fmt, with fmt's text TOLD by the authors' own Lean function (tested against real Go, not proved from fmt's source: count such statements apart). THE CARD IS WHAT COUNTS. Prove the row's statement (the work); the ties are given (YtcjmhiimeaphoaaDoorTie.lean); close each card by the builder's one call (the guide's Derived/Test/ToyasCard.lean, 'card_holds'). Laid BY PROGRAM, IN A SANDBOX (cutbox-door.mjs). By AI agents, Wed Nov 11 2026. No macro, syntax, notation, axiom, sorry.
-/
import Derived.Test.YtcjmhiimeaphoaaDoorRows
import GoSem.ClaimSeven
namespace Go.Proofs.YtcjmhiimeaphoaaDoor
namespace Rows

/-- THE TIED CARD OF 'testimonylaw.ModelKnows'. -/
def modelKnowsCard : Claim7 := { stood := { row := modelKnowsRow, standIns := [], harness := (true, "3a8e3a40fbda770e44bd44806238246b1a84d061242c100a29481b44c9614d27"), looks := true }, kinds := [], alts := [], laidByText := true, laidKinds := [.data], laidTests := true, laidLooks := .later }
def ModelKnowsCardSaid : Prop := Claim7.holds Tryd.pinned (.plain (OpenSpec.ofChange modelKnowsSpec)) modelKnowsCard

/-- THE TIED CARD OF 'testimonylaw.EventChecks'. -/
def eventChecksCard : Claim7 := { stood := { row := eventChecksRow, standIns := [], harness := (true, "3a8e3a40fbda770e44bd44806238246b1a84d061242c100a29481b44c9614d27"), looks := true }, kinds := [], alts := [], laidByText := true, laidKinds := [.handle], laidTests := true, laidLooks := .later }
def EventChecksCardSaid : Prop := Claim7.holds Tryd.pinned (.plain (OpenSpec.ofChange eventChecksSpec)) eventChecksCard

/-- THE TIED CARD OF 'testimonylaw.StoreSetups'. -/
def storeSetupsCard : Claim7 := { stood := { row := storeSetupsRow, standIns := [], harness := (true, "3a8e3a40fbda770e44bd44806238246b1a84d061242c100a29481b44c9614d27"), looks := true }, kinds := [], alts := [], laidByText := true, laidKinds := [.handle], laidTests := true, laidLooks := .later }
def StoreSetupsCardSaid : Prop := Claim7.holds Tryd.pinned (.plain (OpenSpec.ofChange storeSetupsSpec)) storeSetupsCard

/-- THE TIED CARD OF 'testimonylaw.MergeCounts'. -/
def mergeCountsCard : Claim7 := { stood := { row := mergeCountsRow, standIns := [], harness := (true, "3a8e3a40fbda770e44bd44806238246b1a84d061242c100a29481b44c9614d27"), looks := true }, kinds := [], alts := [], laidByText := true, laidKinds := [.handle], laidTests := true, laidLooks := .later }
def MergeCountsCardSaid : Prop := Claim7.holds Tryd.pinned (.plain (OpenSpec.ofChange mergeCountsSpec)) mergeCountsCard

/-- THE SECOND FORM's CARD OF 'testimonylaw.ModelKnows'. -/
def modelKnowsUptoCard : Claim7 := { stood := { row := modelKnowsUptoRow, standIns := [], harness := (true, "3a8e3a40fbda770e44bd44806238246b1a84d061242c100a29481b44c9614d27"), looks := true }, kinds := [], alts := [], laidByText := true, laidKinds := [.data], laidTests := true, laidLooks := .later }
def ModelKnowsUptoCardSaid : Prop := Claim7.holds Tryd.pinned (.plain (OpenSpec.upto modelKnowsSpec)) modelKnowsUptoCard

/-- THE SECOND FORM's CARD OF 'testimonylaw.EventChecks'. -/
def eventChecksUptoCard : Claim7 := { stood := { row := eventChecksUptoRow, standIns := [], harness := (true, "3a8e3a40fbda770e44bd44806238246b1a84d061242c100a29481b44c9614d27"), looks := true }, kinds := [], alts := [], laidByText := true, laidKinds := [.handle], laidTests := true, laidLooks := .later }
def EventChecksUptoCardSaid : Prop := Claim7.holds Tryd.pinned (.plain (OpenSpec.upto eventChecksSpec)) eventChecksUptoCard

/-- THE SECOND FORM's CARD OF 'testimonylaw.StoreSetups'. -/
def storeSetupsUptoCard : Claim7 := { stood := { row := storeSetupsUptoRow, standIns := [], harness := (true, "3a8e3a40fbda770e44bd44806238246b1a84d061242c100a29481b44c9614d27"), looks := true }, kinds := [], alts := [], laidByText := true, laidKinds := [.handle], laidTests := true, laidLooks := .later }
def StoreSetupsUptoCardSaid : Prop := Claim7.holds Tryd.pinned (.plain (OpenSpec.upto storeSetupsSpec)) storeSetupsUptoCard

/-- THE SECOND FORM's CARD OF 'testimonylaw.MergeCounts'. -/
def mergeCountsUptoCard : Claim7 := { stood := { row := mergeCountsUptoRow, standIns := [], harness := (true, "3a8e3a40fbda770e44bd44806238246b1a84d061242c100a29481b44c9614d27"), looks := true }, kinds := [], alts := [], laidByText := true, laidKinds := [.handle], laidTests := true, laidLooks := .later }
def MergeCountsUptoCardSaid : Prop := Claim7.holds Tryd.pinned (.plain (OpenSpec.upto mergeCountsSpec)) mergeCountsUptoCard
end Rows
end Go.Proofs.YtcjmhiimeaphoaaDoor
