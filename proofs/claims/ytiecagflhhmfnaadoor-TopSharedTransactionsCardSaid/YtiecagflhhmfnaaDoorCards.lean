/-
  DERIVED. GIVEN WITH THE SEED: THE CARDS: each row of YtiecagflhhmfnaaDoorRows.lean that lists a variable, with what it lists TIED to the program's text (the seventh form; the later family's looks); each row that meets fmt, with fmt's text TOLD by the authors' own Lean function (tested against real Go, not proved from fmt's source: count such statements apart). THE CARD IS WHAT COUNTS. Prove the row's statement (the work); the ties are given (YtiecagflhhmfnaaDoorTie.lean); close each card by the builder's one call (the guide's Derived/Test/ToyasCard.lean, 'card_holds'). Laid BY PROGRAM, IN A SANDBOX (cutbox-door.mjs). By AI agents, Wed Nov 11 2026. No macro, syntax, notation, axiom, sorry.
-/
import Derived.Test.YtiecagflhhmfnaaDoorRows
import GoSem.ClaimSeven
namespace Go.Proofs.YtiecagflhhmfnaaDoor
namespace Rows

/-- THE TIED CARD OF 'pointcodetop.TopSharedFlows'. -/
def topSharedFlowsCard : Claim7 := { stood := { row := topSharedFlowsRow, standIns := [], harness := (true, "0f0b7de1b324808f4fcb5ed897616b417999e6a9439677bed79f5e4e26f1e337"), looks := true }, kinds := [], alts := [], laidByText := true, laidKinds := [.data, .pinned], laidTests := true, laidLooks := .later }
def TopSharedFlowsCardSaid : Prop := Claim7.holds Tryd.pinned (.plain (OpenSpec.ofChange topSharedFlowsSpec)) topSharedFlowsCard

/-- THE TIED CARD OF 'pointcodetop.TopSharedConnections'. -/
def topSharedConnectionsCard : Claim7 := { stood := { row := topSharedConnectionsRow, standIns := [], harness := (true, "0f0b7de1b324808f4fcb5ed897616b417999e6a9439677bed79f5e4e26f1e337"), looks := true }, kinds := [], alts := [], laidByText := true, laidKinds := [.data, .pinned], laidTests := true, laidLooks := .later }
def TopSharedConnectionsCardSaid : Prop := Claim7.holds Tryd.pinned (.plain (OpenSpec.ofChange topSharedConnectionsSpec)) topSharedConnectionsCard

/-- THE TIED CARD OF 'pointcodetop.TopSharedSegments'. -/
def topSharedSegmentsCard : Claim7 := { stood := { row := topSharedSegmentsRow, standIns := [], harness := (true, "0f0b7de1b324808f4fcb5ed897616b417999e6a9439677bed79f5e4e26f1e337"), looks := true }, kinds := [], alts := [], laidByText := true, laidKinds := [.data, .pinned], laidTests := true, laidLooks := .later }
def TopSharedSegmentsCardSaid : Prop := Claim7.holds Tryd.pinned (.plain (OpenSpec.ofChange topSharedSegmentsSpec)) topSharedSegmentsCard

/-- THE TIED CARD OF 'pointcodetop.TopSharedShares'. -/
def topSharedSharesCard : Claim7 := { stood := { row := topSharedSharesRow, standIns := [], harness := (true, "0f0b7de1b324808f4fcb5ed897616b417999e6a9439677bed79f5e4e26f1e337"), looks := true }, kinds := [], alts := [], laidByText := true, laidKinds := [.data, .pinned], laidTests := true, laidLooks := .later }
def TopSharedSharesCardSaid : Prop := Claim7.holds Tryd.pinned (.plain (OpenSpec.ofChange topSharedSharesSpec)) topSharedSharesCard

/-- THE TIED CARD OF 'pointcodetop.TopSharedLabels'. -/
def topSharedLabelsCard : Claim7 := { stood := { row := topSharedLabelsRow, standIns := [], harness := (true, "0f0b7de1b324808f4fcb5ed897616b417999e6a9439677bed79f5e4e26f1e337"), looks := true }, kinds := [], alts := [], laidByText := true, laidKinds := [.data, .pinned], laidTests := true, laidLooks := .later }
def TopSharedLabelsCardSaid : Prop := Claim7.holds Tryd.pinned (.plain (OpenSpec.ofChange topSharedLabelsSpec)) topSharedLabelsCard

/-- THE TIED CARD OF 'pointcodetop.TopSharedBlockings'. -/
def topSharedBlockingsCard : Claim7 := { stood := { row := topSharedBlockingsRow, standIns := [], harness := (true, "0f0b7de1b324808f4fcb5ed897616b417999e6a9439677bed79f5e4e26f1e337"), looks := true }, kinds := [], alts := [], laidByText := true, laidKinds := [.data, .pinned], laidTests := true, laidLooks := .later }
def TopSharedBlockingsCardSaid : Prop := Claim7.holds Tryd.pinned (.plain (OpenSpec.ofChange topSharedBlockingsSpec)) topSharedBlockingsCard

/-- THE TIED CARD OF 'pointcodetop.TopSharedFrames'. -/
def topSharedFramesCard : Claim7 := { stood := { row := topSharedFramesRow, standIns := [], harness := (true, "0f0b7de1b324808f4fcb5ed897616b417999e6a9439677bed79f5e4e26f1e337"), looks := true }, kinds := [], alts := [], laidByText := true, laidKinds := [.data, .widerDeep, .pinned], laidTests := true, laidLooks := .later }
def TopSharedFramesCardSaid : Prop := Claim7.holds Tryd.pinned (.plain (OpenSpec.ofChange topSharedFramesSpec)) topSharedFramesCard

/-- THE TIED CARD OF 'pointcodetop.TopSharedTransactions'. -/
def topSharedTransactionsCard : Claim7 := { stood := { row := topSharedTransactionsRow, standIns := [], harness := (true, "0f0b7de1b324808f4fcb5ed897616b417999e6a9439677bed79f5e4e26f1e337"), looks := true }, kinds := [], alts := [], laidByText := true, laidKinds := [.data, .pinned], laidTests := true, laidLooks := .later }
def TopSharedTransactionsCardSaid : Prop := Claim7.holds Tryd.pinned (.plain (OpenSpec.ofChange topSharedTransactionsSpec)) topSharedTransactionsCard

/-- THE SECOND FORM's CARD OF 'pointcodetop.TopSharedFlows'. -/
def topSharedFlowsUptoCard : Claim7 := { stood := { row := topSharedFlowsUptoRow, standIns := [], harness := (true, "0f0b7de1b324808f4fcb5ed897616b417999e6a9439677bed79f5e4e26f1e337"), looks := true }, kinds := [], alts := [], laidByText := true, laidKinds := [.data, .pinned], laidTests := true, laidLooks := .later }
def TopSharedFlowsUptoCardSaid : Prop := Claim7.holds Tryd.pinned (.plain (OpenSpec.upto topSharedFlowsSpec)) topSharedFlowsUptoCard

/-- THE SECOND FORM's CARD OF 'pointcodetop.TopSharedConnections'. -/
def topSharedConnectionsUptoCard : Claim7 := { stood := { row := topSharedConnectionsUptoRow, standIns := [], harness := (true, "0f0b7de1b324808f4fcb5ed897616b417999e6a9439677bed79f5e4e26f1e337"), looks := true }, kinds := [], alts := [], laidByText := true, laidKinds := [.data, .pinned], laidTests := true, laidLooks := .later }
def TopSharedConnectionsUptoCardSaid : Prop := Claim7.holds Tryd.pinned (.plain (OpenSpec.upto topSharedConnectionsSpec)) topSharedConnectionsUptoCard

/-- THE SECOND FORM's CARD OF 'pointcodetop.TopSharedSegments'. -/
def topSharedSegmentsUptoCard : Claim7 := { stood := { row := topSharedSegmentsUptoRow, standIns := [], harness := (true, "0f0b7de1b324808f4fcb5ed897616b417999e6a9439677bed79f5e4e26f1e337"), looks := true }, kinds := [], alts := [], laidByText := true, laidKinds := [.data, .pinned], laidTests := true, laidLooks := .later }
def TopSharedSegmentsUptoCardSaid : Prop := Claim7.holds Tryd.pinned (.plain (OpenSpec.upto topSharedSegmentsSpec)) topSharedSegmentsUptoCard

/-- THE SECOND FORM's CARD OF 'pointcodetop.TopSharedShares'. -/
def topSharedSharesUptoCard : Claim7 := { stood := { row := topSharedSharesUptoRow, standIns := [], harness := (true, "0f0b7de1b324808f4fcb5ed897616b417999e6a9439677bed79f5e4e26f1e337"), looks := true }, kinds := [], alts := [], laidByText := true, laidKinds := [.data, .pinned], laidTests := true, laidLooks := .later }
def TopSharedSharesUptoCardSaid : Prop := Claim7.holds Tryd.pinned (.plain (OpenSpec.upto topSharedSharesSpec)) topSharedSharesUptoCard

/-- THE SECOND FORM's CARD OF 'pointcodetop.TopSharedLabels'. -/
def topSharedLabelsUptoCard : Claim7 := { stood := { row := topSharedLabelsUptoRow, standIns := [], harness := (true, "0f0b7de1b324808f4fcb5ed897616b417999e6a9439677bed79f5e4e26f1e337"), looks := true }, kinds := [], alts := [], laidByText := true, laidKinds := [.data, .pinned], laidTests := true, laidLooks := .later }
def TopSharedLabelsUptoCardSaid : Prop := Claim7.holds Tryd.pinned (.plain (OpenSpec.upto topSharedLabelsSpec)) topSharedLabelsUptoCard

/-- THE SECOND FORM's CARD OF 'pointcodetop.TopSharedBlockings'. -/
def topSharedBlockingsUptoCard : Claim7 := { stood := { row := topSharedBlockingsUptoRow, standIns := [], harness := (true, "0f0b7de1b324808f4fcb5ed897616b417999e6a9439677bed79f5e4e26f1e337"), looks := true }, kinds := [], alts := [], laidByText := true, laidKinds := [.data, .pinned], laidTests := true, laidLooks := .later }
def TopSharedBlockingsUptoCardSaid : Prop := Claim7.holds Tryd.pinned (.plain (OpenSpec.upto topSharedBlockingsSpec)) topSharedBlockingsUptoCard

/-- THE SECOND FORM's CARD OF 'pointcodetop.TopSharedFrames'. -/
def topSharedFramesUptoCard : Claim7 := { stood := { row := topSharedFramesUptoRow, standIns := [], harness := (true, "0f0b7de1b324808f4fcb5ed897616b417999e6a9439677bed79f5e4e26f1e337"), looks := true }, kinds := [], alts := [], laidByText := true, laidKinds := [.data, .widerDeep, .pinned], laidTests := true, laidLooks := .later }
def TopSharedFramesUptoCardSaid : Prop := Claim7.holds Tryd.pinned (.plain (OpenSpec.upto topSharedFramesSpec)) topSharedFramesUptoCard

/-- THE SECOND FORM's CARD OF 'pointcodetop.TopSharedTransactions'. -/
def topSharedTransactionsUptoCard : Claim7 := { stood := { row := topSharedTransactionsUptoRow, standIns := [], harness := (true, "0f0b7de1b324808f4fcb5ed897616b417999e6a9439677bed79f5e4e26f1e337"), looks := true }, kinds := [], alts := [], laidByText := true, laidKinds := [.data, .pinned], laidTests := true, laidLooks := .later }
def TopSharedTransactionsUptoCardSaid : Prop := Claim7.holds Tryd.pinned (.plain (OpenSpec.upto topSharedTransactionsSpec)) topSharedTransactionsUptoCard
end Rows
end Go.Proofs.YtiecagflhhmfnaaDoor
