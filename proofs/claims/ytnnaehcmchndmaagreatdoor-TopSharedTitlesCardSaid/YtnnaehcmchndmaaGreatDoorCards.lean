/-
  DERIVED. GIVEN WITH THE SEED: THE CARDS: each row of YtnnaehcmchndmaaGreatDoorRows.lean that lists a variable, with what it lists TIED to the program's text (the seventh form; the later family's looks); each row that meets fmt, with fmt's text TOLD by the authors' own Lean function (tested against real Go, not proved from fmt's source: count such statements apart). THE CARD IS WHAT COUNTS. Prove the row's statement (the work); the ties are given (YtnnaehcmchndmaaGreatDoorTie.lean); close each card by the builder's one call (the guide's Derived/Test/ToyasCard.lean, 'card_holds'). Laid BY PROGRAM, IN A SANDBOX (cutbox-door.mjs). By AI agents, Wed Nov 11 2026. No macro, syntax, notation, axiom, sorry.
-/
import Derived.Test.YtnnaehcmchndmaaGreatDoorRows
import GoSem.ClaimSeven
namespace Go.Proofs.YtnnaehcmchndmaaGreatDoor
namespace Rows

/-- THE TIED CARD OF 'pointcodetop.TopSharedTracers'. -/
def topSharedTracersCard : Claim7 := { stood := { row := topSharedTracersRow, standIns := [], harness := (true, "2a03c1d037a8c15705099de04a27557765d757357c061c7aa88f854ecea67fc6"), looks := true }, kinds := [], alts := [], laidByText := true, laidKinds := [.data, .data, .data, .data, .sentinel, .sentinel, .widerDeep, .pinned], laidTests := true, laidLooks := .later }
def TopSharedTracersCardSaid : Prop := Claim7.holds Tryz.pinned (.plain (OpenSpec.ofChange topSharedTracersSpec)) topSharedTracersCard

/-- THE TIED CARD OF 'pointcodetop.TopSharedPlans'. -/
def topSharedPlansCard : Claim7 := { stood := { row := topSharedPlansRow, standIns := [], harness := (true, "2a03c1d037a8c15705099de04a27557765d757357c061c7aa88f854ecea67fc6"), looks := true }, kinds := [], alts := [], laidByText := true, laidKinds := [.data, .data, .data, .data, .sentinel, .sentinel, .widerDeep, .pinned], laidTests := true, laidLooks := .later }
def TopSharedPlansCardSaid : Prop := Claim7.holds Tryz.pinned (.plain (OpenSpec.ofChange topSharedPlansSpec)) topSharedPlansCard

/-- THE TIED CARD OF 'pointcodetop.TopSharedOrders'. -/
def topSharedOrdersCard : Claim7 := { stood := { row := topSharedOrdersRow, standIns := [], harness := (true, "2a03c1d037a8c15705099de04a27557765d757357c061c7aa88f854ecea67fc6"), looks := true }, kinds := [], alts := [], laidByText := true, laidKinds := [.data, .pinned], laidTests := true, laidLooks := .later }
def TopSharedOrdersCardSaid : Prop := Claim7.holds Tryz.pinned (.plain (OpenSpec.ofChange topSharedOrdersSpec)) topSharedOrdersCard

/-- THE TIED CARD OF 'pointcodetop.TopSharedTitles'. -/
def topSharedTitlesCard : Claim7 := { stood := { row := topSharedTitlesRow, standIns := [], harness := (true, "2a03c1d037a8c15705099de04a27557765d757357c061c7aa88f854ecea67fc6"), looks := true }, kinds := [], alts := [], laidByText := true, laidKinds := [.data, .data, .data, .data, .sentinel, .sentinel, .pinned], laidTests := true, laidLooks := .later }
def TopSharedTitlesCardSaid : Prop := Claim7.holds Tryz.pinned (.plain (OpenSpec.ofChange topSharedTitlesSpec)) topSharedTitlesCard

/-- THE SECOND FORM's CARD OF 'pointcodetop.TopSharedTracers'. -/
def topSharedTracersUptoCard : Claim7 := { stood := { row := topSharedTracersUptoRow, standIns := [], harness := (true, "2a03c1d037a8c15705099de04a27557765d757357c061c7aa88f854ecea67fc6"), looks := true }, kinds := [], alts := [], laidByText := true, laidKinds := [.data, .data, .data, .data, .sentinel, .sentinel, .widerDeep, .pinned], laidTests := true, laidLooks := .later }
def TopSharedTracersUptoCardSaid : Prop := Claim7.holds Tryz.pinned (.plain (OpenSpec.upto topSharedTracersSpec)) topSharedTracersUptoCard

/-- THE SECOND FORM's CARD OF 'pointcodetop.TopSharedPlans'. -/
def topSharedPlansUptoCard : Claim7 := { stood := { row := topSharedPlansUptoRow, standIns := [], harness := (true, "2a03c1d037a8c15705099de04a27557765d757357c061c7aa88f854ecea67fc6"), looks := true }, kinds := [], alts := [], laidByText := true, laidKinds := [.data, .data, .data, .data, .sentinel, .sentinel, .widerDeep, .pinned], laidTests := true, laidLooks := .later }
def TopSharedPlansUptoCardSaid : Prop := Claim7.holds Tryz.pinned (.plain (OpenSpec.upto topSharedPlansSpec)) topSharedPlansUptoCard

/-- THE SECOND FORM's CARD OF 'pointcodetop.TopSharedOrders'. -/
def topSharedOrdersUptoCard : Claim7 := { stood := { row := topSharedOrdersUptoRow, standIns := [], harness := (true, "2a03c1d037a8c15705099de04a27557765d757357c061c7aa88f854ecea67fc6"), looks := true }, kinds := [], alts := [], laidByText := true, laidKinds := [.data, .pinned], laidTests := true, laidLooks := .later }
def TopSharedOrdersUptoCardSaid : Prop := Claim7.holds Tryz.pinned (.plain (OpenSpec.upto topSharedOrdersSpec)) topSharedOrdersUptoCard

/-- THE SECOND FORM's CARD OF 'pointcodetop.TopSharedTitles'. -/
def topSharedTitlesUptoCard : Claim7 := { stood := { row := topSharedTitlesUptoRow, standIns := [], harness := (true, "2a03c1d037a8c15705099de04a27557765d757357c061c7aa88f854ecea67fc6"), looks := true }, kinds := [], alts := [], laidByText := true, laidKinds := [.data, .data, .data, .data, .sentinel, .sentinel, .pinned], laidTests := true, laidLooks := .later }
def TopSharedTitlesUptoCardSaid : Prop := Claim7.holds Tryz.pinned (.plain (OpenSpec.upto topSharedTitlesSpec)) topSharedTitlesUptoCard
end Rows
end Go.Proofs.YtnnaehcmchndmaaGreatDoor
