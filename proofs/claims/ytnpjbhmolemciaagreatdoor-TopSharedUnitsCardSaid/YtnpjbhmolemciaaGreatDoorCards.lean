/-
  DERIVED. GIVEN WITH THE SEED: THE CARDS: each row of YtnpjbhmolemciaaGreatDoorRows.lean that lists a variable, with what it lists TIED to the program's text (the seventh form; the later family's looks); each row that meets fmt, with fmt's text TOLD by the authors' own Lean function (tested against real Go, not proved from fmt's source: count such statements apart). THE CARD IS WHAT COUNTS. Prove the row's statement (the work); the ties are given (YtnpjbhmolemciaaGreatDoorTie.lean); close each card by the builder's one call (the guide's Derived/Test/ToyasCard.lean, 'card_holds'). Laid BY PROGRAM, IN A SANDBOX (cutbox-door.mjs). By AI agents, Wed Nov 11 2026. No macro, syntax, notation, axiom, sorry.
-/
import Derived.Test.YtnpjbhmolemciaaGreatDoorRows
import GoSem.ClaimSeven
namespace Go.Proofs.YtnpjbhmolemciaaGreatDoor
namespace Rows

/-- THE TIED CARD OF 'pointcodetop.TopSharedBits'. -/
def topSharedBitsCard : Claim7 := { stood := { row := topSharedBitsRow, standIns := [], harness := (true, "73036cbce305e9eaa38d36ca2e2552e834d08501a7d44db71dd9f724c8c4e935"), looks := false }, kinds := [], alts := [], laidByText := true, laidKinds := [.data, .pinned], laidTests := true, laidLooks := .later }
def TopSharedBitsCardSaid : Prop := Claim7.holds Tryz.pinned (.plain (OpenSpec.ofChange topSharedBitsSpec)) topSharedBitsCard

/-- THE TIED CARD OF 'pointcodetop.TopSharedUnits'. -/
def topSharedUnitsCard : Claim7 := { stood := { row := topSharedUnitsRow, standIns := [], harness := (true, "73036cbce305e9eaa38d36ca2e2552e834d08501a7d44db71dd9f724c8c4e935"), looks := false }, kinds := [], alts := [], laidByText := true, laidKinds := [.data, .data, .data, .data, .pinned], laidTests := true, laidLooks := .later }
def TopSharedUnitsCardSaid : Prop := Claim7.holds Tryz.pinned (.plain (OpenSpec.ofChange topSharedUnitsSpec)) topSharedUnitsCard

/-- THE SECOND FORM's CARD OF 'pointcodetop.TopSharedBits'. -/
def topSharedBitsUptoCard : Claim7 := { stood := { row := topSharedBitsUptoRow, standIns := [], harness := (true, "73036cbce305e9eaa38d36ca2e2552e834d08501a7d44db71dd9f724c8c4e935"), looks := false }, kinds := [], alts := [], laidByText := true, laidKinds := [.data, .pinned], laidTests := true, laidLooks := .later }
def TopSharedBitsUptoCardSaid : Prop := Claim7.holds Tryz.pinned (.plain (OpenSpec.upto topSharedBitsSpec)) topSharedBitsUptoCard

/-- THE SECOND FORM's CARD OF 'pointcodetop.TopSharedUnits'. -/
def topSharedUnitsUptoCard : Claim7 := { stood := { row := topSharedUnitsUptoRow, standIns := [], harness := (true, "73036cbce305e9eaa38d36ca2e2552e834d08501a7d44db71dd9f724c8c4e935"), looks := false }, kinds := [], alts := [], laidByText := true, laidKinds := [.data, .data, .data, .data, .pinned], laidTests := true, laidLooks := .later }
def TopSharedUnitsUptoCardSaid : Prop := Claim7.holds Tryz.pinned (.plain (OpenSpec.upto topSharedUnitsSpec)) topSharedUnitsUptoCard
end Rows
end Go.Proofs.YtnpjbhmolemciaaGreatDoor
