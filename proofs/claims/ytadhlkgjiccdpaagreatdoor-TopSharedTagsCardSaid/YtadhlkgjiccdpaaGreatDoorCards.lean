/-
  DERIVED. GIVEN WITH THE SEED: THE CARDS: each row of YtadhlkgjiccdpaaGreatDoorRows.lean that lists a variable, with what it lists TIED to the program's text (the seventh form; the later family's looks); each row that meets fmt, with fmt's text TOLD by the authors' own Lean function (tested against real Go, not proved from fmt's source: count such statements apart). THE CARD IS WHAT COUNTS. Prove the row's statement (the work); the ties are given (YtadhlkgjiccdpaaGreatDoorTie.lean); close each card by the builder's one call (the guide's Derived/Test/ToyasCard.lean, 'card_holds'). Laid BY PROGRAM, IN A SANDBOX (cutbox-door.mjs). By AI agents, Wed Nov 11 2026. No macro, syntax, notation, axiom, sorry.
-/
import Derived.Test.YtadhlkgjiccdpaaGreatDoorRows
import GoSem.ClaimSeven
namespace Go.Proofs.YtadhlkgjiccdpaaGreatDoor
namespace Rows

/-- THE TIED CARD OF 'pointcodetop.TopSharedUpdates'. -/
def topSharedUpdatesCard : Claim7 := { stood := { row := topSharedUpdatesRow, standIns := [], harness := (true, "f59ba8cfbc516d8797c87cd9048efa5c5c69abd2dcf0c972abdbe73d0c13de7a"), looks := true }, kinds := [], alts := [], laidByText := true, laidKinds := [.data, .pinned], laidTests := true, laidLooks := .later }
def TopSharedUpdatesCardSaid : Prop := Claim7.holds Tryz.pinned (.plain (OpenSpec.ofChange topSharedUpdatesSpec)) topSharedUpdatesCard

/-- THE TIED CARD OF 'pointcodetop.TopSharedComponents'. -/
def topSharedComponentsCard : Claim7 := { stood := { row := topSharedComponentsRow, standIns := [], harness := (true, "f59ba8cfbc516d8797c87cd9048efa5c5c69abd2dcf0c972abdbe73d0c13de7a"), looks := true }, kinds := [], alts := [], laidByText := true, laidKinds := [.data, .pinned], laidTests := true, laidLooks := .later }
def TopSharedComponentsCardSaid : Prop := Claim7.holds Tryz.pinned (.plain (OpenSpec.ofChange topSharedComponentsSpec)) topSharedComponentsCard

/-- THE TIED CARD OF 'pointcodetop.TopSharedTags'. -/
def topSharedTagsCard : Claim7 := { stood := { row := topSharedTagsRow, standIns := [], harness := (true, "f59ba8cfbc516d8797c87cd9048efa5c5c69abd2dcf0c972abdbe73d0c13de7a"), looks := true }, kinds := [], alts := [], laidByText := true, laidKinds := [.data, .data, .data, .data, .sentinel, .sentinel, .pinned], laidTests := true, laidLooks := .later }
def TopSharedTagsCardSaid : Prop := Claim7.holds Tryz.pinned (.plain (OpenSpec.ofChange topSharedTagsSpec)) topSharedTagsCard

/-- THE SECOND FORM's CARD OF 'pointcodetop.TopSharedUpdates'. -/
def topSharedUpdatesUptoCard : Claim7 := { stood := { row := topSharedUpdatesUptoRow, standIns := [], harness := (true, "f59ba8cfbc516d8797c87cd9048efa5c5c69abd2dcf0c972abdbe73d0c13de7a"), looks := true }, kinds := [], alts := [], laidByText := true, laidKinds := [.data, .pinned], laidTests := true, laidLooks := .later }
def TopSharedUpdatesUptoCardSaid : Prop := Claim7.holds Tryz.pinned (.plain (OpenSpec.upto topSharedUpdatesSpec)) topSharedUpdatesUptoCard

/-- THE SECOND FORM's CARD OF 'pointcodetop.TopSharedComponents'. -/
def topSharedComponentsUptoCard : Claim7 := { stood := { row := topSharedComponentsUptoRow, standIns := [], harness := (true, "f59ba8cfbc516d8797c87cd9048efa5c5c69abd2dcf0c972abdbe73d0c13de7a"), looks := true }, kinds := [], alts := [], laidByText := true, laidKinds := [.data, .pinned], laidTests := true, laidLooks := .later }
def TopSharedComponentsUptoCardSaid : Prop := Claim7.holds Tryz.pinned (.plain (OpenSpec.upto topSharedComponentsSpec)) topSharedComponentsUptoCard

/-- THE SECOND FORM's CARD OF 'pointcodetop.TopSharedTags'. -/
def topSharedTagsUptoCard : Claim7 := { stood := { row := topSharedTagsUptoRow, standIns := [], harness := (true, "f59ba8cfbc516d8797c87cd9048efa5c5c69abd2dcf0c972abdbe73d0c13de7a"), looks := true }, kinds := [], alts := [], laidByText := true, laidKinds := [.data, .data, .data, .data, .sentinel, .sentinel, .pinned], laidTests := true, laidLooks := .later }
def TopSharedTagsUptoCardSaid : Prop := Claim7.holds Tryz.pinned (.plain (OpenSpec.upto topSharedTagsSpec)) topSharedTagsUptoCard
end Rows
end Go.Proofs.YtadhlkgjiccdpaaGreatDoor
