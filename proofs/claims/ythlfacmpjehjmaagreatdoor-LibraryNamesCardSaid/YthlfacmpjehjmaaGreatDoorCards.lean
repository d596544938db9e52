/-
  DERIVED. GIVEN WITH THE SEED: THE CARDS: each row of YthlfacmpjehjmaaGreatDoorRows.lean that lists a variable, with what it lists TIED to the program's text (the seventh form; the later family's looks); each row that meets fmt, with fmt's text TOLD by the authors' own Lean function (tested against real Go, not proved from fmt's source: count such statements apart). THE CARD IS WHAT COUNTS. Prove the row's statement (the work); the ties are given (YthlfacmpjehjmaaGreatDoorTie.lean); close each card by the builder's one call (the guide's Derived/Test/ToyasCard.lean, 'card_holds'). Laid BY PROGRAM, IN A SANDBOX (cutbox-door.mjs). By AI agents, Wed Nov 11 2026. No macro, syntax, notation, axiom, sorry.
-/
import Derived.Test.YthlfacmpjehjmaaGreatDoorRows
import GoSem.ClaimSeven
namespace Go.Proofs.YthlfacmpjehjmaaGreatDoor
namespace Rows

/-- THE TIED CARD OF 'testbenchlaw33.LibraryDesigns'. -/
def libraryDesignsCard : Claim7 := { stood := { row := libraryDesignsRow, standIns := [], harness := (true, "d40835a0df3b3227bd89fe53891110da9fb3c693b3a3438d5c539a6976813136"), looks := false }, kinds := [], alts := [], laidByText := true, laidKinds := [.data, .data, .data, .listed, .data], laidTests := true, laidLooks := .later }
def LibraryDesignsCardSaid : Prop := Claim7.holds Tryz.pinned (.plain (OpenSpec.ofChange libraryDesignsSpec)) libraryDesignsCard

/-- THE TIED CARD OF 'testbenchlaw33.LibraryValid'. -/
def libraryValidCard : Claim7 := { stood := { row := libraryValidRow, standIns := [], harness := (true, "d40835a0df3b3227bd89fe53891110da9fb3c693b3a3438d5c539a6976813136"), looks := false }, kinds := [], alts := [], laidByText := true, laidKinds := [.data, .data, .data, .listed, .data], laidTests := true, laidLooks := .later }
def LibraryValidCardSaid : Prop := Claim7.holds Tryz.pinned (.plain (OpenSpec.ofChange libraryValidSpec)) libraryValidCard

/-- THE TIED CARD OF 'testbenchlaw33.LibraryStable'. -/
def libraryStableCard : Claim7 := { stood := { row := libraryStableRow, standIns := [], harness := (true, "d40835a0df3b3227bd89fe53891110da9fb3c693b3a3438d5c539a6976813136"), looks := false }, kinds := [], alts := [], laidByText := true, laidKinds := [.data, .data, .data, .listed, .data], laidTests := true, laidLooks := .later }
def LibraryStableCardSaid : Prop := Claim7.holds Tryz.pinned (.plain (OpenSpec.ofChange libraryStableSpec)) libraryStableCard

/-- THE TIED CARD OF 'testbenchlaw33.LibraryBehaves'. -/
def libraryBehavesCard : Claim7 := { stood := { row := libraryBehavesRow, standIns := [], harness := (true, "d40835a0df3b3227bd89fe53891110da9fb3c693b3a3438d5c539a6976813136"), looks := false }, kinds := [], alts := [], laidByText := true, laidKinds := [.data, .data, .data, .listed, .data], laidTests := true, laidLooks := .later }
def LibraryBehavesCardSaid : Prop := Claim7.holds Tryz.pinned (.plain (OpenSpec.ofChange libraryBehavesSpec)) libraryBehavesCard

/-- THE TIED CARD OF 'testbenchlaw33.LibraryDrains'. -/
def libraryDrainsCard : Claim7 := { stood := { row := libraryDrainsRow, standIns := [], harness := (true, "d40835a0df3b3227bd89fe53891110da9fb3c693b3a3438d5c539a6976813136"), looks := false }, kinds := [], alts := [], laidByText := true, laidKinds := [.data, .data, .data, .listed, .data], laidTests := true, laidLooks := .later }
def LibraryDrainsCardSaid : Prop := Claim7.holds Tryz.pinned (.plain (OpenSpec.ofChange libraryDrainsSpec)) libraryDrainsCard

/-- THE TIED CARD OF 'testbenchlaw33.LibraryNames'. -/
def libraryNamesCard : Claim7 := { stood := { row := libraryNamesRow, standIns := [], harness := (true, "d40835a0df3b3227bd89fe53891110da9fb3c693b3a3438d5c539a6976813136"), looks := false }, kinds := [], alts := [], laidByText := true, laidKinds := [.data, .data, .data, .listed, .data], laidTests := true, laidLooks := .later }
def LibraryNamesCardSaid : Prop := Claim7.holds Tryz.pinned (.plain (OpenSpec.ofChange libraryNamesSpec)) libraryNamesCard

/-- THE SECOND FORM's CARD OF 'testbenchlaw33.LibraryDesigns'. -/
def libraryDesignsUptoCard : Claim7 := { stood := { row := libraryDesignsUptoRow, standIns := [], harness := (true, "d40835a0df3b3227bd89fe53891110da9fb3c693b3a3438d5c539a6976813136"), looks := false }, kinds := [], alts := [], laidByText := true, laidKinds := [.data, .data, .data, .listed, .data], laidTests := true, laidLooks := .later }
def LibraryDesignsUptoCardSaid : Prop := Claim7.holds Tryz.pinned (.plain (OpenSpec.upto libraryDesignsSpec)) libraryDesignsUptoCard

/-- THE SECOND FORM's CARD OF 'testbenchlaw33.LibraryValid'. -/
def libraryValidUptoCard : Claim7 := { stood := { row := libraryValidUptoRow, standIns := [], harness := (true, "d40835a0df3b3227bd89fe53891110da9fb3c693b3a3438d5c539a6976813136"), looks := false }, kinds := [], alts := [], laidByText := true, laidKinds := [.data, .data, .data, .listed, .data], laidTests := true, laidLooks := .later }
def LibraryValidUptoCardSaid : Prop := Claim7.holds Tryz.pinned (.plain (OpenSpec.upto libraryValidSpec)) libraryValidUptoCard

/-- THE SECOND FORM's CARD OF 'testbenchlaw33.LibraryStable'. -/
def libraryStableUptoCard : Claim7 := { stood := { row := libraryStableUptoRow, standIns := [], harness := (true, "d40835a0df3b3227bd89fe53891110da9fb3c693b3a3438d5c539a6976813136"), looks := false }, kinds := [], alts := [], laidByText := true, laidKinds := [.data, .data, .data, .listed, .data], laidTests := true, laidLooks := .later }
def LibraryStableUptoCardSaid : Prop := Claim7.holds Tryz.pinned (.plain (OpenSpec.upto libraryStableSpec)) libraryStableUptoCard

/-- THE SECOND FORM's CARD OF 'testbenchlaw33.LibraryBehaves'. -/
def libraryBehavesUptoCard : Claim7 := { stood := { row := libraryBehavesUptoRow, standIns := [], harness := (true, "d40835a0df3b3227bd89fe53891110da9fb3c693b3a3438d5c539a6976813136"), looks := false }, kinds := [], alts := [], laidByText := true, laidKinds := [.data, .data, .data, .listed, .data], laidTests := true, laidLooks := .later }
def LibraryBehavesUptoCardSaid : Prop := Claim7.holds Tryz.pinned (.plain (OpenSpec.upto libraryBehavesSpec)) libraryBehavesUptoCard

/-- THE SECOND FORM's CARD OF 'testbenchlaw33.LibraryDrains'. -/
def libraryDrainsUptoCard : Claim7 := { stood := { row := libraryDrainsUptoRow, standIns := [], harness := (true, "d40835a0df3b3227bd89fe53891110da9fb3c693b3a3438d5c539a6976813136"), looks := false }, kinds := [], alts := [], laidByText := true, laidKinds := [.data, .data, .data, .listed, .data], laidTests := true, laidLooks := .later }
def LibraryDrainsUptoCardSaid : Prop := Claim7.holds Tryz.pinned (.plain (OpenSpec.upto libraryDrainsSpec)) libraryDrainsUptoCard

/-- THE SECOND FORM's CARD OF 'testbenchlaw33.LibraryNames'. -/
def libraryNamesUptoCard : Claim7 := { stood := { row := libraryNamesUptoRow, standIns := [], harness := (true, "d40835a0df3b3227bd89fe53891110da9fb3c693b3a3438d5c539a6976813136"), looks := false }, kinds := [], alts := [], laidByText := true, laidKinds := [.data, .data, .data, .listed, .data], laidTests := true, laidLooks := .later }
def LibraryNamesUptoCardSaid : Prop := Claim7.holds Tryz.pinned (.plain (OpenSpec.upto libraryNamesSpec)) libraryNamesUptoCard
end Rows
end Go.Proofs.YthlfacmpjehjmaaGreatDoor
