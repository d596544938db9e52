/-
  DERIVED. GIVEN WITH THE SEED: THE CARDS: each row of YteannfdcbblooaaDoorRows.lean that lists a variable, with what it lists TIED to the program's text (the seventh form; the later family's looks); each row that meets fmt, with fmt's text TOLD by the authors' own Lean function (tested against real Go, not proved from fmt's source: count such statements apart). THE CARD IS WHAT COUNTS. Prove the row's statement (the work); the ties are given (YteannfdcbblooaaDoorTie.lean); close each card by the builder's one call (the guide's Derived/Test/ToyasCard.lean, 'card_holds'). Laid BY PROGRAM, IN A SANDBOX (cutbox-door.mjs). By AI agents, Wed Nov 11 2026. No macro, syntax, notation, axiom, sorry.
-/
import Derived.Test.YteannfdcbblooaaDoorRows
import GoSem.ClaimSeven
namespace Go.Proofs.YteannfdcbblooaaDoor
namespace Rows

/-- THE TIED CARD OF 'testbenchlaw27.ThreadPaths'. -/
def threadPathsCard : Claim7 := { stood := { row := threadPathsRow, standIns := [], harness := (true, "a25308a0b3f42f75dc0ab4284cb3c30fcc7439a081d83e6ef6bbce85b8c7bf2c"), looks := false }, kinds := [], alts := [], laidByText := true, laidKinds := [.data, .data, .data], laidTests := true, laidLooks := .later }
def ThreadPathsCardSaid : Prop := Claim7.holds Tryd.pinned (.plain (OpenSpec.ofChange threadPathsSpec)) threadPathsCard

/-- THE TIED CARD OF 'testbenchlaw27.ThreadFamily'. -/
def threadFamilyCard : Claim7 := { stood := { row := threadFamilyRow, standIns := [], harness := (true, "a25308a0b3f42f75dc0ab4284cb3c30fcc7439a081d83e6ef6bbce85b8c7bf2c"), looks := false }, kinds := [], alts := [], laidByText := true, laidKinds := [.data, .data, .data], laidTests := true, laidLooks := .later }
def ThreadFamilyCardSaid : Prop := Claim7.holds Tryd.pinned (.plain (OpenSpec.ofChange threadFamilySpec)) threadFamilyCard

/-- THE TIED CARD OF 'testbenchlaw27.ThreadOrder'. -/
def threadOrderCard : Claim7 := { stood := { row := threadOrderRow, standIns := [], harness := (true, "a25308a0b3f42f75dc0ab4284cb3c30fcc7439a081d83e6ef6bbce85b8c7bf2c"), looks := false }, kinds := [], alts := [], laidByText := true, laidKinds := [.data, .data, .data], laidTests := true, laidLooks := .later }
def ThreadOrderCardSaid : Prop := Claim7.holds Tryd.pinned (.plain (OpenSpec.ofChange threadOrderSpec)) threadOrderCard

/-- THE TIED CARD OF 'testbenchlaw27.ThreadStreams'. -/
def threadStreamsCard : Claim7 := { stood := { row := threadStreamsRow, standIns := [], harness := (true, "a25308a0b3f42f75dc0ab4284cb3c30fcc7439a081d83e6ef6bbce85b8c7bf2c"), looks := false }, kinds := [], alts := [], laidByText := true, laidKinds := [.data, .data, .data], laidTests := true, laidLooks := .later }
def ThreadStreamsCardSaid : Prop := Claim7.holds Tryd.pinned (.plain (OpenSpec.ofChange threadStreamsSpec)) threadStreamsCard

/-- THE TIED CARD OF 'testbenchlaw27.ThreadTree'. -/
def threadTreeCard : Claim7 := { stood := { row := threadTreeRow, standIns := [], harness := (true, "a25308a0b3f42f75dc0ab4284cb3c30fcc7439a081d83e6ef6bbce85b8c7bf2c"), looks := false }, kinds := [], alts := [], laidByText := true, laidKinds := [.data, .data, .data], laidTests := true, laidLooks := .later }
def ThreadTreeCardSaid : Prop := Claim7.holds Tryd.pinned (.plain (OpenSpec.ofChange threadTreeSpec)) threadTreeCard

/-- THE TIED CARD OF 'testbenchlaw27.ThreadSorted'. -/
def threadSortedCard : Claim7 := { stood := { row := threadSortedRow, standIns := [], harness := (true, "a25308a0b3f42f75dc0ab4284cb3c30fcc7439a081d83e6ef6bbce85b8c7bf2c"), looks := false }, kinds := [], alts := [], laidByText := true, laidKinds := [.data, .data, .data], laidTests := true, laidLooks := .later }
def ThreadSortedCardSaid : Prop := Claim7.holds Tryd.pinned (.plain (OpenSpec.ofChange threadSortedSpec)) threadSortedCard

/-- THE TIED CARD OF 'testbenchlaw27.ThreadStable'. -/
def threadStableCard : Claim7 := { stood := { row := threadStableRow, standIns := [], harness := (true, "a25308a0b3f42f75dc0ab4284cb3c30fcc7439a081d83e6ef6bbce85b8c7bf2c"), looks := false }, kinds := [], alts := [], laidByText := true, laidKinds := [.data, .data, .data], laidTests := true, laidLooks := .later }
def ThreadStableCardSaid : Prop := Claim7.holds Tryd.pinned (.plain (OpenSpec.ofChange threadStableSpec)) threadStableCard

/-- THE SECOND FORM's CARD OF 'testbenchlaw27.ThreadPaths'. -/
def threadPathsUptoCard : Claim7 := { stood := { row := threadPathsUptoRow, standIns := [], harness := (true, "a25308a0b3f42f75dc0ab4284cb3c30fcc7439a081d83e6ef6bbce85b8c7bf2c"), looks := false }, kinds := [], alts := [], laidByText := true, laidKinds := [.data, .data, .data], laidTests := true, laidLooks := .later }
def ThreadPathsUptoCardSaid : Prop := Claim7.holds Tryd.pinned (.plain (OpenSpec.upto threadPathsSpec)) threadPathsUptoCard

/-- THE SECOND FORM's CARD OF 'testbenchlaw27.ThreadFamily'. -/
def threadFamilyUptoCard : Claim7 := { stood := { row := threadFamilyUptoRow, standIns := [], harness := (true, "a25308a0b3f42f75dc0ab4284cb3c30fcc7439a081d83e6ef6bbce85b8c7bf2c"), looks := false }, kinds := [], alts := [], laidByText := true, laidKinds := [.data, .data, .data], laidTests := true, laidLooks := .later }
def ThreadFamilyUptoCardSaid : Prop := Claim7.holds Tryd.pinned (.plain (OpenSpec.upto threadFamilySpec)) threadFamilyUptoCard

/-- THE SECOND FORM's CARD OF 'testbenchlaw27.ThreadOrder'. -/
def threadOrderUptoCard : Claim7 := { stood := { row := threadOrderUptoRow, standIns := [], harness := (true, "a25308a0b3f42f75dc0ab4284cb3c30fcc7439a081d83e6ef6bbce85b8c7bf2c"), looks := false }, kinds := [], alts := [], laidByText := true, laidKinds := [.data, .data, .data], laidTests := true, laidLooks := .later }
def ThreadOrderUptoCardSaid : Prop := Claim7.holds Tryd.pinned (.plain (OpenSpec.upto threadOrderSpec)) threadOrderUptoCard

/-- THE SECOND FORM's CARD OF 'testbenchlaw27.ThreadStreams'. -/
def threadStreamsUptoCard : Claim7 := { stood := { row := threadStreamsUptoRow, standIns := [], harness := (true, "a25308a0b3f42f75dc0ab4284cb3c30fcc7439a081d83e6ef6bbce85b8c7bf2c"), looks := false }, kinds := [], alts := [], laidByText := true, laidKinds := [.data, .data, .data], laidTests := true, laidLooks := .later }
def ThreadStreamsUptoCardSaid : Prop := Claim7.holds Tryd.pinned (.plain (OpenSpec.upto threadStreamsSpec)) threadStreamsUptoCard

/-- THE SECOND FORM's CARD OF 'testbenchlaw27.ThreadTree'. -/
def threadTreeUptoCard : Claim7 := { stood := { row := threadTreeUptoRow, standIns := [], harness := (true, "a25308a0b3f42f75dc0ab4284cb3c30fcc7439a081d83e6ef6bbce85b8c7bf2c"), looks := false }, kinds := [], alts := [], laidByText := true, laidKinds := [.data, .data, .data], laidTests := true, laidLooks := .later }
def ThreadTreeUptoCardSaid : Prop := Claim7.holds Tryd.pinned (.plain (OpenSpec.upto threadTreeSpec)) threadTreeUptoCard

/-- THE SECOND FORM's CARD OF 'testbenchlaw27.ThreadSorted'. -/
def threadSortedUptoCard : Claim7 := { stood := { row := threadSortedUptoRow, standIns := [], harness := (true, "a25308a0b3f42f75dc0ab4284cb3c30fcc7439a081d83e6ef6bbce85b8c7bf2c"), looks := false }, kinds := [], alts := [], laidByText := true, laidKinds := [.data, .data, .data], laidTests := true, laidLooks := .later }
def ThreadSortedUptoCardSaid : Prop := Claim7.holds Tryd.pinned (.plain (OpenSpec.upto threadSortedSpec)) threadSortedUptoCard

/-- THE SECOND FORM's CARD OF 'testbenchlaw27.ThreadStable'. -/
def threadStableUptoCard : Claim7 := { stood := { row := threadStableUptoRow, standIns := [], harness := (true, "a25308a0b3f42f75dc0ab4284cb3c30fcc7439a081d83e6ef6bbce85b8c7bf2c"), looks := false }, kinds := [], alts := [], laidByText := true, laidKinds := [.data, .data, .data], laidTests := true, laidLooks := .later }
def ThreadStableUptoCardSaid : Prop := Claim7.holds Tryd.pinned (.plain (OpenSpec.upto threadStableSpec)) threadStableUptoCard
end Rows
end Go.Proofs.YteannfdcbblooaaDoor
