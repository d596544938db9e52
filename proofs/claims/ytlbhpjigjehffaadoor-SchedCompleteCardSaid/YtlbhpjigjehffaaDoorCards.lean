/-
  DERIVED. GIVEN WITH THE SEED: THE CARDS: each row of YtlbhpjigjehffaaDoorRows.lean that lists a variable, with what it lists TIED to the program's text (the seventh form; the later family's looks); each row that meets fmt, with fmt's text TOLD by the authors' own Lean function (tested against real Go, not proved from fmt's source: count such statements apart). THE CARD IS WHAT COUNTS. Prove the row's statement (the work); the ties are given (YtlbhpjigjehffaaDoorTie.lean); close each card by the builder's one call (the guide's Derived/Test/ToyasCard.lean, 'card_holds'). Laid BY PROGRAM, IN A SANDBOX (cutbox-door.mjs). By AI agents, Wed Nov 11 2026. No macro, syntax, notation, axiom, sorry.
-/
import Derived.Test.YtlbhpjigjehffaaDoorRows
import GoSem.ClaimSeven
namespace Go.Proofs.YtlbhpjigjehffaaDoor
namespace Rows

/-- THE TIED CARD OF 'testbenchlaw57.SchedOrders'. -/
def schedOrdersCard : Claim7 := { stood := { row := schedOrdersRow, standIns := [], harness := (true, "058cfa479e9a1b3bc190bab5f01b8bbdddffbf111bc5f2278f276520a08383e2"), looks := false }, kinds := [], alts := [], laidByText := true, laidKinds := [.widerDeep], laidTests := true, laidLooks := .later }
def SchedOrdersCardSaid : Prop := Claim7.holds Tryd.pinned (.plain (OpenSpec.ofChange schedOrdersSpec)) schedOrdersCard

/-- THE TIED CARD OF 'testbenchlaw57.SchedAssigns'. -/
def schedAssignsCard : Claim7 := { stood := { row := schedAssignsRow, standIns := [], harness := (true, "058cfa479e9a1b3bc190bab5f01b8bbdddffbf111bc5f2278f276520a08383e2"), looks := false }, kinds := [], alts := [], laidByText := true, laidKinds := [.widerDeep], laidTests := true, laidLooks := .later }
def SchedAssignsCardSaid : Prop := Claim7.holds Tryd.pinned (.plain (OpenSpec.ofChange schedAssignsSpec)) schedAssignsCard

/-- THE TIED CARD OF 'testbenchlaw57.SchedSpans'. -/
def schedSpansCard : Claim7 := { stood := { row := schedSpansRow, standIns := [], harness := (true, "058cfa479e9a1b3bc190bab5f01b8bbdddffbf111bc5f2278f276520a08383e2"), looks := false }, kinds := [], alts := [], laidByText := true, laidKinds := [.widerDeep], laidTests := true, laidLooks := .later }
def SchedSpansCardSaid : Prop := Claim7.holds Tryd.pinned (.plain (OpenSpec.ofChange schedSpansSpec)) schedSpansCard

/-- THE TIED CARD OF 'testbenchlaw57.SchedBounded'. -/
def schedBoundedCard : Claim7 := { stood := { row := schedBoundedRow, standIns := [], harness := (true, "058cfa479e9a1b3bc190bab5f01b8bbdddffbf111bc5f2278f276520a08383e2"), looks := false }, kinds := [], alts := [], laidByText := true, laidKinds := [.widerDeep], laidTests := true, laidLooks := .later }
def SchedBoundedCardSaid : Prop := Claim7.holds Tryd.pinned (.plain (OpenSpec.ofChange schedBoundedSpec)) schedBoundedCard

/-- THE TIED CARD OF 'testbenchlaw57.SchedComplete'. -/
def schedCompleteCard : Claim7 := { stood := { row := schedCompleteRow, standIns := [], harness := (true, "058cfa479e9a1b3bc190bab5f01b8bbdddffbf111bc5f2278f276520a08383e2"), looks := false }, kinds := [], alts := [], laidByText := true, laidKinds := [.widerDeep], laidTests := true, laidLooks := .later }
def SchedCompleteCardSaid : Prop := Claim7.holds Tryd.pinned (.plain (OpenSpec.ofChange schedCompleteSpec)) schedCompleteCard

/-- THE TIED CARD OF 'testbenchlaw57.SchedSorted'. -/
def schedSortedCard : Claim7 := { stood := { row := schedSortedRow, standIns := [], harness := (true, "058cfa479e9a1b3bc190bab5f01b8bbdddffbf111bc5f2278f276520a08383e2"), looks := false }, kinds := [], alts := [], laidByText := true, laidKinds := [.widerDeep], laidTests := true, laidLooks := .later }
def SchedSortedCardSaid : Prop := Claim7.holds Tryd.pinned (.plain (OpenSpec.ofChange schedSortedSpec)) schedSortedCard

/-- THE SECOND FORM's CARD OF 'testbenchlaw57.SchedOrders'. -/
def schedOrdersUptoCard : Claim7 := { stood := { row := schedOrdersUptoRow, standIns := [], harness := (true, "058cfa479e9a1b3bc190bab5f01b8bbdddffbf111bc5f2278f276520a08383e2"), looks := false }, kinds := [], alts := [], laidByText := true, laidKinds := [.widerDeep], laidTests := true, laidLooks := .later }
def SchedOrdersUptoCardSaid : Prop := Claim7.holds Tryd.pinned (.plain (OpenSpec.upto schedOrdersSpec)) schedOrdersUptoCard

/-- THE SECOND FORM's CARD OF 'testbenchlaw57.SchedAssigns'. -/
def schedAssignsUptoCard : Claim7 := { stood := { row := schedAssignsUptoRow, standIns := [], harness := (true, "058cfa479e9a1b3bc190bab5f01b8bbdddffbf111bc5f2278f276520a08383e2"), looks := false }, kinds := [], alts := [], laidByText := true, laidKinds := [.widerDeep], laidTests := true, laidLooks := .later }
def SchedAssignsUptoCardSaid : Prop := Claim7.holds Tryd.pinned (.plain (OpenSpec.upto schedAssignsSpec)) schedAssignsUptoCard

/-- THE SECOND FORM's CARD OF 'testbenchlaw57.SchedSpans'. -/
def schedSpansUptoCard : Claim7 := { stood := { row := schedSpansUptoRow, standIns := [], harness := (true, "058cfa479e9a1b3bc190bab5f01b8bbdddffbf111bc5f2278f276520a08383e2"), looks := false }, kinds := [], alts := [], laidByText := true, laidKinds := [.widerDeep], laidTests := true, laidLooks := .later }
def SchedSpansUptoCardSaid : Prop := Claim7.holds Tryd.pinned (.plain (OpenSpec.upto schedSpansSpec)) schedSpansUptoCard

/-- THE SECOND FORM's CARD OF 'testbenchlaw57.SchedBounded'. -/
def schedBoundedUptoCard : Claim7 := { stood := { row := schedBoundedUptoRow, standIns := [], harness := (true, "058cfa479e9a1b3bc190bab5f01b8bbdddffbf111bc5f2278f276520a08383e2"), looks := false }, kinds := [], alts := [], laidByText := true, laidKinds := [.widerDeep], laidTests := true, laidLooks := .later }
def SchedBoundedUptoCardSaid : Prop := Claim7.holds Tryd.pinned (.plain (OpenSpec.upto schedBoundedSpec)) schedBoundedUptoCard

/-- THE SECOND FORM's CARD OF 'testbenchlaw57.SchedComplete'. -/
def schedCompleteUptoCard : Claim7 := { stood := { row := schedCompleteUptoRow, standIns := [], harness := (true, "058cfa479e9a1b3bc190bab5f01b8bbdddffbf111bc5f2278f276520a08383e2"), looks := false }, kinds := [], alts := [], laidByText := true, laidKinds := [.widerDeep], laidTests := true, laidLooks := .later }
def SchedCompleteUptoCardSaid : Prop := Claim7.holds Tryd.pinned (.plain (OpenSpec.upto schedCompleteSpec)) schedCompleteUptoCard

/-- THE SECOND FORM's CARD OF 'testbenchlaw57.SchedSorted'. -/
def schedSortedUptoCard : Claim7 := { stood := { row := schedSortedUptoRow, standIns := [], harness := (true, "058cfa479e9a1b3bc190bab5f01b8bbdddffbf111bc5f2278f276520a08383e2"), looks := false }, kinds := [], alts := [], laidByText := true, laidKinds := [.widerDeep], laidTests := true, laidLooks := .later }
def SchedSortedUptoCardSaid : Prop := Claim7.holds Tryd.pinned (.plain (OpenSpec.upto schedSortedSpec)) schedSortedUptoCard
end Rows
end Go.Proofs.YtlbhpjigjehffaaDoor
