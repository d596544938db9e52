/-
  DERIVED. GIVEN WITH THE SEED: THE CARDS: each row of YtmoijeodahlbmaaDoorRows.lean that lists a variable, with what it lists TIED to the program's text (the seventh form; the later family's looks); each row that meets fmt, with fmt's text TOLD by the authors' own Lean function (tested against real Go, not proved from fmt's source: count such statements apart). THE CARD IS WHAT COUNTS. Prove the row's statement (the work); the ties are given (YtmoijeodahlbmaaDoorTie.lean); close each card by the builder's one call (the guide's Derived/Test/ToyasCard.lean, 'card_holds'). Laid BY PROGRAM, IN A SANDBOX (cutbox-door.mjs). By AI agents, Wed Nov 11 2026. No macro, syntax, notation, axiom, sorry.
-/
import Derived.Test.YtmoijeodahlbmaaDoorRows
import GoSem.ClaimSeven
namespace Go.Proofs.YtmoijeodahlbmaaDoor
namespace Rows

/-- THE TIED CARD OF 'testbenchlaw30.RegmapWrites'. -/
def regmapWritesCard : Claim7 := { stood := { row := regmapWritesRow, standIns := [], harness := (true, "ab97f94472f3a4a0e49b66f5902edbc49ed48f4302758e009c69cb9fa9d42ccf"), looks := false }, kinds := [], alts := [], laidByText := true, laidKinds := [.widerDeep], laidTests := true, laidLooks := .later }
def RegmapWritesCardSaid : Prop := Claim7.holds Tryd.pinned (.plain (OpenSpec.ofChange regmapWritesSpec)) regmapWritesCard

/-- THE TIED CARD OF 'testbenchlaw30.RegmapMirrors'. -/
def regmapMirrorsCard : Claim7 := { stood := { row := regmapMirrorsRow, standIns := [], harness := (true, "ab97f94472f3a4a0e49b66f5902edbc49ed48f4302758e009c69cb9fa9d42ccf"), looks := false }, kinds := [], alts := [], laidByText := true, laidKinds := [.widerDeep], laidTests := true, laidLooks := .later }
def RegmapMirrorsCardSaid : Prop := Claim7.holds Tryd.pinned (.plain (OpenSpec.ofChange regmapMirrorsSpec)) regmapMirrorsCard

/-- THE TIED CARD OF 'testbenchlaw30.RegmapOthers'. -/
def regmapOthersCard : Claim7 := { stood := { row := regmapOthersRow, standIns := [], harness := (true, "ab97f94472f3a4a0e49b66f5902edbc49ed48f4302758e009c69cb9fa9d42ccf"), looks := false }, kinds := [], alts := [], laidByText := true, laidKinds := [.widerDeep], laidTests := true, laidLooks := .later }
def RegmapOthersCardSaid : Prop := Claim7.holds Tryd.pinned (.plain (OpenSpec.ofChange regmapOthersSpec)) regmapOthersCard

/-- THE TIED CARD OF 'testbenchlaw30.RegmapValid'. -/
def regmapValidCard : Claim7 := { stood := { row := regmapValidRow, standIns := [], harness := (true, "ab97f94472f3a4a0e49b66f5902edbc49ed48f4302758e009c69cb9fa9d42ccf"), looks := false }, kinds := [], alts := [], laidByText := true, laidKinds := [.widerDeep], laidTests := true, laidLooks := .later }
def RegmapValidCardSaid : Prop := Claim7.holds Tryd.pinned (.plain (OpenSpec.ofChange regmapValidSpec)) regmapValidCard

/-- THE TIED CARD OF 'testbenchlaw30.RegmapReads'. -/
def regmapReadsCard : Claim7 := { stood := { row := regmapReadsRow, standIns := [], harness := (true, "ab97f94472f3a4a0e49b66f5902edbc49ed48f4302758e009c69cb9fa9d42ccf"), looks := false }, kinds := [], alts := [], laidByText := true, laidKinds := [.widerDeep], laidTests := true, laidLooks := .later }
def RegmapReadsCardSaid : Prop := Claim7.holds Tryd.pinned (.plain (OpenSpec.ofChange regmapReadsSpec)) regmapReadsCard

/-- THE TIED CARD OF 'testbenchlaw30.RegmapFields'. -/
def regmapFieldsCard : Claim7 := { stood := { row := regmapFieldsRow, standIns := [], harness := (true, "ab97f94472f3a4a0e49b66f5902edbc49ed48f4302758e009c69cb9fa9d42ccf"), looks := false }, kinds := [], alts := [], laidByText := true, laidKinds := [.widerDeep], laidTests := true, laidLooks := .later }
def RegmapFieldsCardSaid : Prop := Claim7.holds Tryd.pinned (.plain (OpenSpec.ofChange regmapFieldsSpec)) regmapFieldsCard

/-- THE SECOND FORM's CARD OF 'testbenchlaw30.RegmapWrites'. -/
def regmapWritesUptoCard : Claim7 := { stood := { row := regmapWritesUptoRow, standIns := [], harness := (true, "ab97f94472f3a4a0e49b66f5902edbc49ed48f4302758e009c69cb9fa9d42ccf"), looks := false }, kinds := [], alts := [], laidByText := true, laidKinds := [.widerDeep], laidTests := true, laidLooks := .later }
def RegmapWritesUptoCardSaid : Prop := Claim7.holds Tryd.pinned (.plain (OpenSpec.upto regmapWritesSpec)) regmapWritesUptoCard

/-- THE SECOND FORM's CARD OF 'testbenchlaw30.RegmapMirrors'. -/
def regmapMirrorsUptoCard : Claim7 := { stood := { row := regmapMirrorsUptoRow, standIns := [], harness := (true, "ab97f94472f3a4a0e49b66f5902edbc49ed48f4302758e009c69cb9fa9d42ccf"), looks := false }, kinds := [], alts := [], laidByText := true, laidKinds := [.widerDeep], laidTests := true, laidLooks := .later }
def RegmapMirrorsUptoCardSaid : Prop := Claim7.holds Tryd.pinned (.plain (OpenSpec.upto regmapMirrorsSpec)) regmapMirrorsUptoCard

/-- THE SECOND FORM's CARD OF 'testbenchlaw30.RegmapOthers'. -/
def regmapOthersUptoCard : Claim7 := { stood := { row := regmapOthersUptoRow, standIns := [], harness := (true, "ab97f94472f3a4a0e49b66f5902edbc49ed48f4302758e009c69cb9fa9d42ccf"), looks := false }, kinds := [], alts := [], laidByText := true, laidKinds := [.widerDeep], laidTests := true, laidLooks := .later }
def RegmapOthersUptoCardSaid : Prop := Claim7.holds Tryd.pinned (.plain (OpenSpec.upto regmapOthersSpec)) regmapOthersUptoCard

/-- THE SECOND FORM's CARD OF 'testbenchlaw30.RegmapValid'. -/
def regmapValidUptoCard : Claim7 := { stood := { row := regmapValidUptoRow, standIns := [], harness := (true, "ab97f94472f3a4a0e49b66f5902edbc49ed48f4302758e009c69cb9fa9d42ccf"), looks := false }, kinds := [], alts := [], laidByText := true, laidKinds := [.widerDeep], laidTests := true, laidLooks := .later }
def RegmapValidUptoCardSaid : Prop := Claim7.holds Tryd.pinned (.plain (OpenSpec.upto regmapValidSpec)) regmapValidUptoCard

/-- THE SECOND FORM's CARD OF 'testbenchlaw30.RegmapReads'. -/
def regmapReadsUptoCard : Claim7 := { stood := { row := regmapReadsUptoRow, standIns := [], harness := (true, "ab97f94472f3a4a0e49b66f5902edbc49ed48f4302758e009c69cb9fa9d42ccf"), looks := false }, kinds := [], alts := [], laidByText := true, laidKinds := [.widerDeep], laidTests := true, laidLooks := .later }
def RegmapReadsUptoCardSaid : Prop := Claim7.holds Tryd.pinned (.plain (OpenSpec.upto regmapReadsSpec)) regmapReadsUptoCard

/-- THE SECOND FORM's CARD OF 'testbenchlaw30.RegmapFields'. -/
def regmapFieldsUptoCard : Claim7 := { stood := { row := regmapFieldsUptoRow, standIns := [], harness := (true, "ab97f94472f3a4a0e49b66f5902edbc49ed48f4302758e009c69cb9fa9d42ccf"), looks := false }, kinds := [], alts := [], laidByText := true, laidKinds := [.widerDeep], laidTests := true, laidLooks := .later }
def RegmapFieldsUptoCardSaid : Prop := Claim7.holds Tryd.pinned (.plain (OpenSpec.upto regmapFieldsSpec)) regmapFieldsUptoCard
end Rows
end Go.Proofs.YtmoijeodahlbmaaDoor
