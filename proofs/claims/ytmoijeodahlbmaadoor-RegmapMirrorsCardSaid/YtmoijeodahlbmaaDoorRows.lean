/-
  NARROWER THAN 'FOR EVERY INPUT', by the rows' own cells (each row's printed sentence says how): RegmapWrites: laid · RegmapMirrors: laid · RegmapOthers: laid · RegmapValid: laid · RegmapReads: laid · RegmapFields: laid.
  DERIVED. THE GIVEN ROWS OF THIS SEAT. 6 by the template 'for every input the law returns true; each argument reads behind the call as it read before'; 0 by the template 'total and deterministic' (their statements: YtmoijeodahlbmaaDoorTotals.lean).
  GIVEN WITH THE SEED: the statements are not yours to turn. If you find one false, say at which input.
  Laid BY PROGRAM, IN A SANDBOX (cutbox-rows.mjs): the forced cells as the released guide's own fill.sh prints them over the translation 564cae2fa5167753… (all of the seat's roots in one cut). By AI agents, Wed Nov 11 2026. No macro, syntax, notation, axiom, sorry.
-/
import Derived.Test.YtmoijeodahlbmaaDoorChecked
import GoSem.Claim
import GoSem.ClaimJoined
import GoSem.ClaimMapViews
import Derived.JoinedTies
import Derived.KernelRfl
namespace Go.Proofs.YtmoijeodahlbmaaDoor
/- THE CELL 'sum', in the pinned program and in every row, IS THE sha256 OF THE DUMP (.gsa) THAT YtmoijeodahlbmaaDoorProg.lean LOADS. Nothing in Lean hashes anything: it is a label: what it is worth is what the hold of that sum in a sandbox is worth. -/
noncomputable def Tryd.pinned : Pinned := { name := "ytmoijeodahlbmaadoor", sum := "564cae2fa5167753b076e38b00e3b2771d952830c4325ccc41854b2b8da172b6", checked := Tryd.checked }
namespace Rows
def none {H : Type} : Left H := { results := [], args := [] }

/- WHAT THE LISTED PACKAGE-LEVEL VARIABLES READ AS WHEN THE CALL BEGINS. Each datum BY PROGRAM (the guide's laid-datum.mjs) off the statement by which the dump's own 'gosem.cut.vars' lays the variable. In a bare row this is a premise. The card (YtmoijeodahlbmaaDoorCards.lean) ties it to the program's text. -/
def laid_testbench_lexer_keywords {H : Type} : DataW H := .slice [.lit (.string [99, 108, 97, 115, 115]), .lit (.string [101, 120, 116, 101, 110, 100, 115]), .lit (.string [114, 97, 110, 100]), .lit (.string [114, 97, 110, 100, 99]), .lit (.string [115, 116, 97, 116, 101]), .lit (.string [99, 111, 110, 115, 116, 114, 97, 105, 110, 116]), .lit (.string [115, 111, 102, 116]), .lit (.string [100, 105, 115, 116]), .lit (.string [105, 102]), .lit (.string [101, 108, 115, 101]), .lit (.string [101, 97, 99, 104]), .lit (.string [105, 110]), .lit (.string [115, 111, 108, 118, 101]), .lit (.string [98, 101, 102, 111, 114, 101]), .lit (.string [105, 110, 115, 105, 100, 101]), .lit (.string [112, 114, 111, 112, 101, 114, 116, 121]), .lit (.string [115, 101, 113]), .lit (.string [97, 110, 100]), .lit (.string [111, 114]), .lit (.string [110, 111, 116]), .lit (.string [115, 101, 116]), .lit (.string [104, 111, 108, 100]), .lit (.string [112, 108, 97, 105, 110]), .lit (.string [114, 101, 112, 101, 97, 116])] []

/-- 'testbenchlaw30.RegmapWrites': WHATEVER THE INPUT: true; the input reads as it did. -/
def regmapWritesSpec : ChangeSpec := { name := "regmapWrites", fn := fun _ => fun
  | [d1, d2, d3] => { results := [.lit (.bool true)], args := [d1, d2, d3] }
  | _ => none }
def regmapWritesRow : OpenClaim := { program := "ytmoijeodahlbmaadoor", sum := "564cae2fa5167753b076e38b00e3b2771d952830c4325ccc41854b2b8da172b6", func := "testbench/testbenchlaw30.RegmapWrites", spec := "regmapWrites", unfollowed := true, recurses := true, named := ["testbench/lexer.keywords"], apart := false, laid := [("testbench/lexer.keywords", laid_testbench_lexer_keywords)] }
def RegmapWritesSaid : Prop := regmapWritesRow.holds Tryd.pinned (OpenSpec.ofChange regmapWritesSpec)

/-- ITS FALSE NEIGHBOUR: 'it returns false'. Refute it at one input. -/
def regmapWritesWrong : ChangeSpec := { name := "regmapWrites", fn := fun _ => fun
  | [d1, d2, d3] => { results := [.lit (.bool false)], args := [d1, d2, d3] }
  | _ => none }
def RegmapWritesWrongFalsely : Prop := regmapWritesRow.holds Tryd.pinned (OpenSpec.ofChange regmapWritesWrong)

/-- 'testbenchlaw30.RegmapMirrors': WHATEVER THE INPUT: true; the input reads as it did. -/
def regmapMirrorsSpec : ChangeSpec := { name := "regmapMirrors", fn := fun _ => fun
  | [d1, d2] => { results := [.lit (.bool true)], args := [d1, d2] }
  | _ => none }
def regmapMirrorsRow : OpenClaim := { program := "ytmoijeodahlbmaadoor", sum := "564cae2fa5167753b076e38b00e3b2771d952830c4325ccc41854b2b8da172b6", func := "testbench/testbenchlaw30.RegmapMirrors", spec := "regmapMirrors", unfollowed := true, recurses := true, named := ["testbench/lexer.keywords"], apart := false, laid := [("testbench/lexer.keywords", laid_testbench_lexer_keywords)] }
def RegmapMirrorsSaid : Prop := regmapMirrorsRow.holds Tryd.pinned (OpenSpec.ofChange regmapMirrorsSpec)

/-- ITS FALSE NEIGHBOUR: 'it returns false'. Refute it at one input. -/
def regmapMirrorsWrong : ChangeSpec := { name := "regmapMirrors", fn := fun _ => fun
  | [d1, d2] => { results := [.lit (.bool false)], args := [d1, d2] }
  | _ => none }
def RegmapMirrorsWrongFalsely : Prop := regmapMirrorsRow.holds Tryd.pinned (OpenSpec.ofChange regmapMirrorsWrong)

/-- 'testbenchlaw30.RegmapOthers': WHATEVER THE INPUT: true; the input reads as it did. -/
def regmapOthersSpec : ChangeSpec := { name := "regmapOthers", fn := fun _ => fun
  | [d1, d2, d3] => { results := [.lit (.bool true)], args := [d1, d2, d3] }
  | _ => none }
def regmapOthersRow : OpenClaim := { program := "ytmoijeodahlbmaadoor", sum := "564cae2fa5167753b076e38b00e3b2771d952830c4325ccc41854b2b8da172b6", func := "testbench/testbenchlaw30.RegmapOthers", spec := "regmapOthers", unfollowed := true, recurses := true, named := ["testbench/lexer.keywords"], apart := false, laid := [("testbench/lexer.keywords", laid_testbench_lexer_keywords)] }
def RegmapOthersSaid : Prop := regmapOthersRow.holds Tryd.pinned (OpenSpec.ofChange regmapOthersSpec)

/-- ITS FALSE NEIGHBOUR: 'it returns false'. Refute it at one input. -/
def regmapOthersWrong : ChangeSpec := { name := "regmapOthers", fn := fun _ => fun
  | [d1, d2, d3] => { results := [.lit (.bool false)], args := [d1, d2, d3] }
  | _ => none }
def RegmapOthersWrongFalsely : Prop := regmapOthersRow.holds Tryd.pinned (OpenSpec.ofChange regmapOthersWrong)

/-- 'testbenchlaw30.RegmapValid': WHATEVER THE INPUT: true; the input reads as it did. -/
def regmapValidSpec : ChangeSpec := { name := "regmapValid", fn := fun _ => fun
  | [d1, d2] => { results := [.lit (.bool true)], args := [d1, d2] }
  | _ => none }
def regmapValidRow : OpenClaim := { program := "ytmoijeodahlbmaadoor", sum := "564cae2fa5167753b076e38b00e3b2771d952830c4325ccc41854b2b8da172b6", func := "testbench/testbenchlaw30.RegmapValid", spec := "regmapValid", unfollowed := true, recurses := true, named := ["testbench/lexer.keywords"], apart := false, laid := [("testbench/lexer.keywords", laid_testbench_lexer_keywords)] }
def RegmapValidSaid : Prop := regmapValidRow.holds Tryd.pinned (OpenSpec.ofChange regmapValidSpec)

/-- ITS FALSE NEIGHBOUR: 'it returns false'. Refute it at one input. -/
def regmapValidWrong : ChangeSpec := { name := "regmapValid", fn := fun _ => fun
  | [d1, d2] => { results := [.lit (.bool false)], args := [d1, d2] }
  | _ => none }
def RegmapValidWrongFalsely : Prop := regmapValidRow.holds Tryd.pinned (OpenSpec.ofChange regmapValidWrong)

/-- 'testbenchlaw30.RegmapReads': WHATEVER THE INPUT: true; the input reads as it did. -/
def regmapReadsSpec : ChangeSpec := { name := "regmapReads", fn := fun _ => fun
  | [d1, d2, d3] => { results := [.lit (.bool true)], args := [d1, d2, d3] }
  | _ => none }
def regmapReadsRow : OpenClaim := { program := "ytmoijeodahlbmaadoor", sum := "564cae2fa5167753b076e38b00e3b2771d952830c4325ccc41854b2b8da172b6", func := "testbench/testbenchlaw30.RegmapReads", spec := "regmapReads", unfollowed := true, recurses := true, named := ["testbench/lexer.keywords"], apart := false, laid := [("testbench/lexer.keywords", laid_testbench_lexer_keywords)] }
def RegmapReadsSaid : Prop := regmapReadsRow.holds Tryd.pinned (OpenSpec.ofChange regmapReadsSpec)

/-- ITS FALSE NEIGHBOUR: 'it returns false'. Refute it at one input. -/
def regmapReadsWrong : ChangeSpec := { name := "regmapReads", fn := fun _ => fun
  | [d1, d2, d3] => { results := [.lit (.bool false)], args := [d1, d2, d3] }
  | _ => none }
def RegmapReadsWrongFalsely : Prop := regmapReadsRow.holds Tryd.pinned (OpenSpec.ofChange regmapReadsWrong)

/-- 'testbenchlaw30.RegmapFields': WHATEVER THE INPUT: true; the input reads as it did. -/
def regmapFieldsSpec : ChangeSpec := { name := "regmapFields", fn := fun _ => fun
  | [d] => { results := [.lit (.bool true)], args := [d] }
  | _ => none }
def regmapFieldsRow : OpenClaim := { program := "ytmoijeodahlbmaadoor", sum := "564cae2fa5167753b076e38b00e3b2771d952830c4325ccc41854b2b8da172b6", func := "testbench/testbenchlaw30.RegmapFields", spec := "regmapFields", unfollowed := true, recurses := true, named := ["testbench/lexer.keywords"], apart := false, laid := [("testbench/lexer.keywords", laid_testbench_lexer_keywords)] }
def RegmapFieldsSaid : Prop := regmapFieldsRow.holds Tryd.pinned (OpenSpec.ofChange regmapFieldsSpec)

/-- ITS FALSE NEIGHBOUR: 'it returns false'. Refute it at one input. -/
def regmapFieldsWrong : ChangeSpec := { name := "regmapFields", fn := fun _ => fun
  | [d] => { results := [.lit (.bool false)], args := [d] }
  | _ => none }
def RegmapFieldsWrongFalsely : Prop := regmapFieldsRow.holds Tryd.pinned (OpenSpec.ofChange regmapFieldsWrong)

/- THE SECOND FORM. 'bulk': how many values and letters a reading holds, each counted each time it is reached (what is shared counts as often as it is met; a slice's spare places count too). A statement '..UptoSaid' is the law's where the arguments, and the package variables that the reading takes, are together of bulk at most 1048576: NARROWER than '..Said'. Prove '..Said' where nothing that the law and all that it calls make is longer than what came in: it says more and counts as full. Else prove '..UptoSaid'. A law counts once. -/
mutual
def uptoBulk {H : Type} : DataW H → Nat
  | .lit (.string bytes) => bytes.length + 1
  | .lit _ => 1
  | .nil => 1
  | .ptr d => uptoBulk d + 1
  | .slice elems spare => uptoBulkAll elems + uptoBulkAll spare + 1
  | .agg parts => uptoBulkAll parts + 1
  | .iface _ d => uptoBulk d + 1
  | .map entries => uptoBulkEntries entries + 1
  | .held _ => 1
def uptoBulkAll {H : Type} : List (DataW H) → Nat
  | [] => 0
  | d :: r => uptoBulk d + uptoBulkAll r
def uptoBulkEntries {H : Type} : List (Lit × DataW H) → Nat
  | [] => 0
  | x :: r => uptoBulkEntry x + uptoBulkEntries r
def uptoBulkEntry {H : Type} : Lit × DataW H → Nat
  | (.string bytes, d) => bytes.length + uptoBulk d + 1
  | (_, d) => uptoBulk d + 1
 end
def uptoSmall : (H : Type) → List (DataW H) → Bool := fun _ ds => decide (uptoBulkAll ds ≤ 1048576)
def OpenSpec.upto (s : _root_.Go.ChangeSpec) : _root_.Go.OpenSpec := { _root_.Go.OpenSpec.ofChange s with cond := some uptoSmall }

/-- 'testbenchlaw30.RegmapWrites', WHERE WHAT IT READS IS OF BULK AT MOST 1048576: true; the input reads as it did. -/
def regmapWritesUptoRow : OpenClaim := { program := "ytmoijeodahlbmaadoor", sum := "564cae2fa5167753b076e38b00e3b2771d952830c4325ccc41854b2b8da172b6", func := "testbench/testbenchlaw30.RegmapWrites", spec := "regmapWrites", unfollowed := true, recurses := true, named := ["testbench/lexer.keywords"], apart := false, laid := [("testbench/lexer.keywords", laid_testbench_lexer_keywords)], narrowed := true }
def RegmapWritesUptoSaid : Prop := regmapWritesUptoRow.holds Tryd.pinned (OpenSpec.upto regmapWritesSpec)

/-- 'testbenchlaw30.RegmapMirrors', WHERE WHAT IT READS IS OF BULK AT MOST 1048576: true; the input reads as it did. -/
def regmapMirrorsUptoRow : OpenClaim := { program := "ytmoijeodahlbmaadoor", sum := "564cae2fa5167753b076e38b00e3b2771d952830c4325ccc41854b2b8da172b6", func := "testbench/testbenchlaw30.RegmapMirrors", spec := "regmapMirrors", unfollowed := true, recurses := true, named := ["testbench/lexer.keywords"], apart := false, laid := [("testbench/lexer.keywords", laid_testbench_lexer_keywords)], narrowed := true }
def RegmapMirrorsUptoSaid : Prop := regmapMirrorsUptoRow.holds Tryd.pinned (OpenSpec.upto regmapMirrorsSpec)

/-- 'testbenchlaw30.RegmapOthers', WHERE WHAT IT READS IS OF BULK AT MOST 1048576: true; the input reads as it did. -/
def regmapOthersUptoRow : OpenClaim := { program := "ytmoijeodahlbmaadoor", sum := "564cae2fa5167753b076e38b00e3b2771d952830c4325ccc41854b2b8da172b6", func := "testbench/testbenchlaw30.RegmapOthers", spec := "regmapOthers", unfollowed := true, recurses := true, named := ["testbench/lexer.keywords"], apart := false, laid := [("testbench/lexer.keywords", laid_testbench_lexer_keywords)], narrowed := true }
def RegmapOthersUptoSaid : Prop := regmapOthersUptoRow.holds Tryd.pinned (OpenSpec.upto regmapOthersSpec)

/-- 'testbenchlaw30.RegmapValid', WHERE WHAT IT READS IS OF BULK AT MOST 1048576: true; the input reads as it did. -/
def regmapValidUptoRow : OpenClaim := { program := "ytmoijeodahlbmaadoor", sum := "564cae2fa5167753b076e38b00e3b2771d952830c4325ccc41854b2b8da172b6", func := "testbench/testbenchlaw30.RegmapValid", spec := "regmapValid", unfollowed := true, recurses := true, named := ["testbench/lexer.keywords"], apart := false, laid := [("testbench/lexer.keywords", laid_testbench_lexer_keywords)], narrowed := true }
def RegmapValidUptoSaid : Prop := regmapValidUptoRow.holds Tryd.pinned (OpenSpec.upto regmapValidSpec)

/-- 'testbenchlaw30.RegmapReads', WHERE WHAT IT READS IS OF BULK AT MOST 1048576: true; the input reads as it did. -/
def regmapReadsUptoRow : OpenClaim := { program := "ytmoijeodahlbmaadoor", sum := "564cae2fa5167753b076e38b00e3b2771d952830c4325ccc41854b2b8da172b6", func := "testbench/testbenchlaw30.RegmapReads", spec := "regmapReads", unfollowed := true, recurses := true, named := ["testbench/lexer.keywords"], apart := false, laid := [("testbench/lexer.keywords", laid_testbench_lexer_keywords)], narrowed := true }
def RegmapReadsUptoSaid : Prop := regmapReadsUptoRow.holds Tryd.pinned (OpenSpec.upto regmapReadsSpec)

/-- 'testbenchlaw30.RegmapFields', WHERE WHAT IT READS IS OF BULK AT MOST 1048576: true; the input reads as it did. -/
def regmapFieldsUptoRow : OpenClaim := { program := "ytmoijeodahlbmaadoor", sum := "564cae2fa5167753b076e38b00e3b2771d952830c4325ccc41854b2b8da172b6", func := "testbench/testbenchlaw30.RegmapFields", spec := "regmapFields", unfollowed := true, recurses := true, named := ["testbench/lexer.keywords"], apart := false, laid := [("testbench/lexer.keywords", laid_testbench_lexer_keywords)], narrowed := true }
def RegmapFieldsUptoSaid : Prop := regmapFieldsUptoRow.holds Tryd.pinned (OpenSpec.upto regmapFieldsSpec)

end Rows
end Go.Proofs.YtmoijeodahlbmaaDoor
