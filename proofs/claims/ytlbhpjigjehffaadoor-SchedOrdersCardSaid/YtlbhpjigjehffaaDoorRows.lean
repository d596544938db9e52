/-
  NARROWER THAN 'FOR EVERY INPUT', by the rows' own cells (each row's printed sentence says how): SchedOrders: laid · SchedAssigns: laid · SchedSpans: laid · SchedBounded: laid · SchedComplete: laid · SchedSorted: laid.
  DERIVED. THE GIVEN ROWS OF THIS SEAT. 6 by the template 'for every input the law returns true; each argument reads behind the call as it read before'; 0 by the template 'total and deterministic' (their statements: YtlbhpjigjehffaaDoorTotals.lean).
  GIVEN WITH THE SEED: the statements are not yours to turn. If you find one false, say at which input.
  Laid BY PROGRAM, IN A SANDBOX (cutbox-rows.mjs): the forced cells as the released guide's own fill.sh prints them over the translation d5a74123bf68c30d… (all of the seat's roots in one cut). By AI agents, Wed Nov 11 2026. No macro, syntax, notation, axiom, sorry.
-/
import Derived.Test.YtlbhpjigjehffaaDoorChecked
import GoSem.Claim
import GoSem.ClaimJoined
import GoSem.ClaimMapViews
import Derived.JoinedTies
import Derived.KernelRfl
namespace Go.Proofs.YtlbhpjigjehffaaDoor
/- THE CELL 'sum', in the pinned program and in every row, IS THE sha256 OF THE DUMP (.gsa) THAT YtlbhpjigjehffaaDoorProg.lean LOADS. Nothing in Lean hashes anything: it is a label: what it is worth is what the hold of that sum in a sandbox is worth. -/
noncomputable def Tryd.pinned : Pinned := { name := "ytlbhpjigjehffaadoor", sum := "d5a74123bf68c30d7be82d6cd8d2c15732db027fb82093dbe0ea228323ab0cf4", checked := Tryd.checked }
namespace Rows
def none {H : Type} : Left H := { results := [], args := [] }

/- WHAT THE LISTED PACKAGE-LEVEL VARIABLES READ AS WHEN THE CALL BEGINS. Each datum BY PROGRAM (the guide's laid-datum.mjs) off the statement by which the dump's own 'gosem.cut.vars' lays the variable. In a bare row this is a premise. The card (YtlbhpjigjehffaaDoorCards.lean) ties it to the program's text. -/
def laid_testbench_lexer_keywords {H : Type} : DataW H := .slice [.lit (.string [99, 108, 97, 115, 115]), .lit (.string [101, 120, 116, 101, 110, 100, 115]), .lit (.string [114, 97, 110, 100]), .lit (.string [114, 97, 110, 100, 99]), .lit (.string [115, 116, 97, 116, 101]), .lit (.string [99, 111, 110, 115, 116, 114, 97, 105, 110, 116]), .lit (.string [115, 111, 102, 116]), .lit (.string [100, 105, 115, 116]), .lit (.string [105, 102]), .lit (.string [101, 108, 115, 101]), .lit (.string [101, 97, 99, 104]), .lit (.string [105, 110]), .lit (.string [115, 111, 108, 118, 101]), .lit (.string [98, 101, 102, 111, 114, 101]), .lit (.string [105, 110, 115, 105, 100, 101]), .lit (.string [112, 114, 111, 112, 101, 114, 116, 121]), .lit (.string [115, 101, 113]), .lit (.string [97, 110, 100]), .lit (.string [111, 114]), .lit (.string [110, 111, 116]), .lit (.string [115, 101, 116]), .lit (.string [104, 111, 108, 100]), .lit (.string [112, 108, 97, 105, 110]), .lit (.string [114, 101, 112, 101, 97, 116])] []

/-- 'testbenchlaw57.SchedOrders': WHATEVER THE INPUT: true; the input reads as it did. -/
def schedOrdersSpec : ChangeSpec := { name := "schedOrders", fn := fun _ => fun
  | [d] => { results := [.lit (.bool true)], args := [d] }
  | _ => none }
def schedOrdersRow : OpenClaim := { program := "ytlbhpjigjehffaadoor", sum := "d5a74123bf68c30d7be82d6cd8d2c15732db027fb82093dbe0ea228323ab0cf4", func := "testbench/testbenchlaw57.SchedOrders", spec := "schedOrders", unfollowed := true, recurses := true, named := ["testbench/lexer.keywords"], apart := false, laid := [("testbench/lexer.keywords", laid_testbench_lexer_keywords)] }
def SchedOrdersSaid : Prop := schedOrdersRow.holds Tryd.pinned (OpenSpec.ofChange schedOrdersSpec)

/-- ITS FALSE NEIGHBOUR: 'it returns false'. Refute it at one input. -/
def schedOrdersWrong : ChangeSpec := { name := "schedOrders", fn := fun _ => fun
  | [d] => { results := [.lit (.bool false)], args := [d] }
  | _ => none }
def SchedOrdersWrongFalsely : Prop := schedOrdersRow.holds Tryd.pinned (OpenSpec.ofChange schedOrdersWrong)

/-- 'testbenchlaw57.SchedAssigns': WHATEVER THE INPUT: true; the input reads as it did. -/
def schedAssignsSpec : ChangeSpec := { name := "schedAssigns", fn := fun _ => fun
  | [d1, d2] => { results := [.lit (.bool true)], args := [d1, d2] }
  | _ => none }
def schedAssignsRow : OpenClaim := { program := "ytlbhpjigjehffaadoor", sum := "d5a74123bf68c30d7be82d6cd8d2c15732db027fb82093dbe0ea228323ab0cf4", func := "testbench/testbenchlaw57.SchedAssigns", spec := "schedAssigns", unfollowed := true, recurses := true, named := ["testbench/lexer.keywords"], apart := false, laid := [("testbench/lexer.keywords", laid_testbench_lexer_keywords)] }
def SchedAssignsSaid : Prop := schedAssignsRow.holds Tryd.pinned (OpenSpec.ofChange schedAssignsSpec)

/-- ITS FALSE NEIGHBOUR: 'it returns false'. Refute it at one input. -/
def schedAssignsWrong : ChangeSpec := { name := "schedAssigns", fn := fun _ => fun
  | [d1, d2] => { results := [.lit (.bool false)], args := [d1, d2] }
  | _ => none }
def SchedAssignsWrongFalsely : Prop := schedAssignsRow.holds Tryd.pinned (OpenSpec.ofChange schedAssignsWrong)

/-- 'testbenchlaw57.SchedSpans': WHATEVER THE INPUT: true; the input reads as it did. -/
def schedSpansSpec : ChangeSpec := { name := "schedSpans", fn := fun _ => fun
  | [d1, d2] => { results := [.lit (.bool true)], args := [d1, d2] }
  | _ => none }
def schedSpansRow : OpenClaim := { program := "ytlbhpjigjehffaadoor", sum := "d5a74123bf68c30d7be82d6cd8d2c15732db027fb82093dbe0ea228323ab0cf4", func := "testbench/testbenchlaw57.SchedSpans", spec := "schedSpans", unfollowed := true, recurses := true, named := ["testbench/lexer.keywords"], apart := false, laid := [("testbench/lexer.keywords", laid_testbench_lexer_keywords)] }
def SchedSpansSaid : Prop := schedSpansRow.holds Tryd.pinned (OpenSpec.ofChange schedSpansSpec)

/-- ITS FALSE NEIGHBOUR: 'it returns false'. Refute it at one input. -/
def schedSpansWrong : ChangeSpec := { name := "schedSpans", fn := fun _ => fun
  | [d1, d2] => { results := [.lit (.bool false)], args := [d1, d2] }
  | _ => none }
def SchedSpansWrongFalsely : Prop := schedSpansRow.holds Tryd.pinned (OpenSpec.ofChange schedSpansWrong)

/-- 'testbenchlaw57.SchedBounded': WHATEVER THE INPUT: true; the input reads as it did. -/
def schedBoundedSpec : ChangeSpec := { name := "schedBounded", fn := fun _ => fun
  | [d1, d2] => { results := [.lit (.bool true)], args := [d1, d2] }
  | _ => none }
def schedBoundedRow : OpenClaim := { program := "ytlbhpjigjehffaadoor", sum := "d5a74123bf68c30d7be82d6cd8d2c15732db027fb82093dbe0ea228323ab0cf4", func := "testbench/testbenchlaw57.SchedBounded", spec := "schedBounded", unfollowed := true, recurses := true, named := ["testbench/lexer.keywords"], apart := false, laid := [("testbench/lexer.keywords", laid_testbench_lexer_keywords)] }
def SchedBoundedSaid : Prop := schedBoundedRow.holds Tryd.pinned (OpenSpec.ofChange schedBoundedSpec)

/-- ITS FALSE NEIGHBOUR: 'it returns false'. Refute it at one input. -/
def schedBoundedWrong : ChangeSpec := { name := "schedBounded", fn := fun _ => fun
  | [d1, d2] => { results := [.lit (.bool false)], args := [d1, d2] }
  | _ => none }
def SchedBoundedWrongFalsely : Prop := schedBoundedRow.holds Tryd.pinned (OpenSpec.ofChange schedBoundedWrong)

/-- 'testbenchlaw57.SchedComplete': WHATEVER THE INPUT: true; the input reads as it did. -/
def schedCompleteSpec : ChangeSpec := { name := "schedComplete", fn := fun _ => fun
  | [d1, d2] => { results := [.lit (.bool true)], args := [d1, d2] }
  | _ => none }
def schedCompleteRow : OpenClaim := { program := "ytlbhpjigjehffaadoor", sum := "d5a74123bf68c30d7be82d6cd8d2c15732db027fb82093dbe0ea228323ab0cf4", func := "testbench/testbenchlaw57.SchedComplete", spec := "schedComplete", unfollowed := true, recurses := true, named := ["testbench/lexer.keywords"], apart := false, laid := [("testbench/lexer.keywords", laid_testbench_lexer_keywords)] }
def SchedCompleteSaid : Prop := schedCompleteRow.holds Tryd.pinned (OpenSpec.ofChange schedCompleteSpec)

/-- ITS FALSE NEIGHBOUR: 'it returns false'. Refute it at one input. -/
def schedCompleteWrong : ChangeSpec := { name := "schedComplete", fn := fun _ => fun
  | [d1, d2] => { results := [.lit (.bool false)], args := [d1, d2] }
  | _ => none }
def SchedCompleteWrongFalsely : Prop := schedCompleteRow.holds Tryd.pinned (OpenSpec.ofChange schedCompleteWrong)

/-- 'testbenchlaw57.SchedSorted': WHATEVER THE INPUT: true; the input reads as it did. -/
def schedSortedSpec : ChangeSpec := { name := "schedSorted", fn := fun _ => fun
  | [d] => { results := [.lit (.bool true)], args := [d] }
  | _ => none }
def schedSortedRow : OpenClaim := { program := "ytlbhpjigjehffaadoor", sum := "d5a74123bf68c30d7be82d6cd8d2c15732db027fb82093dbe0ea228323ab0cf4", func := "testbench/testbenchlaw57.SchedSorted", spec := "schedSorted", unfollowed := true, recurses := true, named := ["testbench/lexer.keywords"], apart := false, laid := [("testbench/lexer.keywords", laid_testbench_lexer_keywords)] }
def SchedSortedSaid : Prop := schedSortedRow.holds Tryd.pinned (OpenSpec.ofChange schedSortedSpec)

/-- ITS FALSE NEIGHBOUR: 'it returns false'. Refute it at one input. -/
def schedSortedWrong : ChangeSpec := { name := "schedSorted", fn := fun _ => fun
  | [d] => { results := [.lit (.bool false)], args := [d] }
  | _ => none }
def SchedSortedWrongFalsely : Prop := schedSortedRow.holds Tryd.pinned (OpenSpec.ofChange schedSortedWrong)

/- THE SECOND FORM. 'bulk': how many values and letters a reading holds, each counted each time it is reached (what is shared counts as often as it is met; a slice's spare places count too). A statement '..UptoSaid' is the law's where the arguments, and the package variables that the reading takes, are together of bulk at most 1048576: NARROWER than '..Said'. Prove '..Said' where nothing that the law and all that it calls make is longer than what came in: it says more and counts as full. Else prove '..UptoSaid'. A law counts once. -/
mutual
def uptoBulk {H : Type} : DataW H → Nat
  | .lit (.string bytes) => bytes.length + 1
  | .lit _ => 1
  | .nil => 1
  | .ptr d => uptoBulk d + 1
  | .slice elems spare => uptoBulkAll elems + uptoBulkAll spare + 1
  | .agg parts => uptoBulkAll parts + 1
  | .iface _ d => uptoBulk d + 1
  | .map entries => uptoBulkEntries entries + 1
  | .held _ => 1
def uptoBulkAll {H : Type} : List (DataW H) → Nat
  | [] => 0
  | d :: r => uptoBulk d + uptoBulkAll r
def uptoBulkEntries {H : Type} : List (Lit × DataW H) → Nat
  | [] => 0
  | x :: r => uptoBulkEntry x + uptoBulkEntries r
def uptoBulkEntry {H : Type} : Lit × DataW H → Nat
  | (.string bytes, d) => bytes.length + uptoBulk d + 1
  | (_, d) => uptoBulk d + 1
 end
def uptoSmall : (H : Type) → List (DataW H) → Bool := fun _ ds => decide (uptoBulkAll ds ≤ 1048576)
def OpenSpec.upto (s : _root_.Go.ChangeSpec) : _root_.Go.OpenSpec := { _root_.Go.OpenSpec.ofChange s with cond := some uptoSmall }

/-- 'testbenchlaw57.SchedOrders', WHERE WHAT IT READS IS OF BULK AT MOST 1048576: true; the input reads as it did. -/
def schedOrdersUptoRow : OpenClaim := { program := "ytlbhpjigjehffaadoor", sum := "d5a74123bf68c30d7be82d6cd8d2c15732db027fb82093dbe0ea228323ab0cf4", func := "testbench/testbenchlaw57.SchedOrders", spec := "schedOrders", unfollowed := true, recurses := true, named := ["testbench/lexer.keywords"], apart := false, laid := [("testbench/lexer.keywords", laid_testbench_lexer_keywords)], narrowed := true }
def SchedOrdersUptoSaid : Prop := schedOrdersUptoRow.holds Tryd.pinned (OpenSpec.upto schedOrdersSpec)

/-- 'testbenchlaw57.SchedAssigns', WHERE WHAT IT READS IS OF BULK AT MOST 1048576: true; the input reads as it did. -/
def schedAssignsUptoRow : OpenClaim := { program := "ytlbhpjigjehffaadoor", sum := "d5a74123bf68c30d7be82d6cd8d2c15732db027fb82093dbe0ea228323ab0cf4", func := "testbench/testbenchlaw57.SchedAssigns", spec := "schedAssigns", unfollowed := true, recurses := true, named := ["testbench/lexer.keywords"], apart := false, laid := [("testbench/lexer.keywords", laid_testbench_lexer_keywords)], narrowed := true }
def SchedAssignsUptoSaid : Prop := schedAssignsUptoRow.holds Tryd.pinned (OpenSpec.upto schedAssignsSpec)

/-- 'testbenchlaw57.SchedSpans', WHERE WHAT IT READS IS OF BULK AT MOST 1048576: true; the input reads as it did. -/
def schedSpansUptoRow : OpenClaim := { program := "ytlbhpjigjehffaadoor", sum := "d5a74123bf68c30d7be82d6cd8d2c15732db027fb82093dbe0ea228323ab0cf4", func := "testbench/testbenchlaw57.SchedSpans", spec := "schedSpans", unfollowed := true, recurses := true, named := ["testbench/lexer.keywords"], apart := false, laid := [("testbench/lexer.keywords", laid_testbench_lexer_keywords)], narrowed := true }
def SchedSpansUptoSaid : Prop := schedSpansUptoRow.holds Tryd.pinned (OpenSpec.upto schedSpansSpec)

/-- 'testbenchlaw57.SchedBounded', WHERE WHAT IT READS IS OF BULK AT MOST 1048576: true; the input reads as it did. -/
def schedBoundedUptoRow : OpenClaim := { program := "ytlbhpjigjehffaadoor", sum := "d5a74123bf68c30d7be82d6cd8d2c15732db027fb82093dbe0ea228323ab0cf4", func := "testbench/testbenchlaw57.SchedBounded", spec := "schedBounded", unfollowed := true, recurses := true, named := ["testbench/lexer.keywords"], apart := false, laid := [("testbench/lexer.keywords", laid_testbench_lexer_keywords)], narrowed := true }
def SchedBoundedUptoSaid : Prop := schedBoundedUptoRow.holds Tryd.pinned (OpenSpec.upto schedBoundedSpec)

/-- 'testbenchlaw57.SchedComplete', WHERE WHAT IT READS IS OF BULK AT MOST 1048576: true; the input reads as it did. -/
def schedCompleteUptoRow : OpenClaim := { program := "ytlbhpjigjehffaadoor", sum := "d5a74123bf68c30d7be82d6cd8d2c15732db027fb82093dbe0ea228323ab0cf4", func := "testbench/testbenchlaw57.SchedComplete", spec := "schedComplete", unfollowed := true, recurses := true, named := ["testbench/lexer.keywords"], apart := false, laid := [("testbench/lexer.keywords", laid_testbench_lexer_keywords)], narrowed := true }
def SchedCompleteUptoSaid : Prop := schedCompleteUptoRow.holds Tryd.pinned (OpenSpec.upto schedCompleteSpec)

/-- 'testbenchlaw57.SchedSorted', WHERE WHAT IT READS IS OF BULK AT MOST 1048576: true; the input reads as it did. -/
def schedSortedUptoRow : OpenClaim := { program := "ytlbhpjigjehffaadoor", sum := "d5a74123bf68c30d7be82d6cd8d2c15732db027fb82093dbe0ea228323ab0cf4", func := "testbench/testbenchlaw57.SchedSorted", spec := "schedSorted", unfollowed := true, recurses := true, named := ["testbench/lexer.keywords"], apart := false, laid := [("testbench/lexer.keywords", laid_testbench_lexer_keywords)], narrowed := true }
def SchedSortedUptoSaid : Prop := schedSortedUptoRow.holds Tryd.pinned (OpenSpec.upto schedSortedSpec)

end Rows
end Go.Proofs.YtlbhpjigjehffaaDoor
