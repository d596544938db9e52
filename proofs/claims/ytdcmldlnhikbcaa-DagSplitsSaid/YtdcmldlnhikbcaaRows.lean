/-
  No cell of these rows narrows 'for every input' (looked for: loops, veiled, ifaces, maps, wideKeys, modest, calm, conditions, laid).
  DERIVED. THE GIVEN ROWS OF THIS SEAT. 7 by the template 'for every input the law returns true; each argument reads behind the call as it read before'; 0 by the template 'total and deterministic' (their statements: YtdcmldlnhikbcaaTotals.lean).
  GIVEN WITH THE SEED: the statements are not yours to turn. If you find one false, say at which input.
  Laid BY PROGRAM, IN A SANDBOX (cutbox-rows.mjs): the forced cells as the released guide's own fill.sh prints them over the translation d88dc06e9e3f0588… (all of the seat's roots in one cut). By AI agents, Wed Nov 11 2026. No macro, syntax, notation, axiom, sorry.
-/
import Derived.Test.YtdcmldlnhikbcaaChecked
import GoSem.Claim
import GoSem.ClaimJoined
import GoSem.ClaimMapViews
import Derived.JoinedTies
import Derived.KernelRfl
namespace Go.Proofs.Ytdcmldlnhikbcaa
/- THE CELL 'sum', in the pinned program and in every row, IS THE sha256 OF THE DUMP (.gsa) THAT YtdcmldlnhikbcaaProg.lean LOADS. Nothing in Lean hashes anything: it is a label: what it is worth is what the hold of that sum in a sandbox is worth. -/
noncomputable def Try.pinned : Pinned := { name := "ytdcmldlnhikbcaa", sum := "d88dc06e9e3f05884e66c74f916a4d95b9fca1cd0a12e1bf534ed2d4416c8ffe", checked := Try.checked }
namespace Rows
def none {H : Type} : Left H := { results := [], args := [] }

/-- 'testbenchlaw15.DagMakes': WHATEVER THE INPUT: true; the input reads as it did. -/
def dagMakesSpec : ChangeSpec := { name := "dagMakes", fn := fun _ => fun
  | [d1, d2] => { results := [.lit (.bool true)], args := [d1, d2] }
  | _ => none }
def dagMakesRow : OpenClaim := { program := "ytdcmldlnhikbcaa", sum := "d88dc06e9e3f05884e66c74f916a4d95b9fca1cd0a12e1bf534ed2d4416c8ffe", func := "testbench/testbenchlaw15.DagMakes", spec := "dagMakes", unfollowed := true, recurses := true, plainKeys := false, apart := false }
def DagMakesSaid : Prop := dagMakesRow.holds Try.pinned (OpenSpec.ofChange dagMakesSpec)

/-- ITS FALSE NEIGHBOUR: 'it returns false'. Refute it at one input. -/
def dagMakesWrong : ChangeSpec := { name := "dagMakes", fn := fun _ => fun
  | [d1, d2] => { results := [.lit (.bool false)], args := [d1, d2] }
  | _ => none }
def DagMakesWrongFalsely : Prop := dagMakesRow.holds Try.pinned (OpenSpec.ofChange dagMakesWrong)

/-- 'testbenchlaw15.DagCanonical': WHATEVER THE INPUT: true; the input reads as it did. -/
def dagCanonicalSpec : ChangeSpec := { name := "dagCanonical", fn := fun _ => fun
  | [d1, d2, d3] => { results := [.lit (.bool true)], args := [d1, d2, d3] }
  | _ => none }
def dagCanonicalRow : OpenClaim := { program := "ytdcmldlnhikbcaa", sum := "d88dc06e9e3f05884e66c74f916a4d95b9fca1cd0a12e1bf534ed2d4416c8ffe", func := "testbench/testbenchlaw15.DagCanonical", spec := "dagCanonical", unfollowed := true, recurses := true, plainKeys := false, apart := false }
def DagCanonicalSaid : Prop := dagCanonicalRow.holds Try.pinned (OpenSpec.ofChange dagCanonicalSpec)

/-- ITS FALSE NEIGHBOUR: 'it returns false'. Refute it at one input. -/
def dagCanonicalWrong : ChangeSpec := { name := "dagCanonical", fn := fun _ => fun
  | [d1, d2, d3] => { results := [.lit (.bool false)], args := [d1, d2, d3] }
  | _ => none }
def DagCanonicalWrongFalsely : Prop := dagCanonicalRow.holds Try.pinned (OpenSpec.ofChange dagCanonicalWrong)

/-- 'testbenchlaw15.DagAgrees': WHATEVER THE INPUT: true; the input reads as it did. -/
def dagAgreesSpec : ChangeSpec := { name := "dagAgrees", fn := fun _ => fun
  | [d1, d2, d3] => { results := [.lit (.bool true)], args := [d1, d2, d3] }
  | _ => none }
def dagAgreesRow : OpenClaim := { program := "ytdcmldlnhikbcaa", sum := "d88dc06e9e3f05884e66c74f916a4d95b9fca1cd0a12e1bf534ed2d4416c8ffe", func := "testbench/testbenchlaw15.DagAgrees", spec := "dagAgrees", unfollowed := true, recurses := true, plainKeys := false, apart := false }
def DagAgreesSaid : Prop := dagAgreesRow.holds Try.pinned (OpenSpec.ofChange dagAgreesSpec)

/-- ITS FALSE NEIGHBOUR: 'it returns false'. Refute it at one input. -/
def dagAgreesWrong : ChangeSpec := { name := "dagAgrees", fn := fun _ => fun
  | [d1, d2, d3] => { results := [.lit (.bool false)], args := [d1, d2, d3] }
  | _ => none }
def DagAgreesWrongFalsely : Prop := dagAgreesRow.holds Try.pinned (OpenSpec.ofChange dagAgreesWrong)

/-- 'testbenchlaw15.DagCombines': WHATEVER THE INPUT: true; the input reads as it did. -/
def dagCombinesSpec : ChangeSpec := { name := "dagCombines", fn := fun _ => fun
  | [d1, d2] => { results := [.lit (.bool true)], args := [d1, d2] }
  | _ => none }
def dagCombinesRow : OpenClaim := { program := "ytdcmldlnhikbcaa", sum := "d88dc06e9e3f05884e66c74f916a4d95b9fca1cd0a12e1bf534ed2d4416c8ffe", func := "testbench/testbenchlaw15.DagCombines", spec := "dagCombines", unfollowed := true, recurses := true, plainKeys := false, apart := false }
def DagCombinesSaid : Prop := dagCombinesRow.holds Try.pinned (OpenSpec.ofChange dagCombinesSpec)

/-- ITS FALSE NEIGHBOUR: 'it returns false'. Refute it at one input. -/
def dagCombinesWrong : ChangeSpec := { name := "dagCombines", fn := fun _ => fun
  | [d1, d2] => { results := [.lit (.bool false)], args := [d1, d2] }
  | _ => none }
def DagCombinesWrongFalsely : Prop := dagCombinesRow.holds Try.pinned (OpenSpec.ofChange dagCombinesWrong)

/-- 'testbenchlaw15.DagChecks': WHATEVER THE INPUT: true; the input reads as it did. -/
def dagChecksSpec : ChangeSpec := { name := "dagChecks", fn := fun _ => fun
  | [d1, d2, d3] => { results := [.lit (.bool true)], args := [d1, d2, d3] }
  | _ => none }
def dagChecksRow : OpenClaim := { program := "ytdcmldlnhikbcaa", sum := "d88dc06e9e3f05884e66c74f916a4d95b9fca1cd0a12e1bf534ed2d4416c8ffe", func := "testbench/testbenchlaw15.DagChecks", spec := "dagChecks", unfollowed := true, recurses := true, plainKeys := false, apart := false }
def DagChecksSaid : Prop := dagChecksRow.holds Try.pinned (OpenSpec.ofChange dagChecksSpec)

/-- ITS FALSE NEIGHBOUR: 'it returns false'. Refute it at one input. -/
def dagChecksWrong : ChangeSpec := { name := "dagChecks", fn := fun _ => fun
  | [d1, d2, d3] => { results := [.lit (.bool false)], args := [d1, d2, d3] }
  | _ => none }
def DagChecksWrongFalsely : Prop := dagChecksRow.holds Try.pinned (OpenSpec.ofChange dagChecksWrong)

/-- 'testbenchlaw15.DagFixes': WHATEVER THE INPUT: true; the input reads as it did. -/
def dagFixesSpec : ChangeSpec := { name := "dagFixes", fn := fun _ => fun
  | [d1, d2, d3] => { results := [.lit (.bool true)], args := [d1, d2, d3] }
  | _ => none }
def dagFixesRow : OpenClaim := { program := "ytdcmldlnhikbcaa", sum := "d88dc06e9e3f05884e66c74f916a4d95b9fca1cd0a12e1bf534ed2d4416c8ffe", func := "testbench/testbenchlaw15.DagFixes", spec := "dagFixes", unfollowed := true, recurses := true, plainKeys := false, apart := false }
def DagFixesSaid : Prop := dagFixesRow.holds Try.pinned (OpenSpec.ofChange dagFixesSpec)

/-- ITS FALSE NEIGHBOUR: 'it returns false'. Refute it at one input. -/
def dagFixesWrong : ChangeSpec := { name := "dagFixes", fn := fun _ => fun
  | [d1, d2, d3] => { results := [.lit (.bool false)], args := [d1, d2, d3] }
  | _ => none }
def DagFixesWrongFalsely : Prop := dagFixesRow.holds Try.pinned (OpenSpec.ofChange dagFixesWrong)

/-- 'testbenchlaw15.DagSplits': WHATEVER THE INPUT: true; the input reads as it did. -/
def dagSplitsSpec : ChangeSpec := { name := "dagSplits", fn := fun _ => fun
  | [d1, d2, d3] => { results := [.lit (.bool true)], args := [d1, d2, d3] }
  | _ => none }
def dagSplitsRow : OpenClaim := { program := "ytdcmldlnhikbcaa", sum := "d88dc06e9e3f05884e66c74f916a4d95b9fca1cd0a12e1bf534ed2d4416c8ffe", func := "testbench/testbenchlaw15.DagSplits", spec := "dagSplits", unfollowed := true, recurses := true, plainKeys := false, apart := false }
def DagSplitsSaid : Prop := dagSplitsRow.holds Try.pinned (OpenSpec.ofChange dagSplitsSpec)

/-- ITS FALSE NEIGHBOUR: 'it returns false'. Refute it at one input. -/
def dagSplitsWrong : ChangeSpec := { name := "dagSplits", fn := fun _ => fun
  | [d1, d2, d3] => { results := [.lit (.bool false)], args := [d1, d2, d3] }
  | _ => none }
def DagSplitsWrongFalsely : Prop := dagSplitsRow.holds Try.pinned (OpenSpec.ofChange dagSplitsWrong)

/- THE SECOND FORM. 'bulk': how many values and letters a reading holds, each counted each time it is reached (what is shared counts as often as it is met; a slice's spare places count too). A statement '..UptoSaid' is the law's where the arguments, and the package variables that the reading takes, are together of bulk at most 1048576: NARROWER than '..Said'. Prove '..Said' where nothing that the law and all that it calls make is longer than what came in: it says more and counts as full. Else prove '..UptoSaid'. A law counts once. -/
mutual
def uptoBulk {H : Type} : DataW H → Nat
  | .lit (.string bytes) => bytes.length + 1
  | .lit _ => 1
  | .nil => 1
  | .ptr d => uptoBulk d + 1
  | .slice elems spare => uptoBulkAll elems + uptoBulkAll spare + 1
  | .agg parts => uptoBulkAll parts + 1
  | .iface _ d => uptoBulk d + 1
  | .map entries => uptoBulkEntries entries + 1
  | .held _ => 1
def uptoBulkAll {H : Type} : List (DataW H) → Nat
  | [] => 0
  | d :: r => uptoBulk d + uptoBulkAll r
def uptoBulkEntries {H : Type} : List (Lit × DataW H) → Nat
  | [] => 0
  | x :: r => uptoBulkEntry x + uptoBulkEntries r
def uptoBulkEntry {H : Type} : Lit × DataW H → Nat
  | (.string bytes, d) => bytes.length + uptoBulk d + 1
  | (_, d) => uptoBulk d + 1
 end
def uptoSmall : (H : Type) → List (DataW H) → Bool := fun _ ds => decide (uptoBulkAll ds ≤ 1048576)
def OpenSpec.upto (s : _root_.Go.ChangeSpec) : _root_.Go.OpenSpec := { _root_.Go.OpenSpec.ofChange s with cond := some uptoSmall }

/-- 'testbenchlaw15.DagMakes', WHERE WHAT IT READS IS OF BULK AT MOST 1048576: true; the input reads as it did. -/
def dagMakesUptoRow : OpenClaim := { program := "ytdcmldlnhikbcaa", sum := "d88dc06e9e3f05884e66c74f916a4d95b9fca1cd0a12e1bf534ed2d4416c8ffe", func := "testbench/testbenchlaw15.DagMakes", spec := "dagMakes", unfollowed := true, recurses := true, plainKeys := false, apart := false, narrowed := true }
def DagMakesUptoSaid : Prop := dagMakesUptoRow.holds Try.pinned (OpenSpec.upto dagMakesSpec)

/-- 'testbenchlaw15.DagCanonical', WHERE WHAT IT READS IS OF BULK AT MOST 1048576: true; the input reads as it did. -/
def dagCanonicalUptoRow : OpenClaim := { program := "ytdcmldlnhikbcaa", sum := "d88dc06e9e3f05884e66c74f916a4d95b9fca1cd0a12e1bf534ed2d4416c8ffe", func := "testbench/testbenchlaw15.DagCanonical", spec := "dagCanonical", unfollowed := true, recurses := true, plainKeys := false, apart := false, narrowed := true }
def DagCanonicalUptoSaid : Prop := dagCanonicalUptoRow.holds Try.pinned (OpenSpec.upto dagCanonicalSpec)

/-- 'testbenchlaw15.DagAgrees', WHERE WHAT IT READS IS OF BULK AT MOST 1048576: true; the input reads as it did. -/
def dagAgreesUptoRow : OpenClaim := { program := "ytdcmldlnhikbcaa", sum := "d88dc06e9e3f05884e66c74f916a4d95b9fca1cd0a12e1bf534ed2d4416c8ffe", func := "testbench/testbenchlaw15.DagAgrees", spec := "dagAgrees", unfollowed := true, recurses := true, plainKeys := false, apart := false, narrowed := true }
def DagAgreesUptoSaid : Prop := dagAgreesUptoRow.holds Try.pinned (OpenSpec.upto dagAgreesSpec)

/-- 'testbenchlaw15.DagCombines', WHERE WHAT IT READS IS OF BULK AT MOST 1048576: true; the input reads as it did. -/
def dagCombinesUptoRow : OpenClaim := { program := "ytdcmldlnhikbcaa", sum := "d88dc06e9e3f05884e66c74f916a4d95b9fca1cd0a12e1bf534ed2d4416c8ffe", func := "testbench/testbenchlaw15.DagCombines", spec := "dagCombines", unfollowed := true, recurses := true, plainKeys := false, apart := false, narrowed := true }
def DagCombinesUptoSaid : Prop := dagCombinesUptoRow.holds Try.pinned (OpenSpec.upto dagCombinesSpec)

/-- 'testbenchlaw15.DagChecks', WHERE WHAT IT READS IS OF BULK AT MOST 1048576: true; the input reads as it did. -/
def dagChecksUptoRow : OpenClaim := { program := "ytdcmldlnhikbcaa", sum := "d88dc06e9e3f05884e66c74f916a4d95b9fca1cd0a12e1bf534ed2d4416c8ffe", func := "testbench/testbenchlaw15.DagChecks", spec := "dagChecks", unfollowed := true, recurses := true, plainKeys := false, apart := false, narrowed := true }
def DagChecksUptoSaid : Prop := dagChecksUptoRow.holds Try.pinned (OpenSpec.upto dagChecksSpec)

/-- 'testbenchlaw15.DagFixes', WHERE WHAT IT READS IS OF BULK AT MOST 1048576: true; the input reads as it did. -/
def dagFixesUptoRow : OpenClaim := { program := "ytdcmldlnhikbcaa", sum := "d88dc06e9e3f05884e66c74f916a4d95b9fca1cd0a12e1bf534ed2d4416c8ffe", func := "testbench/testbenchlaw15.DagFixes", spec := "dagFixes", unfollowed := true, recurses := true, plainKeys := false, apart := false, narrowed := true }
def DagFixesUptoSaid : Prop := dagFixesUptoRow.holds Try.pinned (OpenSpec.upto dagFixesSpec)

/-- 'testbenchlaw15.DagSplits', WHERE WHAT IT READS IS OF BULK AT MOST 1048576: true; the input reads as it did. -/
def dagSplitsUptoRow : OpenClaim := { program := "ytdcmldlnhikbcaa", sum := "d88dc06e9e3f05884e66c74f916a4d95b9fca1cd0a12e1bf534ed2d4416c8ffe", func := "testbench/testbenchlaw15.DagSplits", spec := "dagSplits", unfollowed := true, recurses := true, plainKeys := false, apart := false, narrowed := true }
def DagSplitsUptoSaid : Prop := dagSplitsUptoRow.holds Try.pinned (OpenSpec.upto dagSplitsSpec)

end Rows
end Go.Proofs.Ytdcmldlnhikbcaa
