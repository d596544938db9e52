/-
  No cell of these rows narrows 'for every input' (looked for: loops, veiled, ifaces, maps, wideKeys, modest, calm, conditions, laid).
  DERIVED. THE GIVEN ROWS OF THIS SEAT. 6 by the template 'for every input the law returns true; each argument reads behind the call as it read before'; 0 by the template 'total and deterministic' (their statements: YtcpkjpkjahgobaaTotals.lean).
  GIVEN WITH THE SEED: the statements are not yours to turn. If you find one false, say at which input.
  Laid BY PROGRAM, IN A SANDBOX (cutbox-rows.mjs): the forced cells as the released guide's own fill.sh prints them over the translation 4ace07f3ea01e398… (all of the seat's roots in one cut). By AI agents, Wed Nov 11 2026. No macro, syntax, notation, axiom, sorry.
-/
import Derived.Test.YtcpkjpkjahgobaaChecked
import GoSem.Claim
import GoSem.ClaimJoined
import GoSem.ClaimMapViews
import Derived.JoinedTies
import Derived.KernelRfl
namespace Go.Proofs.Ytcpkjpkjahgobaa
/- THE CELL 'sum', in the pinned program and in every row, IS THE sha256 OF THE DUMP (.gsa) THAT YtcpkjpkjahgobaaProg.lean LOADS. Nothing in Lean hashes anything: it is a label: what it is worth is what the hold of that sum in a sandbox is worth. -/
noncomputable def Try.pinned : Pinned := { name := "ytcpkjpkjahgobaa", sum := "4ace07f3ea01e398ca17ec02890d89a98c931694d525662af5d4adff453d1c99", checked := Try.checked }
namespace Rows
def none {H : Type} : Left H := { results := [], args := [] }

/-- 'testbenchlaw17.CountCounts': WHATEVER THE INPUT: true; the input reads as it did. -/
def countCountsSpec : ChangeSpec := { name := "countCounts", fn := fun _ => fun
  | [d] => { results := [.lit (.bool true)], args := [d] }
  | _ => none }
def countCountsRow : OpenClaim := { program := "ytcpkjpkjahgobaa", sum := "4ace07f3ea01e398ca17ec02890d89a98c931694d525662af5d4adff453d1c99", func := "testbench/testbenchlaw17.CountCounts", spec := "countCounts", unfollowed := true, recurses := true, plainKeys := false, apart := false }
def CountCountsSaid : Prop := countCountsRow.holds Try.pinned (OpenSpec.ofChange countCountsSpec)

/-- ITS FALSE NEIGHBOUR: 'it returns false'. Refute it at one input. -/
def countCountsWrong : ChangeSpec := { name := "countCounts", fn := fun _ => fun
  | [d] => { results := [.lit (.bool false)], args := [d] }
  | _ => none }
def CountCountsWrongFalsely : Prop := countCountsRow.holds Try.pinned (OpenSpec.ofChange countCountsWrong)

/-- 'testbenchlaw17.CountFinds': WHATEVER THE INPUT: true; the input reads as it did. -/
def countFindsSpec : ChangeSpec := { name := "countFinds", fn := fun _ => fun
  | [d1, d2, d3] => { results := [.lit (.bool true)], args := [d1, d2, d3] }
  | _ => none }
def countFindsRow : OpenClaim := { program := "ytcpkjpkjahgobaa", sum := "4ace07f3ea01e398ca17ec02890d89a98c931694d525662af5d4adff453d1c99", func := "testbench/testbenchlaw17.CountFinds", spec := "countFinds", unfollowed := true, recurses := true, plainKeys := false, apart := false }
def CountFindsSaid : Prop := countFindsRow.holds Try.pinned (OpenSpec.ofChange countFindsSpec)

/-- ITS FALSE NEIGHBOUR: 'it returns false'. Refute it at one input. -/
def countFindsWrong : ChangeSpec := { name := "countFinds", fn := fun _ => fun
  | [d1, d2, d3] => { results := [.lit (.bool false)], args := [d1, d2, d3] }
  | _ => none }
def CountFindsWrongFalsely : Prop := countFindsRow.holds Try.pinned (OpenSpec.ofChange countFindsWrong)

/-- 'testbenchlaw17.CountWeighs': WHATEVER THE INPUT: true; the input reads as it did. -/
def countWeighsSpec : ChangeSpec := { name := "countWeighs", fn := fun _ => fun
  | [d1, d2] => { results := [.lit (.bool true)], args := [d1, d2] }
  | _ => none }
def countWeighsRow : OpenClaim := { program := "ytcpkjpkjahgobaa", sum := "4ace07f3ea01e398ca17ec02890d89a98c931694d525662af5d4adff453d1c99", func := "testbench/testbenchlaw17.CountWeighs", spec := "countWeighs", unfollowed := true, recurses := true, plainKeys := false, apart := false }
def CountWeighsSaid : Prop := countWeighsRow.holds Try.pinned (OpenSpec.ofChange countWeighsSpec)

/-- ITS FALSE NEIGHBOUR: 'it returns false'. Refute it at one input. -/
def countWeighsWrong : ChangeSpec := { name := "countWeighs", fn := fun _ => fun
  | [d1, d2] => { results := [.lit (.bool false)], args := [d1, d2] }
  | _ => none }
def CountWeighsWrongFalsely : Prop := countWeighsRow.holds Try.pinned (OpenSpec.ofChange countWeighsWrong)

/-- 'testbenchlaw17.CountExact': WHATEVER THE INPUT: true; the input reads as it did. -/
def countExactSpec : ChangeSpec := { name := "countExact", fn := fun _ => fun
  | [d] => { results := [.lit (.bool true)], args := [d] }
  | _ => none }
def countExactRow : OpenClaim := { program := "ytcpkjpkjahgobaa", sum := "4ace07f3ea01e398ca17ec02890d89a98c931694d525662af5d4adff453d1c99", func := "testbench/testbenchlaw17.CountExact", spec := "countExact", unfollowed := true, recurses := true, plainKeys := false, apart := false }
def CountExactSaid : Prop := countExactRow.holds Try.pinned (OpenSpec.ofChange countExactSpec)

/-- ITS FALSE NEIGHBOUR: 'it returns false'. Refute it at one input. -/
def countExactWrong : ChangeSpec := { name := "countExact", fn := fun _ => fun
  | [d] => { results := [.lit (.bool false)], args := [d] }
  | _ => none }
def CountExactWrongFalsely : Prop := countExactRow.holds Try.pinned (OpenSpec.ofChange countExactWrong)

/-- 'testbenchlaw17.CountProducts': WHATEVER THE INPUT: true; the input reads as it did. -/
def countProductsSpec : ChangeSpec := { name := "countProducts", fn := fun _ => fun
  | [d1, d2] => { results := [.lit (.bool true)], args := [d1, d2] }
  | _ => none }
def countProductsRow : OpenClaim := { program := "ytcpkjpkjahgobaa", sum := "4ace07f3ea01e398ca17ec02890d89a98c931694d525662af5d4adff453d1c99", func := "testbench/testbenchlaw17.CountProducts", spec := "countProducts", unfollowed := true, recurses := true, plainKeys := false, apart := false }
def CountProductsSaid : Prop := countProductsRow.holds Try.pinned (OpenSpec.ofChange countProductsSpec)

/-- ITS FALSE NEIGHBOUR: 'it returns false'. Refute it at one input. -/
def countProductsWrong : ChangeSpec := { name := "countProducts", fn := fun _ => fun
  | [d1, d2] => { results := [.lit (.bool false)], args := [d1, d2] }
  | _ => none }
def CountProductsWrongFalsely : Prop := countProductsRow.holds Try.pinned (OpenSpec.ofChange countProductsWrong)

/-- 'testbenchlaw17.CountAlgebra': WHATEVER THE INPUT: true; the input reads as it did. -/
def countAlgebraSpec : ChangeSpec := { name := "countAlgebra", fn := fun _ => fun
  | [d1, d2] => { results := [.lit (.bool true)], args := [d1, d2] }
  | _ => none }
def countAlgebraRow : OpenClaim := { program := "ytcpkjpkjahgobaa", sum := "4ace07f3ea01e398ca17ec02890d89a98c931694d525662af5d4adff453d1c99", func := "testbench/testbenchlaw17.CountAlgebra", spec := "countAlgebra", unfollowed := true, recurses := true, plainKeys := false, apart := false }
def CountAlgebraSaid : Prop := countAlgebraRow.holds Try.pinned (OpenSpec.ofChange countAlgebraSpec)

/-- ITS FALSE NEIGHBOUR: 'it returns false'. Refute it at one input. -/
def countAlgebraWrong : ChangeSpec := { name := "countAlgebra", fn := fun _ => fun
  | [d1, d2] => { results := [.lit (.bool false)], args := [d1, d2] }
  | _ => none }
def CountAlgebraWrongFalsely : Prop := countAlgebraRow.holds Try.pinned (OpenSpec.ofChange countAlgebraWrong)

/- THE SECOND FORM. 'bulk': how many values and letters a reading holds, each counted each time it is reached (what is shared counts as often as it is met; a slice's spare places count too). A statement '..UptoSaid' is the law's where the arguments, and the package variables that the reading takes, are together of bulk at most 1048576: NARROWER than '..Said'. Prove '..Said' where nothing that the law and all that it calls make is longer than what came in: it says more and counts as full. Else prove '..UptoSaid'. A law counts once. -/
mutual
def uptoBulk {H : Type} : DataW H → Nat
  | .lit (.string bytes) => bytes.length + 1
  | .lit _ => 1
  | .nil => 1
  | .ptr d => uptoBulk d + 1
  | .slice elems spare => uptoBulkAll elems + uptoBulkAll spare + 1
  | .agg parts => uptoBulkAll parts + 1
  | .iface _ d => uptoBulk d + 1
  | .map entries => uptoBulkEntries entries + 1
  | .held _ => 1
def uptoBulkAll {H : Type} : List (DataW H) → Nat
  | [] => 0
  | d :: r => uptoBulk d + uptoBulkAll r
def uptoBulkEntries {H : Type} : List (Lit × DataW H) → Nat
  | [] => 0
  | x :: r => uptoBulkEntry x + uptoBulkEntries r
def uptoBulkEntry {H : Type} : Lit × DataW H → Nat
  | (.string bytes, d) => bytes.length + uptoBulk d + 1
  | (_, d) => uptoBulk d + 1
 end
def uptoSmall : (H : Type) → List (DataW H) → Bool := fun _ ds => decide (uptoBulkAll ds ≤ 1048576)
def OpenSpec.upto (s : _root_.Go.ChangeSpec) : _root_.Go.OpenSpec := { _root_.Go.OpenSpec.ofChange s with cond := some uptoSmall }

/-- 'testbenchlaw17.CountCounts', WHERE WHAT IT READS IS OF BULK AT MOST 1048576: true; the input reads as it did. -/
def countCountsUptoRow : OpenClaim := { program := "ytcpkjpkjahgobaa", sum := "4ace07f3ea01e398ca17ec02890d89a98c931694d525662af5d4adff453d1c99", func := "testbench/testbenchlaw17.CountCounts", spec := "countCounts", unfollowed := true, recurses := true, plainKeys := false, apart := false, narrowed := true }
def CountCountsUptoSaid : Prop := countCountsUptoRow.holds Try.pinned (OpenSpec.upto countCountsSpec)

/-- 'testbenchlaw17.CountFinds', WHERE WHAT IT READS IS OF BULK AT MOST 1048576: true; the input reads as it did. -/
def countFindsUptoRow : OpenClaim := { program := "ytcpkjpkjahgobaa", sum := "4ace07f3ea01e398ca17ec02890d89a98c931694d525662af5d4adff453d1c99", func := "testbench/testbenchlaw17.CountFinds", spec := "countFinds", unfollowed := true, recurses := true, plainKeys := false, apart := false, narrowed := true }
def CountFindsUptoSaid : Prop := countFindsUptoRow.holds Try.pinned (OpenSpec.upto countFindsSpec)

/-- 'testbenchlaw17.CountWeighs', WHERE WHAT IT READS IS OF BULK AT MOST 1048576: true; the input reads as it did. -/
def countWeighsUptoRow : OpenClaim := { program := "ytcpkjpkjahgobaa", sum := "4ace07f3ea01e398ca17ec02890d89a98c931694d525662af5d4adff453d1c99", func := "testbench/testbenchlaw17.CountWeighs", spec := "countWeighs", unfollowed := true, recurses := true, plainKeys := false, apart := false, narrowed := true }
def CountWeighsUptoSaid : Prop := countWeighsUptoRow.holds Try.pinned (OpenSpec.upto countWeighsSpec)

/-- 'testbenchlaw17.CountExact', WHERE WHAT IT READS IS OF BULK AT MOST 1048576: true; the input reads as it did. -/
def countExactUptoRow : OpenClaim := { program := "ytcpkjpkjahgobaa", sum := "4ace07f3ea01e398ca17ec02890d89a98c931694d525662af5d4adff453d1c99", func := "testbench/testbenchlaw17.CountExact", spec := "countExact", unfollowed := true, recurses := true, plainKeys := false, apart := false, narrowed := true }
def CountExactUptoSaid : Prop := countExactUptoRow.holds Try.pinned (OpenSpec.upto countExactSpec)

/-- 'testbenchlaw17.CountProducts', WHERE WHAT IT READS IS OF BULK AT MOST 1048576: true; the input reads as it did. -/
def countProductsUptoRow : OpenClaim := { program := "ytcpkjpkjahgobaa", sum := "4ace07f3ea01e398ca17ec02890d89a98c931694d525662af5d4adff453d1c99", func := "testbench/testbenchlaw17.CountProducts", spec := "countProducts", unfollowed := true, recurses := true, plainKeys := false, apart := false, narrowed := true }
def CountProductsUptoSaid : Prop := countProductsUptoRow.holds Try.pinned (OpenSpec.upto countProductsSpec)

/-- 'testbenchlaw17.CountAlgebra', WHERE WHAT IT READS IS OF BULK AT MOST 1048576: true; the input reads as it did. -/
def countAlgebraUptoRow : OpenClaim := { program := "ytcpkjpkjahgobaa", sum := "4ace07f3ea01e398ca17ec02890d89a98c931694d525662af5d4adff453d1c99", func := "testbench/testbenchlaw17.CountAlgebra", spec := "countAlgebra", unfollowed := true, recurses := true, plainKeys := false, apart := false, narrowed := true }
def CountAlgebraUptoSaid : Prop := countAlgebraUptoRow.holds Try.pinned (OpenSpec.upto countAlgebraSpec)

end Rows
end Go.Proofs.Ytcpkjpkjahgobaa
