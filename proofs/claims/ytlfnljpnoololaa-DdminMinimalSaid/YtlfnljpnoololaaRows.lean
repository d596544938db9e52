/-
  No cell of these rows narrows 'for every input' (looked for: loops, veiled, ifaces, maps, wideKeys, modest, calm, conditions, laid).
  DERIVED. THE GIVEN ROWS OF THIS SEAT. 6 by the template 'for every input the law returns true; each argument reads behind the call as it read before'; 0 by the template 'total and deterministic' (their statements: YtlfnljpnoololaaTotals.lean).
  GIVEN WITH THE SEED: the statements are not yours to turn. If you find one false, say at which input.
  Laid BY PROGRAM, IN A SANDBOX (cutbox-rows.mjs): the forced cells as the released guide's own fill.sh prints them over the translation 9737dcdb0240b7cb… (all of the seat's roots in one cut). By AI agents, Wed Nov 11 2026. No macro, syntax, notation, axiom, sorry.
-/
import Derived.Test.YtlfnljpnoololaaChecked
import GoSem.Claim
import GoSem.ClaimJoined
import GoSem.ClaimMapViews
import Derived.JoinedTies
import Derived.KernelRfl
namespace Go.Proofs.Ytlfnljpnoololaa
/- THE CELL 'sum', in the pinned program and in every row, IS THE sha256 OF THE DUMP (.gsa) THAT YtlfnljpnoololaaProg.lean LOADS. Nothing in Lean hashes anything: it is a label: what it is worth is what the hold of that sum in a sandbox is worth. -/
noncomputable def Try.pinned : Pinned := { name := "ytlfnljpnoololaa", sum := "9737dcdb0240b7cb592791953e349395b424b35e550bcc013af529eb786a0c3a", checked := Try.checked }
namespace Rows
def none {H : Type} : Left H := { results := [], args := [] }

/-- 'testbenchlaw55.DdminStarts': WHATEVER THE INPUT: true; the input reads as it did. -/
def ddminStartsSpec : ChangeSpec := { name := "ddminStarts", fn := fun _ => fun
  | [d] => { results := [.lit (.bool true)], args := [d] }
  | _ => none }
def ddminStartsRow : OpenClaim := { program := "ytlfnljpnoololaa", sum := "9737dcdb0240b7cb592791953e349395b424b35e550bcc013af529eb786a0c3a", func := "testbench/testbenchlaw55.DdminStarts", spec := "ddminStarts", apart := false }
def DdminStartsSaid : Prop := ddminStartsRow.holds Try.pinned (OpenSpec.ofChange ddminStartsSpec)

/-- ITS FALSE NEIGHBOUR: 'it returns false'. Refute it at one input. -/
def ddminStartsWrong : ChangeSpec := { name := "ddminStarts", fn := fun _ => fun
  | [d] => { results := [.lit (.bool false)], args := [d] }
  | _ => none }
def DdminStartsWrongFalsely : Prop := ddminStartsRow.holds Try.pinned (OpenSpec.ofChange ddminStartsWrong)

/-- 'testbenchlaw55.DdminProposes': WHATEVER THE INPUT: true; the input reads as it did. -/
def ddminProposesSpec : ChangeSpec := { name := "ddminProposes", fn := fun _ => fun
  | [d] => { results := [.lit (.bool true)], args := [d] }
  | _ => none }
def ddminProposesRow : OpenClaim := { program := "ytlfnljpnoololaa", sum := "9737dcdb0240b7cb592791953e349395b424b35e550bcc013af529eb786a0c3a", func := "testbench/testbenchlaw55.DdminProposes", spec := "ddminProposes", apart := false }
def DdminProposesSaid : Prop := ddminProposesRow.holds Try.pinned (OpenSpec.ofChange ddminProposesSpec)

/-- ITS FALSE NEIGHBOUR: 'it returns false'. Refute it at one input. -/
def ddminProposesWrong : ChangeSpec := { name := "ddminProposes", fn := fun _ => fun
  | [d] => { results := [.lit (.bool false)], args := [d] }
  | _ => none }
def DdminProposesWrongFalsely : Prop := ddminProposesRow.holds Try.pinned (OpenSpec.ofChange ddminProposesWrong)

/-- 'testbenchlaw55.DdminTells': WHATEVER THE INPUT: true; the input reads as it did. -/
def ddminTellsSpec : ChangeSpec := { name := "ddminTells", fn := fun _ => fun
  | [d1, d2] => { results := [.lit (.bool true)], args := [d1, d2] }
  | _ => none }
def ddminTellsRow : OpenClaim := { program := "ytlfnljpnoololaa", sum := "9737dcdb0240b7cb592791953e349395b424b35e550bcc013af529eb786a0c3a", func := "testbench/testbenchlaw55.DdminTells", spec := "ddminTells", apart := false }
def DdminTellsSaid : Prop := ddminTellsRow.holds Try.pinned (OpenSpec.ofChange ddminTellsSpec)

/-- ITS FALSE NEIGHBOUR: 'it returns false'. Refute it at one input. -/
def ddminTellsWrong : ChangeSpec := { name := "ddminTells", fn := fun _ => fun
  | [d1, d2] => { results := [.lit (.bool false)], args := [d1, d2] }
  | _ => none }
def DdminTellsWrongFalsely : Prop := ddminTellsRow.holds Try.pinned (OpenSpec.ofChange ddminTellsWrong)

/-- 'testbenchlaw55.DdminMinimal': WHATEVER THE INPUT: true; the input reads as it did. -/
def ddminMinimalSpec : ChangeSpec := { name := "ddminMinimal", fn := fun _ => fun
  | [d1, d2] => { results := [.lit (.bool true)], args := [d1, d2] }
  | _ => none }
def ddminMinimalRow : OpenClaim := { program := "ytlfnljpnoololaa", sum := "9737dcdb0240b7cb592791953e349395b424b35e550bcc013af529eb786a0c3a", func := "testbench/testbenchlaw55.DdminMinimal", spec := "ddminMinimal", apart := false }
def DdminMinimalSaid : Prop := ddminMinimalRow.holds Try.pinned (OpenSpec.ofChange ddminMinimalSpec)

/-- ITS FALSE NEIGHBOUR: 'it returns false'. Refute it at one input. -/
def ddminMinimalWrong : ChangeSpec := { name := "ddminMinimal", fn := fun _ => fun
  | [d1, d2] => { results := [.lit (.bool false)], args := [d1, d2] }
  | _ => none }
def DdminMinimalWrongFalsely : Prop := ddminMinimalRow.holds Try.pinned (OpenSpec.ofChange ddminMinimalWrong)

/-- 'testbenchlaw55.DdminParts': WHATEVER THE INPUT: true; the input reads as it did. -/
def ddminPartsSpec : ChangeSpec := { name := "ddminParts", fn := fun _ => fun
  | [d1, d2] => { results := [.lit (.bool true)], args := [d1, d2] }
  | _ => none }
def ddminPartsRow : OpenClaim := { program := "ytlfnljpnoololaa", sum := "9737dcdb0240b7cb592791953e349395b424b35e550bcc013af529eb786a0c3a", func := "testbench/testbenchlaw55.DdminParts", spec := "ddminParts", apart := false }
def DdminPartsSaid : Prop := ddminPartsRow.holds Try.pinned (OpenSpec.ofChange ddminPartsSpec)

/-- ITS FALSE NEIGHBOUR: 'it returns false'. Refute it at one input. -/
def ddminPartsWrong : ChangeSpec := { name := "ddminParts", fn := fun _ => fun
  | [d1, d2] => { results := [.lit (.bool false)], args := [d1, d2] }
  | _ => none }
def DdminPartsWrongFalsely : Prop := ddminPartsRow.holds Try.pinned (OpenSpec.ofChange ddminPartsWrong)

/-- 'testbenchlaw55.DdminKeeps': WHATEVER THE INPUT: true; the input reads as it did. -/
def ddminKeepsSpec : ChangeSpec := { name := "ddminKeeps", fn := fun _ => fun
  | [d] => { results := [.lit (.bool true)], args := [d] }
  | _ => none }
def ddminKeepsRow : OpenClaim := { program := "ytlfnljpnoololaa", sum := "9737dcdb0240b7cb592791953e349395b424b35e550bcc013af529eb786a0c3a", func := "testbench/testbenchlaw55.DdminKeeps", spec := "ddminKeeps", apart := false }
def DdminKeepsSaid : Prop := ddminKeepsRow.holds Try.pinned (OpenSpec.ofChange ddminKeepsSpec)

/-- ITS FALSE NEIGHBOUR: 'it returns false'. Refute it at one input. -/
def ddminKeepsWrong : ChangeSpec := { name := "ddminKeeps", fn := fun _ => fun
  | [d] => { results := [.lit (.bool false)], args := [d] }
  | _ => none }
def DdminKeepsWrongFalsely : Prop := ddminKeepsRow.holds Try.pinned (OpenSpec.ofChange ddminKeepsWrong)

/- THE SECOND FORM. 'bulk': how many values and letters a reading holds, each counted each time it is reached (what is shared counts as often as it is met; a slice's spare places count too). A statement '..UptoSaid' is the law's where the arguments, and the package variables that the reading takes, are together of bulk at most 1048576: NARROWER than '..Said'. Prove '..Said' where nothing that the law and all that it calls make is longer than what came in: it says more and counts as full. Else prove '..UptoSaid'. A law counts once. -/
mutual
def uptoBulk {H : Type} : DataW H → Nat
  | .lit (.string bytes) => bytes.length + 1
  | .lit _ => 1
  | .nil => 1
  | .ptr d => uptoBulk d + 1
  | .slice elems spare => uptoBulkAll elems + uptoBulkAll spare + 1
  | .agg parts => uptoBulkAll parts + 1
  | .iface _ d => uptoBulk d + 1
  | .map entries => uptoBulkEntries entries + 1
  | .held _ => 1
def uptoBulkAll {H : Type} : List (DataW H) → Nat
  | [] => 0
  | d :: r => uptoBulk d + uptoBulkAll r
def uptoBulkEntries {H : Type} : List (Lit × DataW H) → Nat
  | [] => 0
  | x :: r => uptoBulkEntry x + uptoBulkEntries r
def uptoBulkEntry {H : Type} : Lit × DataW H → Nat
  | (.string bytes, d) => bytes.length + uptoBulk d + 1
  | (_, d) => uptoBulk d + 1
 end
def uptoSmall : (H : Type) → List (DataW H) → Bool := fun _ ds => decide (uptoBulkAll ds ≤ 1048576)
def OpenSpec.upto (s : _root_.Go.ChangeSpec) : _root_.Go.OpenSpec := { _root_.Go.OpenSpec.ofChange s with cond := some uptoSmall }

/-- 'testbenchlaw55.DdminStarts', WHERE WHAT IT READS IS OF BULK AT MOST 1048576: true; the input reads as it did. -/
def ddminStartsUptoRow : OpenClaim := { program := "ytlfnljpnoololaa", sum := "9737dcdb0240b7cb592791953e349395b424b35e550bcc013af529eb786a0c3a", func := "testbench/testbenchlaw55.DdminStarts", spec := "ddminStarts", apart := false, narrowed := true }
def DdminStartsUptoSaid : Prop := ddminStartsUptoRow.holds Try.pinned (OpenSpec.upto ddminStartsSpec)

/-- 'testbenchlaw55.DdminProposes', WHERE WHAT IT READS IS OF BULK AT MOST 1048576: true; the input reads as it did. -/
def ddminProposesUptoRow : OpenClaim := { program := "ytlfnljpnoololaa", sum := "9737dcdb0240b7cb592791953e349395b424b35e550bcc013af529eb786a0c3a", func := "testbench/testbenchlaw55.DdminProposes", spec := "ddminProposes", apart := false, narrowed := true }
def DdminProposesUptoSaid : Prop := ddminProposesUptoRow.holds Try.pinned (OpenSpec.upto ddminProposesSpec)

/-- 'testbenchlaw55.DdminTells', WHERE WHAT IT READS IS OF BULK AT MOST 1048576: true; the input reads as it did. -/
def ddminTellsUptoRow : OpenClaim := { program := "ytlfnljpnoololaa", sum := "9737dcdb0240b7cb592791953e349395b424b35e550bcc013af529eb786a0c3a", func := "testbench/testbenchlaw55.DdminTells", spec := "ddminTells", apart := false, narrowed := true }
def DdminTellsUptoSaid : Prop := ddminTellsUptoRow.holds Try.pinned (OpenSpec.upto ddminTellsSpec)

/-- 'testbenchlaw55.DdminMinimal', WHERE WHAT IT READS IS OF BULK AT MOST 1048576: true; the input reads as it did. -/
def ddminMinimalUptoRow : OpenClaim := { program := "ytlfnljpnoololaa", sum := "9737dcdb0240b7cb592791953e349395b424b35e550bcc013af529eb786a0c3a", func := "testbench/testbenchlaw55.DdminMinimal", spec := "ddminMinimal", apart := false, narrowed := true }
def DdminMinimalUptoSaid : Prop := ddminMinimalUptoRow.holds Try.pinned (OpenSpec.upto ddminMinimalSpec)

/-- 'testbenchlaw55.DdminParts', WHERE WHAT IT READS IS OF BULK AT MOST 1048576: true; the input reads as it did. -/
def ddminPartsUptoRow : OpenClaim := { program := "ytlfnljpnoololaa", sum := "9737dcdb0240b7cb592791953e349395b424b35e550bcc013af529eb786a0c3a", func := "testbench/testbenchlaw55.DdminParts", spec := "ddminParts", apart := false, narrowed := true }
def DdminPartsUptoSaid : Prop := ddminPartsUptoRow.holds Try.pinned (OpenSpec.upto ddminPartsSpec)

/-- 'testbenchlaw55.DdminKeeps', WHERE WHAT IT READS IS OF BULK AT MOST 1048576: true; the input reads as it did. -/
def ddminKeepsUptoRow : OpenClaim := { program := "ytlfnljpnoololaa", sum := "9737dcdb0240b7cb592791953e349395b424b35e550bcc013af529eb786a0c3a", func := "testbench/testbenchlaw55.DdminKeeps", spec := "ddminKeeps", apart := false, narrowed := true }
def DdminKeepsUptoSaid : Prop := ddminKeepsUptoRow.holds Try.pinned (OpenSpec.upto ddminKeepsSpec)

end Rows
end Go.Proofs.Ytlfnljpnoololaa
