/- The types of the program, as the walk's rules want them. -/
import Derived.Test.YtlfnljpnoololaaSimG
import Derived.Test.YtlfnljpnoololaaSimI
import Derived.Test.YtlfnljpnoololaaProg
import Derived.KernelRfl
namespace Go.Proofs.Ytlfnljpnoololaa
open Go.Sim

structure Shrink where
  kept : List Int
  parts : Int
  tries : Int
  tests : Int

/-- The cells of a state. -/
def shrinkR (s : Shrink) : List Rp := [Rp.slice eI s.kept, Rp.int .i64 s.parts, Rp.int .i64 s.tries, Rp.int .i64 s.tests]

theorem mixed : Try.prog.follows .mixedOrders = true := by kernel_rfl
theorem ti3 : TI Try.prog 3 1 8 (.int .i64 0) := ⟨⟨Try.t3, by kernel_rfl, by kernel_rfl, by kernel_rfl, by kernel_rfl⟩⟩
theorem z3 (w : World) (C : Nat → Prop) : AllR [Rp.int .i64 0] w C (Value.int .i64 0).cells.toList := allR_of rfl ⟨zint rfl w C, trivial⟩
theorem ti22 : TI Try.prog 22 1 24 (.slice none 0 0) := ⟨⟨Try.t22, by kernel_rfl, by kernel_rfl, by kernel_rfl, by kernel_rfl⟩⟩
theorem z22 (w : World) (C : Nat → Prop) : AllR [Rp.slice eI []] w C (Value.slice none 0 0).cells.toList := allR_of rfl ⟨zslice w C, trivial⟩
theorem ti24 : TI Try.prog 24 4 48 (.agg #[.slice none 0 0, .int .i64 0, .int .i64 0, .int .i64 0]) := ⟨⟨Try.t24, by kernel_rfl, by kernel_rfl, by kernel_rfl, by kernel_rfl⟩⟩
theorem z24 (w : World) (C : Nat → Prop) : AllR [Rp.slice eI [], Rp.int .i64 0, Rp.int .i64 0, Rp.int .i64 0] w C (Value.agg #[.slice none 0 0, .int .i64 0, .int .i64 0, .int .i64 0]).cells.toList :=
  allR_of rfl ⟨zslice w C, zint rfl w C, zint rfl w C, zint rfl w C, trivial⟩
theorem z24v (w : World) (C : Nat → Prop) : AllR [Rp.val (.slice none 0 0), Rp.int .i64 0, Rp.int .i64 0, Rp.int .i64 0] w C (Value.agg #[.slice none 0 0, .int .i64 0, .int .i64 0, .int .i64 0]).cells.toList :=
  allR_of rfl ⟨zval w C, zint rfl w C, zint rfl w C, zint rfl w C, trivial⟩
theorem ti49 : TI Try.prog 49 2 32 (.agg #[.slice none 0 0, .int .i64 0]) := ⟨⟨Try.t49, by kernel_rfl, by kernel_rfl, by kernel_rfl, by kernel_rfl⟩⟩
theorem z49 (w : World) (C : Nat → Prop) : AllR [Rp.slice eI [], Rp.int .i64 0] w C (Value.agg #[.slice none 0 0, .int .i64 0]).cells.toList := allR_of rfl ⟨zslice w C, zint rfl w C, trivial⟩
theorem pl49 (w : World) : (#[({ name := "all", type := 22, offset := 0, embedded := false, tag := "", pkgPath := "testbench/ddmin", byteOffset := 0 } : Field),
        { name := "n", type := 3, offset := 1, embedded := false, tag := "", pkgPath := "testbench/ddmin", byteOffset := 24 }].mapM fun f => (do pure (f.offset, ← sizeOf f.type) : Sem (Nat × Nat))).run Try.prog w = .ok #[(0, 1), (1, 1)] w := by
  simp [Try.sizeOf3, Try.sizeOf22]
theorem pl24 (w : World) : (#[({ name := "Kept", type := 22, offset := 0, embedded := false, tag := "", pkgPath := "", byteOffset := 0 } : Field),
        { name := "Parts", type := 3, offset := 1, embedded := false, tag := "", pkgPath := "", byteOffset := 24 },
        { name := "Try", type := 3, offset := 2, embedded := false, tag := "", pkgPath := "", byteOffset := 32 },
        { name := "Tests", type := 3, offset := 3, embedded := false, tag := "", pkgPath := "", byteOffset := 40 }].mapM fun f => (do pure (f.offset, ← sizeOf f.type) : Sem (Nat × Nat))).run Try.prog w = .ok #[(0, 1), (1, 1), (2, 1), (3, 1)] w := by
  simp [Try.sizeOf3, Try.sizeOf22]

/-- What the cells of a state carry. -/
structure ShrinkOk (s : Shrink) : Prop where
  kept : s.kept.length ≤ 9223372036854775807
  parts : InR .i64 s.parts
  tries : InR .i64 s.tries
  tests : InR .i64 s.tests
theorem shrink_ok {s : Shrink} (w : World) (C : Nat → Prop) (v : Value) (h : (Rp.agg (shrinkR s)).p w C v) : ShrinkOk s :=
  agg_fact (fun w C vs h => by
    match vs, h with
    | [a, b, c, d], ⟨h1, h2, h3, h4, _⟩ => exact ⟨h1.1, h2.2, h3.2, h4.2⟩) w C v h
end Go.Proofs.Ytlfnljpnoololaa
