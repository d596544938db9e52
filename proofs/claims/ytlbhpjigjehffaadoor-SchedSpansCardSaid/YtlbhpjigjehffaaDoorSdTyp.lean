/- The types of chapter 57, as the walk's rules want them. -/
import Derived.Test.YtlbhpjigjehffaaDoorSimX
import Derived.Test.YtlbhpjigjehffaaDoorSimO
import Derived.Test.YtlbhpjigjehffaaDoorSimI
import Derived.Test.YtlbhpjigjehffaaDoorProg
import Derived.KernelRfl
namespace Go.Proofs.YtlbhpjigjehffaaDoor
open Go.Sim

structure Jb where
  test : List UInt8
  des : List UInt8
  seed : Int
  pri : Int
  cost : Int
  deriving DecidableEq, Inhabited
def eJ (j : Jb) : List Rp := [Rp.str j.test, Rp.str j.des, Rp.int .u64 j.seed, Rp.int .i64 j.pri, Rp.int .i64 j.cost]
def eII (l : List Int) : List Rp := [Rp.slice eI l]
def kwG : MF := MF.glob 0 [Rp.slice eS keywords]
theorem mixed : Tryd.prog.follows .mixedOrders = true := by kernel_rfl
theorem ti3 : TI Tryd.prog 3 1 8 (.int .i64 0) := ⟨⟨Tryd.t3, by kernel_rfl, by kernel_rfl, by kernel_rfl, by kernel_rfl⟩⟩
theorem z3 (w : World) (C : Nat → Prop) : AllR [Rp.int .i64 0] w C (Value.int .i64 0).cells.toList := allR_of rfl ⟨zint rfl w C, trivial⟩
theorem ti4 : TI Tryd.prog 4 1 1 (.bool false) := ⟨⟨Tryd.t4, by kernel_rfl, by kernel_rfl, by kernel_rfl, by kernel_rfl⟩⟩
theorem z4 (w : World) (C : Nat → Prop) : AllR [Rp.bool false] w C (Value.bool false).cells.toList := allR_of rfl ⟨zbool w C, trivial⟩
theorem ti9 : TI Tryd.prog 9 1 16 (.string ⟨#[]⟩) := ⟨⟨Tryd.t9, by kernel_rfl, by kernel_rfl, by kernel_rfl, by kernel_rfl⟩⟩
theorem z9 (w : World) (C : Nat → Prop) : AllR [Rp.str []] w C (Value.string ⟨#[]⟩).cells.toList := allR_of rfl ⟨zstr w C, trivial⟩
theorem ti28 : TI Tryd.prog 28 5 56 (.agg #[.string ⟨#[]⟩, .string ⟨#[]⟩, .int .u64 0, .int .i64 0, .int .i64 0]) := ⟨⟨Tryd.t28, by kernel_rfl, by kernel_rfl, by kernel_rfl, by kernel_rfl⟩⟩
theorem z28 (w : World) (C : Nat → Prop) : AllR [Rp.str [], Rp.str [], Rp.int .u64 0, Rp.int .i64 0, Rp.int .i64 0] w C (Value.agg #[.string ⟨#[]⟩, .string ⟨#[]⟩, .int .u64 0, .int .i64 0, .int .i64 0]).cells.toList := allR_of rfl ⟨zstr w C, zstr w C, zint rfl w C, zint rfl w C, zint rfl w C, trivial⟩
theorem ti32 : TI Tryd.prog 32 1 24 (.slice none 0 0) := ⟨⟨Tryd.t32, by kernel_rfl, by kernel_rfl, by kernel_rfl, by kernel_rfl⟩⟩
theorem z32 (w : World) (C : Nat → Prop) : AllR [Rp.slice eI []] w C (Value.slice none 0 0).cells.toList := allR_of rfl ⟨zslice w C, trivial⟩
theorem z32v (w : World) (C : Nat → Prop) : AllR [Rp.val (.slice none 0 0)] w C (Value.slice none 0 0).cells.toList := allR_of rfl ⟨zval w C, trivial⟩
theorem ti58 : TI Tryd.prog 58 4 32 (.agg #[.int .i64 0, .int .i64 0, .int .i64 0, .int .i64 0]) := ⟨⟨Tryd.t58, by kernel_rfl, by kernel_rfl, by kernel_rfl, by kernel_rfl⟩⟩
theorem z58 (w : World) (C : Nat → Prop) : AllR [Rp.int .i64 0, Rp.int .i64 0, Rp.int .i64 0, Rp.int .i64 0] w C (Value.agg #[.int .i64 0, .int .i64 0, .int .i64 0, .int .i64 0]).cells.toList := allR_of rfl ⟨zint rfl w C, zint rfl w C, zint rfl w C, zint rfl w C, trivial⟩
theorem pl28 (w : World) : (#[({ name := "Test", type := 9, offset := 0, embedded := false, tag := "", pkgPath := "", byteOffset := 0 } : Field), { name := "Design", type := 9, offset := 1, embedded := false, tag := "", pkgPath := "", byteOffset := 16 }, { name := "Seed", type := 26, offset := 2, embedded := false, tag := "", pkgPath := "", byteOffset := 32 }, { name := "Priority", type := 3, offset := 3, embedded := false, tag := "", pkgPath := "", byteOffset := 40 }, { name := "Cost", type := 3, offset := 4, embedded := false, tag := "", pkgPath := "", byteOffset := 48 }].mapM fun f => (do pure (f.offset, ← sizeOf f.type) : Sem (Nat × Nat))).run Tryd.prog w = .ok #[(0, 1), (1, 1), (2, 1), (3, 1), (4, 1)] w := by
  simp [Tryd.sizeOf26, Tryd.sizeOf3, Tryd.sizeOf9]
end Go.Proofs.YtlbhpjigjehffaaDoor
