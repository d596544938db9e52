/- The types of chapter 15, as the walk's rules want them. -/
import Derived.Test.YtcpkjpkjahgobaaSimO
import Derived.Test.YtcpkjpkjahgobaaSimI
import Derived.Test.YtcpkjpkjahgobaaProg
import Derived.KernelRfl
namespace Go.Proofs.Ytcpkjpkjahgobaa
open Go.Sim

structure Node where
  level : Int
  lo : Int
  hi : Int
  deriving DecidableEq, Inhabited
structure Three where
  f : Int
  g : Int
  h : Int
  deriving DecidableEq, Inhabited
structure One where
  d : List Node
  f : Int
  e : Int
  deriving DecidableEq, Inhabited
/-- An amount: a number, or one that is too large. -/
structure Amt where
  n : Int
  large : Bool
  deriving DecidableEq, Inhabited
def eM (a : Amt) : List Rp := [Rp.int .i64 a.n, Rp.bool a.large]
def eN (n : Node) : List Rp := [Rp.int .i64 n.level, Rp.int .i64 n.lo, Rp.int .i64 n.hi]
def eT (n : Three) : List Rp := [Rp.int .i64 n.f, Rp.int .i64 n.g, Rp.int .i64 n.h]
def eO (o : One) : List Rp := [Rp.slice eN o.d, Rp.int .i64 o.f, Rp.int .i64 o.e]
def dagR (l : List Node) : List Rp := [Rp.slice eN l]
def nvs (n : Node) : List Value := [.int .i64 n.level, .int .i64 n.lo, .int .i64 n.hi]
def nv (n : Node) : Value := .agg (nvs n).toArray
def tvs (n : Three) : List Value := [.int .i64 n.f, .int .i64 n.g, .int .i64 n.h]
def tv (n : Three) : Value := .agg (tvs n).toArray
theorem nodeR {n : Node} (w : World) (C : Nat → Prop) (v : Value) (h : (Rp.agg (eN n)).p w C v) : v = nv n := by
  obtain ⟨cs, rfl, hc, _⟩ := h
  match cs, hc with
  | [a, b, c], ⟨h1, h2, h3, _⟩ => rw [h1.1, h2.1, h3.1]; rfl
theorem threeR {n : Three} (w : World) (C : Nat → Prop) (v : Value) (h : (Rp.agg (eT n)).p w C v) : v = tv n := by
  obtain ⟨cs, rfl, hc, _⟩ := h
  match cs, hc with
  | [a, b, c], ⟨h1, h2, h3, _⟩ => rw [h1.1, h2.1, h3.1]; rfl
theorem node_fact {n : Node} (w : World) (C : Nat → Prop) (v : Value) (h : (Rp.agg (eN n)).p w C v) : InR .i64 n.level ∧ InR .i64 n.lo ∧ InR .i64 n.hi :=
  agg_fact (fun w C vs h => by
    match vs, h with
    | [a, b, c], ⟨h1, h2, h3, _⟩ => exact ⟨h1.2, h2.2, h3.2⟩) w C v h
theorem mixed : Try.prog.follows .mixedOrders = true := by kernel_rfl
theorem fld50 : FldP Try.prog [({ name := "Level", type := 3, offset := 0, embedded := false, tag := "", pkgPath := "", byteOffset := 0 } : Field), { name := "Lo", type := 3, offset := 1, embedded := false, tag := "", pkgPath := "", byteOffset := 8 }, { name := "Hi", type := 3, offset := 2, embedded := false, tag := "", pkgPath := "", byteOffset := 16 }] [.int, .int, .int] 0 :=
  .cons (by decide) rfl Try.underlying3 trivial Try.isAgg3 (.cons (by decide) rfl Try.underlying3 trivial Try.isAgg3 (.cons (by decide) rfl Try.underlying3 trivial Try.isAgg3 .nil))
theorem kt100 : KeyT Try.prog 50 nv := KeyT.struct (kvs := nvs) Try.underlying50 (by kernel_rfl)
  (fun k k' => ⟨[k.level == k'.level, k.lo == k'.lo, k.hi == k'.hi], .cons (by decide) rfl Try.underlying3 Try.isAgg3 .int (.cons (by decide) rfl Try.underlying3 Try.isAgg3 .int (.cons (by decide) rfl Try.underlying3 Try.isAgg3 .int .nil)), by
    rw [Bool.eq_iff_iff]; cases k; cases k'; simp⟩) (fun k v hv => by simp only [nvs, List.mem_cons, List.not_mem_nil, or_false] at hv; rcases hv with rfl | rfl | rfl <;> trivial)
theorem kt103 : KeyT Try.prog 50 nv := kt100
theorem kt94 : KeyT Try.prog 79 tv := KeyT.struct (kvs := tvs) Try.underlying79 (by kernel_rfl)
  (fun k k' => ⟨[k.f == k'.f, k.g == k'.g, k.h == k'.h], .cons (by decide) rfl Try.underlying3 Try.isAgg3 .int (.cons (by decide) rfl Try.underlying3 Try.isAgg3 .int (.cons (by decide) rfl Try.underlying3 Try.isAgg3 .int .nil)), by
    rw [Bool.eq_iff_iff]; cases k; cases k'; simp⟩) (fun k v hv => by simp only [tvs, List.mem_cons, List.not_mem_nil, or_false] at hv; rcases hv with rfl | rfl | rfl <;> trivial)
section
variable {M : List MF} {o : Oper} {σ : Nat → Option Rp}
theorem eq50 (n m : Node) : ([decide (n.level = m.level), decide (n.lo = m.lo), decide (n.hi = m.hi)].all id) = decide (n = m) := by
  rw [Bool.eq_iff_iff]; cases n; cases m; simp
theorem eql50 {x y : Operand} {n m : Node} {T' : TypeId} (h : o.op = .binOp .eql 50 x y T') (hx : Get σ x (Rp.agg (eN n))) (hy : Get σ y (Rp.agg (eN m))) : Go.Sim.Spec Try.prog σ M o (.one (Rp.bool (decide (n = m)))) := by
  rw [← eq50]; exact spec_eqlA h Try.underlying50 (by kernel_rfl) (by kernel_rfl) fld50 (.int (.int (.int .nil))) hx hy
theorem neq50 {x y : Operand} {n m : Node} {T' : TypeId} (h : o.op = .binOp .neq 50 x y T') (hx : Get σ x (Rp.agg (eN n))) (hy : Get σ y (Rp.agg (eN m))) : Go.Sim.Spec Try.prog σ M o (.one (Rp.bool (!decide (n = m)))) := by
  rw [← eq50]; exact spec_neqA h Try.underlying50 (by kernel_rfl) (by kernel_rfl) fld50 (.int (.int (.int .nil))) hx hy
theorem fld73 : FldP Try.prog [({ name := "N", type := 3, offset := 0, embedded := false, tag := "", pkgPath := "", byteOffset := 0 } : Field), { name := "Over", type := 4, offset := 1, embedded := false, tag := "", pkgPath := "", byteOffset := 8 }] [.int, .bool] 0 :=
  .cons (by decide) rfl Try.underlying3 trivial Try.isAgg3 (.cons (by decide) rfl Try.underlying4 trivial Try.isAgg4 .nil)
theorem eq73 (n m : Amt) : ([decide (n.n = m.n), (n.large == m.large)].all id) = decide (n = m) := by
  rw [Bool.eq_iff_iff]; cases n; cases m; simp
theorem eql73 {x y : Operand} {n m : Amt} {T' : TypeId} (h : o.op = .binOp .eql 73 x y T') (hx : Get σ x (Rp.agg (eM n))) (hy : Get σ y (Rp.agg (eM m))) : Go.Sim.Spec Try.prog σ M o (.one (Rp.bool (decide (n = m)))) := by
  rw [← eq73]; exact spec_eqlA h Try.underlying73 (by kernel_rfl) (by kernel_rfl) fld73 (.int (.bool .nil)) hx hy
end
theorem dag_fact {l : List Node} (w : World) (C : Nat → Prop) (v : Value) (h : (Rp.agg (dagR l)).p w C v) : l.length ≤ 9223372036854775807 :=
  agg_fact (fun w C vs h => by
    match vs, h with
    | [a], ⟨h1, _⟩ => exact h1.1) w C v h
theorem ti3 : TI Try.prog 3 1 8 (.int .i64 0) := ⟨⟨Try.t3, by kernel_rfl, by kernel_rfl, by kernel_rfl, by kernel_rfl⟩⟩
theorem z3 (w : World) (C : Nat → Prop) : AllR [Rp.int .i64 0] w C (Value.int .i64 0).cells.toList := allR_of rfl ⟨zint rfl w C, trivial⟩
theorem ti4 : TI Try.prog 4 1 1 (.bool false) := ⟨⟨Try.t4, by kernel_rfl, by kernel_rfl, by kernel_rfl, by kernel_rfl⟩⟩
theorem z4 (w : World) (C : Nat → Prop) : AllR [Rp.bool false] w C (Value.bool false).cells.toList := allR_of rfl ⟨zbool w C, trivial⟩
theorem ti24 : TI Try.prog 24 1 24 (.agg #[.slice none 0 0]) := ⟨⟨Try.t24, by kernel_rfl, by kernel_rfl, by kernel_rfl, by kernel_rfl⟩⟩
theorem z24 (w : World) (C : Nat → Prop) : AllR [Rp.slice eN []] w C (Value.agg #[.slice none 0 0]).cells.toList := allR_of rfl ⟨zslice w C, trivial⟩
theorem z24v (w : World) (C : Nat → Prop) : AllR [Rp.val (.slice none 0 0)] w C (Value.agg #[.slice none 0 0]).cells.toList := allR_of rfl ⟨zval w C, trivial⟩
theorem ti33 : TI Try.prog 33 1 24 (.slice none 0 0) := ⟨⟨Try.t33, by kernel_rfl, by kernel_rfl, by kernel_rfl, by kernel_rfl⟩⟩
theorem z33 (w : World) (C : Nat → Prop) : AllR [Rp.slice eB []] w C (Value.slice none 0 0).cells.toList := allR_of rfl ⟨zslice w C, trivial⟩
theorem z33v (w : World) (C : Nat → Prop) : AllR [Rp.val (.slice none 0 0)] w C (Value.slice none 0 0).cells.toList := allR_of rfl ⟨zval w C, trivial⟩
theorem ti39 : TI Try.prog 39 1 24 (.slice none 0 0) := ⟨⟨Try.t39, by kernel_rfl, by kernel_rfl, by kernel_rfl, by kernel_rfl⟩⟩
theorem z39 (w : World) (C : Nat → Prop) : AllR [Rp.slice eI []] w C (Value.slice none 0 0).cells.toList := allR_of rfl ⟨zslice w C, trivial⟩
theorem z39v (w : World) (C : Nat → Prop) : AllR [Rp.val (.slice none 0 0)] w C (Value.slice none 0 0).cells.toList := allR_of rfl ⟨zval w C, trivial⟩
theorem ti50 : TI Try.prog 50 3 24 (.agg #[.int .i64 0, .int .i64 0, .int .i64 0]) := ⟨⟨Try.t50, by kernel_rfl, by kernel_rfl, by kernel_rfl, by kernel_rfl⟩⟩
theorem z50 (w : World) (C : Nat → Prop) : AllR [Rp.int .i64 0, Rp.int .i64 0, Rp.int .i64 0] w C (Value.agg #[.int .i64 0, .int .i64 0, .int .i64 0]).cells.toList := allR_of rfl ⟨zint rfl w C, zint rfl w C, zint rfl w C, trivial⟩
theorem ti54 : TI Try.prog 54 2 32 (.agg #[.slice none 0 0, .int .i64 0]) := ⟨⟨Try.t54, by kernel_rfl, by kernel_rfl, by kernel_rfl, by kernel_rfl⟩⟩
theorem z54 (w : World) (C : Nat → Prop) : AllR [Rp.slice eN [], Rp.int .i64 0] w C (Value.agg #[.slice none 0 0, .int .i64 0]).cells.toList := allR_of rfl ⟨zslice w C, zint rfl w C, trivial⟩
theorem z54v (w : World) (C : Nat → Prop) : AllR [Rp.val (.slice none 0 0), Rp.int .i64 0] w C (Value.agg #[.slice none 0 0, .int .i64 0]).cells.toList := allR_of rfl ⟨zval w C, zint rfl w C, trivial⟩
theorem ti58 : TI Try.prog 58 2 16 (.agg #[.int .i64 0, .int .i64 0]) := ⟨⟨Try.t58, by kernel_rfl, by kernel_rfl, by kernel_rfl, by kernel_rfl⟩⟩
theorem z58 (w : World) (C : Nat → Prop) : AllR [Rp.int .i64 0, Rp.int .i64 0] w C (Value.agg #[.int .i64 0, .int .i64 0]).cells.toList := allR_of rfl ⟨zint rfl w C, zint rfl w C, trivial⟩
theorem ti63 : TI Try.prog 63 3 56 (.agg #[.slice none 0 0, .int .i64 0, .slice none 0 0]) := ⟨⟨Try.t63, by kernel_rfl, by kernel_rfl, by kernel_rfl, by kernel_rfl⟩⟩
theorem z63 (w : World) (C : Nat → Prop) : AllR [Rp.slice eN [], Rp.int .i64 0, Rp.slice eI []] w C (Value.agg #[.slice none 0 0, .int .i64 0, .slice none 0 0]).cells.toList := allR_of rfl ⟨zslice w C, zint rfl w C, zslice w C, trivial⟩
theorem z63v (w : World) (C : Nat → Prop) : AllR [Rp.val (.slice none 0 0), Rp.int .i64 0, Rp.val (.slice none 0 0)] w C (Value.agg #[.slice none 0 0, .int .i64 0, .slice none 0 0]).cells.toList := allR_of rfl ⟨zval w C, zint rfl w C, zval w C, trivial⟩
theorem ti65 : TI Try.prog 65 2 16 (.agg #[.int .i64 0, .bool false]) := ⟨⟨Try.t65, by kernel_rfl, by kernel_rfl, by kernel_rfl, by kernel_rfl⟩⟩
theorem z65 (w : World) (C : Nat → Prop) : AllR [Rp.int .i64 0, Rp.bool false] w C (Value.agg #[.int .i64 0, .bool false]).cells.toList := allR_of rfl ⟨zint rfl w C, zbool w C, trivial⟩
theorem ti67 : TI Try.prog 67 4 32 (.agg #[.int .i64 0, .bool false, .int .i64 0, .bool false]) := ⟨⟨Try.t67, by kernel_rfl, by kernel_rfl, by kernel_rfl, by kernel_rfl⟩⟩
theorem z67 (w : World) (C : Nat → Prop) : AllR [Rp.int .i64 0, Rp.bool false, Rp.int .i64 0, Rp.bool false] w C (Value.agg #[.int .i64 0, .bool false, .int .i64 0, .bool false]).cells.toList := allR_of rfl ⟨zint rfl w C, zbool w C, zint rfl w C, zbool w C, trivial⟩
theorem ti70 : TI Try.prog 70 1 8 (.nilFunc) := ⟨⟨Try.t70, by kernel_rfl, by kernel_rfl, by kernel_rfl, by kernel_rfl⟩⟩
theorem z70 (w : World) (C : Nat → Prop) : AllR [Rp.val (.nilFunc)] w C (Value.nilFunc).cells.toList := allR_of rfl ⟨zval w C, trivial⟩
theorem ti73 : TI Try.prog 73 2 16 (.agg #[.int .i64 0, .bool false]) := ⟨⟨Try.t73, by kernel_rfl, by kernel_rfl, by kernel_rfl, by kernel_rfl⟩⟩
theorem z73 (w : World) (C : Nat → Prop) : AllR [Rp.int .i64 0, Rp.bool false] w C (Value.agg #[.int .i64 0, .bool false]).cells.toList := allR_of rfl ⟨zint rfl w C, zbool w C, trivial⟩
theorem ti79 : TI Try.prog 79 3 24 (.agg #[.int .i64 0, .int .i64 0, .int .i64 0]) := ⟨⟨Try.t79, by kernel_rfl, by kernel_rfl, by kernel_rfl, by kernel_rfl⟩⟩
theorem z79 (w : World) (C : Nat → Prop) : AllR [Rp.int .i64 0, Rp.int .i64 0, Rp.int .i64 0] w C (Value.agg #[.int .i64 0, .int .i64 0, .int .i64 0]).cells.toList := allR_of rfl ⟨zint rfl w C, zint rfl w C, zint rfl w C, trivial⟩
theorem ti83 : TI Try.prog 83 1 24 (.slice none 0 0) := ⟨⟨Try.t83, by kernel_rfl, by kernel_rfl, by kernel_rfl, by kernel_rfl⟩⟩
theorem z83 (w : World) (C : Nat → Prop) : AllR [Rp.slice eM []] w C (Value.slice none 0 0).cells.toList := allR_of rfl ⟨zslice w C, trivial⟩
theorem z83v (w : World) (C : Nat → Prop) : AllR [Rp.val (.slice none 0 0)] w C (Value.slice none 0 0).cells.toList := allR_of rfl ⟨zval w C, trivial⟩
theorem ti84 : TI Try.prog 84 1 8 (.nilFunc) := ⟨⟨Try.t84, by kernel_rfl, by kernel_rfl, by kernel_rfl, by kernel_rfl⟩⟩
theorem z84 (w : World) (C : Nat → Prop) : AllR [Rp.val (.nilFunc)] w C (Value.nilFunc).cells.toList := allR_of rfl ⟨zval w C, trivial⟩
theorem ti96 : TI Try.prog 96 3 24 (.agg #[.pointer none, .nilFunc, .map none]) := ⟨⟨Try.t96, by kernel_rfl, by kernel_rfl, by kernel_rfl, by kernel_rfl⟩⟩
theorem z96 (w : World) (C : Nat → Prop) : AllR [Rp.val (.pointer none), Rp.val (.nilFunc), Rp.val (.map none)] w C (Value.agg #[.pointer none, .nilFunc, .map none]).cells.toList := allR_of rfl ⟨zval w C, zval w C, zval w C, trivial⟩
theorem ti105 : TI Try.prog 105 3 40 (.agg #[.slice none 0 0, .map none, .bool false]) := ⟨⟨Try.t105, by kernel_rfl, by kernel_rfl, by kernel_rfl, by kernel_rfl⟩⟩
theorem z105 (w : World) (C : Nat → Prop) : AllR [Rp.slice eN [], Rp.val (.map none), Rp.bool false] w C (Value.agg #[.slice none 0 0, .map none, .bool false]).cells.toList := allR_of rfl ⟨zslice w C, zval w C, zbool w C, trivial⟩
theorem z105v (w : World) (C : Nat → Prop) : AllR [Rp.val (.slice none 0 0), Rp.val (.map none), Rp.bool false] w C (Value.agg #[.slice none 0 0, .map none, .bool false]).cells.toList := allR_of rfl ⟨zval w C, zval w C, zbool w C, trivial⟩
theorem pl24 (w : World) : (#[({ name := "Nodes", type := 22, offset := 0, embedded := false, tag := "", pkgPath := "", byteOffset := 0 } : Field)].mapM fun f => (do pure (f.offset, ← sizeOf f.type) : Sem (Nat × Nat))).run Try.prog w = .ok #[(0, 1)] w := by
  simp [Try.sizeOf22]
theorem pl50 (w : World) : (#[({ name := "Level", type := 3, offset := 0, embedded := false, tag := "", pkgPath := "", byteOffset := 0 } : Field), { name := "Lo", type := 3, offset := 1, embedded := false, tag := "", pkgPath := "", byteOffset := 8 }, { name := "Hi", type := 3, offset := 2, embedded := false, tag := "", pkgPath := "", byteOffset := 16 }].mapM fun f => (do pure (f.offset, ← sizeOf f.type) : Sem (Nat × Nat))).run Try.prog w = .ok #[(0, 1), (1, 1), (2, 1)] w := by
  simp [Try.sizeOf3]
theorem pl54 (w : World) : (#[({ name := "d", type := 24, offset := 0, embedded := false, tag := "", pkgPath := "testbench/count", byteOffset := 0 } : Field), { name := "bits", type := 3, offset := 1, embedded := false, tag := "", pkgPath := "testbench/count", byteOffset := 24 }].mapM fun f => (do pure (f.offset, ← sizeOf f.type) : Sem (Nat × Nat))).run Try.prog w = .ok #[(0, 1), (1, 1)] w := by
  simp [Try.sizeOf24, Try.sizeOf3]
theorem pl63 (w : World) : (#[({ name := "counter", type := 54, offset := 0, embedded := true, tag := "", pkgPath := "testbench/count", byteOffset := 0 } : Field), { name := "ones", type := 39, offset := 2, embedded := false, tag := "", pkgPath := "testbench/count", byteOffset := 32 }].mapM fun f => (do pure (f.offset, ← sizeOf f.type) : Sem (Nat × Nat))).run Try.prog w = .ok #[(0, 2), (2, 1)] w := by
  simp [Try.sizeOf39, Try.sizeOf54]
theorem pl65 (w : World) : (#[({ name := "n", type := 3, offset := 0, embedded := false, tag := "", pkgPath := "testbench/count", byteOffset := 0 } : Field), { name := "large", type := 4, offset := 1, embedded := false, tag := "", pkgPath := "testbench/count", byteOffset := 8 }].mapM fun f => (do pure (f.offset, ← sizeOf f.type) : Sem (Nat × Nat))).run Try.prog w = .ok #[(0, 1), (1, 1)] w := by
  simp [Try.sizeOf3, Try.sizeOf4]
theorem pl73 (w : World) : (#[({ name := "N", type := 3, offset := 0, embedded := false, tag := "", pkgPath := "", byteOffset := 0 } : Field), { name := "Over", type := 4, offset := 1, embedded := false, tag := "", pkgPath := "", byteOffset := 8 }].mapM fun f => (do pure (f.offset, ← sizeOf f.type) : Sem (Nat × Nat))).run Try.prog w = .ok #[(0, 1), (1, 1)] w := by
  simp [Try.sizeOf3, Try.sizeOf4]
theorem pl79 (w : World) : (#[({ name := "f", type := 3, offset := 0, embedded := false, tag := "", pkgPath := "testbench/dag", byteOffset := 0 } : Field), { name := "g", type := 3, offset := 1, embedded := false, tag := "", pkgPath := "testbench/dag", byteOffset := 8 }, { name := "h", type := 3, offset := 2, embedded := false, tag := "", pkgPath := "testbench/dag", byteOffset := 16 }].mapM fun f => (do pure (f.offset, ← sizeOf f.type) : Sem (Nat × Nat))).run Try.prog w = .ok #[(0, 1), (1, 1), (2, 1)] w := by
  simp [Try.sizeOf3]
theorem pl96 (w : World) : (#[({ name := "builder", type := 92, offset := 0, embedded := true, tag := "", pkgPath := "testbench/dag", byteOffset := 0 } : Field), { name := "value", type := 80, offset := 1, embedded := false, tag := "", pkgPath := "testbench/dag", byteOffset := 8 }, { name := "known", type := 94, offset := 2, embedded := false, tag := "", pkgPath := "testbench/dag", byteOffset := 16 }].mapM fun f => (do pure (f.offset, ← sizeOf f.type) : Sem (Nat × Nat))).run Try.prog w = .ok #[(0, 1), (1, 1), (2, 1)] w := by
  simp [Try.sizeOf80, Try.sizeOf92, Try.sizeOf94]
theorem pl105 (w : World) : (#[({ name := "nodes", type := 22, offset := 0, embedded := false, tag := "", pkgPath := "testbench/dag", byteOffset := 0 } : Field), { name := "at", type := 103, offset := 1, embedded := false, tag := "", pkgPath := "testbench/dag", byteOffset := 24 }, { name := "full", type := 4, offset := 2, embedded := false, tag := "", pkgPath := "testbench/dag", byteOffset := 32 }].mapM fun f => (do pure (f.offset, ← sizeOf f.type) : Sem (Nat × Nat))).run Try.prog w = .ok #[(0, 1), (1, 1), (2, 1)] w := by
  simp [Try.sizeOf103, Try.sizeOf22, Try.sizeOf4]
end Go.Proofs.Ytcpkjpkjahgobaa
