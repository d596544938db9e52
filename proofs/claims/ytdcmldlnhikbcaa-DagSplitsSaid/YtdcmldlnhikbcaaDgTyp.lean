/- The types of chapter 15, as the walk's rules want them. -/
import Derived.Test.YtdcmldlnhikbcaaSimO
import Derived.Test.YtdcmldlnhikbcaaSimI
import Derived.Test.YtdcmldlnhikbcaaProg
import Derived.KernelRfl
namespace Go.Proofs.Ytdcmldlnhikbcaa
open Go.Sim

structure Node where
  level : Int
  lo : Int
  hi : Int
  deriving DecidableEq, Inhabited
structure Three where
  f : Int
  g : Int
  h : Int
  deriving DecidableEq, Inhabited
structure One where
  d : List Node
  f : Int
  e : Int
  deriving DecidableEq, Inhabited
def eN (n : Node) : List Rp := [Rp.int .i64 n.level, Rp.int .i64 n.lo, Rp.int .i64 n.hi]
def eT (n : Three) : List Rp := [Rp.int .i64 n.f, Rp.int .i64 n.g, Rp.int .i64 n.h]
def eO (o : One) : List Rp := [Rp.slice eN o.d, Rp.int .i64 o.f, Rp.int .i64 o.e]
def dagR (l : List Node) : List Rp := [Rp.slice eN l]
def nvs (n : Node) : List Value := [.int .i64 n.level, .int .i64 n.lo, .int .i64 n.hi]
def nv (n : Node) : Value := .agg (nvs n).toArray
def tvs (n : Three) : List Value := [.int .i64 n.f, .int .i64 n.g, .int .i64 n.h]
def tv (n : Three) : Value := .agg (tvs n).toArray
theorem nodeR {n : Node} (w : World) (C : Nat → Prop) (v : Value) (h : (Rp.agg (eN n)).p w C v) : v = nv n := by
  obtain ⟨cs, rfl, hc, _⟩ := h
  match cs, hc with
  | [a, b, c], ⟨h1, h2, h3, _⟩ => rw [h1.1, h2.1, h3.1]; rfl
theorem threeR {n : Three} (w : World) (C : Nat → Prop) (v : Value) (h : (Rp.agg (eT n)).p w C v) : v = tv n := by
  obtain ⟨cs, rfl, hc, _⟩ := h
  match cs, hc with
  | [a, b, c], ⟨h1, h2, h3, _⟩ => rw [h1.1, h2.1, h3.1]; rfl
theorem node_fact {n : Node} (w : World) (C : Nat → Prop) (v : Value) (h : (Rp.agg (eN n)).p w C v) : InR .i64 n.level ∧ InR .i64 n.lo ∧ InR .i64 n.hi :=
  agg_fact (fun w C vs h => by
    match vs, h with
    | [a, b, c], ⟨h1, h2, h3, _⟩ => exact ⟨h1.2, h2.2, h3.2⟩) w C v h
theorem mixed : Try.prog.follows .mixedOrders = true := by kernel_rfl
theorem kt74 : KeyT Try.prog 3 (fun n : Int => Value.int .i64 n) := KeyT.int Try.underlying3
theorem kt81 : KeyT Try.prog 3 (fun n : Int => Value.int .i64 n) := KeyT.int Try.underlying3
theorem fld26 : FldP Try.prog [({ name := "Level", type := 3, offset := 0, embedded := false, tag := "", pkgPath := "", byteOffset := 0 } : Field), { name := "Lo", type := 3, offset := 1, embedded := false, tag := "", pkgPath := "", byteOffset := 8 }, { name := "Hi", type := 3, offset := 2, embedded := false, tag := "", pkgPath := "", byteOffset := 16 }] [.int, .int, .int] 0 :=
  .cons (by decide) rfl Try.underlying3 trivial Try.isAgg3 (.cons (by decide) rfl Try.underlying3 trivial Try.isAgg3 (.cons (by decide) rfl Try.underlying3 trivial Try.isAgg3 .nil))
theorem kt73 : KeyT Try.prog 26 nv := KeyT.struct (kvs := nvs) Try.underlying26 (by kernel_rfl)
  (fun k k' => ⟨[k.level == k'.level, k.lo == k'.lo, k.hi == k'.hi], .cons (by decide) rfl Try.underlying3 Try.isAgg3 .int (.cons (by decide) rfl Try.underlying3 Try.isAgg3 .int (.cons (by decide) rfl Try.underlying3 Try.isAgg3 .int .nil)), by
    rw [Bool.eq_iff_iff]; cases k; cases k'; simp⟩) (fun k v hv => by simp only [nvs, List.mem_cons, List.not_mem_nil, or_false] at hv; rcases hv with rfl | rfl | rfl <;> trivial)
theorem kt88 : KeyT Try.prog 26 nv := kt73
theorem kt84 : KeyT Try.prog 69 tv := KeyT.struct (kvs := tvs) Try.underlying69 (by kernel_rfl)
  (fun k k' => ⟨[k.f == k'.f, k.g == k'.g, k.h == k'.h], .cons (by decide) rfl Try.underlying3 Try.isAgg3 .int (.cons (by decide) rfl Try.underlying3 Try.isAgg3 .int (.cons (by decide) rfl Try.underlying3 Try.isAgg3 .int .nil)), by
    rw [Bool.eq_iff_iff]; cases k; cases k'; simp⟩) (fun k v hv => by simp only [tvs, List.mem_cons, List.not_mem_nil, or_false] at hv; rcases hv with rfl | rfl | rfl <;> trivial)
section
variable {M : List MF} {o : Oper} {σ : Nat → Option Rp}
theorem eq26 (n m : Node) : ([decide (n.level = m.level), decide (n.lo = m.lo), decide (n.hi = m.hi)].all id) = decide (n = m) := by
  rw [Bool.eq_iff_iff]; cases n; cases m; simp
theorem eql26 {x y : Operand} {n m : Node} {T' : TypeId} (h : o.op = .binOp .eql 26 x y T') (hx : Get σ x (Rp.agg (eN n))) (hy : Get σ y (Rp.agg (eN m))) : Go.Sim.Spec Try.prog σ M o (.one (Rp.bool (decide (n = m)))) := by
  rw [← eq26]; exact spec_eqlA h Try.underlying26 (by kernel_rfl) (by kernel_rfl) fld26 (.int (.int (.int .nil))) hx hy
theorem neq26 {x y : Operand} {n m : Node} {T' : TypeId} (h : o.op = .binOp .neq 26 x y T') (hx : Get σ x (Rp.agg (eN n))) (hy : Get σ y (Rp.agg (eN m))) : Go.Sim.Spec Try.prog σ M o (.one (Rp.bool (!decide (n = m)))) := by
  rw [← eq26]; exact spec_neqA h Try.underlying26 (by kernel_rfl) (by kernel_rfl) fld26 (.int (.int (.int .nil))) hx hy
end
theorem dag_fact {l : List Node} (w : World) (C : Nat → Prop) (v : Value) (h : (Rp.agg (dagR l)).p w C v) : l.length ≤ 9223372036854775807 :=
  agg_fact (fun w C vs h => by
    match vs, h with
    | [a], ⟨h1, _⟩ => exact h1.1) w C v h
theorem ti3 : TI Try.prog 3 1 8 (.int .i64 0) := ⟨⟨Try.t3, by kernel_rfl, by kernel_rfl, by kernel_rfl, by kernel_rfl⟩⟩
theorem z3 (w : World) (C : Nat → Prop) : AllR [Rp.int .i64 0] w C (Value.int .i64 0).cells.toList := allR_of rfl ⟨zint rfl w C, trivial⟩
theorem ti4 : TI Try.prog 4 1 1 (.bool false) := ⟨⟨Try.t4, by kernel_rfl, by kernel_rfl, by kernel_rfl, by kernel_rfl⟩⟩
theorem z4 (w : World) (C : Nat → Prop) : AllR [Rp.bool false] w C (Value.bool false).cells.toList := allR_of rfl ⟨zbool w C, trivial⟩
theorem ti24 : TI Try.prog 24 1 24 (.agg #[.slice none 0 0]) := ⟨⟨Try.t24, by kernel_rfl, by kernel_rfl, by kernel_rfl, by kernel_rfl⟩⟩
theorem z24 (w : World) (C : Nat → Prop) : AllR [Rp.slice eN []] w C (Value.agg #[.slice none 0 0]).cells.toList := allR_of rfl ⟨zslice w C, trivial⟩
theorem z24v (w : World) (C : Nat → Prop) : AllR [Rp.val (.slice none 0 0)] w C (Value.agg #[.slice none 0 0]).cells.toList := allR_of rfl ⟨zval w C, trivial⟩
theorem ti26 : TI Try.prog 26 3 24 (.agg #[.int .i64 0, .int .i64 0, .int .i64 0]) := ⟨⟨Try.t26, by kernel_rfl, by kernel_rfl, by kernel_rfl, by kernel_rfl⟩⟩
theorem z26 (w : World) (C : Nat → Prop) : AllR [Rp.int .i64 0, Rp.int .i64 0, Rp.int .i64 0] w C (Value.agg #[.int .i64 0, .int .i64 0, .int .i64 0]).cells.toList := allR_of rfl ⟨zint rfl w C, zint rfl w C, zint rfl w C, trivial⟩
theorem ti31 : TI Try.prog 31 3 40 (.agg #[.slice none 0 0, .int .i64 0, .int .i64 0]) := ⟨⟨Try.t31, by kernel_rfl, by kernel_rfl, by kernel_rfl, by kernel_rfl⟩⟩
theorem z31 (w : World) (C : Nat → Prop) : AllR [Rp.slice eN [], Rp.int .i64 0, Rp.int .i64 0] w C (Value.agg #[.slice none 0 0, .int .i64 0, .int .i64 0]).cells.toList := allR_of rfl ⟨zslice w C, zint rfl w C, zint rfl w C, trivial⟩
theorem z31v (w : World) (C : Nat → Prop) : AllR [Rp.val (.slice none 0 0), Rp.int .i64 0, Rp.int .i64 0] w C (Value.agg #[.slice none 0 0, .int .i64 0, .int .i64 0]).cells.toList := allR_of rfl ⟨zval w C, zint rfl w C, zint rfl w C, trivial⟩
theorem ti47 : TI Try.prog 47 15 200 (.agg #[.slice none 0 0, .int .i64 0, .int .i64 0, .slice none 0 0, .int .i64 0, .int .i64 0, .slice none 0 0, .int .i64 0, .int .i64 0, .slice none 0 0, .int .i64 0, .int .i64 0, .slice none 0 0, .int .i64 0, .int .i64 0]) := ⟨⟨Try.t47, by kernel_rfl, by kernel_rfl, by kernel_rfl, by kernel_rfl⟩⟩
theorem z47 (w : World) (C : Nat → Prop) : AllR [Rp.slice eN [], Rp.int .i64 0, Rp.int .i64 0, Rp.slice eN [], Rp.int .i64 0, Rp.int .i64 0, Rp.slice eN [], Rp.int .i64 0, Rp.int .i64 0, Rp.slice eN [], Rp.int .i64 0, Rp.int .i64 0, Rp.slice eN [], Rp.int .i64 0, Rp.int .i64 0] w C (Value.agg #[.slice none 0 0, .int .i64 0, .int .i64 0, .slice none 0 0, .int .i64 0, .int .i64 0, .slice none 0 0, .int .i64 0, .int .i64 0, .slice none 0 0, .int .i64 0, .int .i64 0, .slice none 0 0, .int .i64 0, .int .i64 0]).cells.toList := allR_of rfl ⟨zslice w C, zint rfl w C, zint rfl w C, zslice w C, zint rfl w C, zint rfl w C, zslice w C, zint rfl w C, zint rfl w C, zslice w C, zint rfl w C, zint rfl w C, zslice w C, zint rfl w C, zint rfl w C, trivial⟩
theorem z47v (w : World) (C : Nat → Prop) : AllR [Rp.val (.slice none 0 0), Rp.int .i64 0, Rp.int .i64 0, Rp.val (.slice none 0 0), Rp.int .i64 0, Rp.int .i64 0, Rp.val (.slice none 0 0), Rp.int .i64 0, Rp.int .i64 0, Rp.val (.slice none 0 0), Rp.int .i64 0, Rp.int .i64 0, Rp.val (.slice none 0 0), Rp.int .i64 0, Rp.int .i64 0] w C (Value.agg #[.slice none 0 0, .int .i64 0, .int .i64 0, .slice none 0 0, .int .i64 0, .int .i64 0, .slice none 0 0, .int .i64 0, .int .i64 0, .slice none 0 0, .int .i64 0, .int .i64 0, .slice none 0 0, .int .i64 0, .int .i64 0]).cells.toList := allR_of rfl ⟨zval w C, zint rfl w C, zint rfl w C, zval w C, zint rfl w C, zint rfl w C, zval w C, zint rfl w C, zint rfl w C, zval w C, zint rfl w C, zint rfl w C, zval w C, zint rfl w C, zint rfl w C, trivial⟩
theorem ti52 : TI Try.prog 52 9 120 (.agg #[.slice none 0 0, .int .i64 0, .int .i64 0, .slice none 0 0, .int .i64 0, .int .i64 0, .slice none 0 0, .int .i64 0, .int .i64 0]) := ⟨⟨Try.t52, by kernel_rfl, by kernel_rfl, by kernel_rfl, by kernel_rfl⟩⟩
theorem z52 (w : World) (C : Nat → Prop) : AllR [Rp.slice eN [], Rp.int .i64 0, Rp.int .i64 0, Rp.slice eN [], Rp.int .i64 0, Rp.int .i64 0, Rp.slice eN [], Rp.int .i64 0, Rp.int .i64 0] w C (Value.agg #[.slice none 0 0, .int .i64 0, .int .i64 0, .slice none 0 0, .int .i64 0, .int .i64 0, .slice none 0 0, .int .i64 0, .int .i64 0]).cells.toList := allR_of rfl ⟨zslice w C, zint rfl w C, zint rfl w C, zslice w C, zint rfl w C, zint rfl w C, zslice w C, zint rfl w C, zint rfl w C, trivial⟩
theorem z52v (w : World) (C : Nat → Prop) : AllR [Rp.val (.slice none 0 0), Rp.int .i64 0, Rp.int .i64 0, Rp.val (.slice none 0 0), Rp.int .i64 0, Rp.int .i64 0, Rp.val (.slice none 0 0), Rp.int .i64 0, Rp.int .i64 0] w C (Value.agg #[.slice none 0 0, .int .i64 0, .int .i64 0, .slice none 0 0, .int .i64 0, .int .i64 0, .slice none 0 0, .int .i64 0, .int .i64 0]).cells.toList := allR_of rfl ⟨zval w C, zint rfl w C, zint rfl w C, zval w C, zint rfl w C, zint rfl w C, zval w C, zint rfl w C, zint rfl w C, trivial⟩
theorem ti69 : TI Try.prog 69 3 24 (.agg #[.int .i64 0, .int .i64 0, .int .i64 0]) := ⟨⟨Try.t69, by kernel_rfl, by kernel_rfl, by kernel_rfl, by kernel_rfl⟩⟩
theorem z69 (w : World) (C : Nat → Prop) : AllR [Rp.int .i64 0, Rp.int .i64 0, Rp.int .i64 0] w C (Value.agg #[.int .i64 0, .int .i64 0, .int .i64 0]).cells.toList := allR_of rfl ⟨zint rfl w C, zint rfl w C, zint rfl w C, trivial⟩
theorem ti74 : TI Try.prog 74 1 8 (.map none) := ⟨⟨Try.t74, by kernel_rfl, by kernel_rfl, by kernel_rfl, by kernel_rfl⟩⟩
theorem z74 (w : World) (C : Nat → Prop) : AllR [Rp.val (.map none)] w C (Value.map none).cells.toList := allR_of rfl ⟨zval w C, trivial⟩
theorem ti75 : TI Try.prog 75 1 8 (.nilFunc) := ⟨⟨Try.t75, by kernel_rfl, by kernel_rfl, by kernel_rfl, by kernel_rfl⟩⟩
theorem z75 (w : World) (C : Nat → Prop) : AllR [Rp.val (.nilFunc)] w C (Value.nilFunc).cells.toList := allR_of rfl ⟨zval w C, trivial⟩
theorem ti77 : TI Try.prog 77 1 8 (.pointer none) := ⟨⟨Try.t77, by kernel_rfl, by kernel_rfl, by kernel_rfl, by kernel_rfl⟩⟩
theorem z77 (w : World) (C : Nat → Prop) : AllR [Rp.val (.pointer none)] w C (Value.pointer none).cells.toList := allR_of rfl ⟨zval w C, trivial⟩
theorem ti83 : TI Try.prog 83 4 32 (.agg #[.pointer none, .int .i64 0, .nilFunc, .map none]) := ⟨⟨Try.t83, by kernel_rfl, by kernel_rfl, by kernel_rfl, by kernel_rfl⟩⟩
theorem z83 (w : World) (C : Nat → Prop) : AllR [Rp.val (.pointer none), Rp.int .i64 0, Rp.val (.nilFunc), Rp.val (.map none)] w C (Value.agg #[.pointer none, .int .i64 0, .nilFunc, .map none]).cells.toList := allR_of rfl ⟨zval w C, zint rfl w C, zval w C, zval w C, trivial⟩
theorem ti86 : TI Try.prog 86 3 24 (.agg #[.pointer none, .nilFunc, .map none]) := ⟨⟨Try.t86, by kernel_rfl, by kernel_rfl, by kernel_rfl, by kernel_rfl⟩⟩
theorem z86 (w : World) (C : Nat → Prop) : AllR [Rp.val (.pointer none), Rp.val (.nilFunc), Rp.val (.map none)] w C (Value.agg #[.pointer none, .nilFunc, .map none]).cells.toList := allR_of rfl ⟨zval w C, zval w C, zval w C, trivial⟩
theorem ti90 : TI Try.prog 90 3 40 (.agg #[.slice none 0 0, .map none, .bool false]) := ⟨⟨Try.t90, by kernel_rfl, by kernel_rfl, by kernel_rfl, by kernel_rfl⟩⟩
theorem z90 (w : World) (C : Nat → Prop) : AllR [Rp.slice eN [], Rp.val (.map none), Rp.bool false] w C (Value.agg #[.slice none 0 0, .map none, .bool false]).cells.toList := allR_of rfl ⟨zslice w C, zval w C, zbool w C, trivial⟩
theorem z90v (w : World) (C : Nat → Prop) : AllR [Rp.val (.slice none 0 0), Rp.val (.map none), Rp.bool false] w C (Value.agg #[.slice none 0 0, .map none, .bool false]).cells.toList := allR_of rfl ⟨zval w C, zval w C, zbool w C, trivial⟩
theorem ti96 : TI Try.prog 96 2 32 (.agg #[.slice none 0 0, .bool false]) := ⟨⟨Try.t96, by kernel_rfl, by kernel_rfl, by kernel_rfl, by kernel_rfl⟩⟩
theorem z96 (w : World) (C : Nat → Prop) : AllR [Rp.slice eN [], Rp.bool false] w C (Value.agg #[.slice none 0 0, .bool false]).cells.toList := allR_of rfl ⟨zslice w C, zbool w C, trivial⟩
theorem z96v (w : World) (C : Nat → Prop) : AllR [Rp.val (.slice none 0 0), Rp.bool false] w C (Value.agg #[.slice none 0 0, .bool false]).cells.toList := allR_of rfl ⟨zval w C, zbool w C, trivial⟩
theorem pl24 (w : World) : (#[({ name := "Nodes", type := 22, offset := 0, embedded := false, tag := "", pkgPath := "", byteOffset := 0 } : Field)].mapM fun f => (do pure (f.offset, ← sizeOf f.type) : Sem (Nat × Nat))).run Try.prog w = .ok #[(0, 1)] w := by
  simp [Try.sizeOf22]
theorem pl26 (w : World) : (#[({ name := "Level", type := 3, offset := 0, embedded := false, tag := "", pkgPath := "", byteOffset := 0 } : Field), { name := "Lo", type := 3, offset := 1, embedded := false, tag := "", pkgPath := "", byteOffset := 8 }, { name := "Hi", type := 3, offset := 2, embedded := false, tag := "", pkgPath := "", byteOffset := 16 }].mapM fun f => (do pure (f.offset, ← sizeOf f.type) : Sem (Nat × Nat))).run Try.prog w = .ok #[(0, 1), (1, 1), (2, 1)] w := by
  simp [Try.sizeOf3]
theorem pl31 (w : World) : (#[({ name := "d", type := 24, offset := 0, embedded := false, tag := "", pkgPath := "testbench/testbenchlaw15", byteOffset := 0 } : Field), { name := "f", type := 3, offset := 1, embedded := false, tag := "", pkgPath := "testbench/testbenchlaw15", byteOffset := 24 }, { name := "e", type := 29, offset := 2, embedded := false, tag := "", pkgPath := "testbench/testbenchlaw15", byteOffset := 32 }].mapM fun f => (do pure (f.offset, ← sizeOf f.type) : Sem (Nat × Nat))).run Try.prog w = .ok #[(0, 1), (1, 1), (2, 1)] w := by
  simp [Try.sizeOf24, Try.sizeOf29, Try.sizeOf3]
theorem pl69 (w : World) : (#[({ name := "f", type := 3, offset := 0, embedded := false, tag := "", pkgPath := "testbench/dag", byteOffset := 0 } : Field), { name := "g", type := 3, offset := 1, embedded := false, tag := "", pkgPath := "testbench/dag", byteOffset := 8 }, { name := "h", type := 3, offset := 2, embedded := false, tag := "", pkgPath := "testbench/dag", byteOffset := 16 }].mapM fun f => (do pure (f.offset, ← sizeOf f.type) : Sem (Nat × Nat))).run Try.prog w = .ok #[(0, 1), (1, 1), (2, 1)] w := by
  simp [Try.sizeOf3]
theorem pl83 (w : World) : (#[({ name := "operation", type := 79, offset := 0, embedded := true, tag := "", pkgPath := "testbench/dag", byteOffset := 0 } : Field), { name := "level", type := 3, offset := 1, embedded := false, tag := "", pkgPath := "testbench/dag", byteOffset := 8 }, { name := "at", type := 80, offset := 2, embedded := false, tag := "", pkgPath := "testbench/dag", byteOffset := 16 }, { name := "done", type := 81, offset := 3, embedded := false, tag := "", pkgPath := "testbench/dag", byteOffset := 24 }].mapM fun f => (do pure (f.offset, ← sizeOf f.type) : Sem (Nat × Nat))).run Try.prog w = .ok #[(0, 1), (1, 1), (2, 1), (3, 1)] w := by
  simp [Try.sizeOf3, Try.sizeOf79, Try.sizeOf80, Try.sizeOf81]
theorem pl86 (w : World) : (#[({ name := "builder", type := 58, offset := 0, embedded := true, tag := "", pkgPath := "testbench/dag", byteOffset := 0 } : Field), { name := "value", type := 70, offset := 1, embedded := false, tag := "", pkgPath := "testbench/dag", byteOffset := 8 }, { name := "known", type := 84, offset := 2, embedded := false, tag := "", pkgPath := "testbench/dag", byteOffset := 16 }].mapM fun f => (do pure (f.offset, ← sizeOf f.type) : Sem (Nat × Nat))).run Try.prog w = .ok #[(0, 1), (1, 1), (2, 1)] w := by
  simp [Try.sizeOf58, Try.sizeOf70, Try.sizeOf84]
theorem pl90 (w : World) : (#[({ name := "nodes", type := 22, offset := 0, embedded := false, tag := "", pkgPath := "testbench/dag", byteOffset := 0 } : Field), { name := "at", type := 88, offset := 1, embedded := false, tag := "", pkgPath := "testbench/dag", byteOffset := 24 }, { name := "full", type := 4, offset := 2, embedded := false, tag := "", pkgPath := "testbench/dag", byteOffset := 32 }].mapM fun f => (do pure (f.offset, ← sizeOf f.type) : Sem (Nat × Nat))).run Try.prog w = .ok #[(0, 1), (1, 1), (2, 1)] w := by
  simp [Try.sizeOf22, Try.sizeOf4, Try.sizeOf88]
theorem pl96 (w : World) : (#[({ name := "L", type := 22, offset := 0, embedded := false, tag := "", pkgPath := "", byteOffset := 0 } : Field), { name := "Full", type := 4, offset := 1, embedded := false, tag := "", pkgPath := "", byteOffset := 24 }].mapM fun f => (do pure (f.offset, ← sizeOf f.type) : Sem (Nat × Nat))).run Try.prog w = .ok #[(0, 1), (1, 1)] w := by
  simp [Try.sizeOf22, Try.sizeOf4]
end Go.Proofs.Ytdcmldlnhikbcaa
