/- The types of chapter 30, as the walk's rules want them. -/
import Derived.Test.YtmoijeodahlbmaaDoorSimU
import Derived.Test.YtmoijeodahlbmaaDoorSimO
import Derived.Test.YtmoijeodahlbmaaDoorSimI
import Derived.Test.YtmoijeodahlbmaaDoorProg
import Derived.KernelRfl
namespace Go.Proofs.YtmoijeodahlbmaaDoor
open Go.Sim

structure Fld where
  name : List UInt8
  lsb : Int
  width : Int
  acc : Int
  rst : Int
  deriving DecidableEq, Inhabited
structure Rg where
  name : List UInt8
  addr : Int
  flds : List Fld
  deriving DecidableEq, Inhabited
structure RMap where
  regs : List Rg
  vals : List Int
  deriving DecidableEq, Inhabited
def eF (f : Fld) : List Rp := [Rp.str f.name, Rp.int .i64 f.lsb, Rp.int .i64 f.width, Rp.int .i64 f.acc, Rp.int .i64 f.rst]
def eR (r : Rg) : List Rp := [Rp.str r.name, Rp.int .i64 r.addr, Rp.slice eF r.flds]
def mR (m : RMap) : List Rp := [Rp.slice eR m.regs, Rp.slice eI m.vals]
theorem mixed : Tryd.prog.follows .mixedOrders = true := by kernel_rfl
theorem fld51 : FldP Tryd.prog [({ name := "Name", type := 9, offset := 0, embedded := false, tag := "", pkgPath := "", byteOffset := 0 } : Field), { name := "Lsb", type := 3, offset := 1, embedded := false, tag := "", pkgPath := "", byteOffset := 16 }, { name := "Width", type := 3, offset := 2, embedded := false, tag := "", pkgPath := "", byteOffset := 24 }, { name := "Access", type := 3, offset := 3, embedded := false, tag := "", pkgPath := "", byteOffset := 32 }, { name := "Reset", type := 3, offset := 4, embedded := false, tag := "", pkgPath := "", byteOffset := 40 }] [.str, .int, .int, .int, .int] 0 :=
  .cons (by decide) rfl Tryd.underlying9 trivial Tryd.isAgg9 (.cons (by decide) rfl Tryd.underlying3 trivial Tryd.isAgg3 (.cons (by decide) rfl Tryd.underlying3 trivial Tryd.isAgg3 (.cons (by decide) rfl Tryd.underlying3 trivial Tryd.isAgg3 (.cons (by decide) rfl Tryd.underlying3 trivial Tryd.isAgg3 .nil))))
section
variable {M : List MF} {o : Oper} {σ : Nat → Option Rp}
theorem eq51 (n m : Fld) : ([decide (n.name = m.name), decide (n.lsb = m.lsb), decide (n.width = m.width), decide (n.acc = m.acc), decide (n.rst = m.rst)].all id) = decide (n = m) := by
  rw [Bool.eq_iff_iff]; cases n; cases m; simp
theorem neq51 {x y : Operand} {n m : Fld} {T' : TypeId} (h : o.op = .binOp .neq 51 x y T') (hx : Get σ x (Rp.agg (eF n))) (hy : Get σ y (Rp.agg (eF m))) : Go.Sim.Spec Tryd.prog σ M o (.one (Rp.bool (!decide (n = m)))) := by
  rw [← eq51]; exact spec_neqA h Tryd.underlying51 (by kernel_rfl) (by kernel_rfl) fld51 (.str (.int (.int (.int (.int .nil))))) hx hy
end
theorem map_fact {m : RMap} (w : World) (C : Nat → Prop) (v : Value) (h : (Rp.agg (mR m)).p w C v) : m.regs.length ≤ 9223372036854775807 ∧ m.vals.length ≤ 9223372036854775807 :=
  agg_fact (fun w C vs h => by
    match vs, h with
    | [a, b], ⟨h1, h2, _⟩ => exact ⟨h1.1, h2.1⟩) w C v h
theorem reg_fact {m : Rg} (w : World) (C : Nat → Prop) (v : Value) (h : (Rp.agg (eR m)).p w C v) : InR .i64 m.addr ∧ m.flds.length ≤ 9223372036854775807 :=
  agg_fact (fun w C vs h => by
    match vs, h with
    | [a, b, c], ⟨h1, h2, h3, _⟩ => exact ⟨h2.2, h3.1⟩) w C v h
theorem fld_fact {m : Fld} (w : World) (C : Nat → Prop) (v : Value) (h : (Rp.agg (eF m)).p w C v) : InR .i64 m.lsb ∧ InR .i64 m.width ∧ InR .i64 m.acc ∧ InR .i64 m.rst :=
  agg_fact (fun w C vs h => by
    match vs, h with
    | [a, b, c, d, e], ⟨h1, h2, h3, h4, h5, _⟩ => exact ⟨h2.2, h3.2, h4.2, h5.2⟩) w C v h
theorem ti3 : TI Tryd.prog 3 1 8 (.int .i64 0) := ⟨⟨Tryd.t3, by kernel_rfl, by kernel_rfl, by kernel_rfl, by kernel_rfl⟩⟩
theorem z3 (w : World) (C : Nat → Prop) : AllR [Rp.int .i64 0] w C (Value.int .i64 0).cells.toList := allR_of rfl ⟨zint rfl w C, trivial⟩
theorem ti9 : TI Tryd.prog 9 1 16 (.string ⟨#[]⟩) := ⟨⟨Tryd.t9, by kernel_rfl, by kernel_rfl, by kernel_rfl, by kernel_rfl⟩⟩
theorem z9 (w : World) (C : Nat → Prop) : AllR [Rp.str []] w C (Value.string ⟨#[]⟩).cells.toList := allR_of rfl ⟨zstr w C, trivial⟩
theorem ti23 : TI Tryd.prog 23 1 24 (.slice none 0 0) := ⟨⟨Tryd.t23, by kernel_rfl, by kernel_rfl, by kernel_rfl, by kernel_rfl⟩⟩
theorem z23 (w : World) (C : Nat → Prop) : AllR [Rp.slice eI []] w C (Value.slice none 0 0).cells.toList := allR_of rfl ⟨zslice w C, trivial⟩
theorem z23v (w : World) (C : Nat → Prop) : AllR [Rp.val (.slice none 0 0)] w C (Value.slice none 0 0).cells.toList := allR_of rfl ⟨zval w C, trivial⟩
theorem ti25 : TI Tryd.prog 25 2 48 (.agg #[.slice none 0 0, .slice none 0 0]) := ⟨⟨Tryd.t25, by kernel_rfl, by kernel_rfl, by kernel_rfl, by kernel_rfl⟩⟩
theorem z25 (w : World) (C : Nat → Prop) : AllR [Rp.slice eR [], Rp.slice eI []] w C (Value.agg #[.slice none 0 0, .slice none 0 0]).cells.toList := allR_of rfl ⟨zslice w C, zslice w C, trivial⟩
theorem z25v (w : World) (C : Nat → Prop) : AllR [Rp.val (.slice none 0 0), Rp.val (.slice none 0 0)] w C (Value.agg #[.slice none 0 0, .slice none 0 0]).cells.toList := allR_of rfl ⟨zval w C, zval w C, trivial⟩
theorem ti37 : TI Tryd.prog 37 3 24 (.agg #[.int .i64 0, .int .i64 0, .int .i64 0]) := ⟨⟨Tryd.t37, by kernel_rfl, by kernel_rfl, by kernel_rfl, by kernel_rfl⟩⟩
theorem z37 (w : World) (C : Nat → Prop) : AllR [Rp.int .i64 0, Rp.int .i64 0, Rp.int .i64 0] w C (Value.agg #[.int .i64 0, .int .i64 0, .int .i64 0]).cells.toList := allR_of rfl ⟨zint rfl w C, zint rfl w C, zint rfl w C, trivial⟩
theorem ti49 : TI Tryd.prog 49 3 48 (.agg #[.string ⟨#[]⟩, .int .i64 0, .slice none 0 0]) := ⟨⟨Tryd.t49, by kernel_rfl, by kernel_rfl, by kernel_rfl, by kernel_rfl⟩⟩
theorem z49 (w : World) (C : Nat → Prop) : AllR [Rp.str [], Rp.int .i64 0, Rp.slice eF []] w C (Value.agg #[.string ⟨#[]⟩, .int .i64 0, .slice none 0 0]).cells.toList := allR_of rfl ⟨zstr w C, zint rfl w C, zslice w C, trivial⟩
theorem z49v (w : World) (C : Nat → Prop) : AllR [Rp.str [], Rp.int .i64 0, Rp.val (.slice none 0 0)] w C (Value.agg #[.string ⟨#[]⟩, .int .i64 0, .slice none 0 0]).cells.toList := allR_of rfl ⟨zstr w C, zint rfl w C, zval w C, trivial⟩
theorem ti51 : TI Tryd.prog 51 5 48 (.agg #[.string ⟨#[]⟩, .int .i64 0, .int .i64 0, .int .i64 0, .int .i64 0]) := ⟨⟨Tryd.t51, by kernel_rfl, by kernel_rfl, by kernel_rfl, by kernel_rfl⟩⟩
theorem z51 (w : World) (C : Nat → Prop) : AllR [Rp.str [], Rp.int .i64 0, Rp.int .i64 0, Rp.int .i64 0, Rp.int .i64 0] w C (Value.agg #[.string ⟨#[]⟩, .int .i64 0, .int .i64 0, .int .i64 0, .int .i64 0]).cells.toList := allR_of rfl ⟨zstr w C, zint rfl w C, zint rfl w C, zint rfl w C, zint rfl w C, trivial⟩
theorem pl25 (w : World) : (#[({ name := "Regs", type := 22, offset := 0, embedded := false, tag := "", pkgPath := "", byteOffset := 0 } : Field), { name := "Values", type := 23, offset := 1, embedded := false, tag := "", pkgPath := "", byteOffset := 24 }].mapM fun f => (do pure (f.offset, ← sizeOf f.type) : Sem (Nat × Nat))).run Tryd.prog w = .ok #[(0, 1), (1, 1)] w := by
  simp [Tryd.sizeOf22, Tryd.sizeOf23]
theorem pl49 (w : World) : (#[({ name := "Name", type := 9, offset := 0, embedded := false, tag := "", pkgPath := "", byteOffset := 0 } : Field), { name := "Addr", type := 3, offset := 1, embedded := false, tag := "", pkgPath := "", byteOffset := 16 }, { name := "Fields", type := 47, offset := 2, embedded := false, tag := "", pkgPath := "", byteOffset := 24 }].mapM fun f => (do pure (f.offset, ← sizeOf f.type) : Sem (Nat × Nat))).run Tryd.prog w = .ok #[(0, 1), (1, 1), (2, 1)] w := by
  simp [Tryd.sizeOf3, Tryd.sizeOf47, Tryd.sizeOf9]
theorem pl51 (w : World) : (#[({ name := "Name", type := 9, offset := 0, embedded := false, tag := "", pkgPath := "", byteOffset := 0 } : Field), { name := "Lsb", type := 3, offset := 1, embedded := false, tag := "", pkgPath := "", byteOffset := 16 }, { name := "Width", type := 3, offset := 2, embedded := false, tag := "", pkgPath := "", byteOffset := 24 }, { name := "Access", type := 3, offset := 3, embedded := false, tag := "", pkgPath := "", byteOffset := 32 }, { name := "Reset", type := 3, offset := 4, embedded := false, tag := "", pkgPath := "", byteOffset := 40 }].mapM fun f => (do pure (f.offset, ← sizeOf f.type) : Sem (Nat × Nat))).run Tryd.prog w = .ok #[(0, 1), (1, 1), (2, 1), (3, 1), (4, 1)] w := by
  simp [Tryd.sizeOf3, Tryd.sizeOf9]
end Go.Proofs.YtmoijeodahlbmaaDoor
