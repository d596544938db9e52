/- The types of chapter 27, as the walk's rules want them; numbers of 64 bits. -/
import Derived.Test.YteannfdcbblooaaDoorSimW
import Derived.Test.YteannfdcbblooaaDoorSimO
import Derived.Test.YteannfdcbblooaaDoorSimI
import Derived.Test.YteannfdcbblooaaDoorProg
import Derived.KernelRfl
namespace Go.Proofs.YteannfdcbblooaaDoor
open Go.Sim

abbrev B64 := BitVec 64
def U (x : B64) : Int := (x.toNat : Int)
structure Rn where
  key : B64
  cnt : B64
  deriving DecidableEq, Inhabited
def eU8 (b : UInt8) : List Rp := [Rp.int .u8 (b.toNat : Int)]
def eRn (r : Rn) : List Rp := [Rp.int .u64 (U r.key), Rp.int .u64 (U r.cnt)]
theorem mixed : Tryd.prog.follows .mixedOrders = true := by kernel_rfl
theorem fld34 : FldP Tryd.prog [({ name := "Key", type := 32, offset := 0, embedded := false, tag := "", pkgPath := "", byteOffset := 0 } : Field), { name := "Count", type := 32, offset := 1, embedded := false, tag := "", pkgPath := "", byteOffset := 8 }] [.int, .int] 0 :=
  .cons (by decide) rfl Tryd.underlying32 trivial Tryd.isAgg32 (.cons (by decide) rfl Tryd.underlying32 trivial Tryd.isAgg32 .nil)
theorem U_inj {x y : B64} : (U x = U y) ↔ x = y := by
  unfold U; rw [Int.ofNat_inj]; exact ⟨BitVec.eq_of_toNat_eq, congrArg _⟩
theorem U_range (x : B64) : 0 ≤ U x ∧ U x ≤ 18446744073709551615 := by
  have := x.isLt; unfold U; omega
theorem U_of {n : Int} (h : 0 ≤ n ∧ n ≤ 18446744073709551615) : U (BitVec.ofInt 64 n) = n := by
  unfold U; rw [BitVec.toNat_ofInt]; omega
theorem Get.cU {σ : Nat → Option Rp} {n : Int} (m : B64) (h : U m = n) : Get σ (.const (.int .u64 n)) (Rp.int .u64 (U m)) := by
  subst h; exact Get.cint (by have := U_range m; simp only [inRB, Bool.and_eq_true, decide_eq_true_eq]; exact this)
section
variable {M : List MF} {o : Oper} {σ : Nat → Option Rp}
theorem eq34 (n m : Rn) : ([decide (U n.key = U m.key), decide (U n.cnt = U m.cnt)].all id) = decide (n = m) := by
  rw [Bool.eq_iff_iff]; cases n; cases m; simp [U_inj]
theorem eql34 {x y : Operand} {n m : Rn} {T' : TypeId} (h : o.op = .binOp .eql 34 x y T') (hx : Get σ x (Rp.agg (eRn n))) (hy : Get σ y (Rp.agg (eRn m))) : Go.Sim.Spec Tryd.prog σ M o (.one (Rp.bool (decide (n = m)))) := by
  rw [← eq34]; exact spec_eqlA h Tryd.underlying34 (by kernel_rfl) (by kernel_rfl) fld34 (.int (.int .nil)) hx hy
theorem u_wrap (e : Int) : IntKind.u64.wrap e = e % 18446744073709551616 := by simp [IntKind.wrap, IntKind.bits, IntKind.signed]
variable {P : Program}
theorem spec_addU {T T' : TypeId} {x y : Operand} {m n : B64} (h : o.op = .binOp .add T x y T') (hx : Get σ x (Rp.int .u64 (U m))) (hy : Get σ y (Rp.int .u64 (U n))) : Go.Sim.Spec P σ M o (.one (Rp.int .u64 (U (m + n)))) := by
  have := spec_add (P := P) (M := M) h hx hy
  rw [u_wrap, show (U m + U n) % 18446744073709551616 = U (m + n) by unfold U; rw [BitVec.toNat_add]; omega] at this
  exact this
theorem spec_mulU {T T' : TypeId} {x y : Operand} {m n : B64} (h : o.op = .binOp .mul T x y T') (hx : Get σ x (Rp.int .u64 (U m))) (hy : Get σ y (Rp.int .u64 (U n))) : Go.Sim.Spec P σ M o (.one (Rp.int .u64 (U (m * n)))) := by
  have := spec_mul (P := P) (M := M) h hx hy
  rw [u_wrap, show (U m * U n) % 18446744073709551616 = U (m * n) by unfold U; rw [BitVec.toNat_mul, ← Int.natCast_mul]; omega] at this
  exact this
theorem spec_xorU {T T' : TypeId} {x y : Operand} {m n : B64} (h : o.op = .binOp .xor T x y T') (hx : Get σ x (Rp.int .u64 (U m))) (hy : Get σ y (Rp.int .u64 (U n))) : Go.Sim.Spec P σ M o (.one (Rp.int .u64 (U (m ^^^ n)))) := by
  have := spec_bits (P := P) (M := M) h (by simp) hx hy
  have e : ∀ z : B64, BitVec.ofInt 64 (U z) = z := fun z => by apply BitVec.eq_of_toNat_eq; unfold U; simp
  rw [show bitsOf .xor .u64 (U m) (U n) = U (m ^^^ n) by
    show IntKind.u64.wrap (((BitVec.ofInt 64 (U m) ^^^ BitVec.ofInt 64 (U n)).toNat : Nat) : Int) = _
    rw [e, e, u_wrap]; have := (m ^^^ n).isLt; unfold U; omega] at this
  exact this
theorem spec_shrU {T T' : TypeId} {x y : Operand} {m : B64} {n : Nat} (h : o.op = .binOp .shr T x y T') (hx : Get σ x (Rp.int .u64 (U m))) (hy : Get σ y (Rp.int .u64 (n : Int))) (hn : n ≤ 64) : Go.Sim.Spec P σ M o (.one (Rp.int .u64 (U (m >>> n)))) := by
  have := spec_shrF (P := P) (M := M) h hx hy (by omega) (by simpa [IntKind.bits] using hn)
  rw [show U m / 2 ^ (n : Int).toNat = U (m >>> n) by
    unfold U; rw [BitVec.toNat_ushiftRight, Nat.shiftRight_eq_div_pow, Int.toNat_natCast]; simp] at this
  exact this
theorem spec_convU8 {T T' : TypeId} {x : Operand} {b : UInt8} {k : IntKind} (h : o.op = .convert T T' x) (h1 : P.underlying T = some (.int .u8)) (h2 : P.underlying T' = some (.int .u64)) (hx : Get σ x (Rp.int k (b.toNat : Int))) : Go.Sim.Spec P σ M o (.one (Rp.int .u64 (U (BitVec.ofNat 64 b.toNat)))) := by
  have := spec_conv (P := P) (M := M) h h2 ⟨_, h1⟩ hx
  rw [u_wrap, show ((b.toNat : Int)) % 18446744073709551616 = U (BitVec.ofNat 64 b.toNat) by unfold U; rw [BitVec.toNat_ofNat]; have := b.toNat_lt; omega] at this
  exact this
end
theorem ti3 : TI Tryd.prog 3 1 8 (.int .i64 0) := ⟨⟨Tryd.t3, by kernel_rfl, by kernel_rfl, by kernel_rfl, by kernel_rfl⟩⟩
theorem z3 (w : World) (C : Nat → Prop) : AllR [Rp.int .i64 0] w C (Value.int .i64 0).cells.toList := allR_of rfl ⟨zint rfl w C, trivial⟩
theorem ti5 : TI Tryd.prog 5 1 1 (.int .u8 0) := ⟨⟨Tryd.t5, by kernel_rfl, by kernel_rfl, by kernel_rfl, by kernel_rfl⟩⟩
theorem z5 (w : World) (C : Nat → Prop) : AllR [Rp.int .u8 0] w C (Value.int .u8 0).cells.toList := allR_of rfl ⟨zint rfl w C, trivial⟩
theorem ti9 : TI Tryd.prog 9 1 16 (.string ⟨#[]⟩) := ⟨⟨Tryd.t9, by kernel_rfl, by kernel_rfl, by kernel_rfl, by kernel_rfl⟩⟩
theorem z9 (w : World) (C : Nat → Prop) : AllR [Rp.str []] w C (Value.string ⟨#[]⟩).cells.toList := allR_of rfl ⟨zstr w C, trivial⟩
theorem ti34 : TI Tryd.prog 34 2 16 (.agg #[.int .u64 0, .int .u64 0]) := ⟨⟨Tryd.t34, by kernel_rfl, by kernel_rfl, by kernel_rfl, by kernel_rfl⟩⟩
theorem z34 (w : World) (C : Nat → Prop) : AllR [Rp.int .u64 0, Rp.int .u64 0] w C (Value.agg #[.int .u64 0, .int .u64 0]).cells.toList := allR_of rfl ⟨zint rfl w C, zint rfl w C, trivial⟩
theorem pl34 (w : World) : (#[({ name := "Key", type := 32, offset := 0, embedded := false, tag := "", pkgPath := "", byteOffset := 0 } : Field), { name := "Count", type := 32, offset := 1, embedded := false, tag := "", pkgPath := "", byteOffset := 8 }].mapM fun f => (do pure (f.offset, ← sizeOf f.type) : Sem (Nat × Nat))).run Tryd.prog w = .ok #[(0, 1), (1, 1)] w := by
  simp [Tryd.sizeOf32]
end Go.Proofs.YteannfdcbblooaaDoor
