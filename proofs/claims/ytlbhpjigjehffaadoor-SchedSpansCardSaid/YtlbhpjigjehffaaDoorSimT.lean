/- Bit operations on numbers that are not negative, by their bits; shifts that fit. -/
import Derived.Test.YtlbhpjigjehffaaDoorSimS
namespace Go.Sim

/-- The bits of a that b does not have. -/
def nandn (a b : Nat) : Nat := a ^^^ (a &&& b)
theorem nandn_bit (a b i : Nat) : (nandn a b).testBit i = (a.testBit i && !b.testBit i) := by
  simp only [nandn, Nat.testBit_xor, Nat.testBit_and]
  cases a.testBit i <;> cases b.testBit i <;> rfl
theorem nandn_le (a b : Nat) : nandn a b ≤ a := by
  have h : nandn a b = a &&& nandn a b := by
    apply Nat.eq_of_testBit_eq
    intro i
    rw [Nat.testBit_and, nandn_bit]
    cases a.testBit i <;> cases b.testBit i <;> rfl
  rw [h]; exact Nat.and_le_left
theorem ofInt_nat (a : Nat) : BitVec.ofInt 64 (a : Int) = BitVec.ofNat 64 a := by
  apply BitVec.eq_of_toNat_eq
  simp
theorem toNat_small {a : Nat} (h : a < 9223372036854775808) : (BitVec.ofNat 64 a).toNat = a := by
  rw [BitVec.toNat_ofNat, Nat.mod_eq_of_lt (by omega)]
theorem in64 {a : Nat} (h : a < 9223372036854775808) : InR .i64 (a : Int) := by simp only [InR]; omega
theorem and_nat {a b : Nat} (ha : a < 9223372036854775808) (hb : b < 9223372036854775808) : bitsOf .and .i64 a b = ((a &&& b : Nat) : Int) := by
  have e : (BitVec.ofNat 64 a &&& BitVec.ofNat 64 b).toNat = a &&& b := by rw [BitVec.toNat_and, toNat_small ha, toNat_small hb]
  show IntKind.i64.wrap (((BitVec.ofInt 64 (a : Int) &&& BitVec.ofInt 64 (b : Int)).toNat : Nat) : Int) = _
  rw [ofInt_nat, ofInt_nat, e]
  exact wrap_in (in64 (Nat.lt_of_le_of_lt Nat.and_le_left ha))
theorem or_lt {a b : Nat} (ha : a < 9223372036854775808) (hb : b < 9223372036854775808) : a ||| b < 9223372036854775808 :=
  Nat.or_lt_two_pow (n := 63) (by simpa using ha) (by simpa using hb)
theorem or_nat {a b : Nat} (ha : a < 9223372036854775808) (hb : b < 9223372036854775808) : bitsOf .or .i64 a b = ((a ||| b : Nat) : Int) := by
  have e : (BitVec.ofNat 64 a ||| BitVec.ofNat 64 b).toNat = a ||| b := by rw [BitVec.toNat_or, toNat_small ha, toNat_small hb]
  show IntKind.i64.wrap (((BitVec.ofInt 64 (a : Int) ||| BitVec.ofInt 64 (b : Int)).toNat : Nat) : Int) = _
  rw [ofInt_nat, ofInt_nat, e]
  exact wrap_in (in64 (or_lt ha hb))
theorem andNot_nat {a b : Nat} (ha : a < 9223372036854775808) (hb : b < 9223372036854775808) : bitsOf .andNot .i64 a b = (nandn a b : Int) := by
  have e0 : BitVec.ofNat 64 a &&& ~~~BitVec.ofNat 64 b = BitVec.ofNat 64 a ^^^ (BitVec.ofNat 64 a &&& BitVec.ofNat 64 b) := by
    apply BitVec.eq_of_getLsbD_eq
    intro i hi
    simp only [BitVec.getLsbD_and, BitVec.getLsbD_not, BitVec.getLsbD_xor, hi, decide_true, Bool.true_and]
    cases (BitVec.ofNat 64 a).getLsbD i <;> cases (BitVec.ofNat 64 b).getLsbD i <;> rfl
  have e : (BitVec.ofNat 64 a &&& ~~~BitVec.ofNat 64 b).toNat = nandn a b := by rw [e0, BitVec.toNat_xor, BitVec.toNat_and, toNat_small ha, toNat_small hb]; rfl
  show IntKind.i64.wrap (((BitVec.ofInt 64 (a : Int) &&& ~~~BitVec.ofInt 64 (b : Int)).toNat : Nat) : Int) = _
  rw [ofInt_nat, ofInt_nat, e]
  exact wrap_in (in64 (Nat.lt_of_le_of_lt (nandn_le a b) ha))

section
variable {P : Program} {M : List MF} {o : Oper} {σ : Nat → Option Rp}
theorem spec_shlF {T T' : TypeId} {k' : IntKind} {x y : Operand} {m n : Int} (h : o.op = .binOp .shl T x y T') (hx : Get σ x (Rp.int .i64 m)) (hy : Get σ y (Rp.int k' n)) (hn : 0 ≤ n) (hn2 : n ≤ 64) (h0 : 0 ≤ m * 2 ^ n.toNat ∧ m * 2 ^ n.toNat ≤ 9223372036854775807) : Spec P σ M o (.one (Rp.int .i64 (m * 2 ^ n.toNat))) := by
  have := spec_shl (P := P) (M := M) h hx hy hn
  rw [show min n.toNat IntKind.i64.bits = n.toNat by simp [IntKind.bits]; omega, wrap_in (k := .i64) ⟨by omega, by omega⟩] at this
  exact this
theorem spec_shrF {T T' : TypeId} {k k' : IntKind} {x y : Operand} {m n : Int} (h : o.op = .binOp .shr T x y T') (hx : Get σ x (Rp.int k m)) (hy : Get σ y (Rp.int k' n)) (hn : 0 ≤ n) (hn2 : n.toNat ≤ k.bits) : Spec P σ M o (.one (Rp.int k (m / 2 ^ n.toNat))) := by
  have := spec_shr (P := P) (M := M) h hx hy hn
  have hp : (0 : Int) < 2 ^ n.toNat := Int.pow_pos (by decide)
  rw [Nat.min_eq_left hn2, Int.fdiv_eq_ediv_of_nonneg _ (Int.le_of_lt hp)] at this
  exact this
end
end Go.Sim
