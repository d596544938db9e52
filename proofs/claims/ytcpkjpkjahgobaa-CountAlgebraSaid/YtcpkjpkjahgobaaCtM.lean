/- Amounts: sums and products of numbers of which one need not be an int; and the product of two words. -/
import Derived.Test.YtcpkjpkjahgobaaCtK
namespace Go.Proofs.Ytcpkjpkjahgobaa
open Go.Sim
open Go

theorem mul_split (x1 x0 y1 y0 : Int) : (4294967296 * x1 + x0) * (4294967296 * y1 + y0) = 18446744073709551616 * (x1 * y1) + 4294967296 * (x1 * y0 + x0 * y1) + x0 * y0 := by grind
theorem prod_in {u v : Int} (hu : 0 ≤ u ∧ u ≤ 4294967295) (hv : 0 ≤ v ∧ v ≤ 4294967295) : 0 ≤ u * v ∧ u * v ≤ 18446744065119617025 :=
  ⟨Int.mul_nonneg hu.1 hv.1, Int.le_trans (Int.mul_le_mul hu.2 hv.2 hv.1 (by decide)) (by decide)⟩
theorem mul_hi {x y : Int} (_hx : 0 ≤ x ∧ x ≤ 18446744073709551615) (_hy : 0 ≤ y ∧ y ≤ 18446744073709551615) :
    x / 4294967296 * (y / 4294967296) + (x / 4294967296 * (y % 4294967296) + x % 4294967296 * (y % 4294967296) / 4294967296) / 4294967296 + ((x / 4294967296 * (y % 4294967296) + x % 4294967296 * (y % 4294967296) / 4294967296) % 4294967296 + x % 4294967296 * (y / 4294967296)) / 4294967296 = x * y / 18446744073709551616 := by
  have e := mul_split (x / 4294967296) (x % 4294967296) (y / 4294967296) (y % 4294967296)
  rw [Int.mul_ediv_add_emod, Int.mul_ediv_add_emod] at e
  rw [e]
  have a := prod_in (u := x % 4294967296) (v := y % 4294967296) (by omega) (by omega)
  generalize x / 4294967296 * (y / 4294967296) = d
  generalize x / 4294967296 * (y % 4294967296) = b
  generalize x % 4294967296 * (y % 4294967296) = q at a ⊢
  generalize x % 4294967296 * (y / 4294967296) = c
  omega
theorem u64_wrap (e : Int) : IntKind.u64.wrap e = e % 18446744073709551616 := by simp [IntKind.wrap, IntKind.bits, IntKind.signed]
section
variable {P : Program} {σ : Nat → Option Rp} {M : List MF} {o : Oper}
theorem spec_and32 {T T' : TypeId} {x y : Operand} {m : Int} (h : o.op = .binOp .and T x y T') (hx : Get σ x (Rp.int .u64 m)) (hy : Get σ y (Rp.int .u64 4294967295)) (h0 : 0 ≤ m) (h1 : m ≤ 18446744073709551615) : Go.Sim.Spec P σ M o (.one (Rp.int .u64 (m % 4294967296))) := by
  have := spec_bits (P := P) (M := M) h (.inl rfl) hx hy
  have e : bitsOf .and .u64 m 4294967295 = m % 4294967296 := by
    obtain ⟨k, rfl⟩ : ∃ k : Nat, m = k := ⟨m.toNat, by omega⟩
    have hk : k < 2 ^ 64 := by omega
    have e1 : ((BitVec.ofInt 64 (k : Int)) &&& BitVec.ofInt 64 4294967295).toNat = k % 4294967296 := by
      rw [BitVec.toNat_and, BitVec.toNat_ofInt, BitVec.toNat_ofInt]
      have q1 : ((k : Int) % ((2 ^ 64 : Nat) : Int)).toNat = k := by omega
      have q2 : ((4294967295 : Int) % ((2 ^ 64 : Nat) : Int)).toNat = 2 ^ 32 - 1 := by decide
      rw [q1, q2, Nat.and_two_pow_sub_one_eq_mod]
    have e2 : bitsOf .and .u64 (k : Nat) 4294967295 = IntKind.u64.wrap (((BitVec.ofInt 64 (k : Int)) &&& BitVec.ofInt 64 4294967295).toNat : Nat) := rfl
    rw [e2, e1, u64_wrap]; omega
  rw [e] at this; exact this
theorem spec_shr32 {T T' : TypeId} {k' : IntKind} {x y : Operand} {m : Int} (h : o.op = .binOp .shr T x y T') (hx : Get σ x (Rp.int .u64 m)) (hy : Get σ y (Rp.int k' 32)) : Go.Sim.Spec P σ M o (.one (Rp.int .u64 (m / 4294967296))) := by
  have := spec_shr (P := P) (M := M) h hx hy (by decide)
  rw [Int.fdiv_eq_ediv_of_nonneg _ (by decide)] at this
  exact this
end
/-! Sums and products. -/
theorem amt_in (x : Nat) : 0 ≤ (amt x).n ∧ (amt x).n ≤ 9223372036854775807 := by unfold amt; split <;> dsimp only <;> omega
theorem amt_small {x : Nat} (h : x ≤ 9223372036854775807) : amt x = ⟨x, false⟩ := if_pos h
theorem amt_big {x : Nat} (h : ¬ x ≤ 9223372036854775807) : amt x = ⟨0, true⟩ := if_neg h
theorem amt_fine {x : Nat} (h : (amt x).large = false) : x ≤ 9223372036854775807 ∧ (amt x).n = x := by
  by_cases hx : x ≤ 9223372036854775807
  · rw [amt_small hx]; exact ⟨hx, rfl⟩
  · rw [amt_big hx] at h; cases h
theorem amt_large {x : Nat} (h : (amt x).large = true) : ¬ x ≤ 9223372036854775807 := fun hx => by rw [amt_small hx] at h; cases h
theorem plus_large {x y : Nat} (h : (((amt x).large || (amt y).large) || decide (9223372036854775807 - (amt y).n < (amt x).n)) = true) : amt (x + y) = ⟨0, true⟩ := by
  apply amt_big
  simp only [Bool.or_eq_true, decide_eq_true_eq] at h
  rcases h with (h | h) | h
  · have := amt_large h; omega
  · have := amt_large h; omega
  · cases h1 : (amt x).large with
    | true => have := amt_large h1; omega
    | false => cases h2 : (amt y).large with
      | true => have := amt_large h2; omega
      | false => have := amt_fine h1; have := amt_fine h2; omega
theorem plus_small {x y : Nat} (h : (((amt x).large || (amt y).large) || decide (9223372036854775807 - (amt y).n < (amt x).n)) = false) : amt (x + y) = ⟨(amt x).n + (amt y).n, false⟩ := by
  simp only [Bool.or_eq_false_iff, decide_eq_false_iff_not] at h
  have h1 := amt_fine h.1.1; have h2 := amt_fine h.1.2
  rw [amt_small (by omega), h1.2, h2.2]; simp
theorem times_zero {x y : Nat} (h : ((!(amt x).large && decide ((amt x).n = 0)) || (!(amt y).large && decide ((amt y).n = 0))) = true) : x * y = 0 := by
  simp only [Bool.or_eq_true, Bool.and_eq_true, Bool.not_eq_true', decide_eq_true_eq] at h
  rcases h with ⟨h1, h2⟩ | ⟨h1, h2⟩
  · have := amt_fine h1; have : x = 0 := by omega
    subst this; simp
  · have := amt_fine h1; have : y = 0 := by omega
    subst this; simp
theorem not_zero {x : Nat} (h : (!(amt x).large && decide ((amt x).n = 0)) = false) : 1 ≤ x := by
  simp only [Bool.and_eq_false_iff, Bool.not_eq_false', decide_eq_false_iff_not] at h
  rcases h with h | h
  · have := amt_large h; omega
  · cases hl : (amt x).large with
    | true => have := amt_large hl; omega
    | false => have := amt_fine hl; omega
theorem times_large {x y : Nat} (h0 : ((!(amt x).large && decide ((amt x).n = 0)) || (!(amt y).large && decide ((amt y).n = 0))) = false)
    (h : ((((amt x).large || (amt y).large) || !decide ((amt x).n * (amt y).n / 18446744073709551616 = 0)) || decide (9223372036854775807 < (amt x).n * (amt y).n % 18446744073709551616)) = true) : amt (x * y) = ⟨0, true⟩ := by
  apply amt_big
  obtain ⟨z1, z2⟩ := Bool.or_eq_false_iff.1 h0
  have p1 := not_zero z1; have p2 := not_zero z2
  have q1 : x ≤ x * y := Nat.le_mul_of_pos_right _ p2
  have q2 : y ≤ x * y := Nat.le_mul_of_pos_left _ p1
  cases h1 : (amt x).large with
  | true => have := amt_large h1; omega
  | false => cases h2 : (amt y).large with
    | true => have := amt_large h2; omega
    | false =>
      have f1 := amt_fine h1; have f2 := amt_fine h2
      have e : (amt x).n * (amt y).n = ((x * y : Nat) : Int) := by rw [f1.2, f2.2]; norm_cast
      rw [h1, h2, e] at h
      simp only [Bool.false_or, Bool.or_eq_true, Bool.not_eq_true', decide_eq_false_iff_not, decide_eq_true_eq] at h
      omega
theorem times_small {x y : Nat} (h : ((((amt x).large || (amt y).large) || !decide ((amt x).n * (amt y).n / 18446744073709551616 = 0)) || decide (9223372036854775807 < (amt x).n * (amt y).n % 18446744073709551616)) = false) :
    amt (x * y) = ⟨(amt x).n * (amt y).n % 18446744073709551616, false⟩ ∧ (amt x).n * (amt y).n % 18446744073709551616 ≤ 9223372036854775807 := by
  simp only [Bool.or_eq_false_iff, Bool.not_eq_false', decide_eq_true_eq, decide_eq_false_iff_not] at h
  obtain ⟨⟨⟨h1, h2⟩, h3⟩, h4⟩ := h
  have f1 := amt_fine h1; have f2 := amt_fine h2
  have e : (amt x).n * (amt y).n = ((x * y : Nat) : Int) := by rw [f1.2, f2.2]; norm_cast
  rw [e] at h3 h4 ⊢
  rw [amt_small (by omega)]
  refine ⟨?_, by omega⟩
  congr 1; omega
end Go.Proofs.Ytcpkjpkjahgobaa
