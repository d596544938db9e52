/- Streams of children: which are the same. -/
import Derived.Test.YteannfdcbblooaaDoorThG
namespace Go.Proofs.YteannfdcbblooaaDoor
open Go.Sim
/-! Streams of children. -/
theorem shift_inj {a b : B64} {n : Nat} (hn : 0 < n) (h : a ^^^ (a >>> n) = b ^^^ (b >>> n)) : a = b := by
  have h1 : (a ^^^ b) = (a ^^^ b) >>> n := by
    rw [BitVec.ushiftRight_xor_distrib]
    have : a ^^^ (a >>> n) ^^^ (b ^^^ (b >>> n)) = 0#64 := by rw [h, BitVec.xor_self]
    have e : (a ^^^ b) ^^^ ((a >>> n) ^^^ (b >>> n)) = 0#64 := by rw [← this]; ac_rfl
    have := congrArg (· ^^^ ((a >>> n) ^^^ (b >>> n))) e
    simp only [BitVec.xor_assoc, BitVec.xor_self, BitVec.xor_zero, BitVec.zero_xor] at this
    exact this
  have h2 : (a ^^^ b).toNat = (a ^^^ b).toNat / 2 ^ n := by
    have := congrArg BitVec.toNat h1
    rwa [BitVec.toNat_ushiftRight, Nat.shiftRight_eq_div_pow] at this
  have h3 : (a ^^^ b).toNat = 0 := by
    rcases Nat.eq_zero_or_pos (a ^^^ b).toNat with h0 | h0
    · exact h0
    · have : (a ^^^ b).toNat / 2 ^ n < (a ^^^ b).toNat := Nat.div_lt_self h0 (by
        have : 2 ^ 1 ≤ 2 ^ n := Nat.pow_le_pow_right (by decide) hn
        omega)
      omega
  have h4 : a ^^^ b = 0#64 := BitVec.eq_of_toNat_eq (by rw [h3]; rfl)
  have := congrArg (· ^^^ b) h4
  simp only [BitVec.xor_assoc, BitVec.xor_self, BitVec.xor_zero, BitVec.zero_xor] at this
  exact this
theorem mul_inj {a b c d : B64} (hc : c * d = 1#64) (h : a * c = b * c) : a = b := by
  have := congrArg (· * d) h
  simp only [BitVec.mul_assoc, hc, BitVec.mul_one] at this
  exact this
theorem fin_inj {a b : B64} (h : finB a = finB b) : a = b := by
  rw [finB_eq, finB_eq] at h
  dsimp only at h
  have h1 := shift_inj (by decide) h
  have h2 := mul_inj (d := BitVec.ofNat 64 3573116690164977347) (by decide +kernel) h1
  have h3 := shift_inj (by decide) h2
  have h4 := mul_inj (d := BitVec.ofNat 64 10871156337175269513) (by decide +kernel) h3
  exact shift_inj (by decide) h4
theorem mix_inj {k a b : B64} (h : mixB k a = mixB k b) : a = b := by
  rw [mixB_eq, mixB_eq] at h
  have h1 := fin_inj h
  have h2 : BitVec.ofNat 64 11400714819323198485 * (a + BitVec.ofNat 64 1) = BitVec.ofNat 64 11400714819323198485 * (b + BitVec.ofNat 64 1) := by
    have := congrArg (fun x => x - k) h1
    simpa [BitVec.add_comm k, BitVec.add_sub_cancel] using this
  rw [BitVec.mul_comm, BitVec.mul_comm _ (b + _)] at h2
  have h3 := mul_inj (d := BitVec.ofNat 64 17428512612931826493) (by decide +kernel) h2
  have := congrArg (fun x => x - BitVec.ofNat 64 1) h3
  simpa [BitVec.add_sub_cancel] using this
theorem child_inj (r : Rn) (s t : List UInt8) : decide (childR r s = childR r t) = decide (U (hashB s) = U (hashB t)) := by
  apply decide_eq_decide.2
  rw [U_inj]
  constructor
  · intro h
    exact mix_inj (congrArg Rn.key h)
  · intro h
    unfold childR; rw [h]
theorem eql34z {M : List MF} {o : Oper} {σ : Nat → Option Rp} {x y : Operand} {n : Rn} {T' : TypeId} (h : o.op = .binOp .eql 34 x y T') (hx : Get σ x (Rp.agg (eRn n))) (hy : Get σ y (Rp.agg [Rp.int .u64 0, Rp.int .u64 0])) : Go.Sim.Spec Tryd.prog σ M o (.one (Rp.bool (decide (n = zeroR)))) :=
  eql34 h hx (by rw [zeroR_eq]; exact hy)
theorem nums_fact {i j : Int} (w : World) (C : Nat → Prop) (v : Value) (h : (Rp.agg [Rp.int .u16 i, Rp.int .u16 j]).p w C v) : (0 ≤ i ∧ i ≤ 65535) ∧ (0 ≤ j ∧ j ≤ 65535) :=
  agg_fact (fun w C vs h => by
    match vs, h with
    | [a, b], ⟨h1, h2, _⟩ =>
      have q1 : InR .u16 i := h1.2
      have q2 : InR .u16 j := h2.2
      simp only [InR] at q1 q2
      exact ⟨q1, q2⟩) w C v h
theorem child_text {s : List UInt8} {i : Int} (h : (childQ (numsP s) i).2 = 0) : (childQ (numsP s) i).1 = pre (numsP s).1 ++ fmt i := by
  obtain ⟨_, _, _, he, _⟩ := child_nums h
  rw [he]; exact joinT_snoc _ _
theorem child_tail {s : List UInt8} {i : Int} (h : (childQ (numsP s) i).2 = 0) : TailOf (childQ (numsP s) i).1 i := ⟨pre (numsP s).1, child_text h, pre_end _⟩
theorem child_long {s : List UInt8} {i : Int} (h : (childQ (numsP s) i).2 = 0) : (fmt i).length ≤ (childQ (numsP s) i).1.length := by
  rw [child_text h, List.length_append]; omega
theorem child_stream {s : List UInt8} {i : Int} (x : B64) (h : (childQ (numsP s) i).2 = 0) : streamQ x (numsP (childQ (numsP s) i).1) = (childR (foldR x (numsP s).1) (fmt i), 0) := by
  obtain ⟨_, _, _, _, hn⟩ := child_nums h
  rw [hn, stream_yes rfl]
  unfold foldR
  rw [List.foldl_append]; rfl
theorem child_two {s : List UInt8} {i j : Int} (hs : isP s) (hi : 0 ≤ i ∧ i ≤ 65535) (hj : 0 ≤ j ∧ j ≤ 65535) (h : (childQ (numsP s) i).2 ≠ 0 ∨ (childQ (numsP s) j).2 ≠ 0) : (childQ (numsP s) i).2 = 2 ∧ (childQ (numsP s) j).2 = 2 := by
  by_cases hl : ((numsP s).1.length : Int) = 16
  · rw [child_full hs hi.1 (by omega) hl, child_full hs hj.1 (by omega) hl]; exact ⟨rfl, rfl⟩
  · rw [child_yes hs hi.1 (by omega) hl, child_yes hs hj.1 (by omega) hl] at h
    rcases h with h | h <;> exact absurd rfl h
theorem stream_bad {x : B64} {s : List UInt8} (h : (streamQ x (numsP s)).2 ≠ 0) : (numsP s).2 = false ∧ streamQ x (numsP s) = (zeroR, 1) := by
  cases hq : (numsP s).2 with
  | true => rw [stream_yes hq] at h; exact absurd rfl h
  | false => exact ⟨rfl, stream_no hq⟩
theorem stream_good {x : B64} {s : List UInt8} (h : (streamQ x (numsP s)).2 = 0) : isP s ∧ streamQ x (numsP s) = (foldR x (numsP s).1, 0) := by
  cases hq : (numsP s).2 with
  | true => exact ⟨hq, stream_yes hq⟩
  | false => rw [stream_no hq] at h; cases h
theorem dig_end {n : Int} (h0 : 0 ≤ n) (h : n ≤ 9) : (fmt n).length = 1 := by rw [fmt_small h0 (by omega)]; rfl
theorem dig_next {n : Int} (h : 9 < n) : (fmt n).length = (fmt (n / 10)).length + 1 := by rw [fmt_big (by omega)]; simp
theorem tdiv10 {n : Int} (h : 0 ≤ n) : Int.tdiv n 10 = n / 10 := Int.tdiv_eq_ediv_of_nonneg h
end Go.Proofs.YteannfdcbblooaaDoor
