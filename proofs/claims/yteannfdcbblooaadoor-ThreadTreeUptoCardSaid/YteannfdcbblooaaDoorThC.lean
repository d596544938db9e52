/- Steps of the reading of a path. -/
import Derived.Test.YteannfdcbblooaaDoorThW1
namespace Go.Proofs.YteannfdcbblooaaDoor
open Go.Sim
theorem numberI_ok (n : Int) (h : numOk n) : CallT Tryd.prog 42 [Rp.int .i64 n] [] (.one (Rp.str (fmt n ++ [59]))) := by
  have := h.1; have h2 := h.2
  obtain ⟨m, rfl⟩ : ∃ m : Nat, n = m := ⟨n.toNat, by omega⟩
  exact number_ok m (by omega)
theorem runN_rune {s : List UInt8} {k : Nat} {p : PS} (h : runN s k = some p) : runN s (k + 1) = stp p ((runeAt s k).1 : Int) := (runN_step h).trans (rune_stp s k p).symm
theorem stp_dot {p : PS} {c : Int} (h : c = 46 ∧ 0 < p.d) : stp p c = some ⟨p.out ++ [p.n], 0, 0, false⟩ := by unfold stp; rw [if_pos h]
theorem stp_dig {p : PS} {c : Int} (h : ((48 ≤ c ∧ c ≤ 57) ∧ p.lead = false) ∧ p.n ≤ 1048575) (h2 : 10 * p.n + (c - 48) ≤ 1048575) : stp p c = some ⟨p.out, 10 * p.n + (c - 48), p.d + 1, decide (p.d = 0) && decide (c = 48)⟩ := by
  unfold stp; rw [if_neg (by omega), if_pos ⟨h.1.1, h.1.2, h.2⟩, if_pos h2]
theorem stp_over {p : PS} {c : Int} (h : ((48 ≤ c ∧ c ≤ 57) ∧ p.lead = false) ∧ p.n ≤ 1048575) (h2 : ¬ 10 * p.n + (c - 48) ≤ 1048575) : stp p c = none := by
  unfold stp; rw [if_neg (by omega), if_pos ⟨h.1.1, h.1.2, h.2⟩, if_neg h2]
theorem stp_bad {p : PS} {c : Int} (h : (decide (c = 46) && decide (0 < p.d)) = false) (h2 : (((decide (48 ≤ c) && decide (c ≤ 57)) && !p.lead) && decide (p.n ≤ 1048575)) = false) : stp p c = none := by
  unfold stp
  rw [if_neg, if_neg]
  · rintro ⟨a, b, c⟩; simp [a, b, c] at h2
  · rintro ⟨a, b⟩; simp [a, b] at h
theorem stp_bad2 {p : PS} {c : Int} (h : c ≠ 46 ∨ p.d ≤ 0) (h2 : c < 48 ∨ 57 < c) : stp p c = none := by
  unfold stp
  rw [if_neg (by omega), if_neg (by omega)]
/-! The document's reading. -/
def digC (c : Int) : Prop := 48 ≤ c ∧ c ≤ 57
theorem numsR_no {s : List UInt8} (h : (numsP s).2 = false) : numsR s = ([], false) := by unfold numsR; rw [h]; rfl
theorem fail_none {s : List UInt8} {k : Nat} (hk : k ≤ s.length) (h : runN s k = none) : numsR s = ([], false) := numsR_no (by rw [nums_none hk h])
theorem stp_mono {p q : PS} {c : Int} (h : stp p c = some q) : p.out.length ≤ q.out.length := by
  unfold stp at h
  split at h
  · cases h; simp
  · split at h
    · split at h
      · cases h; exact Nat.le_refl _
      · cases h
    · cases h
theorem runN_mono {s : List UInt8} {k : Nat} {p : PS} (h : runN s k = some p) : ∀ {j : Nat} {q : PS}, k ≤ j → runN s j = some q → p.out.length ≤ q.out.length
  | 0, q, hj, hq => by
    obtain rfl : k = 0 := by omega
    rw [h] at hq; cases hq; exact Nat.le_refl _
  | j + 1, q, hj, hq => by
    by_cases e : k = j + 1
    · subst e; rw [h] at hq; cases hq; exact Nat.le_refl _
    · rw [runN] at hq
      cases hr : runN s j with
      | none => rw [hr] at hq; cases hq
      | some r => rw [hr] at hq; exact Nat.le_trans (runN_mono h (by omega) hr) (stp_mono hq)
theorem fail_out {s : List UInt8} {k : Nat} {p : PS} (h0 : 0 < s.length) (hk : k ≤ s.length) (h : runN s k = some p) (ho : 16 ≤ p.out.length) : numsR s = ([], false) := by
  refine numsR_no ?_
  cases hq : runN s s.length with
  | none => rw [nums_none (Nat.le_refl _) hq]
  | some q =>
    rw [nums_some (by intro e; rw [e] at h0; cases h0) hq]
    have := runN_mono h hk hq
    simp [endB]; omega
theorem fail_stop {s : List UInt8} {k : Nat} {out : List Int} (h0 : 0 < s.length) (hk : k ≤ s.length) (h : runN s k = some ⟨out, 0, 0, false⟩) (hs : k < s.length → ¬ digC (ch s k)) : numsR s = ([], false) := by
  by_cases e : k = s.length
  · refine numsR_no ?_
    rw [nums_some (by intro e; rw [e] at h0; cases h0) (e ▸ h)]
    rfl
  · have := hs (by omega)
    unfold digC at this
    exact fail_none (k := k + 1) (by omega) ((runN_step h).trans (stp_bad2 (.inr (Int.le_refl 0)) (by omega)))
def OutI (s : List UInt8) (i : Nat) (out : List Int) : Prop :=
  out.length ≤ 16 ∧ ((i = 0 ∧ out = []) ∨ 0 < i ∧ ∃ p, runN s i = some p ∧ 0 < p.d ∧ out = p.out ++ [p.n] ∧ (i < s.length → ¬ digC (ch s i)))
theorem out_some {s : List UInt8} {i : Nat} {out : List Int} (h : OutI s i out) (h0 : 0 < (out.length : Int)) : ∃ p, runN s i = some p ∧ 0 < p.d ∧ out = p.out ++ [p.n] ∧ (i < s.length → ¬ digC (ch s i)) := by
  rcases h.2 with ⟨_, rfl⟩ | ⟨_, h⟩
  · simp at h0
  · exact h
theorem out_dot {s : List UInt8} {i : Nat} {out : List Int} (h : OutI s i out) (h0 : 0 < (out.length : Int)) (hc : ch s i = 46) : runN s (i + 1) = some ⟨out, 0, 0, false⟩ := by
  obtain ⟨p, h1, h2, rfl, _⟩ := out_some h h0
  exact (runN_step h1).trans (stp_dot ⟨hc, h2⟩)
theorem out_bad {s : List UInt8} {i : Nat} {out : List Int} (h : OutI s i out) (h0 : 0 < (out.length : Int)) (hi : i < s.length) (hc : ch s i ≠ 46) : numsR s = ([], false) := by
  obtain ⟨p, h1, h2, rfl, h3⟩ := out_some h h0
  have := h3 hi
  unfold digC at this
  exact fail_none (k := i + 1) (by omega) ((runN_step h1).trans (stp_bad2 (.inl hc) (by omega)))
theorem out_first {s : List UInt8} {i : Nat} {out : List Int} (h : OutI s i out) (h0 : (out.length : Int) ≤ 0) : runN s i = some ⟨out, 0, 0, false⟩ := by
  rcases h.2 with ⟨rfl, rfl⟩ | ⟨_, p, _, _, rfl, _⟩
  · rfl
  · simp at h0; omega
theorem out_end {s : List UInt8} {i : Nat} {out : List Int} (h : OutI s i out) (hi : i = s.length) : numsR s = (out, true) := by
  subst hi
  rcases h.2 with ⟨h1, rfl⟩ | ⟨h1, p, h2, h3, rfl, _⟩
  · obtain rfl : s = [] := List.length_eq_zero_iff.1 h1
    rfl
  · have e : numsP s = (p.out ++ [p.n], true) := by
      rw [nums_some (by intro e; rw [e] at h1; cases h1) h2]
      have := h.1
      simp only [List.length_append, List.length_cons, List.length_nil] at this
      congr 1
      simp [endB]; omega
    unfold numsR; rw [e]; rfl
def InI (s : List UInt8) (out : List Int) (k e : Nat) (n : Int) : Prop :=
  k ≤ e ∧ e ≤ s.length ∧ 0 ≤ n ∧ n ≤ 10485769 ∧ ((n ≤ 1048575 ∧ runN s e = some ⟨out, n, ((e - k : Nat) : Int), decide (e = k + 1 ∧ ch s k = 48)⟩ ∧ ¬ (ch s k = 48 ∧ k + 1 < e)) ∨ (runN s e = none ∧ (1048575 < n ∨ (ch s k = 48 ∧ k + 1 < e))))
theorem in_first {s : List UInt8} {out : List Int} {k : Nat} (hk : k ≤ s.length) (h : runN s k = some ⟨out, 0, 0, false⟩) : InI s out k k 0 :=
  ⟨Nat.le_refl _, hk, Int.le_refl 0, by decide, .inl ⟨by decide, by rw [h]; simp, by omega⟩⟩
theorem in_step {s : List UInt8} {out : List Int} {k e : Nat} {n : Int} (h : InI s out k e n) (he : e < s.length) (hc : digC (ch s e)) (hn : n ≤ 1048575) : InI s out k (e + 1) (10 * n + (ch s e - 48)) := by
  obtain ⟨h1, h2, h3, h4, h5⟩ := h
  have hc1 := hc.1; have hc2 := hc.2
  refine ⟨by omega, he, by omega, by omega, ?_⟩
  rcases h5 with ⟨_, h6, h7⟩ | ⟨h6, h7⟩
  · by_cases hl : e = k + 1 ∧ ch s k = 48
    · refine .inr ⟨(runN_step h6).trans ?_, .inr ⟨hl.2, by omega⟩⟩
      rw [decide_eq_true hl]
      unfold stp
      rw [if_neg (by omega), if_neg (by simp)]
    · rw [decide_eq_false hl] at h6
      by_cases ho : 10 * n + (ch s e - 48) ≤ 1048575
      · refine .inl ⟨ho, ?_, by rintro ⟨a, b⟩; by_cases hke : k + 1 < e; exact h7 ⟨a, hke⟩; exact hl ⟨by omega, a⟩⟩
        rw [runN_step h6, stp_dig ⟨⟨hc, rfl⟩, hn⟩ ho]
        congr 2
        · dsimp only; omega
        · dsimp only
          rw [Bool.eq_iff_iff]
          simp only [Bool.and_eq_true, decide_eq_true_eq]
          constructor
          · rintro ⟨a, b⟩
            obtain rfl : e = k := by omega
            exact ⟨rfl, b⟩
          · rintro ⟨a, b⟩
            obtain rfl : e = k := by omega
            exact ⟨by omega, b⟩
      · exact .inr ⟨(runN_step h6).trans (stp_over ⟨⟨hc, rfl⟩, hn⟩ ho), .inl (by omega)⟩
  · refine .inr ⟨runN_none h6 _ (by omega), ?_⟩
    rcases h7 with h7 | h7
    · omega
    · exact .inr ⟨h7.1, by omega⟩
/-- The inner loop has stopped. -/
def StopI (s : List UInt8) (e : Nat) (n : Int) : Prop := ¬ (((e < s.length ∧ 48 ≤ ch s e) ∧ ch s e ≤ 57) ∧ n < 1048576)
theorem in_fail {s : List UInt8} {out : List Int} {k e : Nat} {n : Int} (h0 : k < s.length ∨ 0 < k) (h : InI s out k e n) (hst : StopI s e n) (hk : runN s k = some ⟨out, 0, 0, false⟩) (hb : e = k ∨ (ch s k = 48 ∧ k + 1 < e) ∨ 1048576 ≤ n ∨ (out.length : Int) = 16) : numsR s = ([], false) := by
  obtain ⟨h1, h2, h3, h4, h5⟩ := h
  have h00 : 0 < s.length := by omega
  rcases h5 with ⟨h6, h7, h8⟩ | ⟨h6, _⟩
  · rcases hb with hb | hb | hb | hb
    · subst hb
      refine fail_stop h00 h2 hk fun hlt hd => hst ⟨⟨⟨hlt, hd.1⟩, hd.2⟩, by omega⟩
    · exact absurd hb h8
    · omega
    · exact fail_out h00 h2 h7 (by dsimp only; omega)
  · exact fail_none h2 h6
theorem in_done {s : List UInt8} {out : List Int} {k e : Nat} {n : Int} (h : InI s out k e n) (hst : StopI s e n) (hb : ¬ (e = k ∨ (ch s k = 48 ∧ k + 1 < e) ∨ 1048576 ≤ n ∨ (out.length : Int) = 16)) (ho : out.length ≤ 16) : k < e ∧ e ≤ s.length ∧ OutI s e (out ++ [n]) := by
  obtain ⟨h1, h2, h3, h4, h5⟩ := h
  have hke : k < e := by omega
  refine ⟨hke, h2, by simp; omega, .inr ⟨by omega, ?_⟩⟩
  rcases h5 with ⟨h6, h7, h8⟩ | ⟨h6, h7⟩
  · exact ⟨_, h7, by dsimp only; omega, rfl, fun hlt hd => hst ⟨⟨⟨hlt, hd.1⟩, hd.2⟩, by omega⟩⟩
  · exfalso
    rcases h7 with h7 | h7
    · omega
    · exact hb (.inr (.inl h7))
end Go.Proofs.YteannfdcbblooaaDoor
