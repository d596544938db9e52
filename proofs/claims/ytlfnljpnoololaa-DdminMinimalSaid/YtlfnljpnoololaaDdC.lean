/- Minimizing ends within the bound, and what is kept is minimal. -/
import Derived.Test.YtlfnljpnoololaaDdB
namespace Go.Proofs.Ytlfnljpnoololaa
open Go.Sim

/-- How many tests are left at most: by the number of elements, of parts, of tries. -/
def psiT : List (List (List Nat)) := [[[]], [[], []], [[], [], [4, 3, 2, 1]], [[], [], [14, 13, 12, 11], [10, 9, 8, 7, 6, 5]], [[], [], [22, 21, 20, 19], [24, 23, 22, 21, 20, 19], [18, 17, 16, 15, 14, 13, 12, 11]], [[], [], [40, 39, 38, 37], [34, 33, 32, 31, 30, 29], [36, 35, 34, 33, 32, 31, 30, 29], [28, 27, 26, 25, 24, 23, 22, 21, 20, 19]], [[], [], [52, 51, 50, 49], [46, 45, 44, 43, 42, 41], [48, 47, 46, 45, 44, 43, 42, 41], [50, 49, 48, 47, 46, 45, 44, 43, 42, 41], [40, 39, 38, 37, 36, 35, 34, 33, 32, 31, 30, 29]], [[], [], [66, 65, 64, 63], [72, 71, 70, 69, 68, 67], [62, 61, 60, 59, 58, 57, 56, 55], [64, 63, 62, 61, 60, 59, 58, 57, 56, 55], [66, 65, 64, 63, 62, 61, 60, 59, 58, 57, 56, 55], [54, 53, 52, 51, 50, 49, 48, 47, 46, 45, 44, 43, 42, 41]], [[], [], [82, 81, 80, 79], [88, 87, 86, 85, 84, 83], [78, 77, 76, 75, 74, 73, 72, 71], [80, 79, 78, 77, 76, 75, 74, 73, 72, 71], [82, 81, 80, 79, 78, 77, 76, 75, 74, 73, 72, 71], [84, 83, 82, 81, 80, 79, 78, 77, 76, 75, 74, 73, 72, 71], [70, 69, 68, 67, 66, 65, 64, 63, 62, 61, 60, 59, 58, 57, 56, 55]]]
def psiN (k n t : Nat) : Nat := ((psiT.getD k []).getD n []).getD t 0
def szN (k n i : Nat) : Nat := (i + 1) * k / n - i * k / n
def candN (k n t : Nat) : Nat := if t < n then szN k n t else k - szN k n (t - n)
theorem psi_table : ∀ k, k < 9 → ∀ n, n < k + 1 → 2 ≤ n → ∀ t, t < 2 * n →
    psiN (candN k n t) (if n ≤ t ∧ 2 ≤ candN k n t then max (n - 1) 2 else if candN k n t < 2 then 1 else 2) 0 + 1 ≤ psiN k n t ∧
    (if t + 1 = 2 * n ∧ n < k then psiN k (min (2 * n) k) 0 else psiN k n (t + 1)) + 1 ≤ psiN k n t := by decide +kernel
def psi (s : Shrink) : Nat := psiN s.kept.length s.parts.toNat s.tries.toNat
theorem fromN (k n i : Nat) : fromD k n i = ((i * k / n : Nat) : Int) := by simp [fromD]
theorem cand_len {s : Shrink} (h : Live s) : (candD s).length = candN s.kept.length s.parts.toNat s.tries.toNat := by
  have hlg := h.v.large (by have := h.two; omega); have hlt := h.lt
  obtain ⟨n, hn⟩ : ∃ n : Nat, s.parts = n := ⟨s.parts.toNat, by omega⟩
  obtain ⟨t, ht⟩ : ∃ t : Nat, s.tries = t := ⟨s.tries.toNat, by omega⟩
  unfold candD candN
  rw [hn, ht]
  simp only [Int.toNat_natCast]
  by_cases h1 : t < n
  · rw [if_pos (by omega), if_pos h1]
    have := part_len s.kept (n := n) (i := t) (by omega) (by omega) (by omega)
    have e : ((t : Int) + 1) = ((t + 1 : Nat) : Int) := by omega
    rw [e, fromN, fromN] at this
    unfold szN; omega
  · rw [if_neg (by omega), if_neg h1]
    obtain ⟨u, hu⟩ : ∃ u : Nat, (t : Int) - n = u := ⟨t - n, by omega⟩
    have := rest_len s.kept (n := n) (i := (t : Int) - n) (by omega) (by omega) (by omega)
    rw [hu] at this ⊢
    have e : ((u : Int) + 1) = ((u + 1 : Nat) : Int) := by omega
    rw [e, fromN, fromN] at this
    have hm : u * s.kept.length / n ≤ (u + 1) * s.kept.length / n := Nat.div_le_div_right (Nat.mul_le_mul_right _ (by omega))
    have eu : t - n = u := by omega
    unfold szN; rw [eu]; omega
theorem psi_less {s : Shrink} (h : ((!validB s) || doneB s) = false) (hl : s.kept.length ≤ 8) (f : Bool) : psi (tellD s f) + 1 ≤ psi s := by
  have hv := live_of' h
  have hlg := hv.v.large (by have := hv.two; omega); have hlt := hv.lt
  obtain ⟨n, hn⟩ : ∃ n : Nat, s.parts = n := ⟨s.parts.toNat, by omega⟩
  obtain ⟨t, ht⟩ : ∃ t : Nat, s.tries = t := ⟨s.tries.toNat, by omega⟩
  have hc := cand_len hv
  have htab := psi_table s.kept.length (by omega) n (by omega) (by omega) t (by omega)
  have hpsi : psi s = psiN s.kept.length n t := by simp [psi, hn, ht]
  rw [hpsi]
  rw [hn, ht] at hc
  simp only [Int.toNat_natCast] at hc
  cases f with
  | true =>
    rw [tell_yes h]
    simp only [psi, hn, ht, hc]
    refine Nat.le_trans (Nat.le_of_eq ?_) htab.1
    congr 2
    simp only [Int.ofNat_le]
    by_cases h1 : n ≤ t ∧ 2 ≤ candN s.kept.length n t
    · rw [if_pos h1, if_pos h1]; omega
    · rw [if_neg h1, if_neg h1]
      split <;> rfl
  | false =>
    rw [tell_no h]
    refine Nat.le_trans (Nat.le_of_eq ?_) htab.2
    by_cases h1 : t + 1 = 2 * n ∧ n < s.kept.length
    · rw [if_pos h1, if_pos (by omega)]
      simp only [psi]
      have e : (min (2 * s.parts) (s.kept.length : Int)).toNat = min (2 * n) s.kept.length := by omega
      rw [e]; rfl
    · rw [if_neg h1, if_neg (by omega)]
      simp only [psi]
      rw [show (s.tries + 1).toNat = t + 1 by omega, show s.parts.toNat = n by omega]

/-- What holds ahead of each round. -/
structure MinI (m : Int) (tb : List Int) (s : Shrink) (failed : Bool) : Prop where
  valid : Valid s
  small : ∀ x ∈ s.kept, 0 ≤ x ∧ x < 8
  len : s.kept.length ≤ 8
  pot : s.tests + psi s ≤ boundD m
  fl : failed = true → failsB tb s.kept = true
  nf : failed = false → s.kept.length = m
  tried : ∀ t : Int, 0 ≤ t → t < s.tries → failsB tb (candD { s with tries := t }) = false
theorem bound_small (m : Int) : boundD m ≤ 1099511627776 := by unfold boundD; split; omega; split <;> omega

theorem min_start {m : Int} (h : 0 ≤ m ∧ m < 9) (tb : List Int) : (startD m).2 = 0 ∧ MinI m tb (startD m).1 false := by
  have hsv := start_valid m
  have e : startD m = (⟨iota m.toNat, begun m, 0, 0⟩, 0) := by simp only [startD]; rw [if_neg (by omega), if_neg (by omega)]
  rw [e] at hsv ⊢
  simp only [decide_true, Bool.not_true, Bool.false_or] at hsv
  have hpsi : ∀ k : Nat, k < 9 → (psiN k (begun (k : Int)).toNat 0 : Int) ≤ boundD k := by decide +kernel
  refine ⟨rfl, valid_iff.1 hsv, fun x hx => ?_, by simp [iota_length]; omega, ?_, fun h => (by cases h), fun _ => by simp [iota_length]; omega, fun t h1 h2 => by simp only at h2; omega⟩
  · simp only [iota, List.mem_map, List.mem_range] at hx
    obtain ⟨i, hi, rfl⟩ := hx
    omega
  · have := hpsi m.toNat (by omega)
    rw [show ((m.toNat : Nat) : Int) = m by omega] at this
    simp only [psi, iota_length, Int.toNat_zero, Int.zero_add]; exact this

theorem min_step {m : Int} {tb : List Int} {s : Shrink} {g : Bool} (h : MinI m tb s g) (hd : doneB s = false) :
    MinI m tb (tellD s (failsB tb (candidateD s).1)) (g || failsB tb (candidateD s).1) ∧ (tellD s (failsB tb (candidateD s).1)).tests = s.tests + 1 ∧ psi (tellD s (failsB tb (candidateD s).1)) < psi s ∧
      (candidateD s).2 = true ∧ (∀ x ∈ (candidateD s).1, 0 ≤ x ∧ x < 8) ∧ s.tests < boundD m := by
  have hv : validB s = true := valid_iff.2 h.valid
  have hlb : ((!validB s) || doneB s) = false := by simp [hv, hd]
  have hl := live_of' hlb
  have hlg := hl.v.large (by have := hl.two; omega); have hlt := hl.lt
  have hps := psi_less hlb h.len
  have hcand := candidate_live hlb
  rw [hcand]
  dsimp only
  have hsub := cand_sub hl
  have hp := h.pot
  have hbs := bound_small m
  have hlt' : s.tests < boundD m := by have := hps true; omega
  have hsm : ∀ x ∈ candD s, 0 ≤ x ∧ x < 8 := fun x hx => h.small x (hsub.subset hx)
  have hcl := hsub.length_le
  have hlen := h.len
  refine ⟨?_, ?_, by have := hps (failsB tb (candD s)); omega, rfl, hsm, hlt'⟩
  · have hval : Valid (tellD s (failsB tb (candD s))) := valid_iff.1 (by rw [tell_valid]; exact hv)
    cases hx : failsB tb (candD s) with
    | true =>
      rw [hx] at hval
      have hps1 := hps true
      have e := tell_yes hlb
      rw [e] at hval hps1 ⊢
      refine ⟨hval, hsm, by simp only; omega, by simp only; omega, fun _ => hx, fun h => by simp at h, fun t h1 h2 => by simp only at h2; omega⟩
    | false =>
      rw [hx] at hval
      have hps1 := hps false
      have e := tell_no hlb
      rw [e] at hval hps1 ⊢
      by_cases h1 : s.tries + 1 = 2 * s.parts ∧ s.parts < s.kept.length
      · rw [if_pos h1] at hval hps1 ⊢
        exact ⟨hval, h.small, h.len, by simp only; omega, fun hg => h.fl (by simpa using hg), fun hg => h.nf (by simpa using hg), fun t h1 h2 => by simp only at h2; omega⟩
      · rw [if_neg h1] at hval hps1 ⊢
        refine ⟨hval, h.small, h.len, by simp only; omega, fun hg => h.fl (by simpa using hg), fun hg => h.nf (by simpa using hg), fun t h3 h4 => ?_⟩
        simp only at h4
        by_cases e : t = s.tries
        · subst e; exact hx
        · exact h.tried t h3 (by omega)
  · cases hx : failsB tb (candD s) with
    | true => rw [tell_yes hlb]; simp only; omega
    | false => rw [(tell_no' hlb).2]; omega

theorem min_end {m : Int} {tb : List Int} {s : Shrink} {g : Bool} (h : MinI m tb s g) (hd : doneB s = true) (h2 : 2 ≤ s.kept.length) {i : Nat} (hi : i < s.kept.length) :
    failsB tb (s.kept.take i ++ s.kept.drop (i + 1)) = false := by
  have hv : validB s = true := valid_iff.2 h.valid
  have hlg := h.valid.large (by omega)
  simp only [doneB, hv, Bool.true_and, Bool.or_eq_true, decide_eq_true_eq] at hd
  have hd' : s.tries = 2 * s.parts := hd.resolve_left (by omega)
  have hpk : s.parts = s.kept.length := by omega
  have := h.tried (i + s.parts) (by omega) (by omega)
  rw [cand_rest s (by omega)] at this
  have e1 : ∀ j : Nat, fromD s.kept.length s.parts j = j := fun j => by
    rw [hpk]; unfold fromD; exact Int.mul_ediv_cancel _ (by omega)
  have e2 : fromD s.kept.length s.parts ((i : Int) + 1) = ((i + 1 : Nat) : Int) := e1 (i + 1)
  simp only [restD, e1 i, e2, Int.toNat_natCast] at this
  exact this
theorem sub_small {l : List Int} (h : ∀ x ∈ l, 0 ≤ x ∧ x < 8) (i : Nat) : ∀ x ∈ ([] ++ ((l.drop 0).take ((i : Int).toNat - 0))) ++ ((l.drop ((i : Int) + 1).toNat).take (l.length - ((i : Int) + 1).toNat)), 0 ≤ x ∧ x < 8 := by
  intro x hx
  simp only [List.nil_append, List.mem_append] at hx
  rcases hx with hx | hx
  · exact h x (List.mem_of_mem_drop (List.mem_of_mem_take hx))
  · exact h x (List.mem_of_mem_drop (List.mem_of_mem_take hx))
end Go.Proofs.Ytlfnljpnoololaa
