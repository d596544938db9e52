/- Bounds and spans, how they end. -/
import Derived.Test.YtlbhpjigjehffaaDoorSdW4
namespace Go.Proofs.YtlbhpjigjehffaaDoor
open Go.Sim
def shortJ (j : Jb) : Bool := decide ((j.test.length : Int) ≤ 60) && decide ((j.des.length : Int) ≤ 60)
def fewB (l : List Jb) : Bool := decide (∀ j, j < l.length → j < 31 → shortJ (l.getD j default) = true) && decide ((l.length : Int) ≤ 30)
theorem few_no {l : List Jb} {i : Nat} (h1 : i < l.length) (h2 : i < 31) (h : shortJ (l.getD i default) = false) : fewB l = false := by
  unfold fewB
  rw [decide_eq_false (by intro q; rw [q i h1 h2] at h; cases h)]; rfl
theorem few_end {l : List Jb} {i : Nat} (h1 : l.length ≤ i ∨ 31 ≤ i) (h : ∀ j : Nat, j < i → shortJ (l.getD j default) = true) : fewB l = decide ((l.length : Int) ≤ 30) := by
  unfold fewB
  rw [decide_eq_true (by intro j h2 h3; exact h j (by omega))]; rfl
theorem few_len {l : List Jb} (h : fewB l = true) : l.length ≤ 30 := by
  unfold fewB at h
  simp only [Bool.and_eq_true, decide_eq_true_eq] at h
  omega
theorem bound_no {l : List Jb} {w : Int} (h : askedE l w ≠ 0) : boundE l w = (0, askedE l w) := by unfold boundE; rw [if_pos h]
theorem bound_yes {l : List Jb} {w : Int} (h : askedE l w = 0) : boundE l w = (max (greatC l) ((totalC l + w - 1) / w), 0) := by unfold boundE; rw [if_neg (by omega)]
theorem asked_yes {l : List Jb} {w : Int} (h : askedE l w = 0) : 1 ≤ w ∧ w ≤ 64 ∧ jobsE l = 0 := by
  unfold askedE at h
  split at h
  · cases h
  · exact ⟨by omega, by omega, h⟩
theorem asked_in {l : List Jb} {w : Int} (h1 : 1 ≤ w) (h2 : w ≤ 64) : askedE l w = jobsE l := by unfold askedE; rw [if_neg (by omega)]
theorem asked_out {l : List Jb} {w : Int} (h : w < 1 ∨ 64 < w) : askedE l w = 1 := by unfold askedE; rw [if_pos h]
theorem span_no {l : List Jb} {p : List (List Int)} (h : jobsE l ≠ 0) : spanE l p = (0, jobsE l) := by unfold spanE; rw [if_pos h]
theorem span_bad {l : List Jb} {p : List (List Int)} (h : jobsE l = 0) (hc : completeB p l.length = false) : spanE l p = (0, 1) := by unfold spanE; rw [if_neg (by omega), if_pos hc]
theorem span_yes {l : List Jb} {p : List (List Int)} (h : jobsE l = 0) (hc : completeB p l.length = true) : spanE l p = (spanC l p, 0) := by unfold spanE; rw [if_neg (by omega), if_neg (by rw [hc]; simp)]
end Go.Proofs.YtlbhpjigjehffaaDoor
