/- What the law of the exact count computes. -/
import Derived.Test.YtcpkjpkjahgobaaCtX
namespace Go.Proofs.Ytcpkjpkjahgobaa
open Go.Sim

def asB (k n : Int) (i : Nat) : Bool := decide (k / 2 ^ (n - 1 - (i : Nat)).toNat % 2 = 1)
def asP (k n : Int) (z : Nat) : List Bool := (List.range n.toNat).map fun i => decide (i < z) && asB k n i
theorem asp_0 (k n : Int) : List.replicate n.toNat false = asP k n 0 := by
  unfold asP
  apply List.ext_getElem?
  intro i
  by_cases h : i < n.toNat <;> simp [h]
theorem asp_len (k n : Int) (z : Nat) : (asP k n z).length = n.toNat := by simp [asP]
theorem asp_next {k n : Int} {z : Nat} (hz : (z : Int) < n) : (asP k n z).set z (asB k n z) = asP k n (z + 1) := by
  unfold asP
  apply List.ext_getElem?
  intro i
  rw [List.getElem?_set]
  by_cases h : i < n.toNat
  · by_cases e : z = i
    · subst e; simp [h]
    · rw [if_neg e]
      simp only [List.getElem?_map, List.getElem?_range h, Option.map_some]
      have : decide (i < z) = decide (i < z + 1) := by rw [Bool.eq_iff_iff]; simp; omega
      rw [this]
  · have : ¬ z = i := by omega
    rw [if_neg this]; simp [h]
theorem asp_all {k n : Int} {z : Nat} (hz : n ≤ z) : asP k n z = asgD k n := by
  unfold asP asgD
  apply List.map_congr_left
  intro i hi
  have := List.mem_range.1 hi
  have : i < z := by omega
  simp [this, asB]
theorem count_fit {l : List Node} {f n : Int} (h : (countD l f n).2 = 0) : FitP l f n := by
  unfold countD at h
  split at h
  · rename_i hf; exact fits_iff.1 hf
  · cases h
theorem count_no {l : List Node} {f n : Int} (h : ¬ (countD l f n).2 = 0) : (countD l f n).1 = 0 := by
  unfold countD at *
  split at h
  · exact absurd rfl h
  · rename_i hf; rw [if_neg hf]
theorem count_yes {l : List Node} {f n : Int} (h : FitP l f n) : countD l f n = (fromD l n f 0, 0) := by unfold countD; rw [if_pos (fits_iff.2 h)]
end Go.Proofs.Ytcpkjpkjahgobaa
