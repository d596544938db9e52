/- Sorting a short list of numbers of jobs. -/
import Derived.Test.YtlbhpjigjehffaaDoorSdW8
namespace Go.Proofs.YtlbhpjigjehffaaDoor
open Go.Sim
theorem insert0_ok (n : Nat) (c : Int → Int → Int) (v : Value) (xs : List Int) (hx : inR n xs) (h0 : 1 ≤ xs.length) (hl : xs.length ≤ 1000000) : CallT Tryd.prog 57 [Rp.val v, Rp.int .i64 0, Rp.int .i64 (xs.length : Nat), pC n c] [MF.osl v 3 1 eI xs] (ownX v (insD c 0 (xs.length - 1) xs)) := by
  have h := insert_ok n c v 0 (xs.length - 1) xs hx (by omega) hl
  rw [show 0 + (xs.length - 1) + 1 = xs.length by omega] at h
  exact h
def iota (n z : Nat) : List Int := (List.range n).map fun i => if i < z then (i : Int) else 0
theorem iota_len (n z : Nat) : (iota n z).length = n := by simp [iota]
theorem iota_zero (n : Nat) : iota n 0 = List.replicate n 0 := by
  apply List.ext_getElem
  · simp [iota]
  · intro i h1 h2; simp [iota]
theorem iota_set {n z : Nat} : iota n (z + 1) = (iota n z).set z (z : Int) := by
  apply List.ext_getElem
  · simp [iota]
  · intro i h1 h2
    simp only [iota, List.getElem_map, List.getElem_range, List.getElem_set]
    by_cases e : z = i
    · subst e; simp
    · rw [if_neg e]
      by_cases h : i < z
      · rw [if_pos (by omega), if_pos h]
      · rw [if_neg (by omega), if_neg h]
theorem iota_in (n : Nat) : inR n (iota n n) := by
  intro x hx
  simp only [iota, List.mem_map, List.mem_range] at hx
  obtain ⟨i, hi, rfl⟩ := hx
  rw [if_pos hi]; omega
def ordS (l : List Jb) : List Int := insD (cmpF l) 0 (l.length - 1) (iota l.length l.length)
theorem ordS_len (l : List Jb) : (ordS l).length = l.length := by unfold ordS; rw [insD_len, iota_len]
theorem ordS_in {l : List Jb} (h : 1 ≤ l.length) : inR l.length (ordS l) := insD_in _ 0 _ (iota_in _) (by rw [iota_len]; omega)
def nextE (l : List Jb) : Int × Bool := if l.length = 0 then (0, false) else ((ordS l).getD 0 default, true)
theorem next_no {l : List Jb} (h : l.length = 0) : nextE l = (0, false) := by unfold nextE; rw [if_pos h]
theorem next_yes {l : List Jb} (h : l.length ≠ 0) : nextE l = ((ordS l).getD 0 default, true) := by unfold nextE; rw [if_neg h]
end Go.Proofs.YtlbhpjigjehffaaDoor
