/- Assigning jobs as data. -/
import Derived.Test.YtlbhpjigjehffaaDoorSimY
import Derived.Test.YtlbhpjigjehffaaDoorSdW9
namespace Go.Proofs.YtlbhpjigjehffaaDoor
open Go.Sim
def minL : List Int → Int
  | [] => 0
  | x :: l => l.foldl min x
structure AS where
  rows : List (List Int)
  busy : List Int
def wAt (b : List Int) : Nat := (idxI (fun x => decide (minL b = x)) b).toNat
def stepA (l : List Jb) (s : AS) (i : Int) : AS := ⟨s.rows.set (wAt s.busy) (s.rows.getD (wAt s.busy) default ++ [i]), s.busy.set (wAt s.busy) (s.busy.getD (wAt s.busy) default + costAt l i)⟩
def runA (l : List Jb) (w : Nat) (ix : List Int) : AS := ix.foldl (stepA l) ⟨List.replicate w [], List.replicate w 0⟩
def assignE (l : List Jb) (w : Int) : List (List Int) × Int := if askedE l w ≠ 0 then ([], askedE l w) else ((runA l w.toNat (ordS l)).rows, 0)
theorem assign_no {l : List Jb} {w : Int} (h : askedE l w ≠ 0) : assignE l w = ([], askedE l w) := by unfold assignE; rw [if_pos h]
theorem assign_yes {l : List Jb} {w : Int} (h : askedE l w = 0) : assignE l w = ((runA l w.toNat (ordS l)).rows, 0) := by unfold assignE; rw [if_neg (by omega)]
theorem runA_step {l : List Jb} {w : Nat} {ix : List Int} {k : Nat} (hk : k < ix.length) : runA l w (ix.take (k + 1)) = stepA l (runA l w (ix.take k)) (ix.getD k default) := by
  unfold runA; rw [fold_take _ _ hk]
theorem foldmin_mem : ∀ (l : List Int) (x : Int), l.foldl min x = x ∨ l.foldl min x ∈ l
  | [], x => .inl rfl
  | y :: l, x => by
    rw [List.foldl_cons]
    rcases foldmin_mem l (min x y) with h | h
    · rw [h]
      by_cases e : x ≤ y
      · left; omega
      · right; rw [show min x y = y by omega]; exact List.mem_cons_self
    · right; exact List.mem_cons_of_mem _ h
theorem minL_mem {b : List Int} (h : 1 ≤ b.length) : minL b ∈ b := by
  cases b with
  | nil => simp at h
  | cons x l =>
    rcases foldmin_mem l x with h | h
    · show l.foldl min x ∈ _; rw [h]; exact List.mem_cons_self
    · exact List.mem_cons_of_mem _ h
theorem min_take {x : Int} {l : List Int} {k : Nat} (hk : k < l.length) : (l.take (k + 1)).foldl min x = min ((l.take k).foldl min x) (l.getD k default) := by rw [fold_take _ _ hk]
theorem wAt_eq {b : List Int} (h : 1 ≤ b.length) : idxI (fun x => decide (minL b = x)) b = ((wAt b : Nat) : Int) ∧ wAt b < b.length := by
  unfold wAt
  have hm := minL_mem h
  have hany : b.any (fun x => decide (minL b = x)) = true := List.any_eq_true.2 ⟨_, hm, by simp⟩
  have h1 := idx_any (fun x => decide (minL b = x)) b
  rw [hany, decide_eq_true_eq] at h1
  rcases idx_cases (fun x => decide (minL b = x)) b with ⟨i, h2, _, _, h4⟩ | ⟨_, h4⟩
  · rw [h4]; exact ⟨by omega, by omega⟩
  · omega
theorem runA_len (l : List Jb) (w : Nat) (ix : List Int) : (runA l w ix).rows.length = w ∧ (runA l w ix).busy.length = w := by
  unfold runA
  have key : ∀ (ix : List Int) (s : AS), s.rows.length = w ∧ s.busy.length = w → (ix.foldl (stepA l) s).rows.length = w ∧ (ix.foldl (stepA l) s).busy.length = w := by
    intro ix
    induction ix with
    | nil => intro s h; exact h
    | cons i ix ih => intro s h; exact ih _ ⟨by simp [stepA, h.1], by simp [stepA, h.2]⟩
  exact key ix _ ⟨by simp, by simp⟩
theorem busy_range {l : List Jb} (hl : jobsE l = 0) {w : Nat} {ix : List Int} (h : inR l.length ix) : ∀ k, k ≤ ix.length → ∀ j : Nat, 0 ≤ (runA l w (ix.take k)).busy.getD j default ∧ (runA l w (ix.take k)).busy.getD j default ≤ 1048576 * k
  | 0, _, j => by
    simp only [List.take_zero, runA, List.foldl_nil]
    have : (List.replicate w (0 : Int)).getD j default = 0 := by
      simp only [List.getD, List.getElem?_replicate]
      split <;> rfl
    rw [this]; omega
  | k + 1, hk, j => by
    have h1 := busy_range hl (w := w) h k (by omega)
    have h2 := h _ (getD_mem' (show k < ix.length by omega))
    have h3 := jobs_cost hl (show (ix.getD k default).toNat < l.length by omega)
    rw [runA_step (by omega)]
    show 0 ≤ (List.set _ _ _).getD j default ∧ _
    have e : ∀ (b : List Int) (u : Nat) (y : Int), (b.set u y).getD j default = if u = j ∧ u < b.length then y else b.getD j default := by
      intro b u y
      simp only [List.getD, List.getElem?_set]
      by_cases e : u = j
      · by_cases e2 : u < b.length
        · subst e; simp [e2]
        · subst e; simp [e2]
      · simp [e]
    unfold stepA
    dsimp only
    rw [e]
    have h4 := h1 (wAt (runA l w (ix.take k)).busy)
    have h5 := h1 j
    unfold costAt
    split <;> omega
theorem rows_range (l : List Jb) (w : Nat) (ix : List Int) : ∀ k, k ≤ ix.length → ∀ j : Nat, ((runA l w (ix.take k)).rows.getD j default).length ≤ k
  | 0, _, j => by
    simp only [List.take_zero, runA, List.foldl_nil]
    have : (List.replicate w ([] : List Int)).getD j default = [] := by
      simp only [List.getD, List.getElem?_replicate]
      split <;> rfl
    rw [this]; exact Nat.zero_le _
  | k + 1, hk, j => by
    have h1 := rows_range l w ix k (by omega)
    rw [runA_step (by omega)]
    have e : ∀ (b : List (List Int)) (u : Nat) (y : List Int), (b.set u y).getD j default = if u = j ∧ u < b.length then y else b.getD j default := by
      intro b u y
      simp only [List.getD, List.getElem?_set]
      by_cases e : u = j
      · by_cases e2 : u < b.length
        · subst e; simp [e2]
        · subst e; simp [e2]
      · simp [e]
    unfold stepA
    dsimp only
    rw [e]
    have h4 := h1 (wAt (runA l w (ix.take k)).busy)
    have h5 := h1 j
    split
    · rw [List.length_append, List.length_singleton]; omega
    · omega
theorem rows_nil (w : Nat) : feet (rowsM 3 1 eI (List.replicate w (Value.slice none 0 0)) (List.replicate w ([] : List Int))) = [] ∧ ∀ W C, ∀ F ∈ rowsM 3 1 eI (List.replicate w (Value.slice none 0 0)) (List.replicate w ([] : List Int)), F.p W C := by
  have e : rowsM 3 1 eI (List.replicate w (Value.slice none 0 0)) (List.replicate w ([] : List Int)) = List.replicate w (MF.osl (.slice none 0 0) 3 1 eI []) := by
    unfold rowsM
    apply List.ext_getElem?
    intro i
    simp only [List.getElem?_zipWith, List.getElem?_replicate]
    by_cases h : i < w <;> simp [h]
  rw [e]
  constructor
  · unfold feet
    rw [List.flatMap_eq_nil_iff]
    intro F hF
    rw [List.eq_of_mem_replicate hF]; rfl
  · intro W C F hF
    rw [List.eq_of_mem_replicate hF]
    exact ⟨[], World.ownsRow_nil W 0 3 1, by simp [AllR, AllP], by simp⟩
end Go.Proofs.YtlbhpjigjehffaaDoor
