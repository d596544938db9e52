/- Jobs as data: which are valid, what plans cost, and bounds. -/
import Derived.Test.YtlbhpjigjehffaaDoorSdTyp
namespace Go.Proofs.YtlbhpjigjehffaaDoor
open Go.Sim
def validJ (j : Jb) : Bool := ((((nameB j.test && nameB j.des) && decide (0 ≤ j.pri)) && decide (j.pri ≤ 1000)) && decide (1 ≤ j.cost)) && decide (j.cost ≤ 1048576)
def jobsE (l : List Jb) : Int := if (256 : Int) < l.length then 2 else if l.any (fun j => !validJ j) then 1 else 0
def askedE (l : List Jb) (w : Int) : Int := if w < 1 ∨ 64 < w then 1 else jobsE l
abbrev pG (p : Jb → Bool) : Rp := Rp.fnM Tryd.prog (fun j : Jb => [Rp.agg (eJ j)]) (fun _ => [kwG]) (fun j => .one (Rp.bool (p j)))
theorem jobs_ok {l : List Jb} (h : jobsE l = 0) : l.length ≤ 256 ∧ ∀ i, i < l.length → validJ (l.getD i default) = true := by
  unfold jobsE at h
  split at h
  · cases h
  · split at h
    · cases h
    · rename_i h1 h2
      refine ⟨by omega, fun i hi => ?_⟩
      have h3 := (Bool.not_eq_true _).mp h2
      rw [List.any_eq_false] at h3
      have := h3 _ (getD_mem' hi)
      simpa using this
theorem valid_cost {j : Jb} (h : validJ j = true) : 1 ≤ j.cost ∧ j.cost ≤ 1048576 := by
  unfold validJ at h
  simp only [Bool.and_eq_true, decide_eq_true_eq] at h
  exact ⟨h.1.2, h.2⟩
theorem jobs_cost {l : List Jb} (h : jobsE l = 0) {i : Nat} (hi : i < l.length) : 1 ≤ (l.getD i default).cost ∧ (l.getD i default).cost ≤ 1048576 := valid_cost ((jobs_ok h).2 i hi)
def costAt (l : List Jb) (i : Int) : Int := (l.getD i.toNat default).cost
def sumC (l : List Jb) (ix : List Int) : Int := ix.foldl (fun n i => n + costAt l i) 0
/-- Numbers of jobs. -/
def inR (n : Nat) (ix : List Int) : Prop := ∀ i ∈ ix, 0 ≤ i ∧ i < n
theorem sum_range {l : List Jb} (hl : jobsE l = 0) {ix : List Int} (h : inR l.length ix) : ∀ k, k ≤ ix.length → 0 ≤ sumC l (ix.take k) ∧ sumC l (ix.take k) ≤ 1048576 * k
  | 0, _ => by simp [sumC]
  | k + 1, hk => by
    have h1 := sum_range hl h k (by omega)
    have h2 := h _ (getD_mem' (show k < ix.length by omega))
    have h3 := jobs_cost hl (show (ix.getD k default).toNat < l.length by omega)
    unfold sumC at h1 ⊢
    rw [fold_take _ _ (show k < ix.length by omega)]
    unfold costAt at h1 ⊢
    omega
theorem sum_step {l : List Jb} {ix : List Int} {k : Nat} (hk : k < ix.length) : sumC l (ix.take (k + 1)) = sumC l (ix.take k) + costAt l (ix.getD k default) := by
  unfold sumC; rw [fold_take _ _ hk]
/-! Complete plans. -/
structure CS where
  seen : List Bool
  left : Int
def badC (s : CS) (i : Int) : Bool := (decide (i < 0) || decide ((s.seen.length : Int) ≤ i)) || s.seen.getD i.toNat default
def stepC (s : CS) (i : Int) : CS := ⟨s.seen.set i.toNat true, s.left - 1⟩
def rowC (s : CS) (ix : List Int) : CS := ix.foldl stepC s
def rowOk : CS → List Int → Bool
  | _, [] => true
  | s, i :: r => !badC s i && rowOk (stepC s i) r
def planC (s : CS) (p : List (List Int)) : CS := p.foldl rowC s
def planOk : CS → List (List Int) → Bool
  | _, [] => true
  | s, x :: r => rowOk s x && planOk (rowC s x) r
def cs0 (n : Nat) : CS := ⟨List.replicate n false, n⟩
def completeB (p : List (List Int)) (n : Nat) : Bool := planOk (cs0 n) p && decide ((planC (cs0 n) p).left = 0)
theorem rowOk_app {s : CS} {a b : List Int} : rowOk s (a ++ b) = (rowOk s a && rowOk (rowC s a) b) := by
  induction a generalizing s with
  | nil => simp [rowOk, rowC]
  | cons x a ih => simp only [List.cons_append, rowOk, ih, rowC, List.foldl_cons, Bool.and_assoc]
theorem planOk_app {s : CS} {a b : List (List Int)} : planOk s (a ++ b) = (planOk s a && planOk (planC s a) b) := by
  induction a generalizing s with
  | nil => simp [planOk, planC]
  | cons x a ih => simp only [List.cons_append, planOk, ih, planC, List.foldl_cons, Bool.and_assoc]
theorem rowC_len (s : CS) (ix : List Int) : (rowC s ix).seen.length = s.seen.length ∧ (rowC s ix).left = s.left - ix.length := by
  induction ix generalizing s with
  | nil => simp [rowC]
  | cons x a ih =>
    have h := ih (stepC s x)
    have e : rowC s (x :: a) = rowC (stepC s x) a := rfl
    have e1 : (stepC s x).seen.length = s.seen.length := by simp [stepC]
    have e2 : (stepC s x).left = s.left - 1 := rfl
    have e3 : ((x :: a).length : Int) = a.length + 1 := by simp
    rw [e]
    exact ⟨by omega, by omega⟩
theorem planC_len (s : CS) (p : List (List Int)) : (planC s p).seen.length = s.seen.length ∧ (planC s p).left = s.left - (p.map List.length).sum := by
  induction p generalizing s with
  | nil => simp [planC]
  | cons x a ih =>
    have h := ih (rowC s x)
    have h2 := rowC_len s x
    have e : planC s (x :: a) = planC (rowC s x) a := rfl
    have e3 : (((x :: a).map List.length).sum : Int) = x.length + (a.map List.length).sum := by simp
    rw [e]
    exact ⟨by omega, by omega⟩
theorem rowOk_in {s : CS} {ix : List Int} (h : rowOk s ix = true) : inR s.seen.length ix := by
  induction ix generalizing s with
  | nil => intro i hi; cases hi
  | cons x a ih =>
    rw [rowOk, Bool.and_eq_true] at h
    have h1 : badC s x = false := by simpa using h.1
    have h2 := ih h.2
    intro i hi
    rcases List.mem_cons.1 hi with rfl | hi
    · simp only [badC, Bool.or_eq_false_iff, decide_eq_false_iff_not] at h1
      omega
    · have := h2 i hi
      simpa [stepC] using this
theorem planOk_in {s : CS} {p : List (List Int)} (h : planOk s p = true) : ∀ x ∈ p, inR s.seen.length x := by
  induction p generalizing s with
  | nil => intro x hx; cases hx
  | cons y a ih =>
    rw [planOk, Bool.and_eq_true] at h
    intro x hx
    rcases List.mem_cons.1 hx with rfl | hx
    · exact rowOk_in h.1
    · have := ih h.2 x hx
      rwa [(rowC_len s y).1] at this
theorem complete_in {p : List (List Int)} {n : Nat} (h : completeB p n = true) : ∀ x ∈ p, inR n x := by
  unfold completeB at h
  rw [Bool.and_eq_true] at h
  have := planOk_in h.1
  simpa [cs0] using this
def spanC (l : List Jb) (p : List (List Int)) : Int := p.foldl (fun m x => max m (sumC l x)) 0
def spanE (l : List Jb) (p : List (List Int)) : Int × Int := if jobsE l ≠ 0 then (0, jobsE l) else if completeB p l.length = false then (0, 1) else (spanC l p, 0)
def greatC (l : List Jb) : Int := l.foldl (fun m j => max m j.cost) 0
def totalC (l : List Jb) : Int := l.foldl (fun n j => n + j.cost) 0
def boundE (l : List Jb) (w : Int) : Int × Int := if askedE l w ≠ 0 then (0, askedE l w) else (max (greatC l) ((totalC l + w - 1) / w), 0)
theorem total_range {l : List Jb} (hl : jobsE l = 0) : ∀ k, k ≤ l.length → 0 ≤ totalC (l.take k) ∧ totalC (l.take k) ≤ 1048576 * k
  | 0, _ => by simp [totalC]
  | k + 1, hk => by
    have h1 := total_range hl k (by omega)
    have h3 := jobs_cost hl (show k < l.length by omega)
    unfold totalC at h1 ⊢
    rw [fold_take _ _ (show k < l.length by omega)]
    omega
theorem total_step {l : List Jb} {k : Nat} (hk : k < l.length) : totalC (l.take (k + 1)) = totalC (l.take k) + (l.getD k default).cost := by
  unfold totalC; rw [fold_take _ _ hk]
theorem great_step {l : List Jb} {k : Nat} (hk : k < l.length) : greatC (l.take (k + 1)) = max (greatC (l.take k)) (l.getD k default).cost := by
  unfold greatC; rw [fold_take _ _ hk]
theorem span_step {l : List Jb} {p : List (List Int)} {k : Nat} (hk : k < p.length) : spanC l (p.take (k + 1)) = max (spanC l (p.take k)) (sumC l (p.getD k default)) := by
  unfold spanC; rw [fold_take _ _ hk]
end Go.Proofs.YtlbhpjigjehffaaDoor
