/- Steps of the checks of plans. -/
import Derived.Test.YtlbhpjigjehffaaDoorSdW2
namespace Go.Proofs.YtlbhpjigjehffaaDoor
open Go.Sim
theorem split_at {α : Type} [Inhabited α] {l : List α} {i : Nat} (h : i < l.length) : l = l.take i ++ l.getD i default :: l.drop (i + 1) := by
  conv => lhs; rw [← List.take_append_drop i l, List.drop_eq_getElem_cons h]
  rw [List.getD, List.getElem?_eq_getElem h]; rfl
abbrev rowAt (p : List (List Int)) (i : Nat) : List Int := p.getD i default
abbrev stAt (n : Nat) (p : List (List Int)) (i k : Nat) : CS := rowC (planC (cs0 n) (p.take i)) ((rowAt p i).take k)
theorem comp_no {p : List (List Int)} {n i k : Nat} (hi : i < p.length) (hk : k < (rowAt p i).length) (hb : badC (stAt n p i k) ((rowAt p i).getD k default) = true) : completeB p n = false := by
  have h1 : rowOk (planC (cs0 n) (p.take i)) (rowAt p i) = false := by
    rw [split_at hk, rowOk_app, rowOk, hb]; simp
  have h2 : planOk (cs0 n) p = false := by
    rw [split_at hi, planOk_app, planOk, h1]; simp
  unfold completeB
  rw [h2]; rfl
theorem row_step {n i k : Nat} {p : List (List Int)} (hk : k < (rowAt p i).length) : stAt n p i (k + 1) = stepC (stAt n p i k) ((rowAt p i).getD k default) := by
  show rowC _ _ = _
  unfold rowC; rw [fold_take _ _ hk]; rfl
theorem row_step2 {s : CS} {x : List Int} {k : Nat} (hk : k < x.length) : rowC s (x.take (k + 1)) = stepC (rowC s (x.take k)) (x.getD k default) := by
  unfold rowC; rw [fold_take _ _ hk]
theorem row_okstep {s : CS} {x : List Int} {k : Nat} (hk : k < x.length) (h : rowOk s (x.take k) = true) (hb : badC (rowC s (x.take k)) (x.getD k default) = false) : rowOk s (x.take (k + 1)) = true := by
  rw [take_succ hk, rowOk_app, h, rowOk, hb]; rfl
theorem plan_step {n i : Nat} {p : List (List Int)} (hi : i < p.length) : planC (cs0 n) (p.take (i + 1)) = rowC (planC (cs0 n) (p.take i)) (rowAt p i) := by
  unfold planC; rw [fold_take _ _ hi]
theorem plan_okstep {n i : Nat} {p : List (List Int)} (hi : i < p.length) (h : planOk (cs0 n) (p.take i) = true) (hr : rowOk (planC (cs0 n) (p.take i)) (rowAt p i) = true) : planOk (cs0 n) (p.take (i + 1)) = true := by
  rw [take_succ hi, planOk_app, h, planOk, hr]; rfl
theorem st_len (n : Nat) (p : List (List Int)) (i k : Nat) : (stAt n p i k).seen.length = n := by
  rw [(rowC_len _ _).1, (planC_len _ _).1]; simp [cs0]
theorem plan_len (n : Nat) (p : List (List Int)) (i : Nat) : (planC (cs0 n) (p.take i)).seen.length = n := by
  rw [(planC_len _ _).1]; simp [cs0]
theorem bad_no {s : CS} {i : Int} {n : Nat} (hn : s.seen.length = n) (h : (i < 0 ∨ (n : Int) ≤ i) ∨ s.seen.getD i.toNat default = true) : badC s i = true := by
  unfold badC; rw [hn]
  rcases h with (h | h) | h
  · simp [h]
  · simp [h]
  · rw [h]; simp
theorem bad_yes {s : CS} {i : Int} {n : Nat} (hn : s.seen.length = n) (h : (0 ≤ i ∧ i < (n : Int)) ∧ s.seen.getD i.toNat default = false) : badC s i = false := by
  unfold badC; rw [hn, h.2, decide_eq_false (by omega), decide_eq_false (by omega)]; rfl
theorem comp_end {p : List (List Int)} {n i : Nat} (hi : i = p.length) (h : planOk (cs0 n) (p.take i) = true) : completeB p n = decide ((planC (cs0 n) (p.take i)).left = 0) := by
  subst hi
  rw [List.take_length] at h ⊢
  unfold completeB; rw [h]; rfl
theorem sum_le {l : List Nat} : ∀ x ∈ l, x ≤ l.sum := by
  induction l with
  | nil => intro x hx; cases hx
  | cons y l ih =>
    intro x hx
    rw [List.sum_cons]
    rcases List.mem_cons.1 hx with rfl | hx
    · omega
    · have := ih x hx; omega
theorem complete_len {p : List (List Int)} {n : Nat} (h : completeB p n = true) {i : Nat} (hi : i < p.length) : (rowAt p i).length ≤ n := by
  unfold completeB at h
  simp only [Bool.and_eq_true, decide_eq_true_eq] at h
  have h2 := (planC_len (cs0 n) p).2
  have h3 := sum_le (rowAt p i).length (List.mem_map.2 ⟨_, getD_mem' hi, rfl⟩)
  have h4 : (cs0 n).left = n := rfl
  omega
/-- How many are left is never below nothing while none occurs twice. -/
theorem left_range (n : Nat) (p : List (List Int)) (i k : Nat) : (stAt n p i k).left = n - ((p.take i).map List.length).sum - ((rowAt p i).take k).length := by
  rw [(rowC_len _ _).2, (planC_len _ _).2]; rfl
/-- Seen ones are as many as are gone. -/
def cnt (l : List Bool) : Nat := (l.filter id).length
theorem cnt_set {l : List Bool} {i : Nat} (hi : i < l.length) (h : l.getD i default = false) : cnt (l.set i true) = cnt l + 1 := by
  induction l generalizing i with
  | nil => simp at hi
  | cons b l ih =>
    cases i with
    | zero =>
      have : b = false := h
      subst this
      simp [cnt]
    | succ i =>
      have := ih (i := i) (by simpa using hi) (by simpa using h)
      unfold cnt at this ⊢
      cases b <;> simp_all
theorem cnt_le (l : List Bool) : cnt l ≤ l.length := List.length_filter_le _ _
theorem row_cnt {s : CS} {x : List Int} (h : rowOk s x = true) : ((cnt (rowC s x).seen : Nat) : Int) = cnt s.seen + x.length := by
  induction x generalizing s with
  | nil => simp [rowC]
  | cons y x ih =>
    rw [rowOk, Bool.and_eq_true] at h
    have hb : badC s y = false := by simpa using h.1
    simp only [badC, Bool.or_eq_false_iff, decide_eq_false_iff_not] at hb
    have h1 := ih h.2
    have h2 : cnt (stepC s y).seen = cnt s.seen + 1 := cnt_set (by omega) hb.2
    have e : rowC s (y :: x) = rowC (stepC s y) x := rfl
    rw [e, h1, h2]; simp; omega
theorem plan_cnt {s : CS} {p : List (List Int)} (h : planOk s p = true) : ((cnt (planC s p).seen : Nat) : Int) = cnt s.seen + (p.map List.length).sum := by
  induction p generalizing s with
  | nil => simp [planC]
  | cons y p ih =>
    rw [planOk, Bool.and_eq_true] at h
    have h1 := ih h.2
    have h2 := row_cnt h.1
    have e : planC s (y :: p) = planC (rowC s y) p := rfl
    rw [e, h1, h2]; simp; omega
theorem left_pos {n : Nat} {p : List (List Int)} {i k : Nat} (h : planOk (cs0 n) (p.take i) = true) (hr : rowOk (planC (cs0 n) (p.take i)) ((rowAt p i).take k) = true) : 0 ≤ (stAt n p i k).left ∧ (stAt n p i k).left ≤ n := by
  have h1 := row_cnt hr
  have h2 := plan_cnt h
  have h3 := cnt_le (stAt n p i k).seen
  have h4 := left_range n p i k
  have h5 : cnt (cs0 n).seen = 0 := by unfold cs0 cnt; simp
  rw [st_len] at h3
  unfold stAt at *
  omega
theorem plan_left {n : Nat} {p : List (List Int)} {i : Nat} (h : planOk (cs0 n) (p.take i) = true) : 0 ≤ (planC (cs0 n) (p.take i)).left ∧ (planC (cs0 n) (p.take i)).left ≤ n := left_pos (k := 0) h rfl
end Go.Proofs.YtlbhpjigjehffaaDoor
