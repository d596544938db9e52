/- Finding solutions: the solution with a number, and the number of a solution. -/
import Derived.Test.YtcpkjpkjahgobaaCtN
namespace Go.Proofs.Ytcpkjpkjahgobaa
open Go.Sim

/-- A node that fits, all of whose levels are at least a level. -/
structure At (l : List Node) (n f : Int) (z : Nat) : Prop where
  fit : FitP l f n
  lvl : (z : Int) ≤ lvl l n f
theorem At.start {l : List Node} {n f : Int} (h : FitP l f n) : At l n f 0 := ⟨h, by have := h.lvl0; omega⟩
theorem branch_same {l : List Node} {n f : Int} {z : Nat} (_h : At l n f z) (_hz : (z : Int) < n) (hl : ¬ (nd l f).level = z) (one : Bool) : branchD l f z one = f := by
  unfold branchD; rw [if_pos (.inr hl)]
theorem At.inner {l : List Node} {n f : Int} {z : Nat} (h : At l n f z) (hz : (z : Int) < n) (hl : (nd l f).level = z) : 1 < f := by
  have := h.fit.n20
  have h1 := (h.fit.good.level h.fit.ok).2.2.2
  have := h.fit.ok.1
  refine Int.not_le.1 fun hle => ?_
  have := h1 (by omega)
  unfold lev at this; omega
theorem branch_kid {l : List Node} {n f : Int} {z : Nat} (h : At l n f z) (hz : (z : Int) < n) (hl : (nd l f).level = z) (one : Bool) : branchD l f z one = if one then (nd l f).hi else (nd l f).lo := by
  have := h.inner hz hl
  unfold branchD; rw [if_neg (by omega)]
theorem At.branch {l : List Node} {n f : Int} {z : Nat} (h : At l n f z) (hz : (z : Int) < n) (one : Bool) : At l n (branchD l f z one) (z + 1) := by
  by_cases hl : (nd l f).level = z
  · have h1 := h.inner hz hl
    obtain ⟨e1, e2, e3, e4, e5⟩ := h.fit.lvl_node h1
    rw [branch_kid h hz hl]
    cases one
    · exact ⟨h.fit.lo h1, by simp only [Bool.false_eq_true, if_false]; omega⟩
    · exact ⟨h.fit.hi h1, by simp only [if_true]; omega⟩
  · rw [branch_same h hz hl]
    refine ⟨h.fit, ?_⟩
    have := h.lvl
    unfold Ytcpkjpkjahgobaa.lvl lev at *; omega
def nthS (l : List Node) (n f k : Int) : Nat → Int × Int × List Bool
  | 0 => (f, k, [])
  | z + 1 =>
    let s := nthS l n f k z
    let low := fromD l n (branchD l s.1 z false) (z + 1 : Nat)
    let o := decide (low ≤ s.2.1)
    (branchD l s.1 z o, if o then s.2.1 - low else s.2.1, s.2.2 ++ [o])
theorem nth_yes {l : List Node} {n f k : Int} {z : Nat} (h : fromD l n (branchD l (nthS l n f k z).1 z false) (z + 1 : Nat) ≤ (nthS l n f k z).2.1) :
    nthS l n f k (z + 1) = (branchD l (nthS l n f k z).1 z true, (nthS l n f k z).2.1 - fromD l n (branchD l (nthS l n f k z).1 z false) (z + 1 : Nat), (nthS l n f k z).2.2 ++ [true]) := by
  rw [nthS]; rw [decide_eq_true h]; rfl
theorem nth_no {l : List Node} {n f k : Int} {z : Nat} (h : ¬ fromD l n (branchD l (nthS l n f k z).1 z false) (z + 1 : Nat) ≤ (nthS l n f k z).2.1) :
    nthS l n f k (z + 1) = (branchD l (nthS l n f k z).1 z false, (nthS l n f k z).2.1, (nthS l n f k z).2.2 ++ [false]) := by
  rw [nthS]; rw [decide_eq_false h]; rfl
theorem nth_at {l : List Node} {n f k : Int} (h : FitP l f n) : ∀ z : Nat, (z : Int) ≤ n → At l n (nthS l n f k z).1 z
  | 0, _ => .start h
  | z + 1, hz => by rw [nthS]; exact (nth_at h z (by omega)).branch (by omega) _
theorem nth_len {l : List Node} {n f k : Int} : ∀ z : Nat, (nthS l n f k z).2.2.length = z
  | 0 => rfl
  | z + 1 => by rw [nthS]; simp [nth_len z]
theorem nth_k {l : List Node} {n f k : Int} (h : FitP l f n) (h0 : 0 ≤ k) : ∀ z : Nat, (z : Int) ≤ n → 0 ≤ (nthS l n f k z).2.1 ∧ (nthS l n f k z).2.1 ≤ k
  | 0, _ => ⟨h0, Int.le_refl _⟩
  | z + 1, hz => by
    have ih := nth_k h h0 z (by omega)
    have hb := (nth_at (k := k) h z (by omega)).branch (by omega) false
    have hf := hb.fit.from (level := (z + 1 : Nat)) (by omega) hb.lvl
    by_cases hle : fromD l n (branchD l (nthS l n f k z).1 z false) (z + 1 : Nat) ≤ (nthS l n f k z).2.1
    · rw [nth_yes hle]; dsimp only; omega
    · rw [nth_no hle]; exact ih
def outS (l : List Node) (n f k : Int) (z : Nat) : List Bool := (nthS l n f k z).2.2 ++ List.replicate (n.toNat - z) false
theorem out_len {l : List Node} {n f k : Int} {z : Nat} (hz : (z : Int) ≤ n) : (outS l n f k z).length = n.toNat := by unfold outS; rw [List.length_append, nth_len, List.length_replicate]; omega
theorem out_yes {l : List Node} {n f k a b : Int} {z : Nat} (hz : (z : Int) < n) (e : nthS l n f k (z + 1) = (a, b, (nthS l n f k z).2.2 ++ [true])) : outS l n f k (z + 1) = (outS l n f k z).set z true := by
  unfold outS
  rw [e]
  dsimp only
  rw [List.set_append, if_neg (by rw [nth_len]; omega), nth_len, Nat.sub_self, show n.toNat - z = (n.toNat - (z + 1)) + 1 by omega, List.replicate_succ, List.set_cons_zero, List.append_assoc]
  rfl
theorem out_no {l : List Node} {n f k a b : Int} {z : Nat} (hz : (z : Int) < n) (e : nthS l n f k (z + 1) = (a, b, (nthS l n f k z).2.2 ++ [false])) : outS l n f k (z + 1) = outS l n f k z := by
  unfold outS
  rw [e]
  dsimp only
  rw [show n.toNat - z = (n.toNat - (z + 1)) + 1 by omega, List.replicate_succ, List.append_assoc]
  rfl
theorem out_all {l : List Node} {n f k : Int} {z : Nat} (hz : (z : Int) = n) : outS l n f k z = (nthS l n f k n.toNat).2.2 := by
  have e : n.toNat = z := by omega
  unfold outS; rw [e, Nat.sub_self]; simp
def nthD (l : List Node) (f n k : Int) : List Bool × Int :=
  if fitsB l f n = true then (if k < 0 ∨ fromD l n f 0 ≤ k then ([], 12) else ((nthS l n f k n.toNat).2.2, 0)) else ([], 1)

def idxS (l : List Node) (n f : Int) (bits : List Bool) : Nat → Int × Int
  | 0 => (f, 0)
  | z + 1 =>
    let s := idxS l n f bits z
    let o := bits.getD z default
    (branchD l s.1 z o, if o then s.2 + fromD l n (branchD l s.1 z false) (z + 1 : Nat) else s.2)
theorem idx_yes {l : List Node} {n f : Int} {bits : List Bool} {z : Nat} (h : bits.getD z default = true) : idxS l n f bits (z + 1) = (branchD l (idxS l n f bits z).1 z true, (idxS l n f bits z).2 + fromD l n (branchD l (idxS l n f bits z).1 z false) (z + 1 : Nat)) := by
  rw [idxS]; rw [h]; rfl
theorem idx_no {l : List Node} {n f : Int} {bits : List Bool} {z : Nat} (h : bits.getD z default = false) : idxS l n f bits (z + 1) = (branchD l (idxS l n f bits z).1 z false, (idxS l n f bits z).2) := by
  rw [idxS]; rw [h]; rfl
theorem idx_at {l : List Node} {n f : Int} {bits : List Bool} (h : FitP l f n) : ∀ z : Nat, (z : Int) ≤ n → At l n (idxS l n f bits z).1 z
  | 0, _ => .start h
  | z + 1, hz => by rw [idxS]; exact (idx_at h z (by omega)).branch (by omega) _
theorem idx_k {l : List Node} {n f : Int} {bits : List Bool} (h : FitP l f n) : ∀ z : Nat, (z : Int) ≤ n → 0 ≤ (idxS l n f bits z).2 ∧ (idxS l n f bits z).2 ≤ z * 1048576
  | 0, _ => ⟨Int.le_refl _, by simp [idxS]⟩
  | z + 1, hz => by
    have ih := idx_k (bits := bits) h z (by omega)
    have hb := (idx_at (bits := bits) h z (by omega)).branch (by omega) false
    have hf := hb.fit.from (level := (z + 1 : Nat)) (by omega) hb.lvl
    cases hbz : bits.getD z default with
    | true => rw [idx_yes hbz]; dsimp only; omega
    | false => rw [idx_no hbz]; dsimp only; omega
/-- What is left at the end is the value. -/
theorem branch_eval {l : List Node} {n f : Int} {z : Nat} {bits : List Bool} (h : At l n f z) (hz : (z : Int) < n) (hb : bits.length = n) : eb l (bitAt bits) (branchD l f z (bits.getD z default)) = eb l (bitAt bits) f := by
  have e : bitAt bits z = bits.getD z default := by unfold bitAt; simp; omega
  by_cases hl : (nd l f).level = z
  · have h1 := h.inner hz hl
    rw [branch_kid h hz hl, eb_node h.fit.good h.fit.ok (fun e => by unfold lev at e; have := h.fit.n20; omega)]
    unfold lev; rw [hl, e]
    cases bits.getD z default <;> rfl
  · rw [branch_same h hz hl]
theorem idx_eval {l : List Node} {n f : Int} {bits : List Bool} (h : FitP l f n) (hb : bits.length = n) : ∀ z : Nat, (z : Int) ≤ n → eb l (bitAt bits) (idxS l n f bits z).1 = eb l (bitAt bits) f
  | 0, _ => rfl
  | z + 1, hz => by
    rw [idxS]
    rw [branch_eval (idx_at h z (by omega)) (by omega) hb, idx_eval h hb z (by omega)]
theorem idx_end {l : List Node} {n f : Int} {bits : List Bool} (h : FitP l f n) (hb : bits.length = n) : ((idxS l n f bits n.toNat).1 = 0 ↔ evalD l f bits = false) := by
  have hn := h.n0
  have ha := idx_at (bits := bits) h n.toNat (by omega)
  have h2 : (idxS l n f bits n.toNat).1 = 0 ∨ (idxS l n f bits n.toNat).1 = 1 := by
    have hl := ha.lvl
    by_cases h1 : 1 < (idxS l n f bits n.toNat).1
    · have := ha.fit.lvl_node h1; omega
    · have := ha.fit.ok.1; omega
  have e := idx_eval h hb n.toNat (by omega)
  rw [eval_eb h.good h.ok, ← e]
  rcases h2 with h2 | h2
  · rw [h2, eb_0]; simp
  · rw [h2, eb_1]; simp
def indexD (l : List Node) (f n : Int) (bits : List Bool) : Int × Int :=
  if fitsB l f n = true ∧ bits.length = n then (if evalD l f bits = true then ((idxS l n f bits n.toNat).2, 0) else (0, 12)) else (0, 1)
theorem bools_ext {a b : List Bool} (hl : a.length = b.length) (h : ∀ j, j < a.length → a.getD j default = b.getD j default) : a = b := by
  apply List.ext_getElem?
  intro j
  by_cases hj : j < a.length
  · rw [getD_at hj, getD_at (hl ▸ hj), h j hj]
  · rw [List.getElem?_eq_none (by omega), List.getElem?_eq_none (by omega)]
def eitherD : List Node := [⟨20, 0, 0⟩, ⟨20, 1, 1⟩, ⟨1, 0, 1⟩, ⟨0, 2, 1⟩]
end Go.Proofs.Ytcpkjpkjahgobaa
