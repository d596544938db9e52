/- Decision diagrams as data: which are valid, what nodes mean. -/
import Derived.Test.YtcpkjpkjahgobaaCtTyp
namespace Go.Proofs.Ytcpkjpkjahgobaa
open Go.Sim

/-- The node with a number. -/
def nd (l : List Node) (i : Int) : Node := l.getD i.toNat default
def placedP (l : List Node) (i : Int) : Prop :=
  0 ≤ (nd l i).level ∧ (nd l i).level < 20 ∧ 0 ≤ (nd l i).lo ∧ (nd l i).lo < i ∧ 0 ≤ (nd l i).hi ∧ (nd l i).hi < i ∧ (nd l i).lo ≠ (nd l i).hi ∧ (nd l i).level < (nd l (nd l i).lo).level ∧ (nd l i).level < (nd l (nd l i).hi).level
instance (l i) : Decidable (placedP l i) := by unfold placedP; infer_instance
def rightP (l : List Node) (i : Int) : Prop := placedP l i ∧ nd l i ∉ l.take i.toNat
instance (l i) : Decidable (rightP l i) := by unfold rightP; infer_instance
def newD : List Node := [⟨20, 0, 0⟩, ⟨20, 1, 1⟩]
def endsP (l : List Node) : Prop := 2 ≤ l.length ∧ l.length ≤ 8192 ∧ nd l 0 = ⟨20, 0, 0⟩ ∧ nd l 1 = ⟨20, 1, 1⟩
instance (l) : Decidable (endsP l) := by unfold endsP; infer_instance
def Good (l : List Node) : Prop := endsP l ∧ ∀ i, i < l.length → 2 ≤ i → rightP l (i : Nat)
instance (l) : Decidable (Good l) := by unfold Good; infer_instance
def validB (l : List Node) : Bool := decide (Good l)

/-- The number of a node, or -1. -/
def findD (l : List Node) (n : Node) : Int := if n ∈ l then (l.idxOf n : Nat) else -1
def okNode (l : List Node) (f : Int) : Prop := 0 ≤ f ∧ f < l.length
instance (l f) : Decidable (okNode l f) := by unfold okNode; infer_instance
/-- A valid diagram that has nodes. -/
def hasB (l : List Node) (fs : List Int) : Bool := validB l && fs.all fun f => decide (okNode l f)
def insB (l : List Node) (fs : List Int) : Bool := fs.all fun f => decide (okNode l f)

theorem take_mem {α : Type} [DecidableEq α] {l : List α} {n : α} {i : Nat} (h : ∀ j, j < i → l[j]? ≠ some n) : n ∉ l.take i := by
  intro hm
  obtain ⟨j, hj, he⟩ := List.getElem_of_mem hm
  simp only [List.length_take] at hj
  rw [List.getElem_take] at he
  exact h j (by omega) (by rw [List.getElem?_eq_getElem (by omega), he])
theorem nd_get {l : List Node} {i : Nat} (h : i < l.length) : l[i]? = some (nd l (i : Nat)) := by
  simp [nd, List.getD_eq_getElem?_getD, h]
theorem findD_yes {l : List Node} {n : Node} {i : Nat} (hi : i < l.length) (he : nd l (i : Nat) = n) (h : ∀ j, j < i → nd l (j : Nat) ≠ n) : findD l n = i := by
  have hg := nd_get hi
  rw [he] at hg
  have hm : n ∈ l := List.mem_of_getElem? hg
  have : l.idxOf n = i := by
    have h1 : l = l.take i ++ n :: l.drop (i + 1) := by
      have := List.take_append_drop i l
      rw [List.drop_eq_getElem_cons hi] at this
      have e : l[i] = n := by rw [List.getElem?_eq_getElem hi] at hg; simpa using hg
      rw [e] at this; exact this.symm
    have h2 : n ∉ l.take i := take_mem fun j hj => by
      rw [nd_get (by omega)]; intro e; exact h j hj (by simpa using e)
    rw [h1, List.idxOf_append, if_neg h2]
    simp; omega
  simp [findD, hm, this]
theorem findD_no {l : List Node} {n : Node} (h : ∀ j, j < l.length → nd l (j : Nat) ≠ n) : findD l n = -1 := by
  have : n ∉ l := fun hm => by
    obtain ⟨j, hj, he⟩ := List.getElem_of_mem hm
    refine h j hj ?_
    simp [nd, List.getD_eq_getElem?_getD, hj, he]
  simp [findD, this]
theorem findD_neg {l : List Node} {n : Node} : findD l n < 0 ↔ n ∉ l := by
  unfold findD; split
  · rename_i h; simp [h]
  · rename_i h; simp [h]
theorem findD_in {l : List Node} {n : Node} (h : n ∈ l) : 0 ≤ findD l n ∧ findD l n < l.length ∧ nd l (findD l n) = n := by
  have := List.idxOf_lt_length_of_mem h
  simp only [findD, if_pos h, nd]
  refine ⟨by omega, by omega, ?_⟩
  simp [List.getD_eq_getElem?_getD, this]

theorem find_some {l : List Node} {n : Node} (h : 0 ≤ findD l n) : n ∈ l ∧ findD l n = ((l.idxOf n : Nat) : Int) := by
  unfold findD at *
  by_cases hm : n ∈ l
  · simp [hm]
  · simp [hm] at h
theorem good_false {l : List Node} {i : Nat} (hi : i < l.length) (h2 : 2 ≤ i) (h : ¬ rightP l (i : Nat)) : validB l = false := by
  simp only [validB, decide_eq_false_iff_not]
  exact fun hg => h (hg.2 i hi h2)
theorem good_true {l : List Node} (h : endsP l) (hr : ∀ i : Nat, i < l.length → 2 ≤ i → rightP l (i : Nat)) : validB l = true := by
  simp only [validB, decide_eq_true_eq]; exact ⟨h, hr⟩
theorem ends_false {l : List Node} (h : ¬ endsP l) : validB l = false := by
  simp only [validB, decide_eq_false_iff_not]; exact fun hg => h hg.1
/-- What a map knows after the first nodes. -/
def SeenOk (l : List Node) (i : Nat) (m : List (Node × Bool)) : Prop := ∀ n, mget m n = if n ∈ l.take i then some true else none
theorem take_snoc {l : List Node} {i : Nat} (h : i < l.length) : l.take (i + 1) = l.take i ++ [nd l (i : Nat)] := by
  rw [List.take_add_one, nd_get h]; rfl
theorem seen_step {l : List Node} {i : Nat} {m : List (Node × Bool)} (h : i < l.length) (hm : SeenOk l i m) : SeenOk l (i + 1) (mset m (nd l (i : Nat)) true) := fun n => by
  rw [mget_set, hm n, take_snoc h]
  by_cases e : n = nd l (i : Nat)
  · simp [e]
  · simp [e]
theorem seen_get {l : List Node} {i : Nat} {m : List (Node × Bool)} (hm : SeenOk l i m) (n : Node) : (mget m n).getD false = decide (n ∈ l.take i) := by
  rw [hm n]; split <;> simp_all
theorem nd_ext {a b : List Node} (hl : a.length = b.length) (h : ∀ j, j < a.length → nd a (j : Nat) = nd b (j : Nat)) : a = b := by
  apply List.ext_getElem hl
  intro i h1 h2
  have := h i h1
  simpa [nd, List.getD_eq_getElem?_getD, h1, h2] using this
theorem ends_iff {l : List Node} : (2 ≤ (l.length : Int) ∧ (l.length : Int) ≤ 8192) ∧ (l.drop 0).take ((2 : Int).toNat - 0) = newD ↔ endsP l := by
  unfold endsP
  rcases l with _ | ⟨a, _ | ⟨b, l⟩⟩ <;> simp [nd, newD] <;> omega
theorem ins_false {l : List Node} {fs : List Int} {i : Nat} (hi : i < fs.length) (h : ¬ okNode l (fs.getD i default)) : insB l fs = false := by
  simp only [insB, List.all_eq_false]
  refine ⟨fs[i], List.getElem_mem hi, ?_⟩
  simpa [List.getD_eq_getElem?_getD, hi] using h
theorem ins_true {l : List Node} {fs : List Int} (h : ∀ j, j < fs.length → okNode l (fs.getD j default)) : insB l fs = true := by
  simp only [insB, List.all_eq_true, decide_eq_true_eq]
  intro f hf
  obtain ⟨j, hj, he⟩ := List.getElem_of_mem hf
  have := h j hj
  simpa [List.getD_eq_getElem?_getD, hj, he] using this
theorem valid_cond {l : List Node} {i : Nat} {m : List (Node × Bool)} (hm : SeenOk l i m) :
    (decide ((2 : Int) ≤ (i : Nat)) && (!decide (placedP l (i : Nat)) || (mget m (nd l (i : Nat))).getD false)) = decide (2 ≤ i ∧ ¬ rightP l (i : Nat)) := by
  rw [seen_get hm, Bool.eq_iff_iff]
  simp only [Bool.and_eq_true, Bool.or_eq_true, Bool.not_eq_true', decide_eq_true_eq, decide_eq_false_iff_not]
  unfold rightP
  have e : (((i : Nat) : Int)).toNat = i := Int.toNat_natCast i
  rw [e]
  constructor
  · rintro ⟨h1, h2⟩; exact ⟨by omega, fun h => h2.elim (· h.1) (h.2 ·)⟩
  · rintro ⟨h1, h2⟩; exact ⟨by omega, Classical.byContradiction fun h => h2 ⟨Classical.byContradiction fun h3 => h (.inl h3), fun h3 => h (.inr h3)⟩⟩
theorem valid_step {l : List Node} {i : Nat} {m : List (Node × Bool)} (hm : SeenOk l i m)
    (h : (decide ((2 : Int) ≤ (i : Nat)) && (!decide (placedP l (i : Nat)) || (mget m (nd l (i : Nat))).getD false)) = false) (h2 : 2 ≤ i) : rightP l (i : Nat) := by
  rw [valid_cond hm, decide_eq_false_iff_not] at h
  exact Classical.byContradiction fun h3 => h ⟨h2, h3⟩
theorem valid_stop {l : List Node} {i : Nat} {m : List (Node × Bool)} (hi : i < l.length) (hm : SeenOk l i m)
    (h : (decide ((2 : Int) ≤ (i : Nat)) && (!decide (placedP l (i : Nat)) || (mget m (nd l (i : Nat))).getD false)) = true) : validB l = false := by
  rw [valid_cond hm, decide_eq_true_eq] at h
  exact good_false hi h.1 h.2
end Go.Proofs.Ytcpkjpkjahgobaa
