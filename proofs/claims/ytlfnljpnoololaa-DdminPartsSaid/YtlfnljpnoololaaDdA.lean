/- The functions of the package on data. -/
import Derived.Test.YtlfnljpnoololaaDdTyp
namespace Go.Proofs.Ytlfnljpnoololaa
open Go.Sim

def begun (m : Int) : Int := if m < 2 then 1 else 2
def boundD (m : Int) : Int := if m < 2 then 0 else if 1048576 ≤ m then 1099511627776 else min (3 * m * (m + 1)) 1099511627776

def badAt (l : List Int) (i : Int) : Bool := decide (l.getD i.toNat default < 0) || decide (0 < i) && decide (l.getD i.toNat default ≤ l.getD (i - 1).toNat default)
def ascB (l : List Int) : Bool := (List.range l.length).all fun i => !badAt l i
theorem ascB_true {l : List Int} (h : ∀ j : Nat, j < l.length → badAt l j = false) : ascB l = true := by
  simp only [ascB, List.all_eq_true, List.mem_range, Bool.not_eq_true']; exact h
theorem ascB_false {l : List Int} {i : Nat} (hi : i < l.length) (h : badAt l i = true) : ascB l = false := by
  cases hb : ascB l with
  | false => rfl
  | true =>
    simp only [ascB, List.all_eq_true, List.mem_range, Bool.not_eq_true'] at hb
    rw [hb i hi] at h; cases h
def validB (s : Shrink) : Bool :=
  if (decide ((1024 : Int) < s.kept.length) || decide (s.tests < 0)) || decide (1099511627776 < s.tests) then false
  else if ascB s.kept then
    if decide ((s.kept.length : Int) < 2) then decide (s.parts = 1) && decide (s.tries = 0)
    else decide (2 ≤ s.parts) && decide (s.parts ≤ s.kept.length) && decide (0 ≤ s.tries) && (decide (s.tries < 2 * s.parts) || decide (s.tries = 2 * s.parts) && decide (s.parts = s.kept.length))
  else false
def doneB (s : Shrink) : Bool := validB s && (decide ((s.kept.length : Int) < 2) || decide (s.tries = 2 * s.parts))

/-- What a valid state is. -/
structure Valid (s : Shrink) : Prop where
  len : (s.kept.length : Int) ≤ 1024
  tests : 0 ≤ s.tests ∧ s.tests ≤ 1099511627776
  asc : ascB s.kept = true
  small : (s.kept.length : Int) < 2 → s.parts = 1 ∧ s.tries = 0
  large : 2 ≤ (s.kept.length : Int) → 2 ≤ s.parts ∧ s.parts ≤ s.kept.length ∧ 0 ≤ s.tries ∧ (s.tries < 2 * s.parts ∨ s.tries = 2 * s.parts ∧ s.parts = s.kept.length)
theorem valid_iff {s : Shrink} : validB s = true ↔ Valid s := by
  unfold validB
  constructor
  · intro h
    split at h
    · cases h
    · rename_i h1
      split at h
      · rename_i h2
        simp only [Bool.or_eq_true, decide_eq_true_eq, not_or, Int.not_lt] at h1
        split at h
        · rename_i h3
          simp only [decide_eq_true_eq, Bool.and_eq_true] at h h3
          exact ⟨h1.1.1, ⟨h1.1.2, h1.2⟩, h2, fun _ => h, fun h4 => by omega⟩
        · rename_i h3
          simp only [decide_eq_true_eq, Int.not_lt] at h3
          simp only [Bool.and_eq_true, Bool.or_eq_true, decide_eq_true_eq] at h
          exact ⟨h1.1.1, ⟨h1.1.2, h1.2⟩, h2, fun h4 => by omega, fun _ => ⟨h.1.1.1, h.1.1.2, h.1.2, h.2⟩⟩
      · cases h
  · intro h
    have h1 := h.len; have h2 := h.tests
    rw [if_neg (by simp only [Bool.or_eq_true, decide_eq_true_eq, not_or, Int.not_lt]; omega), if_pos h.asc]
    split
    · rename_i h3
      simp only [decide_eq_true_eq] at h3
      simp only [Bool.and_eq_true, decide_eq_true_eq]; exact h.small h3
    · rename_i h3
      simp only [decide_eq_true_eq, Int.not_lt] at h3
      simp only [Bool.and_eq_true, Bool.or_eq_true, decide_eq_true_eq]
      have := h.large h3
      exact ⟨⟨⟨this.1, this.2.1⟩, this.2.2.1⟩, this.2.2.2⟩

theorem mul_bound {a b A B : Int} (ha : 0 ≤ a) (hA : a ≤ A) (hb : 0 ≤ b) (hB : b ≤ B) : 0 ≤ a * b ∧ a * b ≤ A * B :=
  ⟨Int.mul_nonneg ha hb, Int.mul_le_mul hA hB hb (by omega)⟩

/-- Where a part begins. -/
def fromD (k n i : Int) : Int := i * k / n
theorem from_le {k n i : Int} (hk : 0 ≤ k) (hn : 0 < n) (h0 : 0 ≤ i) (hi : i < n) : 0 ≤ fromD k n i ∧ fromD k n i ≤ fromD k n (i + 1) ∧ fromD k n (i + 1) ≤ k := by
  unfold fromD
  refine ⟨Int.ediv_nonneg (Int.mul_nonneg h0 hk) (by omega), Int.ediv_le_ediv hn (Int.mul_le_mul_of_nonneg_right (by omega) hk), ?_⟩
  have h1 : (i + 1) * k ≤ n * k := Int.mul_le_mul_of_nonneg_right (by omega) hk
  have h2 := Int.ediv_le_ediv hn h1
  rw [Int.mul_ediv_cancel_left _ (by omega)] at h2
  exact h2
def partD (l : List Int) (n i : Int) : List Int := (l.drop (fromD l.length n i).toNat).take ((fromD l.length n (i + 1)).toNat - (fromD l.length n i).toNat)
def restD (l : List Int) (n i : Int) : List Int := l.take (fromD l.length n i).toNat ++ l.drop (fromD l.length n (i + 1)).toNat
def candD (s : Shrink) : List Int := if s.tries < s.parts then partD s.kept s.parts s.tries else restD s.kept s.parts (s.tries - s.parts)
def candidateD (s : Shrink) : List Int × Bool := if !validB s || doneB s then ([], false) else (candD s, true)
def reducedD (s : Shrink) : Shrink :=
  { kept := candD s, parts := if decide (s.parts ≤ s.tries) && decide (begun (candD s).length = 2) then max (s.parts - 1) 2 else begun (candD s).length, tries := 0, tests := s.tests }
def tellD (s : Shrink) (f : Bool) : Shrink :=
  if !validB s || doneB s then s
  else if f then reducedD { s with tests := min (s.tests + 1) 1099511627776 }
  else if decide (s.tries + 1 = 2 * s.parts) && decide (s.parts < s.kept.length) then { s with tests := min (s.tests + 1) 1099511627776, tries := 0, parts := min (2 * s.parts) s.kept.length }
  else { s with tests := min (s.tests + 1) 1099511627776, tries := s.tries + 1 }

/-- How long the first ones of two lists are together; their elements. -/
def tot (a b : List Int) (i : Nat) : Int := if i = 0 then 0 else if i = 1 then a.length else a.length + b.length
def joined (a b : List Int) (i : Nat) : List Int := if i = 0 then [] else if i = 1 then a else a ++ b
theorem tot_nonneg (a b : List Int) (i : Nat) : 0 ≤ tot a b i := by unfold tot; split; omega; split <;> omega
theorem tot_le (a b : List Int) (i : Nat) : tot a b i ≤ a.length + b.length := by unfold tot; split; omega; split <;> omega
theorem tot_succ (a b : List Int) (i : Nat) (h : i < 2) : tot a b i + (([a, b] : List (List Int)).getD (i : Int).toNat default).length = tot a b (i + 1) := by
  match i, h with
  | 0, _ => simp [tot]
  | 1, _ => simp [tot]
theorem joined_succ (a b : List Int) (i : Nat) (h : i < 2) : joined a b i ++ ([a, b] : List (List Int)).getD (i : Int).toNat default = joined a b (i + 1) := by
  match i, h with
  | 0, _ => simp [joined]
  | 1, _ => simp [joined]
theorem joined_len (a b : List Int) (i : Nat) : (joined a b i).length ≤ a.length + b.length := by unfold joined; split; simp; split <;> simp

/-- The numbers from 0 on. -/
def iota (n : Nat) : List Int := (List.range n).map fun (i : Nat) => (i : Int)
theorem iota_succ (n : Nat) : iota (n + 1) = iota n ++ [(n : Int)] := by simp [iota, List.range_succ]
theorem iota_length (n : Nat) : (iota n).length = n := by simp [iota]
def startD (m : Int) : Shrink × Int := if m < 0 then (⟨[], 0, 0, 0⟩, 1) else if 1024 < m then (⟨[], 0, 0, 0⟩, 2) else (⟨iota m.toNat, begun m, 0, 0⟩, 0)
instance : DecidableEq Shrink := fun a b => by
  cases a; cases b; simp only [Shrink.mk.injEq]; infer_instance
def sameB (a b : Shrink) : Bool := decide (a = b)

/-- A valid state that is not done. -/
structure Live (s : Shrink) : Prop where
  v : Valid s
  two : 2 ≤ s.kept.length
  lt : s.tries < 2 * s.parts
theorem live_of {s : Shrink} (hv : validB s = true) (hd : doneB s = false) : Live s := by
  have v := valid_iff.1 hv
  simp only [doneB, hv, Bool.true_and, Bool.or_eq_false_iff, decide_eq_false_iff_not] at hd
  have := v.large (by omega)
  exact ⟨v, by omega, by omega⟩
theorem Live.tests {s : Shrink} (h : Live s) {t : Int} (ht : 0 ≤ t ∧ t ≤ 1099511627776) : Live { s with tests := t } :=
  ⟨⟨h.v.len, ht, h.v.asc, h.v.small, h.v.large⟩, h.two, h.lt⟩
theorem candidate_live {s : Shrink} (h : ((!validB s) || doneB s) = false) : candidateD s = (candD s, true) := by simp [candidateD, h]
theorem candidate_dead {s : Shrink} (h : ((!validB s) || doneB s) = true) : candidateD s = ([], false) := by simp [candidateD, h]
theorem live_of' {s : Shrink} (h : ((!validB s) || doneB s) = false) : Live s := by
  simp only [Bool.or_eq_false_iff, Bool.not_eq_false'] at h; exact live_of h.1 h.2

theorem sel_len (l : List Int) (a b : Nat) : (l.take a ++ l.drop b).length ≤ 2 * l.length := by simp; omega
theorem rest_le (l : List Int) {n i : Int} (hn : 0 < n) (h0 : 0 ≤ i) (hi : i < n) : (restD l n i).length ≤ l.length := by
  have := from_le (k := l.length) (n := n) (i := i) (by omega) hn h0 hi
  simp only [restD, List.length_append, List.length_take, List.length_drop]; omega
theorem part_le (l : List Int) (n i : Int) : (partD l n i).length ≤ l.length := by
  simp only [partD, List.length_take, List.length_drop]; omega
theorem cand_le {s : Shrink} (h : Live s) : (candD s).length ≤ s.kept.length := by
  have := h.v.large (by have := h.two; omega); have := h.lt
  unfold candD; split
  · exact part_le _ _ _
  · exact rest_le _ (by omega) (by omega) (by omega)

/-- The elements chosen among the first i ones: those from a to b, or the others. -/
def selD (l : List Int) (a b : Nat) (inn : Bool) (i : Nat) : List Int := if inn then (l.take (min i b)).drop a else l.take (min i a) ++ (l.take i).drop b
theorem take_snoc (l : List Int) {i : Nat} (h : i < l.length) : l.take (i + 1) = l.take i ++ [l.getD i default] := by
  rw [List.take_add_one, List.getElem?_eq_getElem h]; simp [List.getD_eq_getElem?_getD, List.getElem?_eq_getElem h]
theorem sel_succ (l : List Int) {a b : Nat} (inn : Bool) {i : Nat} (h : i < l.length) (hab : a ≤ b) :
    selD l a b inn (i + 1) = if ((decide (a ≤ i) && decide (i < b)) == inn) then selD l a b inn i ++ [l.getD i default] else selD l a b inn i := by
  unfold selD
  cases inn with
  | true =>
    simp only [if_true, beq_true]
    by_cases h1 : i < b
    · rw [Nat.min_eq_left (by omega), Nat.min_eq_left (by omega), take_snoc l h]
      by_cases h2 : a ≤ i
      · rw [if_pos (by simp [h1, h2]), List.drop_append_of_le_length (by simp; omega)]
      · rw [if_neg (by simp [h2]), List.drop_of_length_le (by simp; omega), List.drop_of_length_le (by simp; omega)]
    · rw [if_neg (by simp [h1]), Nat.min_eq_right (by omega), Nat.min_eq_right (by omega)]
  | false =>
    simp only [Bool.false_eq_true, if_false, beq_false]
    by_cases h1 : a ≤ i
    · rw [Nat.min_eq_right (by omega), Nat.min_eq_right (by omega), take_snoc l h]
      by_cases h2 : i < b
      · rw [if_neg (by simp [h1, h2]), List.drop_of_length_le (by simp; omega), List.drop_of_length_le (by simp; omega)]
      · rw [if_pos (by simp [h2]), List.drop_append_of_le_length (by simp; omega), List.append_assoc]
    · rw [if_pos (by simp [h1]), Nat.min_eq_left (by omega), Nat.min_eq_left (by omega), List.drop_of_length_le (by simp; omega), List.drop_of_length_le (by simp; omega), take_snoc l h]
      simp
theorem sel_zero (l : List Int) (a b : Nat) (inn : Bool) : selD l a b inn 0 = [] := by cases inn <;> simp [selD]
theorem sel_le (l : List Int) {a b : Nat} (inn : Bool) (i : Nat) (hab : a ≤ b) (hi : i ≤ l.length) : (selD l a b inn i).length ≤ i := by
  unfold selD; split
  · simp; omega
  · simp; omega
theorem sel_part (l : List Int) (n i : Int) (h : 0 ≤ fromD l.length n i ∧ fromD l.length n i ≤ fromD l.length n (i + 1) ∧ fromD l.length n (i + 1) ≤ l.length) :
    selD l (fromD l.length n i).toNat (fromD l.length n (i + 1)).toNat true l.length = partD l n i := by
  simp only [selD, partD, if_true]
  rw [Nat.min_eq_right (by omega), List.drop_take]
theorem sel_rest (l : List Int) (n i : Int) (h : 0 ≤ fromD l.length n i ∧ fromD l.length n i ≤ fromD l.length n (i + 1) ∧ fromD l.length n (i + 1) ≤ l.length) :
    selD l (fromD l.length n i).toNat (fromD l.length n (i + 1)).toNat false l.length = restD l n i := by
  simp only [selD, restD, Bool.false_eq_true, if_false]
  rw [Nat.min_eq_right (by omega), List.take_length]
/-- What the reference asks of the place i. -/
def askD (l : List Int) (n p : Int) (i : Nat) : Bool := decide (p * l.length / n ≤ (i : Int)) && decide ((i : Int) < (p + 1) * l.length / n)
theorem ask_eq (l : List Int) (n p : Int) (i : Nat) : askD l n p i = (decide ((fromD l.length n p).toNat ≤ i) && decide (i < (fromD l.length n (p + 1)).toNat)) := by
  unfold askD fromD
  congr 1
  · exact decide_eq_decide.2 (by omega)
  · exact decide_eq_decide.2 (by omega)

theorem sel_yes {l : List Int} {n p : Int} {inn : Bool} {i : Nat} (h : i < l.length) (hf : 0 ≤ fromD l.length n p ∧ fromD l.length n p ≤ fromD l.length n (p + 1) ∧ fromD l.length n (p + 1) ≤ l.length) (ha : (askD l n p i == inn) = true) :
    selD l (fromD l.length n p).toNat (fromD l.length n (p + 1)).toNat inn (i + 1) = selD l (fromD l.length n p).toNat (fromD l.length n (p + 1)).toNat inn i ++ [l.getD i default] := by
  rw [sel_succ l inn h (by omega), ← ask_eq, if_pos ha]
theorem sel_no {l : List Int} {n p : Int} {inn : Bool} {i : Nat} (h : i < l.length) (hf : 0 ≤ fromD l.length n p ∧ fromD l.length n p ≤ fromD l.length n (p + 1) ∧ fromD l.length n (p + 1) ≤ l.length) (ha : (askD l n p i == inn) = false) :
    selD l (fromD l.length n p).toNat (fromD l.length n (p + 1)).toNat inn (i + 1) = selD l (fromD l.length n p).toNat (fromD l.length n (p + 1)).toNat inn i := by
  rw [sel_succ l inn h (by omega), ← ask_eq, if_neg (by rw [ha]; simp)]

def neAt (a b : List Int) (j : Int) : Bool := !decide (a.getD j.toNat default = b.getD j.toNat default)
theorem eq_of_at {a b : List Int} (hl : a.length = b.length) (h : ∀ j : Nat, j < a.length → neAt a b j = false) : a = b :=
  ext_getD hl fun j hj => by have := h j hj; simpa [neAt] using this
theorem ne_of_at {a b : List Int} {j : Nat} (h : neAt a b j = true) : a ≠ b := by
  intro e; subst e; simp [neAt] at h
def hasB (l : List Int) (n : Int) : Bool := l.any fun x => decide (x = n)
theorem has_false {l : List Int} {n : Int} (h : ∀ j : Nat, j < l.length → decide (l.getD (j : Int).toNat default = n) = false) : hasB l n = false := by
  simp only [hasB, List.any_eq_false]
  intro x hx
  obtain ⟨j, hj, rfl⟩ := List.getElem_of_mem hx
  have := h j hj
  simpa [List.getD_eq_getElem?_getD, hj] using this
theorem has_true {l : List Int} {n : Int} {j : Nat} (hj : j < l.length) (h : decide (l.getD (j : Int).toNat default = n) = true) : hasB l n = true := by
  simp only [hasB, List.any_eq_true]
  exact ⟨_, getD_mem hj, by simpa using h⟩

/-- What the self-test's loop does. -/
def wake (s : Shrink) : Shrink := tellD s (hasB (candidateD s).1 1 && hasB (candidateD s).1 2)
def wakes : Nat → Shrink
  | 0 => (startD 4).1
  | n + 1 => wake (wakes n)
def waked : Nat := ((List.range 101).find? fun n => doneB (wakes n)).getD 100
theorem waked_eq : doneB (wakes waked) = true ∧ waked < 100 ∧ (wakes waked).kept = [1, 2] ∧ (startD 4).2 = 0 ∧ boundD 4 = 60 := by decide +kernel
theorem waked_lt : ∀ n, n < waked → doneB (wakes n) = false ∧ (candidateD (wakes n)).2 = true ∧ (wakes n).kept.length ≤ 1024 := by decide +kernel

theorem cand_ok_of {s : Shrink} (h : (!(candidateD s).2) = false) : ((!validB s) || doneB s) = false := by
  cases hb : ((!validB s) || doneB s) with
  | false => rfl
  | true => rw [candidate_dead hb] at h; cases h
theorem cand_no_of {s : Shrink} (h : (!(candidateD s).2) = true) : ((!validB s) || doneB s) = true := by
  cases hb : ((!validB s) || doneB s) with
  | true => rfl
  | false => rw [candidate_live hb] at h; cases h
theorem shrinkR_eq {k k' : List Int} {p p' t t' u u' : Int} (h1 : k = k') (h2 : p = p') (h3 : t = t') (h4 : u = u') : [Rp.slice eI k, Rp.int .i64 p, Rp.int .i64 t, Rp.int .i64 u] = shrinkR ⟨k', p', t', u'⟩ := by
  subst h1; subst h2; subst h3; subst h4; rfl
theorem candD_tests (s : Shrink) (t : Int) : candD { s with tests := t } = candD s := rfl
theorem tell_yes {s : Shrink} (h : ((!validB s) || doneB s) = false) :
    tellD s true = ⟨candD s, if s.parts ≤ s.tries ∧ 2 ≤ (candD s).length then max (s.parts - 1) 2 else if (candD s).length < 2 then 1 else 2, 0, min (s.tests + 1) 1099511627776⟩ := by
  by_cases h2 : (candD s).length < 2
  · have hb : begun ((candD s).length : Int) = 1 := if_pos (by omega)
    simp [tellD, h, reducedD, candD_tests, hb, h2]
    omega
  · have hb : begun ((candD s).length : Int) = 2 := if_neg (by omega)
    simp [tellD, h, reducedD, candD_tests, hb, h2, show 2 ≤ (candD s).length by omega]

theorem asc_iota (n : Nat) : ascB (iota n) = true := by
  refine ascB_true fun j hj => ?_
  rw [iota_length] at hj
  have hg : ∀ k : Nat, k < n → (iota n).getD k default = (k : Int) := fun k hk => by simp [iota, List.getD_eq_getElem?_getD, hk]
  simp only [badAt, Int.toNat_natCast, hg j hj]
  rcases Nat.eq_zero_or_pos j with h0 | h0
  · subst h0; simp
  · rw [show ((j : Int) - 1).toNat = j - 1 by omega, hg (j - 1) (by omega)]
    simp; omega
theorem start_valid (n : Int) : ((!decide ((startD n).2 = 0)) || validB (startD n).1) = true := by
  unfold startD
  split
  · rfl
  · split
    · rfl
    · simp only [Bool.or_eq_true]
      right
      have hl := iota_length n.toNat
      refine valid_iff.2 ⟨by simp only [hl]; omega, by simp, asc_iota _, fun h => ?_, fun h => ?_⟩ <;> simp only [hl] at h
      · simp only [begun]; rw [if_pos (by omega)]; exact ⟨rfl, trivial⟩
      · simp only [begun, hl]; rw [if_neg (by omega)]; omega
end Go.Proofs.Ytlfnljpnoololaa
