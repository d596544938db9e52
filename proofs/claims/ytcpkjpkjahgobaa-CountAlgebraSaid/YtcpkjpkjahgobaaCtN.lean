/- Weighing: products over levels, and sums over nodes. -/
import Derived.Test.YtcpkjpkjahgobaaCtM
namespace Go.Proofs.Ytcpkjpkjahgobaa
open Go.Sim

def OnesP (ones : List Int) : Prop := ∀ i : Nat, i < ones.length → 0 ≤ ones.getD i default ∧ ones.getD i default ≤ 9223372036854775807
theorem allP_ints : ∀ {xs : List Int} {w : World} {C : Nat → Prop} {vs : List Value}, AllP (xs.flatMap eI) w C vs → ∀ x ∈ xs, InR .i64 x
  | [], _, _, _, _, x, hx => by cases hx
  | y :: xs, _, _, [], h, _, _ => h.elim
  | y :: xs, w, C, v :: vs, h, x, hx => by
    rcases List.mem_cons.1 hx with rfl | hx
    · exact h.1.2
    · exact allP_ints (xs := xs) h.2 x hx
theorem ints_fact {xs : List Int} (w : World) (C : Nat → Prop) (v : Value) (h : (Rp.slice eI xs).p w C v) : ∀ i : Nat, i < xs.length → InR .i64 (xs.getD i default) := by
  intro i hi
  have hm : xs.getD i default ∈ xs := by
    rw [List.getD_eq_getElem?_getD, List.getElem?_eq_getElem hi]; exact List.getElem_mem hi
  obtain ⟨_, h⟩ := h
  rcases h with ⟨_, rfl⟩ | ⟨a, cap, _, _, h⟩
  · simp at hi
  · rcases h with rfl | h
    · simp at hi
    · obtain ⟨_, _, cs, T, fr, _, h3⟩ := h
      exact allP_ints h3.1 _ hm
theorem ones_p {ones : List Int} (h : ∀ i : Nat, i < ones.length → InR .i64 (ones.getD i default)) (h0 : ∀ i : Nat, i < ones.length → ¬ ones.getD i default < 0) : OnesP ones := fun i hi => by
  have := h i hi; have := h0 i hi; simp only [InR] at *; omega
theorem amt_w {v : Int} (h : 0 ≤ v ∧ v ≤ 9223372036854775807) (w : World) (C : Nat → Prop) (u : Value) (hu : (Rp.agg [Rp.int .i64 v, Rp.bool false]).p w C u) : (rM v.toNat).p w C u := by
  have e : eA v.toNat = [Rp.int .i64 v, Rp.bool false] := by
    unfold eA; rw [amt_small (by omega)]; unfold eM; dsimp only; rw [Int.toNat_of_nonneg h.1]
  show (Rp.agg (eA v.toNat)).p w C u
  rw [e]; exact hu
def one (ones : List Int) (i : Int) : Nat := (ones.getD i.toNat default).toNat
def skP (ones : List Int) (a : Nat) : Nat → Nat
  | 0 => 1
  | j + 1 => skP ones a j * (1 + one ones ((a + j : Nat) : Int))
def skipD (ones : List Int) (a b : Int) : Nat := skP ones a.toNat (b - a).toNat
theorem skP_add (ones : List Int) (a : Nat) (i : Nat) : ∀ j, skP ones a (i + j) = skP ones a i * skP ones (a + i) j
  | 0 => by simp [skP]
  | j + 1 => by rw [← Nat.add_assoc, skP, skP_add ones a i j, skP, Nat.mul_assoc, Nat.add_assoc]
theorem skip_add {ones : List Int} {a b c : Int} (h0 : 0 ≤ a) (h1 : a ≤ b) (h2 : b ≤ c) : skipD ones a c = skipD ones a b * skipD ones b c := by
  unfold skipD
  rw [show (c - a).toNat = (b - a).toNat + (c - b).toNat by omega, skP_add, show a.toNat + (b - a).toNat = b.toNat by omega]
def wcb (l : List Node) (ones : List Int) (n : Node) (lo hi : Nat) : Nat := lo * skipD ones (n.level + 1) (lvl l ones.length n.lo) + hi * skipD ones (n.level + 1) (lvl l ones.length n.hi) * one ones n.level
def wsum (l : List Node) (ones : List Int) (f : Int) : Nat := fold l (wcb l ones) 0 1 f
def wfrom (l : List Node) (ones : List Int) (f level : Int) : Nat := wsum l ones f * skipD ones level (lvl l ones.length f)
def okW (l : List Node) (ones : List Int) (n : Node) (_ _ : Nat) : Prop := ∃ k, FitP l k ones.length ∧ 1 < k ∧ n = nd l k
def negB (ones : List Int) : Bool := decide (∃ i, i < ones.length ∧ ones.getD i default < 0)
def weighD (l : List Node) (f : Int) (ones : List Int) : Int × Int :=
  if fitsB l f ones.length = true then (if negB ones = true then (0, 1) else (if (amt (wfrom l ones f 0)).large = true then (0, 3) else ((amt (wfrom l ones f 0)).n, 0))) else (0, 1)
def wghR (l : List Node) (ones : List Int) : List Rp := [Rp.slice eN l, Rp.int .i64 ones.length, Rp.slice eI ones]
theorem wfrom_zero {l : List Node} {ones : List Int} {level : Int} : wfrom l ones 0 level = 0 := by unfold wfrom wsum; rw [fold_end (by decide)]; simp
theorem wfrom_one {l : List Node} {ones : List Int} {level : Int} (h : FitP l 1 ones.length) : wfrom l ones 1 level = skipD ones level ones.length := by
  unfold wfrom wsum; rw [fold_end (by decide), h.lvl_end (by decide)]; simp
theorem wfrom_node {l : List Node} {ones : List Int} {f level : Int} (h : FitP l f ones.length) (h1 : 1 < f) (_h0 : 0 ≤ level) (_hl : level ≤ (nd l f).level) :
    wfrom l ones f level = skipD ones level (nd l f).level * (wfrom l ones (nd l f).lo ((nd l f).level + 1) + one ones (nd l f).level * wfrom l ones (nd l f).hi ((nd l f).level + 1)) := by
  obtain ⟨e1, e2, e3, e4, e5⟩ := h.lvl_node h1
  have e : wsum l ones f = wcb l ones (nd l f) (wsum l ones (nd l f).lo) (wsum l ones (nd l f).hi) := fold_node h.good h.ok h1
  unfold wfrom
  rw [e, e1, Nat.mul_comm]
  unfold wcb
  congr 2
  rw [Nat.mul_comm]
theorem skP_next {ones : List Int} {a : Int} {i : Nat} (h0 : 0 ≤ a) : skP ones a.toNat (i + 1) = skP ones a.toNat i * (1 + one ones (a + (i : Nat))) := by
  rw [skP]; congr 3; omega
/-! The reference's products. -/
theorem amt_zero {x : Nat} : amt x = ⟨0, false⟩ ↔ x = 0 := by
  by_cases h : x ≤ 9223372036854775807
  · rw [amt_small h]; simp
  · rw [amt_big h]; simp; omega
theorem rt_zero {x y : Nat} (h : (decide (amt x = ⟨0, false⟩) || decide (amt y = ⟨0, false⟩)) = true) : x * y = 0 := by
  simp only [Bool.or_eq_true, decide_eq_true_eq, amt_zero] at h
  rcases h with h | h <;> simp [h]
theorem rt_nz {x y : Nat} (h : (decide (amt x = ⟨0, false⟩) || decide (amt y = ⟨0, false⟩)) = false) : 1 ≤ x ∧ 1 ≤ y := by
  simp only [Bool.or_eq_false_iff, decide_eq_false_iff_not, amt_zero] at h; omega
theorem rq_pos {x y : Nat} (h : (decide (amt x = ⟨0, false⟩) || decide (amt y = ⟨0, false⟩)) = false) (hg : ((amt x).large || (amt y).large) = false) : 0 < (amt y).n := by
  have := rt_nz h; have := amt_fine (Bool.or_eq_false_iff.1 hg).2; omega
theorem rt_large {x y : Nat} (h : (decide (amt x = ⟨0, false⟩) || decide (amt y = ⟨0, false⟩)) = false) (h2 : (((amt x).large || (amt y).large) || decide (9223372036854775807 / (amt y).n < (amt x).n)) = true) : amt (x * y) = ⟨0, true⟩ := by
  apply amt_big
  obtain ⟨p1, p2⟩ := rt_nz h
  have q1 : x ≤ x * y := Nat.le_mul_of_pos_right _ p2
  have q2 : y ≤ x * y := Nat.le_mul_of_pos_left _ p1
  cases h1 : (amt x).large with
  | true => have := amt_large h1; omega
  | false => cases h3 : (amt y).large with
    | true => have := amt_large h3; omega
    | false =>
      have f1 := amt_fine h1; have f2 := amt_fine h3
      rw [h1, h3, f1.2, f2.2] at h2
      simp only [Bool.false_or, decide_eq_true_eq] at h2
      have hq : ((9223372036854775807 / y : Nat) : Int) = 9223372036854775807 / (y : Int) := Int.natCast_ediv _ _
      have h4 : (9223372036854775807 / y : Nat) < x := by
        rw [← hq] at h2; exact Int.ofNat_lt.1 h2
      have := (Nat.div_lt_iff_lt_mul (by omega)).1 h4
      omega
theorem rt_small {x y : Nat} (h : (decide (amt x = ⟨0, false⟩) || decide (amt y = ⟨0, false⟩)) = false) (h2 : (((amt x).large || (amt y).large) || decide (9223372036854775807 / (amt y).n < (amt x).n)) = false) :
    amt (x * y) = ⟨(amt x).n * (amt y).n, false⟩ ∧ 0 ≤ (amt x).n * (amt y).n ∧ (amt x).n * (amt y).n ≤ 9223372036854775807 := by
  obtain ⟨p1, p2⟩ := rt_nz h
  simp only [Bool.or_eq_false_iff, decide_eq_false_iff_not] at h2
  have f1 := amt_fine h2.1.1; have f2 := amt_fine h2.1.2
  have h3 := h2.2
  rw [f1.2, f2.2] at h3
  have hq : ((9223372036854775807 / y : Nat) : Int) = 9223372036854775807 / (y : Int) := Int.natCast_ediv _ _
  have h4 : ¬ (9223372036854775807 / y : Nat) < x := by
    rw [← hq] at h3; exact fun hh => h3 (Int.ofNat_lt.2 hh)
  rw [Nat.div_lt_iff_lt_mul (by omega)] at h4
  have e : (amt x).n * (amt y).n = ((x * y : Nat) : Int) := by rw [f1.2, f2.2]; norm_cast
  rw [e, amt_small (by omega)]
  exact ⟨rfl, by omega, by omega⟩
theorem neg_no {ones : List Int} (h : ∀ i : Nat, i < ones.length → ¬ ones.getD i default < 0) : negB ones = false := by
  unfold negB; rw [decide_eq_false_iff_not]; rintro ⟨i, h1, h2⟩; exact h i h1 h2
theorem neg_yes {ones : List Int} {i : Nat} (h1 : i < ones.length) (h2 : ones.getD i default < 0) : negB ones = true := decide_eq_true ⟨i, h1, h2⟩
end Go.Proofs.Ytcpkjpkjahgobaa
