/- The document's algorithm on data: what stays valid, what is kept, and that it ends. -/
import Derived.Test.YtlfnljpnoololaaDdA
namespace Go.Proofs.Ytlfnljpnoololaa
open Go.Sim

/-! Ascending lists. -/
def Asc (l : List Int) : Prop := l.Pairwise (· < ·) ∧ ∀ x ∈ l, 0 ≤ x
theorem asc_iff {l : List Int} : ascB l = true ↔ Asc l := by
  have hg : ∀ (k : Nat) (hk : k < l.length), l.getD k default = l[k] := fun k hk => by simp [List.getD_eq_getElem?_getD, hk]
  constructor
  · intro h
    simp only [ascB, List.all_eq_true, List.mem_range, Bool.not_eq_true', badAt, Bool.or_eq_false_iff, decide_eq_false_iff_not, Bool.and_eq_false_iff, Int.not_lt, Int.not_le, Int.toNat_natCast] at h
    have hstep : ∀ (i : Nat) (hi : i + 1 < l.length), l[i] < l[i + 1] := fun i hi => by
      have := (h (i + 1) hi).2
      rw [show (((i + 1 : Nat) : Int) - 1).toNat = i by omega, hg _ hi, hg i (by omega)] at this
      omega
    have hall : ∀ (d i : Nat) (hi : i + d + 1 < l.length), l[i] < l[i + d + 1] := by
      intro d
      induction d with
      | zero => exact fun i hi => hstep i hi
      | succ d ih => exact fun i hi => Int.lt_trans (ih i (by omega)) (hstep (i + d + 1) hi)
    refine ⟨List.pairwise_iff_getElem.2 fun i j hi hj hij => ?_, fun x hx => ?_⟩
    · have := hall (j - i - 1) i (by omega)
      have e : i + (j - i - 1) + 1 = j := by omega
      simpa only [e] using this
    · obtain ⟨i, hi, rfl⟩ := List.getElem_of_mem hx
      have := (h i hi).1
      rw [hg i hi] at this; exact this
  · intro ⟨h1, h2⟩
    refine ascB_true fun j hj => ?_
    simp only [badAt, Bool.or_eq_false_iff, decide_eq_false_iff_not, Bool.and_eq_false_iff, Int.not_lt, Int.not_le, Int.toNat_natCast]
    rw [hg j hj]
    refine ⟨h2 _ (List.getElem_mem hj), ?_⟩
    rcases Nat.eq_zero_or_pos j with h0 | h0
    · subst h0; exact .inl (by omega)
    · right
      rw [show ((j : Int) - 1).toNat = j - 1 by omega, hg (j - 1) (by omega)]
      exact List.pairwise_iff_getElem.1 h1 (j - 1) j (by omega) hj (by omega)
theorem Asc.sub {l m : List Int} (h : Asc l) (hs : m.Sublist l) : Asc m := ⟨h.1.sublist hs, fun x hx => h.2 x (hs.subset hx)⟩
theorem rest_sub (l : List Int) {a b : Nat} (h : a ≤ b) : (l.take a ++ l.drop b).Sublist l := by
  have h1 : (l.drop b).Sublist (l.drop a) := by
    have := List.drop_sublist (b - a) (l.drop a)
    rw [List.drop_drop] at this
    rwa [show a + (b - a) = b by omega] at this
  have := (List.Sublist.refl (l.take a)).append h1
  rwa [List.take_append_drop] at this
theorem part_sub (l : List Int) (n i : Int) : (partD l n i).Sublist l := (List.take_sublist _ _).trans (List.drop_sublist _ _)
theorem cand_sub {s : Shrink} (h : Live s) : (candD s).Sublist s.kept := by
  have := h.v.large (by have := h.two; omega); have := h.lt
  unfold candD; split
  · exact part_sub _ _ _
  · exact rest_sub _ (by have := (from_le (k := s.kept.length) (n := s.parts) (i := s.tries - s.parts) (by omega) (by omega) (by omega) (by omega)).2.1; omega)

/-! Sizes. -/
theorem from_lo {k n i : Int} (hn : 0 < n) (hk : n ≤ k) (h0 : 0 ≤ i) : i ≤ fromD k n i := by
  unfold fromD
  rw [Int.le_ediv_iff_mul_le hn]
  exact Int.mul_le_mul_of_nonneg_left hk h0
theorem from_hi {k n i : Int} (hn : 0 < n) (hk : n ≤ k) (hi : i ≤ n) : fromD k n i ≤ k - (n - i) := by
  unfold fromD
  have h1 : i * k ≤ n * (k - (n - i)) := by
    have h2 : 0 ≤ (n - i) * (k - n) := Int.mul_nonneg (by omega) (by omega)
    have h3 : n * (k - (n - i)) - i * k = (n - i) * (k - n) := by
      simp only [Int.mul_sub, Int.sub_mul]
      rw [Int.mul_comm n k, Int.mul_comm i k, Int.mul_comm n i]
      omega
    omega
  have := Int.ediv_le_ediv hn h1
  rwa [Int.mul_ediv_cancel_left _ (by omega)] at this
theorem from_step {k n i : Int} (hn : 0 < n) (hk : n ≤ k) : fromD k n i + 1 ≤ fromD k n (i + 1) := by
  unfold fromD
  have h1 : i * k + n ≤ (i + 1) * k := by rw [Int.add_mul]; omega
  have := Int.ediv_le_ediv hn h1
  rwa [Int.add_ediv_of_dvd_right (Int.dvd_refl n), Int.ediv_self (by omega)] at this
theorem part_len (l : List Int) {n i : Int} (hn : 0 < n) (h0 : 0 ≤ i) (hi : i < n) : ((partD l n i).length : Int) = fromD l.length n (i + 1) - fromD l.length n i := by
  have := from_le (k := l.length) (n := n) (i := i) (by omega) hn h0 hi
  simp only [partD, List.length_take, List.length_drop]; omega
theorem rest_len (l : List Int) {n i : Int} (hn : 0 < n) (h0 : 0 ≤ i) (hi : i < n) : ((restD l n i).length : Int) = l.length - (fromD l.length n (i + 1) - fromD l.length n i) := by
  have := from_le (k := l.length) (n := n) (i := i) (by omega) hn h0 hi
  simp only [restD, List.length_append, List.length_take, List.length_drop]; omega
theorem part_pos (l : List Int) {n i : Int} (hn : 0 < n) (hk : n ≤ l.length) (h0 : 0 ≤ i) (hi : i < n) : 1 ≤ (partD l n i).length := by
  have := part_len l hn h0 hi; have := from_step (i := i) hn hk; omega
theorem rest_ge (l : List Int) {n i : Int} (hn : 0 < n) (hk : n ≤ l.length) (h0 : 0 ≤ i) (hi : i < n) : n - 1 ≤ (restD l n i).length := by
  have := rest_len l hn h0 hi; have := from_lo (k := l.length) hn hk h0; have := from_hi (k := l.length) (i := i + 1) hn hk (by omega); omega
theorem rest_lt (l : List Int) {n i : Int} (hn : 0 < n) (hk : n ≤ l.length) (h0 : 0 ≤ i) (hi : i < n) : (restD l n i).length < l.length := by
  have := rest_len l hn h0 hi; have := from_step (i := i) hn hk; omega
theorem part_lt (l : List Int) {n i : Int} (hn : 2 ≤ n) (hk : n ≤ l.length) (h0 : 0 ≤ i) (hi : i < n) : (partD l n i).length < l.length := by
  have := part_len l (by omega) h0 hi; have := from_lo (k := l.length) (i := i) (by omega) hk h0; have := from_hi (k := l.length) (i := i + 1) (by omega) hk (by omega); omega

/-! What is told stays valid. -/
theorem tell_no {s : Shrink} (h : ((!validB s) || doneB s) = false) :
    tellD s false = if s.tries + 1 = 2 * s.parts ∧ s.parts < s.kept.length then ⟨s.kept, min (2 * s.parts) s.kept.length, 0, min (s.tests + 1) 1099511627776⟩ else ⟨s.kept, s.parts, s.tries + 1, min (s.tests + 1) 1099511627776⟩ := by
  simp only [tellD, h, Bool.false_eq_true, if_false, Bool.and_eq_true, decide_eq_true_eq]
theorem tell_valid (s : Shrink) (f : Bool) : validB (tellD s f) = validB s := by
  cases hb : ((!validB s) || doneB s) with
  | true => simp only [tellD, hb, if_true]
  | false =>
    have h := live_of' hb
    have hlg := h.v.large (by have := h.two; omega); have hlt := h.lt; have htw := h.two; have hln := h.v.len; have hte := h.v.tests
    have hv : validB s = true := valid_iff.2 h.v
    rw [hv]
    refine valid_iff.2 ?_
    cases f with
    | false =>
      rw [tell_no hb]
      split
      · exact ⟨hln, by simp only; omega, h.v.asc, fun h2 => by simp only at h2; omega, fun _ => by simp only; omega⟩
      · exact ⟨hln, by simp only; omega, h.v.asc, fun h2 => by simp only at h2; omega, fun _ => by simp only; omega⟩
    | true =>
      rw [tell_yes hb]
      have hsub := cand_sub h
      have hcl := hsub.length_le
      refine ⟨by simp only; omega, by simp only; omega, asc_iff.2 ((asc_iff.1 h.v.asc).sub hsub), fun h2 => ?_, fun h2 => ?_⟩
      · simp only at h2 ⊢
        rw [if_neg (by omega), if_pos (by omega)]; exact ⟨rfl, trivial⟩
      · simp only at h2 ⊢
        split
        · rename_i h3
          have hr : s.parts - 1 ≤ (candD s).length := by
            unfold candD; rw [if_neg (by omega)]
            exact rest_ge _ (by omega) (by omega) (by omega) (by omega)
          omega
        · rw [if_neg (by omega)]; omega
theorem tell_dead {s : Shrink} (h : ((!validB s) || doneB s) = true) (f : Bool) : tellD s f = s := by simp only [tellD, h, if_true]
theorem tell_no' {s : Shrink} (h : ((!validB s) || doneB s) = false) : (tellD s false).kept = s.kept ∧ (tellD s false).tests = min (s.tests + 1) 1099511627776 := by
  rw [tell_no h]; split <;> exact ⟨rfl, rfl⟩

/-! The candidates p and p + parts. -/
theorem try_live {s : Shrink} (hv : Valid s) (h2 : 2 ≤ s.kept.length) {t : Int} (ht : 0 ≤ t ∧ t < 2 * s.parts) : Live { s with tries := t } := by
  have := hv.large (by omega)
  exact ⟨⟨hv.len, hv.tests, hv.asc, fun h => by simp only at h; omega, fun _ => by simp only; omega⟩, h2, ht.2⟩
theorem try_cand {s : Shrink} (hv : Valid s) (h2 : 2 ≤ s.kept.length) {t : Int} (ht : 0 ≤ t ∧ t < 2 * s.parts) : candidateD { s with tries := t } = (candD { s with tries := t }, true) := by
  have h := try_live hv h2 ht
  have hv' : validB { s with tries := t } = true := valid_iff.2 h.v
  refine candidate_live ?_
  have hp := h.v.large (by have := h.two; omega)
  simp only [hv', Bool.not_true, Bool.false_or, doneB, Bool.true_and, Bool.or_eq_false_iff, decide_eq_false_iff_not]
  exact ⟨by have := h.two; omega, by have := h.lt; omega⟩
theorem cand_part (s : Shrink) {t : Int} (h : t < s.parts) : candD { s with tries := t } = partD s.kept s.parts t := by simp [candD, h]
theorem cand_rest (s : Shrink) {t : Int} (h : 0 ≤ t) : candD { s with tries := t + s.parts } = restD s.kept s.parts t := by
  simp only [candD]; rw [if_neg (by omega)]; congr 1; omega
theorem mem_part (l : List Int) (n i : Int) (x : Int) (hl : l.Nodup) (h : 0 ≤ fromD l.length n i ∧ fromD l.length n i ≤ fromD l.length n (i + 1) ∧ fromD l.length n (i + 1) ≤ l.length) (hx : x ∈ l) :
    (x ∈ partD l n i ↔ ¬ x ∈ restD l n i) := by
  have hsplit : l = l.take (fromD l.length n i).toNat ++ (partD l n i ++ l.drop (fromD l.length n (i + 1)).toNat) := by
    have h1 : l.drop (fromD l.length n i).toNat = partD l n i ++ l.drop (fromD l.length n (i + 1)).toNat := by
      have := (List.take_append_drop ((fromD l.length n (i + 1)).toNat - (fromD l.length n i).toNat) (l.drop (fromD l.length n i).toNat)).symm
      rw [List.drop_drop] at this
      rw [show (fromD l.length n i).toNat + ((fromD l.length n (i + 1)).toNat - (fromD l.length n i).toNat) = (fromD l.length n (i + 1)).toNat by omega] at this
      exact this
    rw [← h1, List.take_append_drop]
  have hnd := hl
  rw [hsplit] at hnd hx
  rw [List.nodup_append, List.nodup_append] at hnd
  obtain ⟨_, ⟨_, _, h2⟩, h3⟩ := hnd
  simp only [restD, List.mem_append] at hx ⊢
  constructor
  · intro hp hr
    rcases hr with hr | hr
    · exact h3 x hr x (by simp [hp]) rfl
    · exact h2 x hp x hr rfl
  · intro hr
    rcases hx with hx | hx | hx
    · exact absurd (.inl hx) hr
    · exact hx
    · exact absurd (.inr hx) hr
theorem asc_nodup {l : List Int} (h : Asc l) : l.Nodup := h.1.imp fun h => by omega
theorem has_mem (l : List Int) (n : Int) : hasB l n = true ↔ n ∈ l := by simp [hasB, List.any_eq_true]
theorem part_rest {s : Shrink} (hv : Valid s) (h2 : 2 ≤ s.kept.length) {t : Int} (ht : 0 ≤ t ∧ t < s.parts) (j : Nat) (hj : j < s.kept.length) :
    (hasB (partD s.kept s.parts t) (s.kept.getD (j : Int).toNat default) == hasB (restD s.kept s.parts t) (s.kept.getD (j : Int).toNat default)) = false := by
  have hp := hv.large (by omega)
  have := mem_part s.kept s.parts t (s.kept.getD j default) (asc_nodup (asc_iff.1 hv.asc)) (from_le (by omega) (by omega) (by omega) (by omega)) (getD_mem hj)
  rw [← has_mem, ← has_mem] at this
  simp only [Int.toNat_natCast]
  cases h1 : hasB (partD s.kept s.parts t) (s.kept.getD j default) <;> cases h3 : hasB (restD s.kept s.parts t) (s.kept.getD j default) <;> simp_all
theorem part_sum {s : Shrink} (hv : Valid s) (h2 : 2 ≤ s.kept.length) {t : Int} (ht : 0 ≤ t ∧ t < s.parts) :
    ((partD s.kept s.parts t).length : Int) + (restD s.kept s.parts t).length = s.kept.length ∧ 1 ≤ (partD s.kept s.parts t).length := by
  have hp := hv.large (by omega)
  have h3 := part_len s.kept (n := s.parts) (i := t) (by omega) (by omega) (by omega)
  have h4 := rest_len s.kept (n := s.parts) (i := t) (by omega) (by omega) (by omega)
  exact ⟨by omega, part_pos s.kept (by omega) (by omega) (by omega) (by omega)⟩

/-! The table's test. -/
def kStep (k x : Int) : Int := bitsOf .or .i64 k (IntKind.i64.wrap (1 * 2 ^ min (x % 8).toNat IntKind.i64.bits))
def kOf (l : List Int) : Int := l.foldl kStep 0
theorem kStep_small : ∀ k : Nat, k < 256 → ∀ x : Nat, x < 8 → 0 ≤ bitsOf .or .i64 (k : Int) (IntKind.i64.wrap (1 * 2 ^ min x IntKind.i64.bits)) ∧ bitsOf .or .i64 (k : Int) (IntKind.i64.wrap (1 * 2 ^ min x IntKind.i64.bits)) ≤ 255 := by decide +kernel
theorem kStep_in {k x : Int} (hk : 0 ≤ k ∧ k ≤ 255) : 0 ≤ kStep k x ∧ kStep k x ≤ 255 := by
  have := kStep_small k.toNat (by omega) (x % 8).toNat (by omega)
  rw [show ((k.toNat : Nat) : Int) = k by omega] at this
  exact this
theorem kOf_take (l : List Int) {i : Nat} (h : i < l.length) : kOf (l.take (i + 1)) = kStep (kOf (l.take i)) (l.getD i default) := by
  rw [take_snoc l h]; simp only [kOf, List.foldl_append, List.foldl_cons, List.foldl_nil]
theorem kOf_in : ∀ (l : List Int) (k : Int), 0 ≤ k ∧ k ≤ 255 → 0 ≤ l.foldl kStep k ∧ l.foldl kStep k ≤ 255
  | [], _, h => h
  | _ :: l, _, h => kOf_in l _ (kStep_in h)
def failsB (table : List Int) (l : List Int) : Bool := decide (kOf l / 8 < table.length) && decide (((table.getD (kOf l / 8).toNat default).fdiv (2 ^ min (kOf l % 8).toNat IntKind.u8.bits)).tmod 2 = 1)
end Go.Proofs.Ytlfnljpnoololaa
