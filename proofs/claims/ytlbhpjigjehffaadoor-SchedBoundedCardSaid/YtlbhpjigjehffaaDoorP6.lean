/- Lemmas for the claim, part 6: rules for walks, contracts of functions, the data they compute. No conditions. -/
import Derived.Test.YtlbhpjigjehffaaDoorP3
import Derived.Test.YtlbhpjigjehffaaDoorP5
import Derived.Test.YtlbhpjigjehffaaDoorP4
/- Plans as lists of numbers: complete ones, sums, the bound from below and from above. -/
namespace Go.Proofs.YtlbhpjigjehffaaDoor
open Go.Sim
theorem planOk_flat {s : CS} {p : List (List Int)} : planOk s p = rowOk s p.flatten ∧ planC s p = rowC s p.flatten := by
  induction p generalizing s with
  | nil => exact ⟨rfl, rfl⟩
  | cons x p ih =>
    have h := ih (s := rowC s x)
    rw [List.flatten_cons, rowOk_app, planOk, h.1]
    refine ⟨rfl, ?_⟩
    show planC (rowC s x) p = _
    rw [h.2]; unfold rowC; rw [List.foldl_append]
theorem rowOk_iff : ∀ {ix : List Int} {s : CS}, rowOk s ix = true ↔ inR s.seen.length ix ∧ ix.Nodup ∧ ∀ i ∈ ix, s.seen.getD i.toNat default = false
  | [], s => by simp [rowOk, inR]
  | x :: a, s => by
    rw [rowOk, Bool.and_eq_true, rowOk_iff (ix := a) (s := stepC s x), List.nodup_cons]
    have hl : (stepC s x).seen.length = s.seen.length := by simp [stepC]
    rw [hl]
    have hb : (!badC s x) = true ↔ (0 ≤ x ∧ x < s.seen.length) ∧ s.seen.getD x.toNat default = false := by
      unfold badC
      simp only [Bool.not_eq_true', Bool.or_eq_false_iff, decide_eq_false_iff_not]
      constructor
      · rintro ⟨⟨h1, h2⟩, h3⟩; exact ⟨⟨by omega, by omega⟩, h3⟩
      · rintro ⟨⟨h1, h2⟩, h3⟩; exact ⟨⟨by omega, by omega⟩, h3⟩
    rw [hb]
    constructor
    · rintro ⟨⟨h1, h2⟩, h3, h4, h5⟩
      have hne : ∀ i ∈ a, i ≠ x := fun i hi e => by
        have := h5 i hi
        subst e
        simp [stepC, List.getD, show i.toNat < s.seen.length by omega] at this
      refine ⟨fun i hi => ?_, ⟨fun h => hne x h rfl, h4⟩, fun i hi => ?_⟩
      · rcases List.mem_cons.1 hi with rfl | hi
        · exact h1
        · exact h3 i hi
      · rcases List.mem_cons.1 hi with rfl | hi
        · exact h2
        · have h6 := h5 i hi
          have h7 := h3 i hi
          have h8 : x.toNat ≠ i.toNat := fun e => hne i hi (by omega)
          simpa [stepC, List.getD, List.getElem?_set, h8] using h6
    · rintro ⟨h1, ⟨h2, h3⟩, h4⟩
      have hx := h1 x List.mem_cons_self
      refine ⟨⟨hx, h4 x List.mem_cons_self⟩, fun i hi => h1 i (List.mem_cons_of_mem _ hi), h3, fun i hi => ?_⟩
      have h7 := h1 i (List.mem_cons_of_mem _ hi)
      have h8 : x.toNat ≠ i.toNat := fun e => h2 (by rw [show x = i by omega]; exact hi)
      have h9 := h4 i (List.mem_cons_of_mem _ hi)
      simpa [stepC, List.getD, List.getElem?_set, h8] using h9
theorem nodup_perm : ∀ {a b : List Int}, a.Nodup → (∀ x ∈ a, x ∈ b) → b.length ≤ a.length → a.Perm b
  | [], b, _, _, h => by
    have : b = [] := List.length_eq_zero_iff.1 (by simpa using h)
    subst this; exact .refl _
  | x :: a, b, hn, hm, h => by
    have hx := hm x List.mem_cons_self
    have hp := List.perm_cons_erase hx
    rw [List.nodup_cons] at hn
    have hl := hp.length_eq
    simp only [List.length_cons] at hl h
    refine ((nodup_perm hn.2 (fun y hy => ?_) (by omega)).cons x).trans hp.symm
    exact (List.mem_erase_of_ne (fun e => hn.1 (by rw [← e]; exact hy))).2 (hm y (List.mem_cons_of_mem _ hy))
theorem iota_nodup (n : Nat) : (iota n n).Nodup := by
  rw [iota_cast, List.Nodup, List.pairwise_map]
  exact List.nodup_range.imp fun h e => h (by omega)
theorem iota_mem_iff {n : Nat} {x : Int} : x ∈ iota n n ↔ 0 ≤ x ∧ x < n := by
  constructor
  · exact iota_in n x
  · intro h
    rw [iota_cast, List.mem_map]
    exact ⟨x.toNat, by rw [List.mem_range]; omega, by omega⟩
/-- A plan is complete if it has the numbers in some order. -/
theorem complete_iff {p : List (List Int)} {n : Nat} : completeB p n = true ↔ p.flatten.Perm (iota n n) := by
  unfold completeB
  rw [Bool.and_eq_true, decide_eq_true_eq, planOk_flat.1, planOk_flat.2, rowOk_iff, (rowC_len _ _).2]
  have hs : (cs0 n).seen.length = n := by simp [cs0]
  have hl : (cs0 n).left = n := rfl
  rw [hs, hl]
  constructor
  · rintro ⟨⟨h1, h2, _⟩, h4⟩
    exact nodup_perm h2 (fun x hx => iota_mem_iff.2 (h1 x hx)) (by rw [iota_len]; omega)
  · intro h
    have h1 : inR n p.flatten := fun x hx => iota_in n x (h.mem_iff.1 hx)
    refine ⟨⟨h1, (h.nodup_iff).2 (iota_nodup n), fun i hi => ?_⟩, ?_⟩
    · have := h1 i hi
      simp only [cs0, List.getD, List.getElem?_replicate]
      split <;> rfl
    · have := h.length_eq
      rw [iota_len] at this; omega
/-! Sums. -/
theorem sumC_from (l : List Jb) (ix : List Int) (m : Int) : ix.foldl (fun n i => n + costAt l i) m = m + (ix.map (costAt l)).sum := by
  induction ix generalizing m with
  | nil => simp
  | cons x a ih => rw [List.foldl_cons, ih, List.map_cons, List.sum_cons]; omega
theorem sumC_sum (l : List Jb) (ix : List Int) : sumC l ix = (ix.map (costAt l)).sum := by unfold sumC; rw [sumC_from]; omega
theorem perm_sum {a b : List Int} (h : a.Perm b) : a.sum = b.sum := by
  induction h with
  | nil => rfl
  | cons x _ ih => simp [ih]
  | swap x y l => simp only [List.sum_cons]; omega
  | trans _ _ h1 h2 => omega
theorem sumC_perm {l : List Jb} {a b : List Int} (h : a.Perm b) : sumC l a = sumC l b := by rw [sumC_sum, sumC_sum]; exact perm_sum (h.map _)
theorem sumC_append (l : List Jb) (a b : List Int) : sumC l (a ++ b) = sumC l a + sumC l b := by rw [sumC_sum, sumC_sum, sumC_sum, List.map_append, List.sum_append]
theorem sumC_flat (l : List Jb) : ∀ p : List (List Int), sumC l p.flatten = (p.map (sumC l)).sum
  | [] => rfl
  | x :: p => by rw [List.flatten_cons, sumC_append, sumC_flat l p, List.map_cons, List.sum_cons]
theorem cost_pos {l : List Jb} (hl : jobsE l = 0) {i : Int} (h : 0 ≤ i ∧ i < l.length) : 1 ≤ costAt l i ∧ costAt l i ≤ 1048576 := jobs_cost hl (by omega)
theorem sumC_nonneg {l : List Jb} (hl : jobsE l = 0) : ∀ {ix : List Int}, inR l.length ix → 0 ≤ sumC l ix
  | [], _ => by simp [sumC]
  | x :: a, h => by
    have h1 := cost_pos hl (h x List.mem_cons_self)
    have h2 := sumC_nonneg hl (ix := a) fun i hi => h i (List.mem_cons_of_mem _ hi)
    rw [sumC_sum] at h2 ⊢
    rw [List.map_cons, List.sum_cons]; omega
theorem cost_le_sum {l : List Jb} (hl : jobsE l = 0) {ix : List Int} (h : inR l.length ix) {i : Int} (hi : i ∈ ix) : costAt l i ≤ sumC l ix := by
  induction ix with
  | nil => cases hi
  | cons x a ih =>
    have h1 := cost_pos hl (h x List.mem_cons_self)
    have hr : inR l.length a := fun i hi => h i (List.mem_cons_of_mem _ hi)
    have h2 := sumC_nonneg hl hr
    have e : sumC l (x :: a) = costAt l x + sumC l a := by rw [sumC_sum, sumC_sum]; simp
    rw [e]
    rcases List.mem_cons.1 hi with rfl | hi
    · omega
    · have := ih hr hi; omega
theorem total_sum (l : List Jb) : totalC l = sumC l (iota l.length l.length) := by
  have key : ∀ k, k ≤ l.length → totalC (l.take k) = sumC l ((iota l.length l.length).take k) := by
    intro k
    induction k with
    | zero => intro _; simp [totalC, sumC]
    | succ k ih =>
      intro hk
      rw [total_step (by omega), sum_step (by rw [iota_len]; omega), ih (by omega), iota_at (by omega)]
      simp [costAt]
  have := key l.length (Nat.le_refl _)
  rw [List.take_length] at this
  rw [this, List.take_of_length_le (by rw [iota_len]; exact Nat.le_refl _)]
theorem great_ge {l : List Jb} : 0 ≤ greatC l ∧ ∀ i, i < l.length → (l.getD i default).cost ≤ greatC l := by
  have key : ∀ k, k ≤ l.length → 0 ≤ greatC (l.take k) ∧ ∀ i, i < k → (l.getD i default).cost ≤ greatC (l.take k) := by
    intro k
    induction k with
    | zero => intro _; exact ⟨by simp [greatC], fun i hi => absurd hi (Nat.not_lt_zero _)⟩
    | succ k ih =>
      intro hk
      obtain ⟨h1, h2⟩ := ih (by omega)
      rw [great_step (by omega)]
      refine ⟨by omega, fun i hi => ?_⟩
      by_cases e : i = k
      · subst e; omega
      · have := h2 i (by omega); omega
  have := key l.length (Nat.le_refl _)
  rw [List.take_length] at this
  exact this
theorem great_is {l : List Jb} {m : Int} (h0 : 0 ≤ m) (h : ∀ i, i < l.length → (l.getD i default).cost ≤ m) : greatC l ≤ m := by
  have key : ∀ k, k ≤ l.length → greatC (l.take k) ≤ m := by
    intro k
    induction k with
    | zero => intro _; simpa [greatC] using h0
    | succ k ih =>
      intro hk
      rw [great_step (by omega)]
      have h1 := ih (by omega)
      have h2 := h k (by omega)
      omega
  have := key l.length (Nat.le_refl _)
  rwa [List.take_length] at this
theorem span_ge {l : List Jb} {p : List (List Int)} : 0 ≤ spanC l p ∧ ∀ x ∈ p, sumC l x ≤ spanC l p := by
  have key : ∀ k, k ≤ p.length → 0 ≤ spanC l (p.take k) ∧ ∀ i, i < k → sumC l (p.getD i default) ≤ spanC l (p.take k) := by
    intro k
    induction k with
    | zero => intro _; exact ⟨by simp [spanC], fun i hi => absurd hi (Nat.not_lt_zero _)⟩
    | succ k ih =>
      intro hk
      obtain ⟨h1, h2⟩ := ih (by omega)
      rw [span_step (by omega)]
      refine ⟨by omega, fun i hi => ?_⟩
      by_cases e : i = k
      · subst e; omega
      · have := h2 i (by omega); omega
  have := key p.length (Nat.le_refl _)
  rw [List.take_length] at this
  refine ⟨this.1, fun x hx => ?_⟩
  obtain ⟨i, hi, rfl⟩ := mem_getD hx
  exact this.2 i hi
theorem span_is {l : List Jb} {p : List (List Int)} {m : Int} (h0 : 0 ≤ m) (h : ∀ x ∈ p, sumC l x ≤ m) : spanC l p ≤ m := by
  have key : ∀ k, k ≤ p.length → spanC l (p.take k) ≤ m := by
    intro k
    induction k with
    | zero => intro _; simpa [spanC] using h0
    | succ k ih =>
      intro hk
      rw [span_step (by omega)]
      have h1 := ih (by omega)
      have h2 := h _ (getD_mem' (show k < p.length by omega))
      omega
  have := key p.length (Nat.le_refl _)
  rwa [List.take_length] at this
theorem sum_le_mul {b : List Int} {m : Int} (h : ∀ x ∈ b, x ≤ m) : b.sum ≤ b.length * m := by
  induction b with
  | nil => simp
  | cons x b ih =>
    have h1 := h x List.mem_cons_self
    have h2 := ih fun y hy => h y (List.mem_cons_of_mem _ hy)
    rw [List.sum_cons, List.length_cons, show ((b.length + 1 : Nat) : Int) = b.length + 1 from rfl, Int.add_mul]; omega
theorem mul_le_sum {b : List Int} {m : Int} (h : ∀ x ∈ b, m ≤ x) : b.length * m ≤ b.sum := by
  induction b with
  | nil => simp
  | cons x b ih =>
    have h1 := h x List.mem_cons_self
    have h2 := ih fun y hy => h y (List.mem_cons_of_mem _ hy)
    rw [List.sum_cons, List.length_cons, show ((b.length + 1 : Nat) : Int) = b.length + 1 from rfl, Int.add_mul]; omega
theorem share_le {t w m : Int} (hw : 1 ≤ w) (h : t ≤ w * m) : (t + w - 1) / w ≤ m := by
  have h1 : t + w - 1 < (m + 1) * w := by rw [Int.add_mul, Int.mul_comm m w]; omega
  have := Int.ediv_lt_of_lt_mul (by omega) h1
  omega
theorem le_share {t w : Int} (hw : 1 ≤ w) : t ≤ w * ((t + w - 1) / w) := by
  have h1 := Int.mul_ediv_add_emod (t + w - 1) w
  have h2 := Int.emod_lt_of_pos (t + w - 1) (show 0 < w by omega)
  omega
/-- No complete plan is shorter than the bound. -/
theorem bound_least {l : List Jb} {p : List (List Int)} (hl : jobsE l = 0) (hw : 1 ≤ p.length) (hc : completeB p l.length = true) : max (greatC l) ((totalC l + p.length - 1) / p.length) ≤ spanC l p := by
  have hp := complete_iff.1 hc
  have hin := complete_in hc
  obtain ⟨s0, s1⟩ := span_ge (l := l) (p := p)
  have h1 : greatC l ≤ spanC l p := great_is s0 fun i hi => by
    have hm : ((i : Nat) : Int) ∈ p.flatten := hp.mem_iff.2 (iota_mem_iff.2 ⟨by omega, by omega⟩)
    obtain ⟨x, hx, hix⟩ := List.mem_flatten.1 hm
    have := cost_le_sum hl (hin x hx) hix
    have h2 := s1 x hx
    have e : costAt l ((i : Nat) : Int) = (l.getD i default).cost := by simp [costAt]
    omega
  have h2 : totalC l ≤ p.length * spanC l p := by
    rw [total_sum, ← sumC_perm hp, sumC_flat]
    have := sum_le_mul (b := p.map (sumC l)) (m := spanC l p) (fun y hy => by
      obtain ⟨x, hx, rfl⟩ := List.mem_map.1 hy
      exact s1 x hx)
    rwa [List.length_map] at this
  have h3 := share_le (w := p.length) (by omega) h2
  omega
/-! What the greedy plan is. -/
theorem flat_set {rs : List (List Int)} {j : Nat} {i : Int} (h : j < rs.length) : (rs.set j (rs.getD j default ++ [i])).flatten.Perm (rs.flatten ++ [i]) := by
  induction rs generalizing j with
  | nil => simp at h
  | cons r rs ih =>
    cases j with
    | zero =>
      rw [List.set_cons_zero, List.flatten_cons, List.flatten_cons]
      show (r ++ [i] ++ rs.flatten).Perm _
      rw [List.append_assoc, List.append_assoc]
      exact List.perm_append_comm.append_left r
    | succ j =>
      rw [List.set_cons_succ, List.flatten_cons, List.flatten_cons, List.append_assoc]
      exact (ih (by simpa using h)).append_left r
theorem run_flat {l : List Jb} {w : Nat} (hw : 1 ≤ w) {ix : List Int} : ∀ k, k ≤ ix.length → (runA l w (ix.take k)).rows.flatten.Perm (ix.take k)
  | 0, _ => by
    simp only [List.take_zero, runA, List.foldl_nil]
    have : (List.replicate w ([] : List Int)).flatten = [] := by rw [List.flatten_eq_nil_iff]; intro x hx; exact List.eq_of_mem_replicate hx
    rw [this]
  | k + 1, hk => by
    have h1 := run_flat (l := l) hw (ix := ix) k (by omega)
    have h2 := runA_len l w (ix.take k)
    have h3 := (wAt_eq (b := (runA l w (ix.take k)).busy) (by omega)).2
    rw [runA_step (by omega), take_succ (by omega)]
    exact (flat_set (by omega)).trans (h1.append_right _)
theorem run_sub {l : List Jb} {w : Nat} (hw : 1 ≤ w) {ix : List Int} : ∀ k, k ≤ ix.length → ∀ j : Nat, ((runA l w (ix.take k)).rows.getD j default).Sublist (ix.take k)
  | 0, _, j => by
    simp only [List.take_zero, runA, List.foldl_nil]
    have : (List.replicate w ([] : List Int)).getD j default = [] := by
      simp only [List.getD, List.getElem?_replicate]
      split <;> rfl
    rw [this]; exact List.Sublist.refl _
  | k + 1, hk, j => by
    have h1 := run_sub (l := l) hw (ix := ix) k (by omega)
    have h2 := runA_len l w (ix.take k)
    have h3 := (wAt_eq (b := (runA l w (ix.take k)).busy) (by omega)).2
    rw [runA_step (by omega), take_succ (by omega)]
    show List.Sublist (List.getD (List.set (runA l w (ix.take k)).rows _ _) j default) _
    by_cases e : wAt (runA l w (ix.take k)).busy = j
    · subst e
      rw [show ∀ (b : List (List Int)) (u : Nat) (y : List Int), u < b.length → (b.set u y).getD u default = y from fun b u y h => by simp [List.getD, h]]
      · exact (h1 _).append_right _
      · omega
    · rw [show ∀ (b : List (List Int)) (u : Nat) (y : List Int), u ≠ j → (b.set u y).getD j default = b.getD j default from fun b u y h => by simp [List.getD, h]]
      · exact (h1 j).trans (List.sublist_append_left _ _)
      · exact e
theorem assign_complete {l : List Jb} {w : Nat} (hw : 1 ≤ w) : completeB (runA l w (ordS l)).rows l.length = true := by
  rw [complete_iff]
  have h := run_flat (l := l) hw (ix := ordS l) (ordS l).length (Nat.le_refl _)
  rw [List.take_length] at h
  refine h.trans ?_
  by_cases e : 1 ≤ l.length
  · exact (ordS_srt e).2
  · have e1 : ordS l = [] := List.length_eq_zero_iff.1 (by rw [ordS_len]; omega)
    have e2 : iota l.length l.length = [] := List.length_eq_zero_iff.1 (by rw [iota_len]; omega)
    rw [e1, e2]
/-- The greedy plan is shorter than twice the bound. -/
theorem assign_short {l : List Jb} {w : Nat} (hl : jobsE l = 0) (hw : 1 ≤ w) (hn : 1 ≤ l.length) : spanC l (runA l w (ordS l)).rows < 2 * max (greatC l) ((totalC l + w - 1) / w) := by
  have hg := great_ge (l := l)
  have hB : 1 ≤ greatC l := by
    have h1 := hg.2 0 (by omega)
    have h2 := jobs_cost hl (show 0 < l.length by omega)
    omega
  have hsh := le_share (t := totalC l) (w := (w : Int)) (by omega)
  generalize hBd : max (greatC l) ((totalC l + w - 1) / w) = B
  have hB1 : greatC l ≤ B := by omega
  have hB2 : (totalC l + w - 1) / w ≤ B := by omega
  have hin := ordS_in l
  have htot : totalC l = sumC l (ordS l) := by rw [total_sum, sumC_perm (ordS_srt hn).2]
  have key : ∀ k, k ≤ (ordS l).length → ∀ y ∈ (runA l w ((ordS l).take k)).busy, y < 2 * B := by
    intro k
    induction k with
    | zero =>
      intro _ y hy
      simp only [List.take_zero, runA, List.foldl_nil] at hy
      rw [List.eq_of_mem_replicate hy]; omega
    | succ k ih =>
      intro hk y hy
      have h1 := ih (by omega)
      have h2 := runA_len l w ((ordS l).take k)
      have h3 := wAt_eq (b := (runA l w ((ordS l).take k)).busy) (by omega)
      have hik := hin _ (getD_mem' (show k < (ordS l).length by omega))
      have hck := hg.2 ((ordS l).getD k default).toNat (by omega)
      rw [runA_step (by omega)] at hy
      have hy' : y ∈ (runA l w ((ordS l).take k)).busy.set (wAt (runA l w ((ordS l).take k)).busy) ((runA l w ((ordS l).take k)).busy.getD (wAt (runA l w ((ordS l).take k)).busy) default + costAt l ((ordS l).getD k default)) := hy
      rcases List.mem_or_eq_of_mem_set hy' with hy | hy
      · exact h1 y hy
      have hmin : ∀ z ∈ (runA l w ((ordS l).take k)).busy, (runA l w ((ordS l).take k)).busy.getD (wAt (runA l w ((ordS l).take k)).busy) default ≤ z := by
        have hpw : minL (runA l w ((ordS l).take k)).busy = (runA l w ((ordS l).take k)).busy.getD (wAt (runA l w ((ordS l).take k)).busy) default := by
          rcases idx_cases (fun x => decide (minL (runA l w ((ordS l).take k)).busy = x)) (runA l w ((ordS l).take k)).busy with ⟨i, q1, q2, _, q4⟩ | ⟨_, q4⟩
          · have : i = wAt (runA l w ((ordS l).take k)).busy := by have := h3.1; omega
            rw [← this]; simpa using q2
          · have := h3.1; omega
        rw [← hpw]; exact minL_le
      have hsum := mul_le_sum hmin
      rw [h2.2] at hsum
      have hbs : (runA l w ((ordS l).take k)).busy.sum = sumC l ((ordS l).take k) := by
        rw [busy_rows, ← sumC_flat]
        exact sumC_perm (run_flat hw k (by omega))
      have hle : sumC l ((ordS l).take k) + costAt l ((ordS l).getD k default) ≤ totalC l := by
        rw [← sum_step (by omega), htot]
        conv => rhs; rw [← List.take_append_drop (k + 1) (ordS l), sumC_append]
        have := sumC_nonneg hl (ix := (ordS l).drop (k + 1)) fun i hi => hin i (List.mem_of_mem_drop hi)
        omega
      have hcp := cost_pos hl hik
      generalize (runA l w ((ordS l).take k)).busy.getD (wAt (runA l w ((ordS l).take k)).busy) default = m at *
      have hlt : m < (totalC l + w - 1) / w := by
        have q : (w : Int) * m < w * ((totalC l + w - 1) / w) := by omega
        exact Int.lt_of_mul_lt_mul_left q (by omega)
      have hc2 : costAt l ((ordS l).getD k default) ≤ greatC l := hck
      omega
  have hk := key (ordS l).length (Nat.le_refl _)
  rw [List.take_length, busy_rows] at hk
  have : spanC l (runA l w (ordS l)).rows ≤ 2 * B - 1 := span_is (by omega) fun x hx => by
    have := hk _ (List.mem_map.2 ⟨x, hx, rfl⟩); omega
  omega
theorem get_some {α : Type} [Inhabited α] {xs : List α} {i : Nat} (h : i < xs.length) : xs[i]? = some (xs.getD i default) := by rw [List.getD, List.getElem?_eq_getElem h]; rfl
theorem run_in {l : List Jb} {w : Nat} (hw : 1 ≤ w) {k : Nat} (hk : k ≤ (ordS l).length) (j : Nat) : inR l.length ((runA l w ((ordS l).take k)).rows.getD j default) := fun x hx => ordS_in l x (List.mem_of_mem_take ((run_sub hw k hk j).mem hx))
theorem busy_at (l : List Jb) (w : Nat) (ix : List Int) (j : Nat) : (runA l w ix).busy.getD j default = sumC l ((runA l w ix).rows.getD j default) := by
  rw [busy_rows, List.getD, List.getD, List.getElem?_map]
  cases (runA l w ix).rows[j]? <;> rfl
theorem best_yes {b : List Int} {k : Nat} (h : b.getD (k + 1) default < b.getD (bestN b k) default) : bestN b (k + 1) = k + 1 := by rw [bestN, if_pos h]
theorem best_no {b : List Int} {k : Nat} (h : ¬ b.getD (k + 1) default < b.getD (bestN b k) default) : bestN b (k + 1) = bestN b k := by rw [bestN, if_neg h]
end Go.Proofs.YtlbhpjigjehffaaDoor
set_option linter.unusedSimpArgs false
set_option maxRecDepth 8000
set_option linter.unusedVariables false
namespace Go.Proofs.YtlbhpjigjehffaaDoor
open Go.Sim
theorem ahead_ok (l : List Jb) (a b : Int) (ha : 0 ≤ a ∧ a < l.length) (hb : 0 ≤ b ∧ b < l.length) : CallT Tryd.prog 32 [Rp.slice eJ l, Rp.int .i64 a, Rp.int .i64 b] [] (.one (Rp.bool (decide (aheadP l a b)))) := by
  refine W.enter (fn := Tryd.f32) (n := 54) Tryd.func32 rfl Tryd.ntmps32 rfl (fun w₀ C₀ => ?_)
  simp only [argS]
  refine W.seq ?_
  refine W.region ?_
  refine L.op1 rfl rfl (GSpec.plain rfl (spec_assign rfl Get.cbool)) ?_
  refine L.nil ?_
  refine N.thenW ?_
  refine W.seq ?_
  refine W.seq ?_
  apply W.any 11 mixed (by kernel_rfl)
  · apply Head.one rfl rfl (GSpec.plain rfl (spec_move rfl (Get.tmp rfl)))
    apply Head.one rfl rfl (GSpec.plain rfl (spec_move rfl (Get.tmp rfl)))
    apply Head.one rfl rfl (GSpec.plain rfl (spec_indexAddrD (E := eJ) rfl Tryd.underlying22 Tryd.sizeOf28 (fun _ => rfl) (Get.tmp rfl) (Get.tmp rfl) (by omega)))
    apply Head.one rfl rfl (GSpec.plain rfl (spec_fieldAddrP (f := 3) rfl Tryd.underlying28 rfl Tryd.sizeOf3 (Get.tmp rfl) rfl rfl))
    apply Head.one rfl rfl (GSpec.plain rfl (spec_loadP1 rfl Tryd.isAgg3 (Get.tmp rfl)))
    apply Head.one rfl rfl (GSpec.plain rfl (spec_move rfl (Get.tmp rfl)))
    apply Head.one rfl rfl (GSpec.plain rfl (spec_move rfl (Get.tmp rfl)))
    apply Head.one rfl rfl (GSpec.plain rfl (spec_indexAddrD (E := eJ) rfl Tryd.underlying22 Tryd.sizeOf28 (fun _ => rfl) (Get.tmp rfl) (Get.tmp rfl) (by omega)))
    apply Head.one rfl rfl (GSpec.plain rfl (spec_fieldAddrP (f := 3) rfl Tryd.underlying28 rfl Tryd.sizeOf3 (Get.tmp rfl) rfl rfl))
    apply Head.one rfl rfl (GSpec.plain rfl (spec_loadP1 rfl Tryd.isAgg3 (Get.tmp rfl)))
    apply Head.one rfl rfl (GSpec.plain rfl (spec_neq rfl (Get.tmp rfl) (Get.tmp rfl)))
    exact Head.nil
  refine Fin.one ?_
  refine Fin.one ?_
  refine Fin.one ?_
  refine Fin.one ?_
  refine Fin.one ?_
  refine Fin.one ?_
  refine Fin.one ?_
  refine Fin.one ?_
  refine Fin.one ?_
  refine Fin.one ?_
  refine Fin.one ?_
  refine Fin.nil ?_
  refine L.nil ?_
  refine N.thenW ?_
  refine W.keep (.cons (t := 0) rfl (.cons (t := 1) rfl (.cons (t := 2) rfl (.cons (t := 6) rfl (.cons (t := 17) rfl .nil))))) .refl ?_
  refine W.cond (Get.tmp rfl) (fun h1 => ?_) (fun h1 => ?_)
  · have ph1 := h1; try simp only [decide_eq_true_eq, decide_eq_false_iff_not, Bool.and_eq_true, Bool.or_eq_true, Bool.and_eq_false_iff, Bool.or_eq_false_iff, Bool.not_eq_true', Bool.not_eq_false', Bool.not_true, Bool.not_false, Int.not_lt, Int.not_le] at ph1
    refine W.seq ?_
    apply W.any 12 mixed (by kernel_rfl)
    · apply Head.one rfl rfl (GSpec.plain rfl (spec_move rfl (Get.tmp rfl)))
      apply Head.one rfl rfl (GSpec.plain rfl (spec_move rfl (Get.tmp rfl)))
      apply Head.one rfl rfl (GSpec.plain rfl (spec_indexAddrD (E := eJ) rfl Tryd.underlying22 Tryd.sizeOf28 (fun _ => rfl) (Get.tmp rfl) (Get.tmp rfl) (by omega)))
      apply Head.one rfl rfl (GSpec.plain rfl (spec_fieldAddrP (f := 3) rfl Tryd.underlying28 rfl Tryd.sizeOf3 (Get.tmp rfl) rfl rfl))
      apply Head.one rfl rfl (GSpec.plain rfl (spec_loadP1 rfl Tryd.isAgg3 (Get.tmp rfl)))
      apply Head.one rfl rfl (GSpec.plain rfl (spec_move rfl (Get.tmp rfl)))
      apply Head.one rfl rfl (GSpec.plain rfl (spec_move rfl (Get.tmp rfl)))
      apply Head.one rfl rfl (GSpec.plain rfl (spec_indexAddrD (E := eJ) rfl Tryd.underlying22 Tryd.sizeOf28 (fun _ => rfl) (Get.tmp rfl) (Get.tmp rfl) (by omega)))
      apply Head.one rfl rfl (GSpec.plain rfl (spec_fieldAddrP (f := 3) rfl Tryd.underlying28 rfl Tryd.sizeOf3 (Get.tmp rfl) rfl rfl))
      apply Head.one rfl rfl (GSpec.plain rfl (spec_loadP1 rfl Tryd.isAgg3 (Get.tmp rfl)))
      apply Head.one rfl rfl (GSpec.plain rfl (spec_gtr rfl (Get.tmp rfl) (Get.tmp rfl)))
      apply Head.one rfl rfl (GSpec.plain rfl (spec_assign rfl (Get.tmp rfl)))
      exact Head.nil
    refine Fin.one ?_
    refine Fin.one ?_
    refine Fin.one ?_
    refine Fin.one ?_
    refine Fin.one ?_
    refine Fin.one ?_
    refine Fin.one ?_
    refine Fin.one ?_
    refine Fin.one ?_
    refine Fin.one ?_
    refine Fin.one ?_
    refine Fin.one ?_
    refine Fin.nil ?_
    refine L.nil ?_
    refine N.thenW ?_
    refine W.keep (.cons (t := 0) rfl (.cons (t := 1) rfl (.cons (t := 2) rfl (.cons (t := 6) rfl .nil)))) .refl ?_
    refine W.ret ?_
    refine N.ret () rfl (.tmp (t := 6) (Get.tmp rfl) .nil) (res1 (eqB ?_)) .nil (fun _ _ h => h)
    refine decide_eq_decide.2 ?_
    unfold aheadP priOf costAt; omega
  · have ph1 := h1; try simp only [decide_eq_true_eq, decide_eq_false_iff_not, Bool.and_eq_true, Bool.or_eq_true, Bool.and_eq_false_iff, Bool.or_eq_false_iff, Bool.not_eq_true', Bool.not_eq_false', Bool.not_true, Bool.not_false, Int.not_lt, Int.not_le] at ph1
    refine W.skip ?_
    refine N.thenW ?_
    refine W.seq ?_
    refine W.seq ?_
    apply W.any 11 mixed (by kernel_rfl)
    · apply Head.one rfl rfl (GSpec.plain rfl (spec_move rfl (Get.tmp rfl)))
      apply Head.one rfl rfl (GSpec.plain rfl (spec_move rfl (Get.tmp rfl)))
      apply Head.one rfl rfl (GSpec.plain rfl (spec_indexAddrD (E := eJ) rfl Tryd.underlying22 Tryd.sizeOf28 (fun _ => rfl) (Get.tmp rfl) (Get.tmp rfl) (by omega)))
      apply Head.one rfl rfl (GSpec.plain rfl (spec_fieldAddrP (f := 4) rfl Tryd.underlying28 rfl Tryd.sizeOf3 (Get.tmp rfl) rfl rfl))
      apply Head.one rfl rfl (GSpec.plain rfl (spec_loadP1 rfl Tryd.isAgg3 (Get.tmp rfl)))
      apply Head.one rfl rfl (GSpec.plain rfl (spec_move rfl (Get.tmp rfl)))
      apply Head.one rfl rfl (GSpec.plain rfl (spec_move rfl (Get.tmp rfl)))
      apply Head.one rfl rfl (GSpec.plain rfl (spec_indexAddrD (E := eJ) rfl Tryd.underlying22 Tryd.sizeOf28 (fun _ => rfl) (Get.tmp rfl) (Get.tmp rfl) (by omega)))
      apply Head.one rfl rfl (GSpec.plain rfl (spec_fieldAddrP (f := 4) rfl Tryd.underlying28 rfl Tryd.sizeOf3 (Get.tmp rfl) rfl rfl))
      apply Head.one rfl rfl (GSpec.plain rfl (spec_loadP1 rfl Tryd.isAgg3 (Get.tmp rfl)))
      apply Head.one rfl rfl (GSpec.plain rfl (spec_neq rfl (Get.tmp rfl) (Get.tmp rfl)))
      exact Head.nil
    refine Fin.one ?_
    refine Fin.one ?_
    refine Fin.one ?_
    refine Fin.one ?_
    refine Fin.one ?_
    refine Fin.one ?_
    refine Fin.one ?_
    refine Fin.one ?_
    refine Fin.one ?_
    refine Fin.one ?_
    refine Fin.one ?_
    refine Fin.nil ?_
    refine L.nil ?_
    refine N.thenW ?_
    refine W.keep (.cons (t := 0) rfl (.cons (t := 1) rfl (.cons (t := 2) rfl (.cons (t := 6) rfl (.cons (t := 39) rfl .nil))))) .refl ?_
    refine W.cond (Get.tmp rfl) (fun h2 => ?_) (fun h2 => ?_)
    · have ph2 := h2; try simp only [decide_eq_true_eq, decide_eq_false_iff_not, Bool.and_eq_true, Bool.or_eq_true, Bool.and_eq_false_iff, Bool.or_eq_false_iff, Bool.not_eq_true', Bool.not_eq_false', Bool.not_true, Bool.not_false, Int.not_lt, Int.not_le] at ph2
      refine W.seq ?_
      apply W.any 12 mixed (by kernel_rfl)
      · apply Head.one rfl rfl (GSpec.plain rfl (spec_move rfl (Get.tmp rfl)))
        apply Head.one rfl rfl (GSpec.plain rfl (spec_move rfl (Get.tmp rfl)))
        apply Head.one rfl rfl (GSpec.plain rfl (spec_indexAddrD (E := eJ) rfl Tryd.underlying22 Tryd.sizeOf28 (fun _ => rfl) (Get.tmp rfl) (Get.tmp rfl) (by omega)))
        apply Head.one rfl rfl (GSpec.plain rfl (spec_fieldAddrP (f := 4) rfl Tryd.underlying28 rfl Tryd.sizeOf3 (Get.tmp rfl) rfl rfl))
        apply Head.one rfl rfl (GSpec.plain rfl (spec_loadP1 rfl Tryd.isAgg3 (Get.tmp rfl)))
        apply Head.one rfl rfl (GSpec.plain rfl (spec_move rfl (Get.tmp rfl)))
        apply Head.one rfl rfl (GSpec.plain rfl (spec_move rfl (Get.tmp rfl)))
        apply Head.one rfl rfl (GSpec.plain rfl (spec_indexAddrD (E := eJ) rfl Tryd.underlying22 Tryd.sizeOf28 (fun _ => rfl) (Get.tmp rfl) (Get.tmp rfl) (by omega)))
        apply Head.one rfl rfl (GSpec.plain rfl (spec_fieldAddrP (f := 4) rfl Tryd.underlying28 rfl Tryd.sizeOf3 (Get.tmp rfl) rfl rfl))
        apply Head.one rfl rfl (GSpec.plain rfl (spec_loadP1 rfl Tryd.isAgg3 (Get.tmp rfl)))
        apply Head.one rfl rfl (GSpec.plain rfl (spec_gtr rfl (Get.tmp rfl) (Get.tmp rfl)))
        apply Head.one rfl rfl (GSpec.plain rfl (spec_assign rfl (Get.tmp rfl)))
        exact Head.nil
      refine Fin.one ?_
      refine Fin.one ?_
      refine Fin.one ?_
      refine Fin.one ?_
      refine Fin.one ?_
      refine Fin.one ?_
      refine Fin.one ?_
      refine Fin.one ?_
      refine Fin.one ?_
      refine Fin.one ?_
      refine Fin.one ?_
      refine Fin.one ?_
      refine Fin.nil ?_
      refine L.nil ?_
      refine N.thenW ?_
      refine W.keep (.cons (t := 1) rfl (.cons (t := 2) rfl (.cons (t := 6) rfl .nil))) .refl ?_
      refine W.ret ?_
      refine N.ret () rfl (.tmp (t := 6) (Get.tmp rfl) .nil) (res1 (eqB ?_)) .nil (fun _ _ h => h)
      refine decide_eq_decide.2 ?_
      unfold aheadP priOf costAt; omega
    · have ph2 := h2; try simp only [decide_eq_true_eq, decide_eq_false_iff_not, Bool.and_eq_true, Bool.or_eq_true, Bool.and_eq_false_iff, Bool.or_eq_false_iff, Bool.not_eq_true', Bool.not_eq_false', Bool.not_true, Bool.not_false, Int.not_lt, Int.not_le] at ph2
      refine W.skip ?_
      refine N.thenW ?_
      refine W.seq ?_
      refine W.region ?_
      refine L.op1 rfl rfl (GSpec.plain rfl (spec_move rfl (Get.tmp rfl))) ?_
      refine L.op1 rfl rfl (GSpec.plain rfl (spec_move rfl (Get.tmp rfl))) ?_
      refine L.op1 rfl rfl (GSpec.plain rfl (spec_lss rfl (Get.tmp rfl) (Get.tmp rfl))) ?_
      refine L.op1 rfl rfl (GSpec.plain rfl (spec_assign rfl (Get.tmp rfl))) ?_
      refine L.nil ?_
      refine N.thenW ?_
      refine W.keep (.cons (t := 6) rfl .nil) .refl ?_
      refine W.ret ?_
      refine N.ret () rfl (.tmp (t := 6) (Get.tmp rfl) .nil) (res1 (eqB ?_)) .nil (fun _ _ h => h)
      refine decide_eq_decide.2 ?_
      unfold aheadP priOf costAt; omega

theorem rorder_ok (l : List Jb) (h39 : l.length ≤ 39) : CallT Tryd.prog 17 [Rp.slice eJ l] [] (.one (Rp.slice eI (ordS l))) := by
  refine W.enter (fn := Tryd.f17) (n := 33) Tryd.func17 rfl Tryd.ntmps17 rfl (fun w₀ C₀ => ?_)
  simp only [argS]
  refine W.seq ?_
  refine W.region ?_
  refine L.op1 rfl rfl (GSpec.plain rfl (spec_assign rfl (Get.cnil (E := eI)))) ?_
  refine L.nil ?_
  refine N.thenW ?_
  refine W.seq ?_
  refine W.region ?_
  refine L.op1 rfl rfl (GSpec.plain rfl (spec_move rfl (Get.tmp rfl))) ?_
  refine L.op1 rfl rfl (GSpec.plain rfl (spec_len rfl Tryd.underlying22 (Get.tmp rfl))) ?_
  refine L.op rfl rfl (GSpec.plain rfl (spec_makeSlice (z₀ := (0 : Int)) (E := eI) rfl Tryd.underlying32 ti3 z3 (fun _ => rfl) (Get.tmp rfl) (Get.tmp rfl) (by omega) (by omega) (by omega))) (fun v9 => ?_)
  refine L.op1 rfl rfl (GSpec.plain rfl (spec_assign rfl (Get.tmp rfl))) ?_
  refine L.nil ?_
  refine N.thenW ?_
  refine W.seq ?_
  refine W.seq ?_
  refine W.region ?_
  refine L.op1 rfl rfl (GSpec.plain rfl (spec_assign rfl (Get.cint rfl))) ?_
  refine L.nil ?_
  refine N.thenW ?_
  rw [show List.replicate ((l.length : Nat) : Int).toNat (0 : Int) = outZ l 0 from (outZ_0 l).symm]
  refine W.block ?_
  refine W.loopK (σ := Nat) (.cons (t := 0) rfl (.cons (t := 2) rfl (.cons (t := 3) rfl .nil))) (fun z => [(4, Rp.int .i64 (z : Nat))]) (fun z => [MF.osl v9 3 1 eI (outZ l z)]) (fun z => z ≤ l.length) (fun z => l.length - z) 0 (Nat.zero_le _) (.cons (t := 4) rfl .nil) (.cons 0 rfl .nil) ?_
  intro i hI S' M' hS hM
  try dsimp only at hS hM
  simp only [List.cons_append, List.nil_append] at hS hM
  subst hS hM
  try dsimp only
  have hzl := outZ_len l i
  refine W.seq ?_
  refine W.seq ?_
  refine W.region ?_
  refine L.op1 rfl rfl (GSpec.plain rfl (spec_move rfl (Get.tmp rfl))) ?_
  refine L.op1 rfl rfl (GSpec.plain rfl (spec_move rfl (Get.tmp rfl))) ?_
  refine L.op1 rfl rfl (GSpec.plain rfl (spec_len rfl Tryd.underlying22 (Get.tmp rfl))) ?_
  refine L.op1 rfl rfl (GSpec.plain rfl (spec_lss rfl (Get.tmp rfl) (Get.tmp rfl))) ?_
  refine L.nil ?_
  refine N.thenW ?_
  refine W.cond (Get.tmp rfl) (fun h1 => ?_) (fun h1 => ?_)
  · have ph1 := h1; try simp only [decide_eq_true_eq, decide_eq_false_iff_not, Bool.and_eq_true, Bool.or_eq_true, Bool.and_eq_false_iff, Bool.or_eq_false_iff, Bool.not_eq_true', Bool.not_eq_false', Bool.not_true, Bool.not_false, Int.not_lt, Int.not_le] at ph1
    refine W.skip ?_
    refine N.thenW ?_
    refine W.seq ?_
    refine W.block ?_
    refine W.seq ?_
    refine W.region ?_
    refine L.op1 rfl rfl (GSpec.plain rfl (spec_assign rfl (Get.cint rfl))) ?_
    refine L.nil ?_
    refine N.thenW ?_
    refine W.seq ?_
    refine W.seq ?_
    refine W.region ?_
    refine L.op1 rfl rfl (GSpec.plain rfl (spec_assign rfl (Get.cint rfl))) ?_
    refine L.nil ?_
    refine N.thenW ?_
    refine W.block ?_
    refine W.loopK (σ := Nat) (.cons (t := 0) rfl (.cons (t := 2) rfl (.cons (t := 3) rfl (.cons (t := 4) rfl (.cons (t := 10) rfl (.cons (t := 11) rfl (.cons (t := 12) rfl (.cons (t := 13) rfl .nil)))))))) (fun z => [(6, Rp.int .i64 (z : Nat)), (5, Rp.int .i64 (cntA l (i : Nat) z : Nat))]) (fun z => []) (fun z => z ≤ l.length) (fun z => l.length - z) 0 (Nat.zero_le _) (.cons (t := 6) rfl (.cons (t := 5) rfl .nil)) (.cons 0 rfl .nil) ?_
    intro k hI S' M' hS hM
    try dsimp only at hS hM
    simp only [List.cons_append, List.nil_append] at hS hM
    subst hS hM
    try dsimp only
    have hcl := cntA_le l (i : Nat) k
    refine W.seq ?_
    refine W.seq ?_
    refine W.region ?_
    refine L.op1 rfl rfl (GSpec.plain rfl (spec_move rfl (Get.tmp rfl))) ?_
    refine L.op1 rfl rfl (GSpec.plain rfl (spec_move rfl (Get.tmp rfl))) ?_
    refine L.op1 rfl rfl (GSpec.plain rfl (spec_len rfl Tryd.underlying22 (Get.tmp rfl))) ?_
    refine L.op1 rfl rfl (GSpec.plain rfl (spec_lss rfl (Get.tmp rfl) (Get.tmp rfl))) ?_
    refine L.nil ?_
    refine N.thenW ?_
    refine W.cond (Get.tmp rfl) (fun h2 => ?_) (fun h2 => ?_)
    · have ph2 := h2; try simp only [decide_eq_true_eq, decide_eq_false_iff_not, Bool.and_eq_true, Bool.or_eq_true, Bool.and_eq_false_iff, Bool.or_eq_false_iff, Bool.not_eq_true', Bool.not_eq_false', Bool.not_true, Bool.not_false, Int.not_lt, Int.not_le] at ph2
      refine W.skip ?_
      refine N.thenW ?_
      refine W.seq ?_
      refine W.block ?_
      refine W.seq ?_
      refine W.region ?_
      refine L.op1 rfl rfl (GSpec.plain rfl (spec_move rfl (Get.tmp rfl))) ?_
      refine L.op1 rfl rfl (GSpec.plain rfl (spec_move rfl (Get.tmp rfl))) ?_
      refine L.op1 rfl rfl (GSpec.plain rfl (spec_move rfl (Get.tmp rfl))) ?_
      refine L.op1 rfl rfl (GSpec.plain rfl (spec_call rfl Tryd.call32 (ahead_ok _ _ _ (by omega) (by omega)) (.cons (Get.tmp rfl) (.cons (Get.tmp rfl) (.cons (Get.tmp rfl) .nil))))) ?_
      refine L.nil ?_
      refine N.thenW ?_
      refine W.cond (Get.tmp rfl) (fun h3 => ?_) (fun h3 => ?_)
      · have ph3 := h3; try simp only [decide_eq_true_eq, decide_eq_false_iff_not, Bool.and_eq_true, Bool.or_eq_true, Bool.and_eq_false_iff, Bool.or_eq_false_iff, Bool.not_eq_true', Bool.not_eq_false', Bool.not_true, Bool.not_false, Int.not_lt, Int.not_le] at ph3
        refine W.region ?_
        refine L.op1 rfl rfl (GSpec.plain rfl (spec_move rfl (Get.tmp rfl))) ?_
        first | refine L.op1 rfl rfl (GSpec.plain rfl (fit_i64 (by omega) (by omega) (spec_add rfl (Get.tmp rfl) (Get.cint rfl)))) ?_ | refine L.op1 rfl rfl (GSpec.plain rfl (spec_add rfl (Get.tmp rfl) (Get.cint rfl))) ?_
        refine L.op1 rfl rfl (GSpec.plain rfl (spec_assign rfl (Get.tmp rfl))) ?_
        refine L.nil ?_
        refine N.blockNormal ?_
        refine N.thenW ?_
        refine W.region ?_
        refine L.op1 rfl rfl (GSpec.plain rfl (spec_move rfl (Get.tmp rfl))) ?_
        first | refine L.op1 rfl rfl (GSpec.plain rfl (fit_i64 (by omega) (by omega) (spec_add rfl (Get.tmp rfl) (Get.cint rfl)))) ?_ | refine L.op1 rfl rfl (GSpec.plain rfl (spec_add rfl (Get.tmp rfl) (Get.cint rfl))) ?_
        refine L.op1 rfl rfl (GSpec.plain rfl (spec_assign rfl (Get.tmp rfl))) ?_
        refine L.nil ?_
        refine N.roundK (k + 1) ?hI1 ?hmu1 ?hs1 ?hk1 ?hp1
        case hs1 => exact (.cons (t := 6) rfl (.weak (t := 5) rfl (eqI (by first | (rw [cntA_yes (of_decide_eq_true (by assumption))]; omega) | (rw [cntA_no (of_decide_eq_false (by assumption))]))) .nil))
        case hk1 => exact (.cons (t := 0) rfl (.cons (t := 2) rfl (.cons (t := 3) rfl (.cons (t := 4) rfl (.cons (t := 10) rfl (.cons (t := 11) rfl (.cons (t := 12) rfl (.cons (t := 13) rfl .nil))))))))
        case hp1 => exact (.cons 0 rfl .nil)
        all_goals (first | rfl | trivial | omega | (simp_all; done))
      · have ph3 := h3; try simp only [decide_eq_true_eq, decide_eq_false_iff_not, Bool.and_eq_true, Bool.or_eq_true, Bool.and_eq_false_iff, Bool.or_eq_false_iff, Bool.not_eq_true', Bool.not_eq_false', Bool.not_true, Bool.not_false, Int.not_lt, Int.not_le] at ph3
        refine W.skip ?_
        refine N.blockNormal ?_
        refine N.thenW ?_
        refine W.region ?_
        refine L.op1 rfl rfl (GSpec.plain rfl (spec_move rfl (Get.tmp rfl))) ?_
        first | refine L.op1 rfl rfl (GSpec.plain rfl (fit_i64 (by omega) (by omega) (spec_add rfl (Get.tmp rfl) (Get.cint rfl)))) ?_ | refine L.op1 rfl rfl (GSpec.plain rfl (spec_add rfl (Get.tmp rfl) (Get.cint rfl))) ?_
        refine L.op1 rfl rfl (GSpec.plain rfl (spec_assign rfl (Get.tmp rfl))) ?_
        refine L.nil ?_
        refine N.roundK (k + 1) ?hI2 ?hmu2 ?hs2 ?hk2 ?hp2
        case hs2 => exact (.cons (t := 6) rfl (.weak (t := 5) rfl (eqI (by first | (rw [cntA_yes (of_decide_eq_true (by assumption))]; omega) | (rw [cntA_no (of_decide_eq_false (by assumption))]))) .nil))
        case hk2 => exact (.cons (t := 0) rfl (.cons (t := 2) rfl (.cons (t := 3) rfl (.cons (t := 4) rfl (.cons (t := 10) rfl (.cons (t := 11) rfl (.cons (t := 12) rfl (.cons (t := 13) rfl .nil))))))))
        case hp2 => exact (.cons 0 rfl .nil)
        all_goals (first | rfl | trivial | omega | (simp_all; done))
    · have ph2 := h2; try simp only [decide_eq_true_eq, decide_eq_false_iff_not, Bool.and_eq_true, Bool.or_eq_true, Bool.and_eq_false_iff, Bool.or_eq_false_iff, Bool.not_eq_true', Bool.not_eq_false', Bool.not_true, Bool.not_false, Int.not_lt, Int.not_le] at ph2
      refine W.exit ?_
      refine N.thenExit ?_
      refine N.thenExit ?_
      refine N.blockExit ?_
      refine N.thenW ?_
      have ek : k = l.length := by omega
      subst ek
      have hrk := rank_lt (l := l) (z := i) (by omega)
      have hrk1 : cntA l (i : Nat) l.length < l.length := hrk.1
      refine W.region ?_
      refine L.op1 rfl rfl (GSpec.plain rfl (spec_move rfl (Get.tmp rfl))) ?_
      refine L.op1 rfl rfl (GSpec.plain rfl (spec_move rfl (Get.tmp rfl))) ?_
      refine L.op1 rfl rfl (GSpec.plain rfl (spec_move rfl (Get.tmp rfl))) ?_
      refine L.op1 rfl rfl (GSpec.plain rfl (spec_indexAddrO (k := 0) (E := eI) rfl Tryd.underlying32 Tryd.sizeOf3 (Get.tmp rfl) (Get.tmp rfl) rfl (by omega))) ?_
      refine L.storeO1 (k := 0) (j := 0) (E := eI) rfl rfl rfl Tryd.sizeOf3 (fun _ => rfl) (Get.tmp rfl) (Get.tmp rfl) rfl rfl (by decide) (getD_some (by omega)) rfl ?_
      refine L.nil ?_
      refine N.blockNormal ?_
      refine N.thenW ?_
      refine W.region ?_
      refine L.op1 rfl rfl (GSpec.plain rfl (spec_move rfl (Get.tmp rfl))) ?_
      first | refine L.op1 rfl rfl (GSpec.plain rfl (fit_i64 (by omega) (by omega) (spec_add rfl (Get.tmp rfl) (Get.cint rfl)))) ?_ | refine L.op1 rfl rfl (GSpec.plain rfl (spec_add rfl (Get.tmp rfl) (Get.cint rfl))) ?_
      refine L.op1 rfl rfl (GSpec.plain rfl (spec_assign rfl (Get.tmp rfl))) ?_
      refine L.nil ?_
      refine N.roundK (i + 1) ?hI3 ?hmu3 ?hs3 ?hk3 ?hp3
      case hs3 => exact (.cons (t := 4) rfl .nil)
      case hk3 => exact (.cons (t := 0) rfl (.cons (t := 2) rfl (.cons (t := 3) rfl .nil)))
      case hp3 => rw [outZ_step (by omega)]; exact (.cons 0 rfl .nil)
      all_goals (first | rfl | trivial | omega | (simp_all; done))
  · have ph1 := h1; try simp only [decide_eq_true_eq, decide_eq_false_iff_not, Bool.and_eq_true, Bool.or_eq_true, Bool.and_eq_false_iff, Bool.or_eq_false_iff, Bool.not_eq_true', Bool.not_eq_false', Bool.not_true, Bool.not_false, Int.not_lt, Int.not_le] at ph1
    refine W.exit ?_
    refine N.thenExit ?_
    refine N.thenExit ?_
    refine N.blockExit ?_
    refine N.thenW ?_
    refine W.pub (t := 3) (k := 0) rfl rfl (fun _ => rfl) ?_
    rw [show i = l.length by omega, outZ_end]
    refine W.keep (.cons (t := 2) rfl (.cons (t := 3) rfl .nil)) .refl ?_
    refine W.seq ?_
    refine W.region ?_
    refine L.op1 rfl rfl (GSpec.plain rfl (spec_move rfl (Get.tmp rfl))) ?_
    refine L.op1 rfl rfl (GSpec.plain rfl (spec_assign rfl (Get.tmp rfl))) ?_
    refine L.nil ?_
    refine N.thenW ?_
    refine W.ret ?_
    refine N.ret () rfl (.tmp (t := 2) (Get.tmp rfl) .nil) (res1 (eqSl ?_)) .nil (fun _ _ h => h)
    rfl

theorem rnext_ok (l : List Jb) (h39 : l.length ≤ 39) : CallT Tryd.prog 14 [Rp.slice eJ l] [] (.one (Rp.tuple [Rp.int .i64 (nextE l).1, Rp.bool (nextE l).2])) := by
  refine W.enter (fn := Tryd.f14) (n := 11) Tryd.func14 rfl Tryd.ntmps14 rfl (fun w₀ C₀ => ?_)
  simp only [argS]
  refine W.seq ?_
  refine W.region ?_
  refine L.op1 rfl rfl (GSpec.plain rfl (spec_assign rfl (Get.cint rfl))) ?_
  refine L.op1 rfl rfl (GSpec.plain rfl (spec_assign rfl Get.cbool)) ?_
  refine L.nil ?_
  refine N.thenW ?_
  refine W.seq ?_
  refine W.seq ?_
  refine W.region ?_
  refine L.op1 rfl rfl (GSpec.plain rfl (spec_move rfl (Get.tmp rfl))) ?_
  refine L.op1 rfl rfl (GSpec.plain rfl (spec_len rfl Tryd.underlying22 (Get.tmp rfl))) ?_
  refine L.op1 rfl rfl (GSpec.plain rfl (spec_eql rfl (Get.tmp rfl) (Get.cint rfl))) ?_
  refine L.nil ?_
  refine N.thenW ?_
  refine W.cond (Get.tmp rfl) (fun h1 => ?_) (fun h1 => ?_)
  · have ph1 := h1; try simp only [decide_eq_true_eq, decide_eq_false_iff_not, Bool.and_eq_true, Bool.or_eq_true, Bool.and_eq_false_iff, Bool.or_eq_false_iff, Bool.not_eq_true', Bool.not_eq_false', Bool.not_true, Bool.not_false, Int.not_lt, Int.not_le] at ph1
    refine W.seq ?_
    refine W.region ?_
    refine L.op1 rfl rfl (GSpec.plain rfl (spec_assign rfl (Get.cint rfl))) ?_
    refine L.op1 rfl rfl (GSpec.plain rfl (spec_assign rfl Get.cbool)) ?_
    refine L.nil ?_
    refine N.thenW ?_
    refine W.keep (.cons (t := 0) rfl (.cons (t := 2) rfl (.cons (t := 3) rfl .nil))) .refl ?_
    refine W.ret ?_
    refine N.ret () rfl (.tmp (t := 2) (Get.tmp rfl) (.tmp (t := 3) (Get.tmp rfl) .nil)) (res2w (eqI ?_) (eqB ?_)) .nil (fun _ _ h => h)
    all_goals rw [next_no (by omega)]
  · have ph1 := h1; simp only [decide_eq_true_eq, decide_eq_false_iff_not, Bool.and_eq_true, Bool.or_eq_true, Bool.and_eq_false_iff, Bool.or_eq_false_iff, Bool.not_eq_true', Bool.not_eq_false', Bool.not_true, Bool.not_false, Int.not_lt, Int.not_le] at ph1
    have hol := ordS_len l
    refine W.skip ?_
    refine N.thenW ?_
    refine W.keep (.cons (t := 0) rfl (.cons (t := 2) rfl (.cons (t := 3) rfl .nil))) .refl ?_
    refine W.seq ?_
    refine W.region ?_
    refine L.op1 rfl rfl (GSpec.plain rfl (spec_move rfl (Get.tmp rfl))) ?_
    refine L.op1 rfl rfl (GSpec.plain rfl (spec_call rfl Tryd.call17 (rorder_ok _ (by omega)) (.cons (Get.tmp rfl) .nil))) ?_
    refine L.op1 rfl rfl (GSpec.plain rfl (spec_indexAddrD (E := eI) rfl Tryd.underlying32 Tryd.sizeOf3 (fun _ => rfl) (Get.tmp rfl) (Get.cint rfl) (by omega))) ?_
    refine L.op1 rfl rfl (GSpec.plain rfl (spec_loadP1 rfl Tryd.isAgg3 (Get.tmp rfl))) ?_
    refine L.op1 rfl rfl (GSpec.plain rfl (spec_assign rfl (Get.tmp rfl))) ?_
    refine L.op1 rfl rfl (GSpec.plain rfl (spec_assign rfl Get.cbool)) ?_
    refine L.nil ?_
    refine N.thenW ?_
    refine W.keep (.cons (t := 2) rfl (.cons (t := 3) rfl .nil)) .refl ?_
    refine W.ret ?_
    refine N.ret () rfl (.tmp (t := 2) (Get.tmp rfl) (.tmp (t := 3) (Get.tmp rfl) .nil)) (res2w (eqI ?_) (eqB ?_)) .nil (fun _ _ h => h)
    all_goals rw [next_yes (by omega)]
    all_goals rfl

theorem numbers_ok (a b : List Int) : CallT Tryd.prog 15 [Rp.slice eI a, Rp.slice eI b] [] (.one (Rp.bool (decide (a = b)))) := by
  refine W.enter (fn := Tryd.f15) (n := 26) Tryd.func15 rfl Tryd.ntmps15 rfl (fun w₀ C₀ => ?_)
  simp only [argS]
  refine W.fact 0 rfl slice_fact fun hal => ?_
  refine W.seq ?_
  refine W.region ?_
  refine L.op1 rfl rfl (GSpec.plain rfl (spec_assign rfl Get.cbool)) ?_
  refine L.nil ?_
  refine N.thenW ?_
  refine W.seq ?_
  refine W.seq ?_
  refine W.region ?_
  refine L.op1 rfl rfl (GSpec.plain rfl (spec_move rfl (Get.tmp rfl))) ?_
  refine L.op1 rfl rfl (GSpec.plain rfl (spec_len rfl Tryd.underlying32 (Get.tmp rfl))) ?_
  refine L.op1 rfl rfl (GSpec.plain rfl (spec_move rfl (Get.tmp rfl))) ?_
  refine L.op1 rfl rfl (GSpec.plain rfl (spec_len rfl Tryd.underlying32 (Get.tmp rfl))) ?_
  refine L.op1 rfl rfl (GSpec.plain rfl (spec_neq rfl (Get.tmp rfl) (Get.tmp rfl))) ?_
  refine L.nil ?_
  refine N.thenW ?_
  refine W.cond (Get.tmp rfl) (fun h1 => ?_) (fun h1 => ?_)
  · have ph1 := h1; try simp only [decide_eq_true_eq, decide_eq_false_iff_not, Bool.and_eq_true, Bool.or_eq_true, Bool.and_eq_false_iff, Bool.or_eq_false_iff, Bool.not_eq_true', Bool.not_eq_false', Bool.not_true, Bool.not_false, Int.not_lt, Int.not_le] at ph1
    refine W.seq ?_
    refine W.region ?_
    refine L.op1 rfl rfl (GSpec.plain rfl (spec_assign rfl Get.cbool)) ?_
    refine L.nil ?_
    refine N.thenW ?_
    refine W.keep (.cons (t := 0) rfl (.cons (t := 1) rfl (.cons (t := 4) rfl .nil))) .refl ?_
    refine W.ret ?_
    refine N.ret () rfl (.tmp (t := 4) (Get.tmp rfl) .nil) (res1 (eqB ?_)) .nil (fun _ _ h => h)
    symm; rw [decide_eq_false_iff_not]; intro e; subst e; simp at h1
  · have ph1 := h1; try simp only [decide_eq_true_eq, decide_eq_false_iff_not, Bool.and_eq_true, Bool.or_eq_true, Bool.and_eq_false_iff, Bool.or_eq_false_iff, Bool.not_eq_true', Bool.not_eq_false', Bool.not_true, Bool.not_false, Int.not_lt, Int.not_le] at ph1
    refine W.skip ?_
    refine N.thenW ?_
    refine W.seq ?_
    refine W.seq ?_
    refine W.region ?_
    refine L.op1 rfl rfl (GSpec.plain rfl (spec_assign rfl (Get.cint rfl))) ?_
    refine L.nil ?_
    refine N.thenW ?_
    refine W.block ?_
    -- assigned in the loop, not kept: [4]
    refine W.loopK (σ := Nat) (.cons (t := 0) rfl (.cons (t := 1) rfl .nil)) (fun z => [(5, Rp.int .i64 (z : Nat))]) (fun z => []) (fun z => z ≤ a.length ∧ ∀ j : Nat, j < z → a.getD j default = b.getD j default) (fun z => a.length - z) 0 ⟨Nat.zero_le _, fun j hj => by omega⟩ (.cons (t := 5) rfl .nil) .nil ?_
    intro i hI S' M' hS hM
    obtain ⟨hI1, hI2⟩ := hI
    try dsimp only at hS hM
    simp only [List.cons_append, List.nil_append] at hS hM
    subst hS hM
    try dsimp only
    refine W.seq ?_
    refine W.seq ?_
    refine W.region ?_
    refine L.op1 rfl rfl (GSpec.plain rfl (spec_move rfl (Get.tmp rfl))) ?_
    refine L.op1 rfl rfl (GSpec.plain rfl (spec_move rfl (Get.tmp rfl))) ?_
    refine L.op1 rfl rfl (GSpec.plain rfl (spec_len rfl Tryd.underlying32 (Get.tmp rfl))) ?_
    refine L.op1 rfl rfl (GSpec.plain rfl (spec_lss rfl (Get.tmp rfl) (Get.tmp rfl))) ?_
    refine L.nil ?_
    refine N.thenW ?_
    refine W.cond (Get.tmp rfl) (fun h2 => ?_) (fun h2 => ?_)
    · have ph2 := h2; try simp only [decide_eq_true_eq, decide_eq_false_iff_not, Bool.and_eq_true, Bool.or_eq_true, Bool.and_eq_false_iff, Bool.or_eq_false_iff, Bool.not_eq_true', Bool.not_eq_false', Bool.not_true, Bool.not_false, Int.not_lt, Int.not_le] at ph2
      refine W.skip ?_
      refine N.thenW ?_
      refine W.seq ?_
      refine W.block ?_
      refine W.seq ?_
      apply W.any 9 mixed (by kernel_rfl)
      · apply Head.one rfl rfl (GSpec.plain rfl (spec_move rfl (Get.tmp rfl)))
        apply Head.one rfl rfl (GSpec.plain rfl (spec_move rfl (Get.tmp rfl)))
        apply Head.one rfl rfl (GSpec.plain rfl (spec_indexAddrD (E := eI) rfl Tryd.underlying32 Tryd.sizeOf3 (fun _ => rfl) (Get.tmp rfl) (Get.tmp rfl) (by omega)))
        apply Head.one rfl rfl (GSpec.plain rfl (spec_loadP1 rfl Tryd.isAgg3 (Get.tmp rfl)))
        apply Head.one rfl rfl (GSpec.plain rfl (spec_move rfl (Get.tmp rfl)))
        apply Head.one rfl rfl (GSpec.plain rfl (spec_move rfl (Get.tmp rfl)))
        apply Head.one rfl rfl (GSpec.plain rfl (spec_indexAddrD (E := eI) rfl Tryd.underlying32 Tryd.sizeOf3 (fun _ => rfl) (Get.tmp rfl) (Get.tmp rfl) (by omega)))
        apply Head.one rfl rfl (GSpec.plain rfl (spec_loadP1 rfl Tryd.isAgg3 (Get.tmp rfl)))
        apply Head.one rfl rfl (GSpec.plain rfl (spec_neq rfl (Get.tmp rfl) (Get.tmp rfl)))
        exact Head.nil
      refine Fin.one ?_
      refine Fin.one ?_
      refine Fin.one ?_
      refine Fin.one ?_
      refine Fin.one ?_
      refine Fin.one ?_
      refine Fin.one ?_
      refine Fin.one ?_
      refine Fin.one ?_
      refine Fin.nil ?_
      refine L.nil ?_
      refine N.thenW ?_
      refine W.cond (Get.tmp rfl) (fun h3 => ?_) (fun h3 => ?_)
      · have ph3 := h3; try simp only [decide_eq_true_eq, decide_eq_false_iff_not, Bool.and_eq_true, Bool.or_eq_true, Bool.and_eq_false_iff, Bool.or_eq_false_iff, Bool.not_eq_true', Bool.not_eq_false', Bool.not_true, Bool.not_false, Int.not_lt, Int.not_le] at ph3
        refine W.seq ?_
        refine W.region ?_
        refine L.op1 rfl rfl (GSpec.plain rfl (spec_assign rfl Get.cbool)) ?_
        refine L.nil ?_
        refine N.thenW ?_
        refine W.ret ?_
        refine N.ret () rfl (.tmp (t := 4) (Get.tmp rfl) .nil) (res1 (eqB ?_)) .nil (fun _ _ h => h)
        symm; rw [decide_eq_false_iff_not]; intro e; subst e; simp at h3
      · have ph3 := h3; try simp only [decide_eq_true_eq, decide_eq_false_iff_not, Bool.and_eq_true, Bool.or_eq_true, Bool.and_eq_false_iff, Bool.or_eq_false_iff, Bool.not_eq_true', Bool.not_eq_false', Bool.not_true, Bool.not_false, Int.not_lt, Int.not_le] at ph3
        refine W.skip ?_
        refine N.blockNormal ?_
        refine N.thenW ?_
        refine W.region ?_
        refine L.op1 rfl rfl (GSpec.plain rfl (spec_move rfl (Get.tmp rfl))) ?_
        first | refine L.op1 rfl rfl (GSpec.plain rfl (fit_i64 (by omega) (by omega) (spec_add rfl (Get.tmp rfl) (Get.cint rfl)))) ?_ | refine L.op1 rfl rfl (GSpec.plain rfl (spec_add rfl (Get.tmp rfl) (Get.cint rfl))) ?_
        refine L.op1 rfl rfl (GSpec.plain rfl (spec_assign rfl (Get.tmp rfl))) ?_
        refine L.nil ?_
        refine N.roundK (i + 1) ?hI4 ?hmu4 ?hs4 ?hk4 ?hp4
        case hs4 => exact (.cons (t := 5) rfl .nil)
        case hk4 => exact (.cons (t := 0) rfl (.cons (t := 1) rfl .nil))
        case hp4 => exact .nil
        case hI4 => exact ⟨by omega, upto hI2 (by simpa using h3)⟩
        case hmu4 => omega
    · have ph2 := h2; try simp only [decide_eq_true_eq, decide_eq_false_iff_not, Bool.and_eq_true, Bool.or_eq_true, Bool.and_eq_false_iff, Bool.or_eq_false_iff, Bool.not_eq_true', Bool.not_eq_false', Bool.not_true, Bool.not_false, Int.not_lt, Int.not_le] at ph2
      refine W.exit ?_
      refine N.thenExit ?_
      refine N.thenExit ?_
      refine N.blockExit ?_
      refine N.thenW ?_
      refine W.keep .nil .refl ?_
      refine W.seq ?_
      refine W.region ?_
      refine L.op1 rfl rfl (GSpec.plain rfl (spec_assign rfl Get.cbool)) ?_
      refine L.nil ?_
      refine N.thenW ?_
      refine W.ret ?_
      refine N.ret () rfl (.tmp (t := 4) (Get.tmp rfl) .nil) (res1 (eqB ?_)) .nil (fun _ _ h => h)
      symm; rw [decide_eq_true_eq]; exact ext_get (by have := h1; simp at this; omega) fun j hj => hI2 j (by omega)

theorem plans_ok (a b : List (List Int)) : CallT Tryd.prog 22 [Rp.slice eII a, Rp.slice eII b] [] (.one (Rp.bool (decide (a = b)))) := by
  refine W.enter (fn := Tryd.f22) (n := 27) Tryd.func22 rfl Tryd.ntmps22 rfl (fun w₀ C₀ => ?_)
  simp only [argS]
  refine W.fact 0 rfl slice_fact fun hal => ?_
  refine W.seq ?_
  refine W.region ?_
  refine L.op1 rfl rfl (GSpec.plain rfl (spec_assign rfl Get.cbool)) ?_
  refine L.nil ?_
  refine N.thenW ?_
  refine W.seq ?_
  refine W.seq ?_
  refine W.region ?_
  refine L.op1 rfl rfl (GSpec.plain rfl (spec_move rfl (Get.tmp rfl))) ?_
  refine L.op1 rfl rfl (GSpec.plain rfl (spec_len rfl Tryd.underlying34 (Get.tmp rfl))) ?_
  refine L.op1 rfl rfl (GSpec.plain rfl (spec_move rfl (Get.tmp rfl))) ?_
  refine L.op1 rfl rfl (GSpec.plain rfl (spec_len rfl Tryd.underlying34 (Get.tmp rfl))) ?_
  refine L.op1 rfl rfl (GSpec.plain rfl (spec_neq rfl (Get.tmp rfl) (Get.tmp rfl))) ?_
  refine L.nil ?_
  refine N.thenW ?_
  refine W.cond (Get.tmp rfl) (fun h1 => ?_) (fun h1 => ?_)
  · have ph1 := h1; try simp only [decide_eq_true_eq, decide_eq_false_iff_not, Bool.and_eq_true, Bool.or_eq_true, Bool.and_eq_false_iff, Bool.or_eq_false_iff, Bool.not_eq_true', Bool.not_eq_false', Bool.not_true, Bool.not_false, Int.not_lt, Int.not_le] at ph1
    refine W.seq ?_
    refine W.region ?_
    refine L.op1 rfl rfl (GSpec.plain rfl (spec_assign rfl Get.cbool)) ?_
    refine L.nil ?_
    refine N.thenW ?_
    refine W.ret ?_
    refine N.ret () rfl (.tmp (t := 4) (Get.tmp rfl) .nil) (res1 (eqB ?_)) .nil (fun _ _ h => h)
    symm; rw [decide_eq_false_iff_not]; intro e; subst e; simp at h1
  · have ph1 := h1; try simp only [decide_eq_true_eq, decide_eq_false_iff_not, Bool.and_eq_true, Bool.or_eq_true, Bool.and_eq_false_iff, Bool.or_eq_false_iff, Bool.not_eq_true', Bool.not_eq_false', Bool.not_true, Bool.not_false, Int.not_lt, Int.not_le] at ph1
    refine W.skip ?_
    refine N.thenW ?_
    refine W.seq ?_
    refine W.seq ?_
    refine W.region ?_
    refine L.op1 rfl rfl (GSpec.plain rfl (spec_assign rfl (Get.cint rfl))) ?_
    refine L.nil ?_
    refine N.thenW ?_
    refine W.block ?_
    -- assigned in the loop, not kept: [4]
    refine W.loopK (σ := Nat) (.cons (t := 0) rfl (.cons (t := 1) rfl .nil)) (fun z => [(5, Rp.int .i64 (z : Nat))]) (fun z => []) (fun z => z ≤ a.length ∧ ∀ j : Nat, j < z → a.getD j default = b.getD j default) (fun z => a.length - z) 0 ⟨Nat.zero_le _, fun j hj => by omega⟩ (.cons (t := 5) rfl .nil) .nil ?_
    intro i hI S' M' hS hM
    obtain ⟨hI1, hI2⟩ := hI
    try dsimp only at hS hM
    simp only [List.cons_append, List.nil_append] at hS hM
    subst hS hM
    try dsimp only
    refine W.seq ?_
    refine W.seq ?_
    refine W.region ?_
    refine L.op1 rfl rfl (GSpec.plain rfl (spec_move rfl (Get.tmp rfl))) ?_
    refine L.op1 rfl rfl (GSpec.plain rfl (spec_move rfl (Get.tmp rfl))) ?_
    refine L.op1 rfl rfl (GSpec.plain rfl (spec_len rfl Tryd.underlying34 (Get.tmp rfl))) ?_
    refine L.op1 rfl rfl (GSpec.plain rfl (spec_lss rfl (Get.tmp rfl) (Get.tmp rfl))) ?_
    refine L.nil ?_
    refine N.thenW ?_
    refine W.cond (Get.tmp rfl) (fun h2 => ?_) (fun h2 => ?_)
    · have ph2 := h2; try simp only [decide_eq_true_eq, decide_eq_false_iff_not, Bool.and_eq_true, Bool.or_eq_true, Bool.and_eq_false_iff, Bool.or_eq_false_iff, Bool.not_eq_true', Bool.not_eq_false', Bool.not_true, Bool.not_false, Int.not_lt, Int.not_le] at ph2
      refine W.skip ?_
      refine N.thenW ?_
      refine W.seq ?_
      refine W.block ?_
      refine W.seq ?_
      apply W.any 10 mixed (by kernel_rfl)
      · apply Head.one rfl rfl (GSpec.plain rfl (spec_move rfl (Get.tmp rfl)))
        apply Head.one rfl rfl (GSpec.plain rfl (spec_move rfl (Get.tmp rfl)))
        apply Head.one rfl rfl (GSpec.plain rfl (spec_indexAddrD (E := eII) rfl Tryd.underlying34 Tryd.sizeOf32 (fun _ => rfl) (Get.tmp rfl) (Get.tmp rfl) (by omega)))
        apply Head.one rfl rfl (GSpec.plain rfl (spec_loadP1 rfl Tryd.isAgg32 (Get.tmp rfl)))
        apply Head.one rfl rfl (GSpec.plain rfl (spec_move rfl (Get.tmp rfl)))
        apply Head.one rfl rfl (GSpec.plain rfl (spec_move rfl (Get.tmp rfl)))
        apply Head.one rfl rfl (GSpec.plain rfl (spec_indexAddrD (E := eII) rfl Tryd.underlying34 Tryd.sizeOf32 (fun _ => rfl) (Get.tmp rfl) (Get.tmp rfl) (by omega)))
        apply Head.one rfl rfl (GSpec.plain rfl (spec_loadP1 rfl Tryd.isAgg32 (Get.tmp rfl)))
        apply Head.one rfl rfl (GSpec.plain rfl (spec_call rfl Tryd.call15 (numbers_ok _ _) (.cons (Get.tmp rfl) (.cons (Get.tmp rfl) .nil))))
        apply Head.one rfl rfl (GSpec.plain rfl (spec_not rfl (Get.tmp rfl)))
        exact Head.nil
      refine Fin.one ?_
      refine Fin.one ?_
      refine Fin.one ?_
      refine Fin.one ?_
      refine Fin.one ?_
      refine Fin.one ?_
      refine Fin.one ?_
      refine Fin.one ?_
      refine Fin.one ?_
      refine Fin.one ?_
      refine Fin.nil ?_
      refine L.nil ?_
      refine N.thenW ?_
      refine W.cond (Get.tmp rfl) (fun h3 => ?_) (fun h3 => ?_)
      · have ph3 := h3; try simp only [decide_eq_true_eq, decide_eq_false_iff_not, Bool.and_eq_true, Bool.or_eq_true, Bool.and_eq_false_iff, Bool.or_eq_false_iff, Bool.not_eq_true', Bool.not_eq_false', Bool.not_true, Bool.not_false, Int.not_lt, Int.not_le] at ph3
        refine W.seq ?_
        refine W.region ?_
        refine L.op1 rfl rfl (GSpec.plain rfl (spec_assign rfl Get.cbool)) ?_
        refine L.nil ?_
        refine N.thenW ?_
        refine W.ret ?_
        refine N.ret () rfl (.tmp (t := 4) (Get.tmp rfl) .nil) (res1 (eqB ?_)) .nil (fun _ _ h => h)
        symm; rw [decide_eq_false_iff_not]; intro e; subst e; simp at h3
      · have ph3 := h3; try simp only [decide_eq_true_eq, decide_eq_false_iff_not, Bool.and_eq_true, Bool.or_eq_true, Bool.and_eq_false_iff, Bool.or_eq_false_iff, Bool.not_eq_true', Bool.not_eq_false', Bool.not_true, Bool.not_false, Int.not_lt, Int.not_le] at ph3
        refine W.skip ?_
        refine N.blockNormal ?_
        refine N.thenW ?_
        refine W.region ?_
        refine L.op1 rfl rfl (GSpec.plain rfl (spec_move rfl (Get.tmp rfl))) ?_
        first | refine L.op1 rfl rfl (GSpec.plain rfl (fit_i64 (by omega) (by omega) (spec_add rfl (Get.tmp rfl) (Get.cint rfl)))) ?_ | refine L.op1 rfl rfl (GSpec.plain rfl (spec_add rfl (Get.tmp rfl) (Get.cint rfl))) ?_
        refine L.op1 rfl rfl (GSpec.plain rfl (spec_assign rfl (Get.tmp rfl))) ?_
        refine L.nil ?_
        refine N.roundK (i + 1) ?hI5 ?hmu5 ?hs5 ?hk5 ?hp5
        case hs5 => exact (.cons (t := 5) rfl .nil)
        case hk5 => exact (.cons (t := 0) rfl (.cons (t := 1) rfl .nil))
        case hp5 => exact .nil
        case hI5 => exact ⟨by omega, upto hI2 (by simpa using h3)⟩
        case hmu5 => omega
    · have ph2 := h2; try simp only [decide_eq_true_eq, decide_eq_false_iff_not, Bool.and_eq_true, Bool.or_eq_true, Bool.and_eq_false_iff, Bool.or_eq_false_iff, Bool.not_eq_true', Bool.not_eq_false', Bool.not_true, Bool.not_false, Int.not_lt, Int.not_le] at ph2
      refine W.exit ?_
      refine N.thenExit ?_
      refine N.thenExit ?_
      refine N.blockExit ?_
      refine N.thenW ?_
      refine W.keep .nil .refl ?_
      refine W.seq ?_
      refine W.region ?_
      refine L.op1 rfl rfl (GSpec.plain rfl (spec_assign rfl Get.cbool)) ?_
      refine L.nil ?_
      refine N.thenW ?_
      refine W.ret ?_
      refine N.ret () rfl (.tmp (t := 4) (Get.tmp rfl) .nil) (res1 (eqB ?_)) .nil (fun _ _ h => h)
      symm; rw [decide_eq_true_eq]; exact ext_get (by have := h1; simp at this; omega) fun j hj => hI2 j (by omega)

end Go.Proofs.YtlbhpjigjehffaaDoor
set_option linter.unusedSimpArgs false
set_option maxRecDepth 8000
set_option linter.unusedVariables false
namespace Go.Proofs.YtlbhpjigjehffaaDoor
open Go.Sim
theorem rassign_ok (l : List Jb) (w : Int) (h39 : l.length ≤ 39) : CallT Tryd.prog 19 [Rp.slice eJ l, Rp.int .i64 w] [] (.one (Rp.tuple [Rp.slice eII (assignE l w).1, Rp.int .i64 (assignE l w).2])) := by
  refine W.enter (fn := Tryd.f19) (n := 66) Tryd.func19 rfl Tryd.ntmps19 rfl (fun w₀ C₀ => ?_)
  simp only [argS]
  refine W.seq ?_
  refine W.region ?_
  refine L.op1 rfl rfl (GSpec.plain rfl (spec_assign rfl (Get.cnil (E := eII)))) ?_
  refine L.op1 rfl rfl (GSpec.plain rfl (spec_assign rfl (Get.cint rfl))) ?_
  refine L.nil ?_
  refine N.thenW ?_
  refine W.seq ?_
  refine W.seq ?_
  refine W.region ?_
  refine L.op1 rfl rfl (GSpec.plain rfl (spec_move rfl (Get.tmp rfl))) ?_
  refine L.op1 rfl rfl (GSpec.plain rfl (spec_lss rfl (Get.tmp rfl) (Get.cint rfl))) ?_
  refine L.op1 rfl rfl (GSpec.plain rfl (spec_move rfl (Get.tmp rfl))) ?_
  refine L.op1 rfl rfl (GSpec.guard rfl rfl rfl fun hg => (spec_move rfl (Get.tmp rfl))) ?_
  refine L.op1 rfl rfl (GSpec.guard rfl rfl rfl fun hg => (spec_gtr rfl (Get.opt rfl hg) (Get.cint rfl))) ?_
  refine L.op1 rfl rfl (GSpec.plain rfl (spec_or rfl (Get.tmp rfl) (fun hb => (Get.opt rfl hb)))) ?_
  refine L.nil ?_
  refine N.thenW ?_
  refine W.cond (Get.tmp rfl) (fun h1 => ?_) (fun h1 => ?_)
  · have ph1 := h1; simp only [decide_eq_true_eq, decide_eq_false_iff_not, Bool.and_eq_true, Bool.or_eq_true, Bool.and_eq_false_iff, Bool.or_eq_false_iff, Bool.not_eq_true', Bool.not_eq_false', Bool.not_true, Bool.not_false, Int.not_lt, Int.not_le] at ph1
    have q0 : askedE l w = 1 := asked_out (by omega)
    refine W.seq ?_
    refine W.region ?_
    refine L.op1 rfl rfl (GSpec.plain rfl (spec_assign rfl (Get.cnil (E := eII)))) ?_
    refine L.op1 rfl rfl (GSpec.plain rfl (spec_assign rfl (Get.cint rfl))) ?_
    refine L.nil ?_
    refine N.thenW ?_
    refine W.keep (.cons (t := 0) rfl (.cons (t := 1) rfl (.cons (t := 4) rfl (.cons (t := 5) rfl .nil)))) .refl ?_
    refine W.ret ?_
    refine N.ret () rfl (.tmp (t := 4) (Get.tmp rfl) (.tmp (t := 5) (Get.tmp rfl) .nil)) (res2w (eqSl ?_) (eqI ?_)) .nil (fun _ _ h => h)
    all_goals rw [assign_no (by omega), q0]
  · have ph1 := h1; simp only [decide_eq_true_eq, decide_eq_false_iff_not, Bool.and_eq_true, Bool.or_eq_true, Bool.and_eq_false_iff, Bool.or_eq_false_iff, Bool.not_eq_true', Bool.not_eq_false', Bool.not_true, Bool.not_false, Int.not_lt, Int.not_le] at ph1
    refine W.skip ?_
    refine N.thenW ?_
    refine W.seq ?_
    refine W.region ?_
    refine L.op1 rfl rfl (GSpec.plain rfl (spec_move rfl (Get.tmp rfl))) ?_
    refine L.op1 rfl rfl (GSpec.plain rfl (spec_call rfl Tryd.call36 (check_ok _) (.cons (Get.tmp rfl) .nil))) ?_
    refine L.op1 rfl rfl (GSpec.plain rfl (spec_assign rfl (Get.tmp rfl))) ?_
    refine L.nil ?_
    refine N.thenW ?_
    refine W.keep (.cons (t := 0) rfl (.cons (t := 1) rfl (.cons (t := 4) rfl (.cons (t := 5) rfl (.cons (t := 6) rfl .nil))))) .refl ?_
    refine W.seq ?_
    refine W.seq ?_
    refine W.region ?_
    refine L.op1 rfl rfl (GSpec.plain rfl (spec_move rfl (Get.tmp rfl))) ?_
    refine L.op1 rfl rfl (GSpec.plain rfl (spec_neq rfl (Get.tmp rfl) (Get.cint rfl))) ?_
    refine L.nil ?_
    refine N.thenW ?_
    refine W.cond (Get.tmp rfl) (fun h2 => ?_) (fun h2 => ?_)
    · have q0 : askedE l w ≠ 0 := by rw [asked_in (by omega) (by omega)]; have h := h2; simpa using h
      have q1 : askedE l w = jobsE l := asked_in (by omega) (by omega)
      refine W.seq ?_
      refine W.region ?_
      refine L.op1 rfl rfl (GSpec.plain rfl (spec_move rfl (Get.tmp rfl))) ?_
      refine L.op1 rfl rfl (GSpec.plain rfl (spec_assign rfl (Get.cnil (E := eII)))) ?_
      refine L.op1 rfl rfl (GSpec.plain rfl (spec_assign rfl (Get.tmp rfl))) ?_
      refine L.nil ?_
      refine N.thenW ?_
      refine W.keep (.cons (t := 0) rfl (.cons (t := 1) rfl (.cons (t := 4) rfl (.cons (t := 5) rfl .nil)))) .refl ?_
      refine W.ret ?_
      refine N.ret () rfl (.tmp (t := 4) (Get.tmp rfl) (.tmp (t := 5) (Get.tmp rfl) .nil)) (res2w (eqSl ?_) (eqI ?_)) .nil (fun _ _ h => h)
      all_goals rw [assign_no q0]
      all_goals rw [q1]
    · have q0 : askedE l w = 0 := by rw [asked_in (by omega) (by omega)]; have h := h2; simpa using h
      obtain ⟨hw1, hw2, hok⟩ := asked_yes q0
      have hoi := ordS_in l
      have hol := ordS_len l
      refine W.skip ?_
      refine N.thenW ?_
      refine W.seq ?_
      refine W.region ?_
      refine L.op1 rfl rfl (GSpec.plain rfl (spec_move rfl (Get.tmp rfl))) ?_
      refine L.op rfl rfl (GSpec.plain rfl (spec_makeSlice (z₀ := (Value.slice none 0 0)) (E := eV) rfl Tryd.underlying34 ti32 z32v (fun _ => rfl) (Get.tmp rfl) (Get.tmp rfl) (by omega) (by omega) (by omega))) (fun v24 => ?_)
      refine L.op1 rfl rfl (GSpec.plain rfl (spec_assign rfl (Get.tmp rfl))) ?_
      refine L.nil ?_
      refine N.thenW ?_
      refine W.seq ?_
      refine W.region ?_
      refine L.op1 rfl rfl (GSpec.plain rfl (spec_move rfl (Get.tmp rfl))) ?_
      refine L.op1 rfl rfl (GSpec.plain rfl (spec_call rfl Tryd.call17 (rorder_ok _ (by omega)) (.cons (Get.tmp rfl) .nil))) ?_
      refine L.op1 rfl rfl (GSpec.plain rfl (spec_assign rfl (Get.tmp rfl))) ?_
      refine L.nil ?_
      refine N.thenW ?_
      refine W.keep (.cons (t := 0) rfl (.cons (t := 1) rfl (.cons (t := 4) rfl (.cons (t := 5) rfl (.cons (t := 7) rfl (.cons (t := 8) rfl .nil)))))) .refl ?_
      refine W.seq ?_
      refine W.seq ?_
      refine W.region ?_
      refine L.op1 rfl rfl (GSpec.plain rfl (spec_assign rfl (Get.cint rfl))) ?_
      refine L.nil ?_
      refine N.thenW ?_
      refine W.many (rows_nil w.toNat).1 (rows_nil w.toNat).2 ?_
      refine W.block ?_
      refine W.loopK (σ := Nat × List Value) (.cons (t := 0) rfl (.cons (t := 1) rfl (.cons (t := 4) rfl (.cons (t := 5) rfl (.cons (t := 7) rfl (.cons (t := 8) rfl .nil)))))) (fun z => [(9, Rp.int .i64 (z.1 : Nat))]) (fun z => [MF.osl v24 32 1 eV z.2, MF.many (rowsM 3 1 eI z.2 (runA l w.toNat ((ordS l).take z.1)).rows)]) (fun z => z.1 ≤ (ordS l).length ∧ z.2.length = w.toNat) (fun z => (ordS l).length - z.1) (0, List.replicate w.toNat (Value.slice none 0 0)) ⟨Nat.zero_le _, by simp⟩ (.cons (t := 9) rfl .nil) (.cons 1 rfl (.cons 0 rfl .nil)) ?_
      intro ⟨i, vs⟩ hI S' M' hS hM
      obtain ⟨hI1, hI2⟩ := hI
      try dsimp only at hS hM
      simp only [List.cons_append, List.nil_append] at hS hM
      subst hS hM
      try dsimp only
      try dsimp only at hI1 hI2
      obtain ⟨hrl, hbl⟩ := runA_len l w.toNat ((ordS l).take i)
      have hrr := rows_range l w.toNat (ordS l) i hI1 (wAt (runA l w.toNat ((ordS l).take i)).busy)
      refine W.seq ?_
      refine W.seq ?_
      refine W.region ?_
      refine L.op1 rfl rfl (GSpec.plain rfl (spec_move rfl (Get.tmp rfl))) ?_
      refine L.op1 rfl rfl (GSpec.plain rfl (spec_move rfl (Get.tmp rfl))) ?_
      refine L.op1 rfl rfl (GSpec.plain rfl (spec_len rfl Tryd.underlying32 (Get.tmp rfl))) ?_
      refine L.op1 rfl rfl (GSpec.plain rfl (spec_lss rfl (Get.tmp rfl) (Get.tmp rfl))) ?_
      refine L.nil ?_
      refine N.thenW ?_
      refine W.cond (Get.tmp rfl) (fun h3 => ?_) (fun h3 => ?_)
      · have ph3 := h3; try simp only [decide_eq_true_eq, decide_eq_false_iff_not, Bool.and_eq_true, Bool.or_eq_true, Bool.and_eq_false_iff, Bool.or_eq_false_iff, Bool.not_eq_true', Bool.not_eq_false', Bool.not_true, Bool.not_false, Int.not_lt, Int.not_le] at ph3
        refine W.skip ?_
        refine N.thenW ?_
        refine W.seq ?_
        refine W.block ?_
        refine W.seq ?_
        refine W.region ?_
        refine L.op1 rfl rfl (GSpec.plain rfl (spec_assign rfl (Get.cint rfl))) ?_
        refine L.nil ?_
        refine N.thenW ?_
        refine W.seq ?_
        refine W.seq ?_
        refine W.region ?_
        refine L.op1 rfl rfl (GSpec.plain rfl (spec_assign rfl (Get.cint rfl))) ?_
        refine L.nil ?_
        refine N.thenW ?_
        refine W.block ?_
        refine W.loopK (σ := Nat) (.cons (t := 0) rfl (.cons (t := 1) rfl (.cons (t := 4) rfl (.cons (t := 5) rfl (.cons (t := 7) rfl (.cons (t := 8) rfl (.cons (t := 9) rfl (.cons (t := 27) rfl (.cons (t := 28) rfl (.cons (t := 29) rfl (.cons (t := 30) rfl .nil))))))))))) (fun z => [(11, Rp.int .i64 ((z + 1 : Nat) : Int)), (10, Rp.int .i64 ((bestN (runA l w.toNat ((ordS l).take i)).busy z : Nat) : Int))]) (fun z => []) (fun z => z + 1 ≤ w.toNat) (fun z => w.toNat - z) 0 (by omega) (.weak (t := 11) rfl (eqI (by first | rfl | omega)) (.weak (t := 10) rfl (eqI (by first | rfl | omega)) .nil)) (.cons 0 rfl (.cons 0 rfl .nil)) ?_
        intro k hI S' M' hS hM
        try dsimp only at hS hM
        simp only [List.cons_append, List.nil_append] at hS hM
        subst hS hM
        try dsimp only
        refine W.seq ?_
        refine W.seq ?_
        refine W.region ?_
        refine L.op1 rfl rfl (GSpec.plain rfl (spec_move rfl (Get.tmp rfl))) ?_
        refine L.op1 rfl rfl (GSpec.plain rfl (spec_move rfl (Get.tmp rfl))) ?_
        refine L.op1 rfl rfl (GSpec.plain rfl (spec_lss rfl (Get.tmp rfl) (Get.tmp rfl))) ?_
        refine L.nil ?_
        refine N.thenW ?_
        refine W.cond (Get.tmp rfl) (fun h4 => ?_) (fun h4 => ?_)
        · have ph4 := h4; try simp only [decide_eq_true_eq, decide_eq_false_iff_not, Bool.and_eq_true, Bool.or_eq_true, Bool.and_eq_false_iff, Bool.or_eq_false_iff, Bool.not_eq_true', Bool.not_eq_false', Bool.not_true, Bool.not_false, Int.not_lt, Int.not_le] at ph4
          refine W.skip ?_
          refine N.thenW ?_
          have hkw := ph4
          obtain ⟨u1, hu1⟩ : ∃ u, vs[k + 1]? = some u := ⟨_, List.getElem?_eq_getElem (by omega)⟩
          have hb0 := (bestN_is (runA l w.toNat ((ordS l).take i)).busy k).1
          obtain ⟨u2, hu2⟩ : ∃ u, vs[bestN (runA l w.toNat ((ordS l).take i)).busy k]? = some u := ⟨_, List.getElem?_eq_getElem (by omega)⟩
          have hu1r := get_some (xs := (runA l w.toNat ((ordS l).take i)).rows) (i := k + 1) (by omega)
          have hu2r := get_some (xs := (runA l w.toNat ((ordS l).take i)).rows) (i := bestN (runA l w.toNat ((ordS l).take i)).busy k) (by omega)
          refine W.seq ?_
          refine W.block ?_
          refine W.seq ?_
          apply W.any 13 mixed (by kernel_rfl)
          · apply Head.one rfl rfl (GSpec.plain rfl (spec_move rfl (Get.tmp rfl)))
            apply Head.one rfl rfl (GSpec.plain rfl (spec_move rfl (Get.tmp rfl)))
            apply Head.one rfl rfl (GSpec.plain rfl (spec_move rfl (Get.tmp rfl)))
            apply Head.one rfl rfl (GSpec.plain rfl (spec_indexAddrO (k := 0) (E := eV) rfl Tryd.underlying34 Tryd.sizeOf32 (Get.tmp rfl) (Get.tmp rfl) rfl (by (first | omega | (simp only [List.length_append, List.length_cons, List.length_nil, Int.toNat_natCast]; omega)))))
            apply Head.one rfl rfl (GSpec.plain rfl (spec_loadO1 (k := 0) (j := 0) (E := eV) (y := u1) rfl Tryd.isAgg32 (fun _ => rfl) (Get.tmp rfl) rfl rfl hu1 rfl))
            apply Head.one rfl rfl (GSpec.plain rfl (spec_callB rfl Tryd.call37 (work_ok l ((runA l w.toNat ((ordS l).take i)).rows.getD (k + 1) default) hok (run_in (by omega) hI1 _) (by have := rows_range l w.toNat (ordS l) i hI1 (k + 1); omega)) (.cons (Get.tmp rfl) (.cons (Get.tmp rfl) .nil)) (.cons .same (.cons (.row 1 (k + 1) rfl (rowsM_get hu1 hu1r) (fun _ => rfl)) .nil))))
            apply Head.one rfl rfl (GSpec.plain rfl (spec_move rfl (Get.tmp rfl)))
            apply Head.one rfl rfl (GSpec.plain rfl (spec_move rfl (Get.tmp rfl)))
            apply Head.one rfl rfl (GSpec.plain rfl (spec_move rfl (Get.tmp rfl)))
            apply Head.one rfl rfl (GSpec.plain rfl (spec_indexAddrO (k := 0) (E := eV) rfl Tryd.underlying34 Tryd.sizeOf32 (Get.tmp rfl) (Get.tmp rfl) rfl (by (first | omega | (simp only [List.length_append, List.length_cons, List.length_nil, Int.toNat_natCast]; omega)))))
            apply Head.one rfl rfl (GSpec.plain rfl (spec_loadO1 (k := 0) (j := 0) (E := eV) (y := u2) rfl Tryd.isAgg32 (fun _ => rfl) (Get.tmp rfl) rfl rfl hu2 rfl))
            apply Head.one rfl rfl (GSpec.plain rfl (spec_callB rfl Tryd.call37 (work_ok l ((runA l w.toNat ((ordS l).take i)).rows.getD (bestN (runA l w.toNat ((ordS l).take i)).busy k) default) hok (run_in (by omega) hI1 _) (by have := rows_range l w.toNat (ordS l) i hI1 (bestN (runA l w.toNat ((ordS l).take i)).busy k); omega)) (.cons (Get.tmp rfl) (.cons (Get.tmp rfl) .nil)) (.cons .same (.cons (.row 1 (bestN (runA l w.toNat ((ordS l).take i)).busy k) rfl (rowsM_get hu2 hu2r) (fun _ => rfl)) .nil))))
            apply Head.one rfl rfl (GSpec.plain rfl (spec_lss rfl (Get.tmp rfl) (Get.tmp rfl)))
            exact Head.nil
          refine Fin.one ?_
          refine Fin.one ?_
          refine Fin.one ?_
          refine Fin.one ?_
          refine Fin.one ?_
          refine Fin.one ?_
          refine Fin.one ?_
          refine Fin.one ?_
          refine Fin.one ?_
          refine Fin.one ?_
          refine Fin.one ?_
          refine Fin.one ?_
          refine Fin.one ?_
          refine Fin.nil ?_
          refine L.nil ?_
          refine N.thenW ?_
          refine W.cond (Get.tmp rfl) (fun h5 => ?_) (fun h5 => ?_)
          · have hbt : (runA l w.toNat ((ordS l).take i)).busy.getD (k + 1) default < (runA l w.toNat ((ordS l).take i)).busy.getD (bestN (runA l w.toNat ((ordS l).take i)).busy k) default := by rw [busy_at, busy_at]; exact of_decide_eq_true h5
            refine W.region ?_
            refine L.op1 rfl rfl (GSpec.plain rfl (spec_move rfl (Get.tmp rfl))) ?_
            refine L.op1 rfl rfl (GSpec.plain rfl (spec_assign rfl (Get.tmp rfl))) ?_
            refine L.nil ?_
            refine N.blockNormal ?_
            refine N.thenW ?_
            refine W.region ?_
            refine L.op1 rfl rfl (GSpec.plain rfl (spec_move rfl (Get.tmp rfl))) ?_
            first | refine L.op1 rfl rfl (GSpec.plain rfl (fit_i64 (by (first | omega | (simp only [List.length_append, List.length_cons, List.length_nil, Int.toNat_natCast]; omega))) (by (first | omega | (simp only [List.length_append, List.length_cons, List.length_nil, Int.toNat_natCast]; omega))) (spec_add rfl (Get.tmp rfl) (Get.cint rfl)))) ?_ | refine L.op1 rfl rfl (GSpec.plain rfl (spec_add rfl (Get.tmp rfl) (Get.cint rfl))) ?_
            refine L.op1 rfl rfl (GSpec.plain rfl (spec_assign rfl (Get.tmp rfl))) ?_
            refine L.nil ?_
            refine N.roundK (k + 1) ?hI1 ?hmu1 ?hs1 ?hk1 ?hp1
            case hs1 => exact (.weak (t := 11) rfl (eqI (by first | omega | (rw [best_yes hbt]) | (rw [best_no hbt]))) (.weak (t := 10) rfl (eqI (by first | omega | (rw [best_yes hbt]) | (rw [best_no hbt]))) .nil))
            case hk1 => exact (.cons (t := 0) rfl (.cons (t := 1) rfl (.cons (t := 4) rfl (.cons (t := 5) rfl (.cons (t := 7) rfl (.cons (t := 8) rfl (.cons (t := 9) rfl (.cons (t := 27) rfl (.cons (t := 28) rfl (.cons (t := 29) rfl (.cons (t := 30) rfl .nil)))))))))))
            case hp1 => exact (.cons 0 rfl (.cons 0 rfl .nil))
            all_goals (first | rfl | trivial | omega | (simp_all; done))
          · have hbt : ¬ (runA l w.toNat ((ordS l).take i)).busy.getD (k + 1) default < (runA l w.toNat ((ordS l).take i)).busy.getD (bestN (runA l w.toNat ((ordS l).take i)).busy k) default := by rw [busy_at, busy_at]; exact of_decide_eq_false h5
            refine W.skip ?_
            refine N.blockNormal ?_
            refine N.thenW ?_
            refine W.region ?_
            refine L.op1 rfl rfl (GSpec.plain rfl (spec_move rfl (Get.tmp rfl))) ?_
            first | refine L.op1 rfl rfl (GSpec.plain rfl (fit_i64 (by (first | omega | (simp only [List.length_append, List.length_cons, List.length_nil, Int.toNat_natCast]; omega))) (by (first | omega | (simp only [List.length_append, List.length_cons, List.length_nil, Int.toNat_natCast]; omega))) (spec_add rfl (Get.tmp rfl) (Get.cint rfl)))) ?_ | refine L.op1 rfl rfl (GSpec.plain rfl (spec_add rfl (Get.tmp rfl) (Get.cint rfl))) ?_
            refine L.op1 rfl rfl (GSpec.plain rfl (spec_assign rfl (Get.tmp rfl))) ?_
            refine L.nil ?_
            refine N.roundK (k + 1) ?hI2 ?hmu2 ?hs2 ?hk2 ?hp2
            case hs2 => exact (.weak (t := 11) rfl (eqI (by first | omega | (rw [best_yes hbt]) | (rw [best_no hbt]))) (.weak (t := 10) rfl (eqI (by first | omega | (rw [best_yes hbt]) | (rw [best_no hbt]))) .nil))
            case hk2 => exact (.cons (t := 0) rfl (.cons (t := 1) rfl (.cons (t := 4) rfl (.cons (t := 5) rfl (.cons (t := 7) rfl (.cons (t := 8) rfl (.cons (t := 9) rfl (.cons (t := 27) rfl (.cons (t := 28) rfl (.cons (t := 29) rfl (.cons (t := 30) rfl .nil)))))))))))
            case hp2 => exact (.cons 0 rfl (.cons 0 rfl .nil))
            all_goals (first | rfl | trivial | omega | (simp_all; done))
        · have ph4 := h4; try simp only [decide_eq_true_eq, decide_eq_false_iff_not, Bool.and_eq_true, Bool.or_eq_true, Bool.and_eq_false_iff, Bool.or_eq_false_iff, Bool.not_eq_true', Bool.not_eq_false', Bool.not_true, Bool.not_false, Int.not_lt, Int.not_le] at ph4
          refine W.exit ?_
          refine N.thenExit ?_
          refine N.thenExit ?_
          refine N.blockExit ?_
          refine N.thenW ?_
          have ek : k = (runA l w.toNat ((ordS l).take i)).busy.length - 1 := by omega
          subst ek
          rw [best_w (b := (runA l w.toNat ((ordS l).take i)).busy) (by omega)]
          obtain ⟨hwe, hwl⟩ := wAt_eq (b := (runA l w.toNat ((ordS l).take i)).busy) (by omega)
          have hwv : wAt (runA l w.toNat ((ordS l).take i)).busy < vs.length := by omega
          obtain ⟨u, hu⟩ : ∃ u, vs[wAt (runA l w.toNat ((ordS l).take i)).busy]? = some u := ⟨_, List.getElem?_eq_getElem hwv⟩
          have hrow := get_some (xs := (runA l w.toNat ((ordS l).take i)).rows) (i := wAt (runA l w.toNat ((ordS l).take i)).busy) (by omega)
          refine W.focus (i := wAt (runA l w.toNat ((ordS l).take i)).busy) (F := MF.osl u 3 1 eI ((runA l w.toNat ((ordS l).take i)).rows.getD (wAt (runA l w.toNat ((ordS l).take i)).busy) default)) (.cons 1 rfl .refl) (rowsM_get hu hrow) ?_
          apply W.any1 (bs := [true, true, false, false, false, false, false, false, false, false, false]) (Mf := []) 11 mixed (by kernel_rfl) (by kernel_rfl) rfl .nil
          · apply Head1.flo rfl rfl (GSpec.plain rfl (spec_move rfl (Get.tmp rfl)))
            apply Head1.flo rfl rfl (GSpec.plain rfl (spec_move rfl (Get.tmp rfl)))
            apply Head1.one rfl rfl (GSpec.plain rfl (spec_move rfl (Get.tmp rfl)))
            apply Head1.one rfl rfl (GSpec.plain rfl (spec_move rfl (Get.tmp rfl)))
            apply Head1.one rfl rfl (GSpec.plain rfl (spec_indexAddrO (k := 2) (E := eV) rfl Tryd.underlying34 Tryd.sizeOf32 (Get.tmp rfl) (Get.tmp rfl) rfl (by (first | omega | (simp only [List.length_append, List.length_cons, List.length_nil, Int.toNat_natCast]; omega)))))
            apply Head1.one rfl rfl (GSpec.plain rfl (spec_loadO1 (k := 2) (j := 0) (E := eV) (y := u) rfl Tryd.isAgg32 (fun _ => rfl) (Get.tmp rfl) rfl rfl hu rfl))
            apply Head1.one rfl rfl (GSpec.plain rfl (spec_move rfl (Get.tmp rfl)))
            apply Head1.one rfl rfl (GSpec.plain rfl (spec_move rfl (Get.tmp rfl)))
            apply Head1.one rfl rfl (GSpec.plain rfl (spec_indexAddrD (E := eI) rfl Tryd.underlying32 Tryd.sizeOf3 (fun _ => rfl) (Get.tmp rfl) (Get.tmp rfl) (by (first | omega | (simp only [List.length_append, List.length_cons, List.length_nil, Int.toNat_natCast]; omega)))))
            apply Head1.one rfl rfl (GSpec.plain rfl (spec_loadP1 rfl Tryd.isAgg3 (Get.tmp rfl)))
            apply Head1.one rfl rfl (GSpec.plain rfl (spec_buildSlice1 (E := eI) rfl Tryd.underlying32 ti3 z3 (by decide) (GetC.one (Get.tmp rfl)) (fun _ => rfl)))
            exact Head1.nil
          · rfl
          refine Fin1.flo ?_
          refine Fin1.flo ?_
          refine Fin1.one ?_
          refine Fin1.one ?_
          refine Fin1.one ?_
          refine Fin1.one ?_
          refine Fin1.one ?_
          refine Fin1.one ?_
          refine Fin1.one ?_
          refine Fin1.one ?_
          refine Fin1.one ?_
          refine Fin1.nil (fun X => ?_)
          refine L.append (k := 0) (E := eI) rfl rfl rfl rfl Tryd.underlying32 ti3 rfl (by decide) (fun _ => rfl) (Get.tmp rfl) (Get.tmp rfl) rfl (by (simp only [List.length_append, List.length_cons, List.length_nil]; omega)) (by (simp only [List.length_append, List.length_cons, List.length_nil]; omega)) (fun v63 => ?_)
          refine L.nil ?_
          refine Aft.next ((63, _) :: _) (Sub.push rfl) .nil rfl ?_
          refine L.op1 rfl rfl (GSpec.plain rfl (spec_indexAddrO (k := 2) (E := eV) rfl Tryd.underlying34 Tryd.sizeOf32 (Get.tmp rfl) (Get.tmp rfl) rfl (by (first | omega | (simp only [List.length_append, List.length_cons, List.length_nil, Int.toNat_natCast]; omega))))) ?_
          refine L.factM 0 rfl osl_one fun hq => ?_
          haveI := One.val hq
          refine L.storeO1 (k := 2) (j := 0) (E := eV) rfl rfl rfl Tryd.sizeOf32 (fun _ => rfl) (Get.tmp rfl) (Get.tmp rfl) rfl rfl (by decide) (getD_some (by (first | omega | (simp only [List.length_append, List.length_cons, List.length_nil, Int.toNat_natCast]; omega)))) rfl ?_
          refine L.nil ?_
          refine N.blockNormal ?_
          refine N.thenW ?_
          refine W.unfocus (i := wAt (runA l w.toNat ((ordS l).take i)).busy) (Ms := rowsM 3 1 eI vs (runA l w.toNat ((ordS l).take i)).rows) (F := MF.osl v63 3 1 eI ((runA l w.toNat ((ordS l).take i)).rows.getD (wAt (runA l w.toNat ((ordS l).take i)).busy) default ++ [(ordS l).getD i default])) (.cons 0 rfl (.cons 0 rfl .refl)) (by unfold rowsM; simp; omega) ?_
          rw [rowsM_set]
          refine W.region ?_
          refine L.op1 rfl rfl (GSpec.plain rfl (spec_move rfl (Get.tmp rfl))) ?_
          first | refine L.op1 rfl rfl (GSpec.plain rfl (fit_i64 (by (first | omega | (simp only [List.length_append, List.length_cons, List.length_nil, Int.toNat_natCast]; omega))) (by (first | omega | (simp only [List.length_append, List.length_cons, List.length_nil, Int.toNat_natCast]; omega))) (spec_add rfl (Get.tmp rfl) (Get.cint rfl)))) ?_ | refine L.op1 rfl rfl (GSpec.plain rfl (spec_add rfl (Get.tmp rfl) (Get.cint rfl))) ?_
          refine L.op1 rfl rfl (GSpec.plain rfl (spec_assign rfl (Get.tmp rfl))) ?_
          refine L.nil ?_
          refine N.roundK (i + 1, vs.set (wAt (runA l w.toNat ((ordS l).take i)).busy) v63) ?hI3 ?hmu3 ?hs3 ?hk3 ?hp3
          case hs3 => exact (.cons (t := 9) rfl .nil)
          case hk3 => exact (.cons (t := 0) rfl (.cons (t := 1) rfl (.cons (t := 4) rfl (.cons (t := 5) rfl (.cons (t := 7) rfl (.cons (t := 8) rfl .nil))))))
          case hp3 => dsimp only; rw [runA_step (show i < (ordS l).length by omega)]; exact (.cons 1 rfl (.cons 0 rfl .nil))
          case hI3 => exact ⟨by dsimp only; omega, by simp; omega⟩
          case hmu3 => dsimp only; omega
      · have ph3 := h3; try simp only [decide_eq_true_eq, decide_eq_false_iff_not, Bool.and_eq_true, Bool.or_eq_true, Bool.and_eq_false_iff, Bool.or_eq_false_iff, Bool.not_eq_true', Bool.not_eq_false', Bool.not_true, Bool.not_false, Int.not_lt, Int.not_le] at ph3
        refine W.exit ?_
        refine N.thenExit ?_
        refine N.thenExit ?_
        refine N.blockExit ?_
        refine N.thenW ?_
        refine W.publish (F := [MF.osl v24 32 1 eV vs, MF.many (rowsM 3 1 eI vs (runA l w.toNat ((ordS l).take i)).rows)]) (R' := Rp.slice eII (runA l w.toNat ((ordS l).take i)).rows) 7 (.cons 0 rfl (.cons 0 rfl .refl)) rfl (fun W C v hf hb h => by rw [show v = v24 from h]; exact rows_slice (T := 3) (T' := 32) (sz := 1) (E := eI) (vs := vs) (rs := (runA l w.toNat ((ordS l).take i)).rows) (fun _ => rfl) (by omega) hf hb) ?_
        refine W.keep (.cons (t := 4) rfl (.cons (t := 5) rfl (.cons (t := 7) rfl .nil))) .refl ?_
        refine W.seq ?_
        refine W.region ?_
        refine L.op1 rfl rfl (GSpec.plain rfl (spec_move rfl (Get.tmp rfl))) ?_
        refine L.op1 rfl rfl (GSpec.plain rfl (spec_assign rfl (Get.tmp rfl))) ?_
        refine L.op1 rfl rfl (GSpec.plain rfl (spec_assign rfl (Get.cint rfl))) ?_
        refine L.nil ?_
        refine N.thenW ?_
        refine W.ret ?_
        refine N.ret () rfl (.tmp (t := 4) (Get.tmp rfl) (.tmp (t := 5) (Get.tmp rfl) .nil)) (res2w (eqSl ?_) (eqI ?_)) .nil (fun _ _ h => h)
        rw [assign_yes q0, show i = (ordS l).length by omega, List.take_length]
        rw [assign_yes q0]

end Go.Proofs.YtlbhpjigjehffaaDoor
set_option linter.unusedSimpArgs false
set_option maxRecDepth 8000
set_option linter.unusedVariables false
namespace Go.Proofs.YtlbhpjigjehffaaDoor
open Go.Sim
theorem index_ok (b : List Int) (v : Int) : CallT Tryd.prog 34 [Rp.slice eI b, Rp.int .i64 v] [] (.one (Rp.int .i64 (idxI (fun x => decide (v = x)) b))) := by
  refine W.enter (fn := Tryd.f34) (n := 19) Tryd.func34 rfl Tryd.ntmps34 rfl (fun w₀ C₀ => ?_)
  simp only [argS]
  refine W.fact 0 rfl slice_fact fun hl => ?_
  refine W.seq ?_
  refine W.region ?_
  refine L.op1 rfl rfl (GSpec.plain rfl (spec_assign rfl (Get.cint rfl))) ?_
  refine L.nil ?_
  refine N.thenW ?_
  refine W.seq ?_
  refine W.seq ?_
  refine W.region ?_
  refine L.op1 rfl rfl (GSpec.plain rfl (spec_move rfl (Get.tmp rfl))) ?_
  refine L.op1 rfl rfl (GSpec.plain rfl (spec_len rfl Tryd.underlying32 (Get.tmp rfl))) ?_
  refine L.op1 rfl rfl (GSpec.plain rfl (spec_move rfl (Get.cint rfl))) ?_
  refine L.nil ?_
  refine N.thenW ?_
  refine W.block ?_
  -- assigned in the loop, not kept: [4]
  refine W.loopK (σ := Nat) (.cons (t := 0) rfl (.cons (t := 1) rfl (.cons (t := 7) rfl .nil))) (fun z => [(8, Rp.int .i64 (z : Nat))]) (fun z => []) (fun z => z ≤ b.length ∧ ∀ j : Nat, j < z → decide (v = b.getD j default) = false) (fun z => b.length - z) 0 ⟨Nat.zero_le _, fun j hj => by omega⟩ (.cons (t := 8) rfl .nil) .nil ?_
  intro i hI S' M' hS hM
  obtain ⟨hI1, hI2⟩ := hI
  try dsimp only at hS hM
  simp only [List.cons_append, List.nil_append] at hS hM
  subst hS hM
  try dsimp only
  refine W.seq ?_
  refine W.region ?_
  refine L.op1 rfl rfl (GSpec.plain rfl (spec_lss rfl (Get.tmp rfl) (Get.tmp rfl))) ?_
  refine L.nil ?_
  refine N.thenW ?_
  refine W.seq ?_
  refine W.cond (Get.tmp rfl) (fun h1 => ?_) (fun h1 => ?_)
  · have ph1 := h1; try simp only [decide_eq_true_eq, decide_eq_false_iff_not, Bool.and_eq_true, Bool.or_eq_true, Bool.and_eq_false_iff, Bool.or_eq_false_iff, Bool.not_eq_true', Bool.not_eq_false', Bool.not_true, Bool.not_false, Int.not_lt, Int.not_le] at ph1
    refine W.skip ?_
    refine N.thenW ?_
    refine W.seq ?_
    refine W.block ?_
    refine W.seq ?_
    refine W.region ?_
    refine L.op1 rfl rfl (GSpec.plain rfl (spec_move rfl (Get.tmp rfl))) ?_
    refine L.op1 rfl rfl (GSpec.plain rfl (spec_assign rfl (Get.tmp rfl))) ?_
    refine L.nil ?_
    refine N.thenW ?_
    refine W.seq ?_
    refine W.region ?_
    refine L.op1 rfl rfl (GSpec.plain rfl (spec_move rfl (Get.tmp rfl))) ?_
    refine L.op1 rfl rfl (GSpec.plain rfl (spec_move rfl (Get.tmp rfl))) ?_
    refine L.op1 rfl rfl (GSpec.plain rfl (spec_move rfl (Get.tmp rfl))) ?_
    refine L.op1 rfl rfl (GSpec.plain rfl (spec_indexAddrD (E := eI) rfl Tryd.underlying32 Tryd.sizeOf3 (fun _ => rfl) (Get.tmp rfl) (Get.tmp rfl) (by omega))) ?_
    refine L.op1 rfl rfl (GSpec.plain rfl (spec_loadP1 rfl Tryd.isAgg3 (Get.tmp rfl))) ?_
    refine L.op1 rfl rfl (GSpec.plain rfl (spec_eql rfl (Get.tmp rfl) (Get.tmp rfl))) ?_
    refine L.nil ?_
    refine N.thenW ?_
    refine W.cond (Get.tmp rfl) (fun h2 => ?_) (fun h2 => ?_)
    · have ph2 := h2; try simp only [decide_eq_true_eq, decide_eq_false_iff_not, Bool.and_eq_true, Bool.or_eq_true, Bool.and_eq_false_iff, Bool.or_eq_false_iff, Bool.not_eq_true', Bool.not_eq_false', Bool.not_true, Bool.not_false, Int.not_lt, Int.not_le] at ph2
      refine W.seq ?_
      refine W.region ?_
      refine L.op1 rfl rfl (GSpec.plain rfl (spec_move rfl (Get.tmp rfl))) ?_
      refine L.op1 rfl rfl (GSpec.plain rfl (spec_assign rfl (Get.tmp rfl))) ?_
      refine L.nil ?_
      refine N.thenW ?_
      refine W.ret ?_
      refine N.ret () rfl (.tmp (t := 4) (Get.tmp rfl) .nil) (res1 (eqI ?_)) .nil (fun _ _ h => h)
      exact (idx_yes (by omega) h2 hI2).symm
    · have ph2 := h2; try simp only [decide_eq_true_eq, decide_eq_false_iff_not, Bool.and_eq_true, Bool.or_eq_true, Bool.and_eq_false_iff, Bool.or_eq_false_iff, Bool.not_eq_true', Bool.not_eq_false', Bool.not_true, Bool.not_false, Int.not_lt, Int.not_le] at ph2
      refine W.skip ?_
      refine N.blockNormal ?_
      refine N.thenW ?_
      refine W.region ?_
      first | refine L.op1 rfl rfl (GSpec.plain rfl (fit_i64 (by omega) (by omega) (spec_add rfl (Get.tmp rfl) (Get.cint rfl)))) ?_ | refine L.op1 rfl rfl (GSpec.plain rfl (spec_add rfl (Get.tmp rfl) (Get.cint rfl))) ?_
      refine L.op1 rfl rfl (GSpec.plain rfl (spec_move rfl (Get.tmp rfl))) ?_
      refine L.nil ?_
      refine N.roundK (i + 1) ?hI1 ?hmu1 ?hs1 ?hk1 ?hp1
      case hs1 => exact (.cons (t := 8) rfl .nil)
      case hk1 => exact (.cons (t := 0) rfl (.cons (t := 1) rfl (.cons (t := 7) rfl .nil)))
      case hp1 => exact .nil
      case hI1 => exact ⟨by omega, upto hI2 h2⟩
      case hmu1 => omega
  · have ph1 := h1; try simp only [decide_eq_true_eq, decide_eq_false_iff_not, Bool.and_eq_true, Bool.or_eq_true, Bool.and_eq_false_iff, Bool.or_eq_false_iff, Bool.not_eq_true', Bool.not_eq_false', Bool.not_true, Bool.not_false, Int.not_lt, Int.not_le] at ph1
    refine W.exit ?_
    refine N.thenExit ?_
    refine N.thenExit ?_
    refine N.blockExit ?_
    refine N.thenW ?_
    refine W.seq ?_
    refine W.region ?_
    refine L.op1 rfl rfl (GSpec.plain rfl (spec_assign rfl (Get.cint rfl))) ?_
    refine L.nil ?_
    refine N.thenW ?_
    refine W.ret ?_
    refine N.ret () rfl (.tmp (t := 4) (Get.tmp rfl) .nil) (res1 (eqI ?_)) .nil (fun _ _ h => h)
    exact (idx_no fun j hj => hI2 j (by omega)).symm

theorem min_ok (b : List Int) (h : 1 ≤ b.length) : CallT Tryd.prog 35 [Rp.slice eI b] [] (.one (Rp.int .i64 (minL b))) := by
  obtain ⟨x, l, rfl⟩ : ∃ x l, b = x :: l := by cases b with | nil => simp at h | cons x l => exact ⟨x, l, rfl⟩
  refine W.enter (fn := Tryd.f35) (n := 25) Tryd.func35 rfl Tryd.ntmps35 rfl (fun w₀ C₀ => ?_)
  simp only [argS]
  refine W.fact 0 rfl slice_fact fun hl => ?_
  have hll : (x :: l).length = l.length + 1 := rfl
  refine W.seq ?_
  refine W.region ?_
  refine L.op1 rfl rfl (GSpec.plain rfl (spec_assign rfl (Get.cint rfl))) ?_
  refine L.nil ?_
  refine N.thenW ?_
  refine W.seq ?_
  refine W.seq ?_
  refine W.region ?_
  refine L.op1 rfl rfl (GSpec.plain rfl (spec_move rfl (Get.tmp rfl))) ?_
  refine L.op1 rfl rfl (GSpec.plain rfl (spec_len rfl Tryd.underlying32 (Get.tmp rfl))) ?_
  refine L.op1 rfl rfl (GSpec.plain rfl (spec_lss rfl (Get.tmp rfl) (Get.cint rfl))) ?_
  refine L.nil ?_
  refine N.thenW ?_
  refine W.keep (.cons (t := 0) rfl (.cons (t := 2) rfl (.cons (t := 7) rfl .nil))) .refl ?_
  refine W.cond (Get.tmp rfl) (fun h1 => ?_) (fun h1 => ?_)
  · exfalso; have h := of_decide_eq_true h1; omega
  · have ph1 := h1; try simp only [decide_eq_true_eq, decide_eq_false_iff_not, Bool.and_eq_true, Bool.or_eq_true, Bool.and_eq_false_iff, Bool.or_eq_false_iff, Bool.not_eq_true', Bool.not_eq_false', Bool.not_true, Bool.not_false, Int.not_lt, Int.not_le] at ph1
    refine W.skip ?_
    refine N.thenW ?_
    refine W.seq ?_
    refine W.region ?_
    refine L.op1 rfl rfl (GSpec.plain rfl (spec_move rfl (Get.tmp rfl))) ?_
    refine L.op1 rfl rfl (GSpec.plain rfl (spec_indexAddrD (E := eI) rfl Tryd.underlying32 Tryd.sizeOf3 (fun _ => rfl) (Get.tmp rfl) (Get.cint rfl) (by omega))) ?_
    refine L.op1 rfl rfl (GSpec.plain rfl (spec_loadP1 rfl Tryd.isAgg3 (Get.tmp rfl))) ?_
    refine L.op1 rfl rfl (GSpec.plain rfl (spec_assign rfl (Get.tmp rfl))) ?_
    refine L.nil ?_
    refine N.thenW ?_
    refine W.seq ?_
    refine W.seq ?_
    refine W.region ?_
    refine L.op1 rfl rfl (GSpec.plain rfl (spec_assign rfl (Get.cint rfl))) ?_
    refine L.nil ?_
    refine N.thenW ?_
    refine W.block ?_
    refine W.loopK (σ := Nat) (.cons (t := 0) rfl (.cons (t := 2) rfl .nil)) (fun z => [(4, Rp.int .i64 ((z + 1 : Nat) : Int)), (3, Rp.int .i64 ((l.take z).foldl min x))]) (fun z => []) (fun z => z ≤ l.length) (fun z => l.length - z) 0 (Nat.zero_le _) (.cons (t := 4) rfl (.cons (t := 3) rfl .nil)) .nil ?_
    intro i hI S' M' hS hM
    try dsimp only at hS hM
    simp only [List.cons_append, List.nil_append] at hS hM
    subst hS hM
    try dsimp only
    refine W.seq ?_
    refine W.seq ?_
    refine W.region ?_
    refine L.op1 rfl rfl (GSpec.plain rfl (spec_move rfl (Get.tmp rfl))) ?_
    refine L.op1 rfl rfl (GSpec.plain rfl (spec_move rfl (Get.tmp rfl))) ?_
    refine L.op1 rfl rfl (GSpec.plain rfl (spec_len rfl Tryd.underlying32 (Get.tmp rfl))) ?_
    refine L.op1 rfl rfl (GSpec.plain rfl (spec_lss rfl (Get.tmp rfl) (Get.tmp rfl))) ?_
    refine L.nil ?_
    refine N.thenW ?_
    refine W.cond (Get.tmp rfl) (fun h2 => ?_) (fun h2 => ?_)
    · have ph2 := h2; try simp only [decide_eq_true_eq, decide_eq_false_iff_not, Bool.and_eq_true, Bool.or_eq_true, Bool.and_eq_false_iff, Bool.or_eq_false_iff, Bool.not_eq_true', Bool.not_eq_false', Bool.not_true, Bool.not_false, Int.not_lt, Int.not_le] at ph2
      refine W.skip ?_
      refine N.thenW ?_
      refine W.seq ?_
      refine W.block ?_
      refine W.region ?_
      refine L.op1 rfl rfl (GSpec.plain rfl (spec_move rfl (Get.tmp rfl))) ?_
      refine L.op1 rfl rfl (GSpec.plain rfl (spec_move rfl (Get.tmp rfl))) ?_
      refine L.op1 rfl rfl (GSpec.plain rfl (spec_move rfl (Get.tmp rfl))) ?_
      refine L.op1 rfl rfl (GSpec.plain rfl (spec_indexAddrD (E := eI) rfl Tryd.underlying32 Tryd.sizeOf3 (fun _ => rfl) (Get.tmp rfl) (Get.tmp rfl) (by omega))) ?_
      refine L.op1 rfl rfl (GSpec.plain rfl (spec_loadP1 rfl Tryd.isAgg3 (Get.tmp rfl))) ?_
      refine L.op1 rfl rfl (GSpec.plain rfl (spec_min2 rfl (Get.tmp rfl) (Get.tmp rfl))) ?_
      refine L.op1 rfl rfl (GSpec.plain rfl (spec_assign rfl (Get.tmp rfl))) ?_
      refine L.nil ?_
      refine N.blockNormal ?_
      refine N.thenW ?_
      refine W.region ?_
      refine L.op1 rfl rfl (GSpec.plain rfl (spec_move rfl (Get.tmp rfl))) ?_
      first | refine L.op1 rfl rfl (GSpec.plain rfl (fit_i64 (by omega) (by omega) (spec_add rfl (Get.tmp rfl) (Get.cint rfl)))) ?_ | refine L.op1 rfl rfl (GSpec.plain rfl (spec_add rfl (Get.tmp rfl) (Get.cint rfl))) ?_
      refine L.op1 rfl rfl (GSpec.plain rfl (spec_assign rfl (Get.tmp rfl))) ?_
      refine L.nil ?_
      refine N.roundK (i + 1) ?hI2 ?hmu2 ?hs2 ?hk2 ?hp2
      case hs2 => exact (.cons (t := 4) rfl (.weak (t := 3) rfl (eqI (by rw [min_take (show i < l.length by omega)]; rfl)) .nil))
      case hk2 => exact (.cons (t := 0) rfl (.cons (t := 2) rfl .nil))
      case hp2 => exact .nil
      all_goals (first | rfl | trivial | omega | (simp_all; done))
    · have ph2 := h2; try simp only [decide_eq_true_eq, decide_eq_false_iff_not, Bool.and_eq_true, Bool.or_eq_true, Bool.and_eq_false_iff, Bool.or_eq_false_iff, Bool.not_eq_true', Bool.not_eq_false', Bool.not_true, Bool.not_false, Int.not_lt, Int.not_le] at ph2
      refine W.exit ?_
      refine N.thenExit ?_
      refine N.thenExit ?_
      refine N.blockExit ?_
      refine N.thenW ?_
      refine W.keep (.cons (t := 2) rfl (.cons (t := 3) rfl .nil)) .refl ?_
      refine W.seq ?_
      refine W.region ?_
      refine L.op1 rfl rfl (GSpec.plain rfl (spec_move rfl (Get.tmp rfl))) ?_
      refine L.op1 rfl rfl (GSpec.plain rfl (spec_assign rfl (Get.tmp rfl))) ?_
      refine L.nil ?_
      refine N.thenW ?_
      refine W.ret ?_
      refine N.ret () rfl (.tmp (t := 2) (Get.tmp rfl) .nil) (res1 (eqI ?_)) .nil (fun _ _ h => h)
      rw [show i = l.length by omega, List.take_length]; rfl

end Go.Proofs.YtlbhpjigjehffaaDoor
set_option linter.unusedSimpArgs false
set_option maxRecDepth 8000
set_option linter.unusedVariables false
namespace Go.Proofs.YtlbhpjigjehffaaDoor
open Go.Sim
theorem assign_ok (l : List Jb) (w : Int) (h39 : l.length ≤ 39) : CallT Tryd.prog 18 [Rp.slice eJ l, Rp.int .i64 w] [kwG] (.one (Rp.tuple [Rp.slice eII (assignE l w).1, Rp.int .i64 (assignE l w).2])) := by
  refine W.enter (fn := Tryd.f18) (n := 56) Tryd.func18 rfl Tryd.ntmps18 rfl (fun w₀ C₀ => ?_)
  simp only [argS]
  refine W.seq ?_
  refine W.region ?_
  refine L.op1 rfl rfl (GSpec.plain rfl (spec_assign rfl (Get.cnil (E := eV)))) ?_
  refine L.op1 rfl rfl (GSpec.plain rfl (spec_assign rfl (Get.cint rfl))) ?_
  refine L.nil ?_
  refine N.thenW ?_
  refine W.seq ?_
  refine W.seq ?_
  refine W.region ?_
  refine L.op1 rfl rfl (GSpec.plain rfl (spec_move rfl (Get.tmp rfl))) ?_
  refine L.op1 rfl rfl (GSpec.plain rfl (spec_move rfl (Get.tmp rfl))) ?_
  refine L.op1 rfl rfl (GSpec.plain rfl (spec_callG (k := 0) rfl Tryd.call33 rfl (asked_ok _ _) (.cons (Get.tmp rfl) (.cons (Get.tmp rfl) .nil)))) ?_
  refine L.op1 rfl rfl (GSpec.plain rfl (spec_assign rfl (Get.tmp rfl))) ?_
  refine L.nil ?_
  refine N.thenW ?_
  refine W.seq ?_
  refine W.region ?_
  refine L.op1 rfl rfl (GSpec.plain rfl (spec_move rfl (Get.tmp rfl))) ?_
  refine L.op1 rfl rfl (GSpec.plain rfl (spec_neq rfl (Get.tmp rfl) (Get.cint rfl))) ?_
  refine L.nil ?_
  refine N.thenW ?_
  refine W.cond (Get.tmp rfl) (fun h1 => ?_) (fun h1 => ?_)
  · have q0 : askedE l w ≠ 0 := by have h := h1; simpa using h
    refine W.seq ?_
    refine W.region ?_
    refine L.op1 rfl rfl (GSpec.plain rfl (spec_move rfl (Get.tmp rfl))) ?_
    refine L.op1 rfl rfl (GSpec.plain rfl (spec_assign rfl (Get.cnil (E := eII)))) ?_
    refine L.op1 rfl rfl (GSpec.plain rfl (spec_assign rfl (Get.tmp rfl))) ?_
    refine L.nil ?_
    refine N.thenW ?_
    refine W.keep (.cons (t := 0) rfl (.cons (t := 1) rfl (.cons (t := 4) rfl (.cons (t := 5) rfl .nil)))) .refl ?_
    refine W.ret ?_
    refine N.ret () rfl (.tmp (t := 4) (Get.tmp rfl) (.tmp (t := 5) (Get.tmp rfl) .nil)) (res2w (eqSl ?_) (eqI ?_)) .nil (fun _ _ h => h)
    all_goals rw [assign_no q0]
  · have q0 : askedE l w = 0 := by have h := h1; simpa using h
    obtain ⟨hw1, hw2, hok⟩ := asked_yes q0
    have hoi := ordS_in l
    have hol := ordS_len l
    refine W.skip ?_
    refine N.thenW ?_
    refine W.seq ?_
    refine W.region ?_
    refine L.op1 rfl rfl (GSpec.plain rfl (spec_move rfl (Get.tmp rfl))) ?_
    refine L.op rfl rfl (GSpec.plain rfl (spec_makeSlice (z₀ := (Value.slice none 0 0)) (E := eV) rfl Tryd.underlying34 ti32 z32v (fun _ => rfl) (Get.tmp rfl) (Get.tmp rfl) (by omega) (by omega) (by omega))) (fun v19 => ?_)
    refine L.op1 rfl rfl (GSpec.plain rfl (spec_assign rfl (Get.tmp rfl))) ?_
    refine L.nil ?_
    refine N.thenW ?_
    refine W.keep (.cons (t := 0) rfl (.cons (t := 1) rfl (.cons (t := 4) rfl (.cons (t := 5) rfl (.cons (t := 7) rfl .nil))))) .refl ?_
    refine W.seq ?_
    refine W.region ?_
    refine L.op1 rfl rfl (GSpec.plain rfl (spec_move rfl (Get.tmp rfl))) ?_
    refine L.op rfl rfl (GSpec.plain rfl (spec_makeSlice (z₀ := (0 : Int)) (E := eI) rfl Tryd.underlying32 ti3 z3 (fun _ => rfl) (Get.tmp rfl) (Get.tmp rfl) (by (first | omega | (simp only [List.length_append, List.length_cons, List.length_nil, Int.toNat_natCast]; omega))) (by (first | omega | (simp only [List.length_append, List.length_cons, List.length_nil, Int.toNat_natCast]; omega))) (by (first | omega | (simp only [List.length_append, List.length_cons, List.length_nil, Int.toNat_natCast]; omega))))) (fun v21 => ?_)
    refine L.op1 rfl rfl (GSpec.plain rfl (spec_assign rfl (Get.tmp rfl))) ?_
    refine L.nil ?_
    refine N.thenW ?_
    refine W.seq ?_
    refine W.seq ?_
    refine W.region ?_
    refine L.op1 rfl rfl (GSpec.plain rfl (spec_move rfl (Get.tmp rfl))) ?_
    refine L.op1 rfl rfl (GSpec.plain rfl (spec_call rfl Tryd.call16 (order_ok _ (by omega)) (.cons (Get.tmp rfl) .nil))) ?_
    refine L.op1 rfl rfl (GSpec.plain rfl (spec_len rfl Tryd.underlying32 (Get.tmp rfl))) ?_
    refine L.op1 rfl rfl (GSpec.plain rfl (spec_move rfl (Get.cint rfl))) ?_
    refine L.nil ?_
    refine N.thenW ?_
    refine W.many (rows_nil w.toNat).1 (rows_nil w.toNat).2 ?_
    refine W.block ?_
    refine W.loopK (σ := Nat × List Value) (.cons (t := 0) rfl (.cons (t := 4) rfl (.cons (t := 5) rfl (.cons (t := 7) rfl (.cons (t := 8) rfl (.cons (t := 23) rfl (.cons (t := 24) rfl .nil))))))) (fun z => [(25, Rp.int .i64 (z.1 : Nat))]) (fun z => [MF.osl v21 3 1 eI ((runA l w.toNat ((ordS l).take z.1)).busy), MF.osl v19 32 1 eV z.2, MF.many (rowsM 3 1 eI z.2 (runA l w.toNat ((ordS l).take z.1)).rows)]) (fun z => z.1 ≤ (ordS l).length ∧ z.2.length = w.toNat) (fun z => (ordS l).length - z.1) (0, List.replicate w.toNat (Value.slice none 0 0)) ⟨Nat.zero_le _, by simp⟩ (.cons (t := 25) rfl .nil) (.cons 1 rfl (.cons 1 rfl (.cons 0 rfl (.cons 0 rfl .nil)))) ?_
    intro ⟨i, vs⟩ hI S' M' hS hM
    obtain ⟨hI1, hI2⟩ := hI
    try dsimp only at hS hM
    simp only [List.cons_append, List.nil_append] at hS hM
    subst hS hM
    try dsimp only
    try dsimp only at hI1 hI2
    obtain ⟨hrl, hbl⟩ := runA_len l w.toNat ((ordS l).take i)
    have hbr := busy_range hok (w := w.toNat) hoi i hI1
    have hrr := rows_range l w.toNat (ordS l) i hI1 (wAt (runA l w.toNat ((ordS l).take i)).busy)
    refine W.seq ?_
    refine W.region ?_
    refine L.op1 rfl rfl (GSpec.plain rfl (spec_lss rfl (Get.tmp rfl) (Get.tmp rfl))) ?_
    refine L.nil ?_
    refine N.thenW ?_
    refine W.seq ?_
    refine W.cond (Get.tmp rfl) (fun h2 => ?_) (fun h2 => ?_)
    · have ph2 := h2; try simp only [decide_eq_true_eq, decide_eq_false_iff_not, Bool.and_eq_true, Bool.or_eq_true, Bool.and_eq_false_iff, Bool.or_eq_false_iff, Bool.not_eq_true', Bool.not_eq_false', Bool.not_true, Bool.not_false, Int.not_lt, Int.not_le] at ph2
      refine W.skip ?_
      refine N.thenW ?_
      refine W.seq ?_
      refine W.block ?_
      refine W.seq ?_
      refine W.region ?_
      refine L.op1 rfl rfl (GSpec.plain rfl (spec_indexAddrD (E := eI) rfl Tryd.underlying32 Tryd.sizeOf3 (fun _ => rfl) (Get.tmp rfl) (Get.tmp rfl) (by (first | omega | (simp only [List.length_append, List.length_cons, List.length_nil, Int.toNat_natCast]; omega))))) ?_
      refine L.op1 rfl rfl (GSpec.plain rfl (spec_loadP1 rfl Tryd.isAgg3 (Get.tmp rfl))) ?_
      refine L.op1 rfl rfl (GSpec.plain rfl (spec_assign rfl (Get.tmp rfl))) ?_
      refine L.nil ?_
      refine N.thenW ?_
      refine W.seq ?_
      refine W.region ?_
      refine L.op1 rfl rfl (GSpec.plain rfl (spec_move rfl (Get.tmp rfl))) ?_
      refine L.op1 rfl rfl (GSpec.plain rfl (spec_move rfl (Get.tmp rfl))) ?_
      refine L.op1 rfl rfl (GSpec.plain rfl (spec_callB rfl Tryd.call35 (min_ok _ (by omega)) (.cons (Get.tmp rfl) .nil) (.cons (.slice 0 rfl (fun _ => rfl)) .nil))) ?_
      refine L.op1 rfl rfl (GSpec.plain rfl (spec_callB rfl Tryd.call34 (index_ok _ _) (.cons (Get.tmp rfl) (.cons (Get.tmp rfl) .nil)) (.cons (.slice 0 rfl (fun _ => rfl)) (.cons .same .nil)))) ?_
      refine L.op1 rfl rfl (GSpec.plain rfl (spec_assign rfl (Get.tmp rfl))) ?_
      refine L.nil ?_
      refine N.thenW ?_
      obtain ⟨hwe, hwl⟩ := wAt_eq (b := (runA l w.toNat ((ordS l).take i)).busy) (by omega)
      rw [hwe]
      have hin := hoi _ (getD_mem' (show i < (ordS l).length by omega))
      have hcost := jobs_cost hok (i := ((ordS l).getD i default).toNat) (by omega)
      have hbw := hbr (wAt (runA l w.toNat ((ordS l).take i)).busy)
      have hwv : wAt (runA l w.toNat ((ordS l).take i)).busy < vs.length := by omega
      obtain ⟨u, hu⟩ : ∃ u, vs[wAt (runA l w.toNat ((ordS l).take i)).busy]? = some u := ⟨_, List.getElem?_eq_getElem hwv⟩
      have hrow : (runA l w.toNat ((ordS l).take i)).rows[wAt (runA l w.toNat ((ordS l).take i)).busy]? = some ((runA l w.toNat ((ordS l).take i)).rows.getD (wAt (runA l w.toNat ((ordS l).take i)).busy) default) := getD_some (by omega)
      refine W.focus (i := wAt (runA l w.toNat ((ordS l).take i)).busy) (F := MF.osl u 3 1 eI ((runA l w.toNat ((ordS l).take i)).rows.getD (wAt (runA l w.toNat ((ordS l).take i)).busy) default)) (.cons 2 rfl .refl) (rowsM_get hu hrow) ?_
      refine W.seq ?_
      refine W.region ?_
      refine L.op1 rfl rfl (GSpec.plain rfl (spec_move rfl (Get.tmp rfl))) ?_
      refine L.op1 rfl rfl (GSpec.plain rfl (spec_move rfl (Get.tmp rfl))) ?_
      refine L.op1 rfl rfl (GSpec.plain rfl (spec_move rfl (Get.tmp rfl))) ?_
      refine L.op1 rfl rfl (GSpec.plain rfl (spec_move rfl (Get.tmp rfl))) ?_
      refine L.op1 rfl rfl (GSpec.plain rfl (spec_indexAddrO (k := 3) (E := eV) rfl Tryd.underlying34 Tryd.sizeOf32 (Get.tmp rfl) (Get.tmp rfl) rfl (by (first | omega | (simp only [List.length_append, List.length_cons, List.length_nil, Int.toNat_natCast]; omega))))) ?_
      refine L.op1 rfl rfl (GSpec.plain rfl (spec_loadO1 (k := 3) (j := 0) (E := eV) (y := u) rfl Tryd.isAgg32 (fun _ => rfl) (Get.tmp rfl) rfl rfl hu rfl)) ?_
      refine L.op1 rfl rfl (GSpec.plain rfl (spec_move rfl (Get.tmp rfl))) ?_
      refine L.op1 rfl rfl (GSpec.plain rfl (spec_buildSlice1 (E := eI) rfl Tryd.underlying32 ti3 z3 (by decide) (GetC.one (Get.tmp rfl)) (fun _ => rfl))) ?_
      refine L.append (k := 0) (E := eI) rfl rfl rfl rfl Tryd.underlying32 ti3 rfl (by decide) (fun _ => rfl) (Get.tmp rfl) (Get.tmp rfl) rfl (by (simp only [List.length_append, List.length_cons, List.length_nil]; omega)) (by (simp only [List.length_append, List.length_cons, List.length_nil]; omega)) (fun v41 => ?_)
      refine L.op1 rfl rfl (GSpec.plain rfl (spec_indexAddrO (k := 3) (E := eV) rfl Tryd.underlying34 Tryd.sizeOf32 (Get.tmp rfl) (Get.tmp rfl) rfl (by (first | omega | (simp only [List.length_append, List.length_cons, List.length_nil, Int.toNat_natCast]; omega))))) ?_
      refine L.factM 0 rfl osl_one fun hq => ?_
      haveI := One.val hq
      refine L.storeO1 (k := 3) (j := 0) (E := eV) rfl rfl rfl Tryd.sizeOf32 (fun _ => rfl) (Get.tmp rfl) (Get.tmp rfl) rfl rfl (by decide) (getD_some (by (first | omega | (simp only [List.length_append, List.length_cons, List.length_nil, Int.toNat_natCast]; omega)))) rfl ?_
      refine L.nil ?_
      refine N.thenW ?_
      refine W.unfocus (i := wAt (runA l w.toNat ((ordS l).take i)).busy) (Ms := rowsM 3 1 eI vs (runA l w.toNat ((ordS l).take i)).rows) (F := MF.osl v41 3 1 eI ((runA l w.toNat ((ordS l).take i)).rows.getD (wAt (runA l w.toNat ((ordS l).take i)).busy) default ++ [(ordS l).getD i default])) (.cons 0 rfl (.cons 0 rfl .refl)) (by unfold rowsM; simp; omega) ?_
      rw [rowsM_set]
      apply W.any 11 mixed (by kernel_rfl)
      · apply Head.one rfl rfl (GSpec.plain rfl (spec_move rfl (Get.tmp rfl)))
        apply Head.one rfl rfl (GSpec.plain rfl (spec_move rfl (Get.tmp rfl)))
        apply Head.one rfl rfl (GSpec.plain rfl (spec_indexAddrO (k := 1) (E := eI) rfl Tryd.underlying32 Tryd.sizeOf3 (Get.tmp rfl) (Get.tmp rfl) rfl (by (first | omega | (simp only [List.length_append, List.length_cons, List.length_nil, Int.toNat_natCast]; omega)))))
        apply Head.one rfl rfl (GSpec.plain rfl (spec_loadO1 (k := 1) (j := 0) (E := eI) rfl Tryd.isAgg3 (fun _ => rfl) (Get.tmp rfl) rfl rfl (getD_some (by (first | omega | (simp only [List.length_append, List.length_cons, List.length_nil, Int.toNat_natCast]; omega)))) rfl))
        apply Head.one rfl rfl (GSpec.plain rfl (spec_move rfl (Get.tmp rfl)))
        apply Head.one rfl rfl (GSpec.plain rfl (spec_move rfl (Get.tmp rfl)))
        apply Head.one rfl rfl (GSpec.plain rfl (spec_indexAddrD (E := eJ) rfl Tryd.underlying22 Tryd.sizeOf28 (fun _ => rfl) (Get.tmp rfl) (Get.tmp rfl) (by (first | omega | (simp only [List.length_append, List.length_cons, List.length_nil, Int.toNat_natCast]; omega)))))
        apply Head.one rfl rfl (GSpec.plain rfl (spec_fieldAddrP (f := 4) rfl Tryd.underlying28 rfl Tryd.sizeOf3 (Get.tmp rfl) rfl rfl))
        apply Head.one rfl rfl (GSpec.plain rfl (spec_loadP1 rfl Tryd.isAgg3 (Get.tmp rfl)))
        first | apply Head.one rfl rfl (GSpec.plain rfl (fit_i64 (by (first | omega | (simp only [List.length_append, List.length_cons, List.length_nil, Int.toNat_natCast]; omega))) (by (first | omega | (simp only [List.length_append, List.length_cons, List.length_nil, Int.toNat_natCast]; omega))) (spec_add rfl (Get.tmp rfl) (Get.tmp rfl)))) | apply Head.one rfl rfl (GSpec.plain rfl (spec_add rfl (Get.tmp rfl) (Get.tmp rfl)))
        apply Head.one rfl rfl (GSpec.plain rfl (spec_indexAddrO (k := 1) (E := eI) rfl Tryd.underlying32 Tryd.sizeOf3 (Get.tmp rfl) (Get.tmp rfl) rfl (by (first | omega | (simp only [List.length_append, List.length_cons, List.length_nil, Int.toNat_natCast]; omega)))))
        exact Head.nil
      refine Fin.one ?_
      refine Fin.one ?_
      refine Fin.one ?_
      refine Fin.one ?_
      refine Fin.one ?_
      refine Fin.one ?_
      refine Fin.one ?_
      refine Fin.one ?_
      refine Fin.one ?_
      refine Fin.one ?_
      refine Fin.one ?_
      refine Fin.nil ?_
      refine L.storeO1 (k := 1) (j := 0) (E := eI) rfl rfl rfl Tryd.sizeOf3 (fun _ => rfl) (Get.tmp rfl) (Get.tmp rfl) rfl rfl (by decide) (getD_some (by (first | omega | (simp only [List.length_append, List.length_cons, List.length_nil, Int.toNat_natCast]; omega)))) rfl ?_
      refine L.nil ?_
      refine N.blockNormal ?_
      refine N.thenW ?_
      refine W.region ?_
      first | refine L.op1 rfl rfl (GSpec.plain rfl (fit_i64 (by (first | omega | (simp only [List.length_append, List.length_cons, List.length_nil, Int.toNat_natCast]; omega))) (by (first | omega | (simp only [List.length_append, List.length_cons, List.length_nil, Int.toNat_natCast]; omega))) (spec_add rfl (Get.tmp rfl) (Get.cint rfl)))) ?_ | refine L.op1 rfl rfl (GSpec.plain rfl (spec_add rfl (Get.tmp rfl) (Get.cint rfl))) ?_
      refine L.op1 rfl rfl (GSpec.plain rfl (spec_move rfl (Get.tmp rfl))) ?_
      refine L.nil ?_
      refine N.roundK (i + 1, vs.set (wAt (runA l w.toNat ((ordS l).take i)).busy) v41) ?hI1 ?hmu1 ?hs1 ?hk1 ?hp1
      case hs1 => exact (.cons (t := 25) rfl .nil)
      case hk1 => exact (.cons (t := 0) rfl (.cons (t := 4) rfl (.cons (t := 5) rfl (.cons (t := 7) rfl (.cons (t := 8) rfl (.cons (t := 23) rfl (.cons (t := 24) rfl .nil)))))))
      case hp1 => dsimp only; rw [runA_step (show i < (ordS l).length by omega)]; exact (.cons 1 rfl (.cons 1 rfl (.cons 0 rfl (.cons 0 rfl .nil))))
      case hI1 => exact ⟨by dsimp only; omega, by simp; omega⟩
      case hmu1 => dsimp only; omega
    · have ph2 := h2; try simp only [decide_eq_true_eq, decide_eq_false_iff_not, Bool.and_eq_true, Bool.or_eq_true, Bool.and_eq_false_iff, Bool.or_eq_false_iff, Bool.not_eq_true', Bool.not_eq_false', Bool.not_true, Bool.not_false, Int.not_lt, Int.not_le] at ph2
      refine W.exit ?_
      refine N.thenExit ?_
      refine N.thenExit ?_
      refine N.blockExit ?_
      refine N.thenW ?_
      refine W.publish (F := [MF.osl v19 32 1 eV vs, MF.many (rowsM 3 1 eI vs (runA l w.toNat ((ordS l).take i)).rows)]) (R' := Rp.slice eII (runA l w.toNat ((ordS l).take i)).rows) 7 (.cons 1 rfl (.cons 1 rfl .refl)) rfl (fun W C v hf hb h => by rw [show v = v19 from h]; exact rows_slice (T := 3) (T' := 32) (sz := 1) (E := eI) (vs := vs) (rs := (runA l w.toNat ((ordS l).take i)).rows) (fun _ => rfl) (by omega) hf hb) ?_
      refine W.keep (.cons (t := 4) rfl (.cons (t := 5) rfl (.cons (t := 7) rfl .nil))) .refl ?_
      refine W.seq ?_
      refine W.region ?_
      refine L.op1 rfl rfl (GSpec.plain rfl (spec_move rfl (Get.tmp rfl))) ?_
      refine L.op1 rfl rfl (GSpec.plain rfl (spec_assign rfl (Get.tmp rfl))) ?_
      refine L.op1 rfl rfl (GSpec.plain rfl (spec_assign rfl (Get.cint rfl))) ?_
      refine L.nil ?_
      refine N.thenW ?_
      refine W.ret ?_
      refine N.ret () rfl (.tmp (t := 4) (Get.tmp rfl) (.tmp (t := 5) (Get.tmp rfl) .nil)) (res2w (eqSl ?_) (eqI ?_)) .nil (fun _ _ h => h)
      rw [assign_yes q0, show i = (ordS l).length by omega, List.take_length]
      rw [assign_yes q0]

end Go.Proofs.YtlbhpjigjehffaaDoor
/- The chapter's example. -/
namespace Go.Proofs.YtlbhpjigjehffaaDoor
open Go.Sim
def exC : List Int := [3, 5, 4, 2]
def exJ (c : Int) : Jb := ⟨[116], [100], 0, 0, c⟩
def exL : List Jb := exC.map exJ
def ex4 : List Rp := [Rp.int .i64 3, Rp.int .i64 5, Rp.int .i64 4, Rp.int .i64 2]
theorem ex4_at {i : Nat} (h : i < 4) : ex4[i]? = some (Rp.int .i64 (exC.getD i default)) := by
  match i, h with
  | 0, _ => rfl
  | 1, _ => rfl
  | 2, _ => rfl
  | 3, _ => rfl
theorem exL_take {i : Nat} (h : i < 4) : exL.take (i + 1) = exL.take i ++ [exJ (exC.getD i default)] := by
  match i, h with
  | 0, _ => rfl
  | 1, _ => rfl
  | 2, _ => rfl
  | 3, _ => rfl
theorem exL_len (i : Nat) (h : i ≤ 4) : (exL.take i).length = i := by simp [exL, exC]; omega
theorem exE0 : nameB [116] = true := by decide +kernel
theorem exE1 : nameB [100] = true := by decide +kernel
theorem exV : validJ (exL.getD 0 default) = true := by decide +kernel
theorem exA : assignE exL 2 = ([[1, 3], [2, 0]], 0) := by decide +kernel
theorem exS : spanE exL [[1, 3], [2, 0]] = (7, 0) := by decide +kernel
theorem exB : boundE exL 2 = (7, 0) := by decide +kernel
theorem exN : nextE exL = (1, true) := by decide +kernel
end Go.Proofs.YtlbhpjigjehffaaDoor
set_option linter.unusedSimpArgs false
set_option maxRecDepth 8000
set_option linter.unusedVariables false
namespace Go.Proofs.YtlbhpjigjehffaaDoor
open Go.Sim
theorem exjobs_ok  : CallT Tryd.prog 25 [] [] (.one (Rp.slice eJ exL)) := by
  refine W.enter (fn := Tryd.f25) (n := 15) Tryd.func25 rfl Tryd.ntmps25 rfl (fun w₀ C₀ => ?_)
  simp only [argS]
  refine W.seq ?_
  refine W.region ?_
  refine L.op1 rfl rfl (GSpec.plain rfl (spec_assign rfl (Get.cnil (E := eJ)))) ?_
  refine L.nil ?_
  refine N.thenW ?_
  refine W.seq ?_
  refine W.region ?_
  refine L.op1 rfl rfl (GSpec.plain rfl (spec_assign rfl Get.cval)) ?_
  refine L.nil ?_
  refine N.thenW ?_
  refine W.seq ?_
  refine W.seq ?_
  refine W.region ?_
  refine L.op1 rfl rfl (GSpec.plain rfl (spec_buildArr (Rs := [_, _, _, _]) rfl ti58 z58 Tryd.underlying58 Tryd.sizeOf3 (.cons (GetC.one (Get.cint rfl)) rfl rfl rfl (.cons (GetC.one (Get.cint rfl)) rfl rfl rfl (.cons (GetC.one (Get.cint rfl)) rfl rfl rfl (.cons (GetC.one (Get.cint rfl)) rfl rfl rfl .nil)))))) ?_
  refine L.op1 rfl rfl (GSpec.plain rfl (spec_move rfl (Get.cint rfl))) ?_
  refine L.nil ?_
  refine N.thenW ?_
  refine W.nil 28 5 eJ ?_
  refine W.block ?_
  refine W.loopK (σ := Nat × Value) (.cons (t := 0) rfl (.cons (t := 4) rfl .nil)) (fun z => [(5, Rp.int .i64 (z.1 : Nat)), (1, Rp.val z.2)]) (fun z => [MF.osl z.2 28 5 eJ (exL.take z.1)]) (fun z => z.1 ≤ 4) (fun z => 4 - z.1) (0, .slice none 0 0) (Nat.zero_le _) (.cons (t := 5) rfl (.cons (t := 1) rfl .nil)) (.cons 0 rfl .nil) ?_
  intro ⟨i, vo⟩ hI S' M' hS hM
  try dsimp only at hS hM
  simp only [List.cons_append, List.nil_append] at hS hM
  subst hS hM
  try dsimp only
  try dsimp only at hI
  have hel := exL_len i hI
  refine W.seq ?_
  refine W.region ?_
  refine L.op1 rfl rfl (GSpec.plain rfl (spec_lss rfl (Get.tmp rfl) (Get.cint rfl))) ?_
  refine L.nil ?_
  refine N.thenW ?_
  refine W.seq ?_
  refine W.cond (Get.tmp rfl) (fun h1 => ?_) (fun h1 => ?_)
  · have ph1 := h1; try simp only [decide_eq_true_eq, decide_eq_false_iff_not, Bool.and_eq_true, Bool.or_eq_true, Bool.and_eq_false_iff, Bool.or_eq_false_iff, Bool.not_eq_true', Bool.not_eq_false', Bool.not_true, Bool.not_false, Int.not_lt, Int.not_le] at ph1
    refine W.skip ?_
    refine N.thenW ?_
    refine W.seq ?_
    refine W.block ?_
    refine W.seq ?_
    refine W.region ?_
    refine L.op1 rfl rfl (GSpec.plain rfl (spec_indexAI (R := Rp.int .i64 (exC.getD i default)) rfl Tryd.underlying58 Tryd.sizeOf3 Tryd.isAgg3 (Get.tmp rfl) (Get.tmp rfl) (by omega) (ex4_at (by omega)))) ?_
    refine L.op1 rfl rfl (GSpec.plain rfl (spec_assign rfl (Get.tmp rfl))) ?_
    refine L.nil ?_
    refine N.thenW ?_
    refine W.region ?_
    refine L.op1 rfl rfl (GSpec.plain rfl (spec_move rfl (Get.tmp rfl))) ?_
    refine L.op1 rfl rfl (GSpec.plain rfl (spec_move rfl (Get.tmp rfl))) ?_
    refine L.op1 rfl rfl (GSpec.plain rfl (spec_build (Rs := [_, _, Rp.int .u64 0, Rp.int .i64 0, _]) rfl ti28 z28 Tryd.underlying28 pl28 (.cons (GetC.one (Get.cstr (l := [116]) rfl rfl)) rfl rfl rfl (.cons (GetC.one (Get.cstr (l := [100]) rfl rfl)) rfl rfl rfl (.cons (GetC.one (Get.tmp rfl)) rfl rfl rfl .nil))))) ?_
    refine L.op1 rfl rfl (GSpec.plain rfl (spec_buildSlice1 (y := exJ (exC.getD i default)) (E := eJ) rfl Tryd.underlying22 ti28 z28 (by decide) (GetC.agg (Get.tmp rfl)) (fun _ => rfl))) ?_
    refine L.append (k := 0) (E := eJ) rfl rfl rfl rfl Tryd.underlying22 ti28 rfl (by decide) (fun _ => rfl) (Get.tmp rfl) (Get.tmp rfl) rfl (by (simp only [List.length_cons, List.length_nil]; omega)) (by (simp only [List.length_cons, List.length_nil]; omega)) (fun v12 => ?_)
    refine L.op1 rfl rfl (GSpec.plain rfl (spec_assign rfl (Get.tmp rfl))) ?_
    refine L.nil ?_
    refine N.blockNormal ?_
    refine N.thenW ?_
    refine W.region ?_
    first | refine L.op1 rfl rfl (GSpec.plain rfl (fit_i64 (by omega) (by omega) (spec_add rfl (Get.tmp rfl) (Get.cint rfl)))) ?_ | refine L.op1 rfl rfl (GSpec.plain rfl (spec_add rfl (Get.tmp rfl) (Get.cint rfl))) ?_
    refine L.op1 rfl rfl (GSpec.plain rfl (spec_move rfl (Get.tmp rfl))) ?_
    refine L.nil ?_
    refine N.roundK (i + 1, v12) ?hI1 ?hmu1 ?hs1 ?hk1 ?hp1
    case hs1 => exact (.cons (t := 5) rfl (.cons (t := 1) rfl .nil))
    case hk1 => exact (.cons (t := 0) rfl (.cons (t := 4) rfl .nil))
    case hp1 => dsimp only; rw [exL_take (show i < 4 by omega)]; exact (.cons 0 rfl .nil)
    case hI1 => dsimp only; omega
    case hmu1 => dsimp only; omega
  · have ph1 := h1; try simp only [decide_eq_true_eq, decide_eq_false_iff_not, Bool.and_eq_true, Bool.or_eq_true, Bool.and_eq_false_iff, Bool.or_eq_false_iff, Bool.not_eq_true', Bool.not_eq_false', Bool.not_true, Bool.not_false, Int.not_lt, Int.not_le] at ph1
    refine W.exit ?_
    refine N.thenExit ?_
    refine N.thenExit ?_
    refine N.blockExit ?_
    refine N.thenW ?_
    refine W.pub (t := 1) (k := 0) rfl rfl (fun _ => rfl) ?_
    refine W.seq ?_
    refine W.region ?_
    refine L.op1 rfl rfl (GSpec.plain rfl (spec_move rfl (Get.tmp rfl))) ?_
    refine L.op1 rfl rfl (GSpec.plain rfl (spec_assign rfl (Get.tmp rfl))) ?_
    refine L.nil ?_
    refine N.thenW ?_
    refine W.keep (.cons (t := 0) rfl .nil) .refl ?_
    refine W.ret ?_
    refine N.ret () rfl (.tmp (t := 0) (Get.tmp rfl) .nil) (res1 (eqSl ?_)) .nil (fun _ _ h => h)
    rw [show i = 4 by omega]; rfl

theorem awake_ok  : CallT Tryd.prog 10 [] [kwG] (.one (Rp.bool true)) := by
  refine W.enter (fn := Tryd.f10) (n := 81) Tryd.func10 rfl Tryd.ntmps10 rfl (fun w₀ C₀ => ?_)
  simp only [argS]
  refine W.seq ?_
  refine W.region ?_
  refine L.op1 rfl rfl (GSpec.plain rfl (spec_assign rfl Get.cbool)) ?_
  refine L.nil ?_
  refine N.thenW ?_
  refine W.seq ?_
  refine W.region ?_
  refine L.op1 rfl rfl (GSpec.plain rfl (spec_call rfl Tryd.call25 (exjobs_ok ) .nil)) ?_
  refine L.op1 rfl rfl (GSpec.plain rfl (spec_callG (k := 0) rfl Tryd.call18 rfl (assign_ok _ _ (by first | omega | decide)) (.cons (Get.tmp rfl) (.cons (Get.cint rfl) .nil)))) ?_
  refine L.op1 rfl rfl (GSpec.plain rfl (spec_move rfl (Get.tmp rfl))) ?_
  refine L.op1 rfl rfl (GSpec.plain rfl (spec_extract rfl (Get.tmp rfl) rfl)) ?_
  refine L.op1 rfl rfl (GSpec.plain rfl (spec_extract rfl (Get.tmp rfl) rfl)) ?_
  refine L.op1 rfl rfl (GSpec.plain rfl (spec_assign rfl (Get.tmp rfl))) ?_
  refine L.op1 rfl rfl (GSpec.plain rfl (spec_assign rfl (Get.tmp rfl))) ?_
  refine L.nil ?_
  refine N.thenW ?_
  rw [exA]
  dsimp only
  refine W.keep (.cons (t := 0) rfl (.cons (t := 1) rfl (.cons (t := 2) rfl .nil))) .refl ?_
  refine W.seq ?_
  refine W.region ?_
  refine L.op1 rfl rfl (GSpec.plain rfl (spec_call rfl Tryd.call25 (exjobs_ok ) .nil)) ?_
  refine L.op1 rfl rfl (GSpec.plain rfl (spec_move rfl (Get.tmp rfl))) ?_
  refine L.op1 rfl rfl (GSpec.plain rfl (spec_callG (k := 0) rfl Tryd.call23 rfl (span_ok _ _) (.cons (Get.tmp rfl) (.cons (Get.tmp rfl) .nil)))) ?_
  refine L.op1 rfl rfl (GSpec.plain rfl (spec_move rfl (Get.tmp rfl))) ?_
  refine L.op1 rfl rfl (GSpec.plain rfl (spec_extract rfl (Get.tmp rfl) rfl)) ?_
  refine L.op1 rfl rfl (GSpec.plain rfl (spec_extract rfl (Get.tmp rfl) rfl)) ?_
  refine L.op1 rfl rfl (GSpec.plain rfl (spec_assign rfl (Get.tmp rfl))) ?_
  refine L.op1 rfl rfl (GSpec.plain rfl (spec_assign rfl (Get.tmp rfl))) ?_
  refine L.nil ?_
  refine N.thenW ?_
  rw [exS]
  dsimp only
  refine W.keep (.cons (t := 0) rfl (.cons (t := 1) rfl (.cons (t := 2) rfl (.cons (t := 3) rfl (.cons (t := 4) rfl .nil))))) .refl ?_
  refine W.seq ?_
  refine W.region ?_
  refine L.op1 rfl rfl (GSpec.plain rfl (spec_call rfl Tryd.call25 (exjobs_ok ) .nil)) ?_
  refine L.op1 rfl rfl (GSpec.plain rfl (spec_callG (k := 0) rfl Tryd.call20 rfl (bound_ok _ _) (.cons (Get.tmp rfl) (.cons (Get.cint rfl) .nil)))) ?_
  refine L.op1 rfl rfl (GSpec.plain rfl (spec_move rfl (Get.tmp rfl))) ?_
  refine L.op1 rfl rfl (GSpec.plain rfl (spec_extract rfl (Get.tmp rfl) rfl)) ?_
  refine L.op1 rfl rfl (GSpec.plain rfl (spec_extract rfl (Get.tmp rfl) rfl)) ?_
  refine L.op1 rfl rfl (GSpec.plain rfl (spec_assign rfl (Get.tmp rfl))) ?_
  refine L.op1 rfl rfl (GSpec.plain rfl (spec_assign rfl (Get.tmp rfl))) ?_
  refine L.nil ?_
  refine N.thenW ?_
  rw [exB]
  dsimp only
  refine W.seq ?_
  refine W.region ?_
  refine L.op1 rfl rfl (GSpec.plain rfl (spec_call rfl Tryd.call25 (exjobs_ok ) .nil)) ?_
  refine L.op1 rfl rfl (GSpec.plain rfl (spec_call rfl Tryd.call13 (next_ok _ (by first | omega | decide)) (.cons (Get.tmp rfl) .nil))) ?_
  refine L.op1 rfl rfl (GSpec.plain rfl (spec_move rfl (Get.tmp rfl))) ?_
  refine L.op1 rfl rfl (GSpec.plain rfl (spec_extract rfl (Get.tmp rfl) rfl)) ?_
  refine L.op1 rfl rfl (GSpec.plain rfl (spec_extract rfl (Get.tmp rfl) rfl)) ?_
  refine L.op1 rfl rfl (GSpec.plain rfl (spec_assign rfl (Get.tmp rfl))) ?_
  refine L.op1 rfl rfl (GSpec.plain rfl (spec_assign rfl (Get.tmp rfl))) ?_
  refine L.nil ?_
  refine N.thenW ?_
  rw [exN]
  dsimp only
  refine W.keep (.cons (t := 0) rfl (.cons (t := 1) rfl (.cons (t := 2) rfl (.cons (t := 3) rfl (.cons (t := 4) rfl (.cons (t := 5) rfl (.cons (t := 6) rfl (.cons (t := 7) rfl (.cons (t := 8) rfl .nil))))))))) .refl ?_
  refine W.seq ?_
  refine W.region ?_
  refine L.op1 rfl rfl (GSpec.plain rfl (spec_move rfl (Get.tmp rfl))) ?_
  refine L.op1 rfl rfl (GSpec.plain rfl (spec_eql rfl (Get.tmp rfl) (Get.cint rfl))) ?_
  refine L.op1 rfl rfl (GSpec.plain rfl (spec_move rfl (Get.tmp rfl))) ?_
  refine L.op1 rfl rfl (GSpec.guard rfl rfl rfl fun hg => (spec_move rfl (Get.tmp rfl))) ?_
  refine L.op1 rfl rfl (GSpec.guard rfl rfl rfl fun hg => (spec_len rfl Tryd.underlying34 (Get.opt rfl hg))) ?_
  refine L.op1 rfl rfl (GSpec.guard rfl rfl rfl fun hg => (spec_eql rfl (Get.opt rfl hg) (Get.cint rfl))) ?_
  refine L.op1 rfl rfl (GSpec.plain rfl (spec_and rfl (Get.tmp rfl) (fun hb => (Get.opt rfl hb)))) ?_
  refine L.op1 rfl rfl (GSpec.plain rfl (spec_move rfl (Get.tmp rfl))) ?_
  refine L.op1 rfl rfl (GSpec.guard rfl rfl rfl fun hg => (spec_move rfl (Get.tmp rfl))) ?_
  refine L.op1 rfl rfl (GSpec.guard rfl rfl rfl fun hg => (spec_indexAddrD (E := eII) rfl Tryd.underlying34 Tryd.sizeOf32 (fun _ => rfl) (Get.opt rfl hg) (Get.cint rfl) (by (first | omega | decide | simp)))) ?_
  refine L.op1 rfl rfl (GSpec.guard rfl rfl rfl fun hg => (spec_loadP1 rfl Tryd.isAgg32 (Get.opt rfl hg))) ?_
  refine L.op1 rfl rfl (GSpec.guard rfl rfl rfl fun hg => (spec_len rfl Tryd.underlying32 (Get.opt rfl hg))) ?_
  refine L.op1 rfl rfl (GSpec.guard rfl rfl rfl fun hg => (spec_eql rfl (Get.opt rfl hg) (Get.cint rfl))) ?_
  refine L.op1 rfl rfl (GSpec.plain rfl (spec_and rfl (Get.tmp rfl) (fun hb => (Get.opt rfl hb)))) ?_
  refine L.op1 rfl rfl (GSpec.plain rfl (spec_move rfl (Get.tmp rfl))) ?_
  refine L.op1 rfl rfl (GSpec.guard rfl rfl rfl fun hg => (spec_move rfl (Get.tmp rfl))) ?_
  refine L.op1 rfl rfl (GSpec.guard rfl rfl rfl fun hg => (spec_indexAddrD (E := eII) rfl Tryd.underlying34 Tryd.sizeOf32 (fun _ => rfl) (Get.opt rfl hg) (Get.cint rfl) (by (first | omega | decide | simp)))) ?_
  refine L.op1 rfl rfl (GSpec.guard rfl rfl rfl fun hg => (spec_loadP1 rfl Tryd.isAgg32 (Get.opt rfl hg))) ?_
  refine L.op1 rfl rfl (GSpec.guard rfl rfl rfl fun hg => (spec_indexAddrD (E := eI) rfl Tryd.underlying32 Tryd.sizeOf3 (fun _ => rfl) (Get.opt rfl hg) (Get.cint rfl) (by (first | omega | decide | simp)))) ?_
  refine L.op1 rfl rfl (GSpec.guard rfl rfl rfl fun hg => (spec_loadP1 rfl Tryd.isAgg3 (Get.opt rfl hg))) ?_
  refine L.op1 rfl rfl (GSpec.guard rfl rfl rfl fun hg => (spec_eql rfl (Get.opt rfl hg) (Get.cint rfl))) ?_
  refine L.op1 rfl rfl (GSpec.plain rfl (spec_and rfl (Get.tmp rfl) (fun hb => (Get.opt rfl hb)))) ?_
  refine L.op1 rfl rfl (GSpec.plain rfl (spec_move rfl (Get.tmp rfl))) ?_
  refine L.op1 rfl rfl (GSpec.guard rfl rfl rfl fun hg => (spec_move rfl (Get.tmp rfl))) ?_
  refine L.op1 rfl rfl (GSpec.guard rfl rfl rfl fun hg => (spec_eql rfl (Get.opt rfl hg) (Get.cint rfl))) ?_
  refine L.op1 rfl rfl (GSpec.plain rfl (spec_and rfl (Get.tmp rfl) (fun hb => (Get.opt rfl hb)))) ?_
  refine L.op1 rfl rfl (GSpec.plain rfl (spec_move rfl (Get.tmp rfl))) ?_
  refine L.op1 rfl rfl (GSpec.guard rfl rfl rfl fun hg => (spec_move rfl (Get.tmp rfl))) ?_
  refine L.op1 rfl rfl (GSpec.guard rfl rfl rfl fun hg => (spec_eql rfl (Get.opt rfl hg) (Get.cint rfl))) ?_
  refine L.op1 rfl rfl (GSpec.plain rfl (spec_and rfl (Get.tmp rfl) (fun hb => (Get.opt rfl hb)))) ?_
  refine L.op1 rfl rfl (GSpec.plain rfl (spec_move rfl (Get.tmp rfl))) ?_
  refine L.op1 rfl rfl (GSpec.guard rfl rfl rfl fun hg => (spec_move rfl (Get.tmp rfl))) ?_
  refine L.op1 rfl rfl (GSpec.guard rfl rfl rfl fun hg => (spec_eql rfl (Get.opt rfl hg) (Get.cint rfl))) ?_
  refine L.op1 rfl rfl (GSpec.plain rfl (spec_and rfl (Get.tmp rfl) (fun hb => (Get.opt rfl hb)))) ?_
  refine L.op1 rfl rfl (GSpec.plain rfl (spec_move rfl (Get.tmp rfl))) ?_
  refine L.op1 rfl rfl (GSpec.guard rfl rfl rfl fun hg => (spec_move rfl (Get.tmp rfl))) ?_
  refine L.op1 rfl rfl (GSpec.guard rfl rfl rfl fun hg => (spec_eql rfl (Get.opt rfl hg) (Get.cint rfl))) ?_
  refine L.op1 rfl rfl (GSpec.plain rfl (spec_and rfl (Get.tmp rfl) (fun hb => (Get.opt rfl hb)))) ?_
  refine L.op1 rfl rfl (GSpec.plain rfl (spec_move rfl (Get.tmp rfl))) ?_
  refine L.op1 rfl rfl (GSpec.guard rfl rfl rfl fun hg => (spec_move rfl (Get.tmp rfl))) ?_
  refine L.op1 rfl rfl (GSpec.guard rfl rfl rfl fun hg => (spec_eql rfl (Get.opt rfl hg) (Get.cint rfl))) ?_
  refine L.op1 rfl rfl (GSpec.plain rfl (spec_and rfl (Get.tmp rfl) (fun hb => (Get.opt rfl hb)))) ?_
  refine L.op1 rfl rfl (GSpec.plain rfl (spec_move rfl (Get.tmp rfl))) ?_
  refine L.op1 rfl rfl (GSpec.guard rfl rfl rfl fun hg => (spec_move rfl (Get.tmp rfl))) ?_
  refine L.op1 rfl rfl (GSpec.plain rfl (spec_and rfl (Get.tmp rfl) (fun hb => (Get.opt rfl hb)))) ?_
  refine L.op1 rfl rfl (GSpec.plain rfl (spec_move rfl (Get.tmp rfl))) ?_
  refine L.op1 rfl rfl (GSpec.guard rfl rfl rfl fun hg => (spec_call rfl Tryd.call25 (exjobs_ok ) .nil)) ?_
  refine L.op1 rfl rfl (GSpec.guard rfl rfl rfl fun hg => (spec_indexAddrD (E := eJ) rfl Tryd.underlying22 Tryd.sizeOf28 (fun _ => rfl) (Get.opt rfl hg) (Get.cint rfl) (by (first | omega | decide | simp)))) ?_
  refine L.op1 rfl rfl (GSpec.guard rfl rfl rfl fun hg => (spec_loadPA rfl Tryd.isAgg28 Tryd.sizeOf28 (Get.opt rfl hg) rfl)) ?_
  refine L.op1 rfl rfl (GSpec.guard rfl rfl rfl fun hg => (spec_callG (k := 0) rfl Tryd.call11 rfl (valid_ok _) (.cons (Get.opt rfl hg) .nil))) ?_
  refine L.op1 rfl rfl (GSpec.plain rfl (spec_and rfl (Get.tmp rfl) (fun hb => (Get.opt rfl hb)))) ?_
  refine L.op1 rfl rfl (GSpec.plain rfl (spec_assign rfl (Get.tmp rfl))) ?_
  refine L.nil ?_
  refine N.thenW ?_
  refine W.keep (.cons (t := 0) rfl .nil) .refl ?_
  refine W.ret ?_
  refine N.ret () rfl (.tmp (t := 0) (Get.tmp rfl) .nil) (res1 (eqB ?_)) .nil (fun _ _ h => h)
  simpa using exV

end Go.Proofs.YtlbhpjigjehffaaDoor
set_option linter.unusedSimpArgs false
set_option maxRecDepth 8000
set_option linter.unusedVariables false
namespace Go.Proofs.YtlbhpjigjehffaaDoor
open Go.Sim
theorem SchedOrders_ok (l : List Jb) : CallT Tryd.prog 3 [Rp.slice eJ l] [kwG] (.one (Rp.bool true)) := by
  refine W.enter (fn := Tryd.f3) (n := 57) Tryd.func3 rfl Tryd.ntmps3 rfl (fun w₀ C₀ => ?_)
  simp only [argS]
  refine W.fact 0 rfl slice_fact fun hl => ?_
  refine W.seq ?_
  refine W.region ?_
  refine L.op1 rfl rfl (GSpec.plain rfl (spec_assign rfl Get.cbool)) ?_
  refine L.nil ?_
  refine N.thenW ?_
  refine W.seq ?_
  refine W.seq ?_
  refine W.region ?_
  refine L.op1 rfl rfl (GSpec.plain rfl (spec_move rfl (Get.tmp rfl))) ?_
  refine L.op1 rfl rfl (GSpec.plain rfl (spec_call rfl Tryd.call9 (few_ok _) (.cons (Get.tmp rfl) .nil))) ?_
  refine L.op1 rfl rfl (GSpec.plain rfl (spec_not rfl (Get.tmp rfl))) ?_
  refine L.nil ?_
  refine N.thenW ?_
  refine W.cond (Get.tmp rfl) (fun h1 => ?_) (fun h1 => ?_)
  · have ph1 := h1; try simp only [decide_eq_true_eq, decide_eq_false_iff_not, Bool.and_eq_true, Bool.or_eq_true, Bool.and_eq_false_iff, Bool.or_eq_false_iff, Bool.not_eq_true', Bool.not_eq_false', Bool.not_true, Bool.not_false, Int.not_lt, Int.not_le] at ph1
    refine W.seq ?_
    refine W.region ?_
    refine L.op1 rfl rfl (GSpec.plain rfl (spec_callG (k := 0) rfl Tryd.call10 rfl (awake_ok ) .nil)) ?_
    refine L.op1 rfl rfl (GSpec.plain rfl (spec_assign rfl (Get.tmp rfl))) ?_
    refine L.nil ?_
    refine N.thenW ?_
    refine W.ret ?_
    refine N.ret () rfl (.tmp (t := 2) (Get.tmp rfl) .nil) (res1 (eqB ?_)) .nil (fun _ _ h => h)
    rfl
  · have ph1 := h1; simp only [decide_eq_true_eq, decide_eq_false_iff_not, Bool.and_eq_true, Bool.or_eq_true, Bool.and_eq_false_iff, Bool.or_eq_false_iff, Bool.not_eq_true', Bool.not_eq_false', Bool.not_true, Bool.not_false, Int.not_lt, Int.not_le] at ph1
    have hq : fewB l = true := by have h := h1; simpa using h
    have h30 := few_len hq
    refine W.skip ?_
    refine N.thenW ?_
    refine W.seq ?_
    refine W.seq ?_
    refine W.region ?_
    refine L.op1 rfl rfl (GSpec.plain rfl (spec_assign rfl (Get.cint rfl))) ?_
    refine L.nil ?_
    refine N.thenW ?_
    refine W.block ?_
    -- assigned in the loop, not kept: [2]
    refine W.loopK (σ := Nat) (.cons (t := 0) rfl .nil) (fun z => [(3, Rp.int .i64 (z : Nat))]) (fun z => []) (fun z => z ≤ l.length ∧ ∀ j : Nat, j < z → True) (fun z => l.length - z) 0 ⟨Nat.zero_le _, fun j hj => by omega⟩ (.cons (t := 3) rfl .nil) (.cons 0 rfl .nil) ?_
    intro i hI S' M' hS hM
    obtain ⟨hI1, hI2⟩ := hI
    try dsimp only at hS hM
    simp only [List.cons_append, List.nil_append] at hS hM
    subst hS hM
    try dsimp only
    refine W.seq ?_
    refine W.seq ?_
    refine W.region ?_
    refine L.op1 rfl rfl (GSpec.plain rfl (spec_move rfl (Get.tmp rfl))) ?_
    refine L.op1 rfl rfl (GSpec.plain rfl (spec_move rfl (Get.tmp rfl))) ?_
    refine L.op1 rfl rfl (GSpec.plain rfl (spec_len rfl Tryd.underlying22 (Get.tmp rfl))) ?_
    refine L.op1 rfl rfl (GSpec.plain rfl (spec_lss rfl (Get.tmp rfl) (Get.tmp rfl))) ?_
    refine L.nil ?_
    refine N.thenW ?_
    refine W.cond (Get.tmp rfl) (fun h2 => ?_) (fun h2 => ?_)
    · have ph2 := h2; try simp only [decide_eq_true_eq, decide_eq_false_iff_not, Bool.and_eq_true, Bool.or_eq_true, Bool.and_eq_false_iff, Bool.or_eq_false_iff, Bool.not_eq_true', Bool.not_eq_false', Bool.not_true, Bool.not_false, Int.not_lt, Int.not_le] at ph2
      refine W.skip ?_
      refine N.thenW ?_
      refine W.seq ?_
      refine W.block ?_
      refine W.seq ?_
      apply W.any 11 mixed (by kernel_rfl)
      · apply Head.one rfl rfl (GSpec.plain rfl (spec_move rfl (Get.tmp rfl)))
        apply Head.one rfl rfl (GSpec.plain rfl (spec_move rfl (Get.tmp rfl)))
        apply Head.one rfl rfl (GSpec.plain rfl (spec_indexAddrD (E := eJ) rfl Tryd.underlying22 Tryd.sizeOf28 (fun _ => rfl) (Get.tmp rfl) (Get.tmp rfl) (by omega)))
        apply Head.one rfl rfl (GSpec.plain rfl (spec_loadPA rfl Tryd.isAgg28 Tryd.sizeOf28 (Get.tmp rfl) rfl))
        apply Head.one rfl rfl (GSpec.plain rfl (spec_callG (k := 0) rfl Tryd.call11 rfl (valid_ok _) (.cons (Get.tmp rfl) .nil)))
        apply Head.one rfl rfl (GSpec.plain rfl (spec_move rfl (Get.tmp rfl)))
        apply Head.one rfl rfl (GSpec.plain rfl (spec_move rfl (Get.tmp rfl)))
        apply Head.one rfl rfl (GSpec.plain rfl (spec_indexAddrD (E := eJ) rfl Tryd.underlying22 Tryd.sizeOf28 (fun _ => rfl) (Get.tmp rfl) (Get.tmp rfl) (by omega)))
        apply Head.one rfl rfl (GSpec.plain rfl (spec_loadPA rfl Tryd.isAgg28 Tryd.sizeOf28 (Get.tmp rfl) rfl))
        apply Head.one rfl rfl (GSpec.plain rfl (spec_call rfl Tryd.call12 (rvalid_ok _) (.cons (Get.tmp rfl) .nil)))
        apply Head.one rfl rfl (GSpec.plain rfl (spec_neqB rfl Tryd.underlying4 (Get.tmp rfl) (Get.tmp rfl)))
        exact Head.nil
      refine Fin.one ?_
      refine Fin.one ?_
      refine Fin.one ?_
      refine Fin.one ?_
      refine Fin.one ?_
      refine Fin.one ?_
      refine Fin.one ?_
      refine Fin.one ?_
      refine Fin.one ?_
      refine Fin.one ?_
      refine Fin.one ?_
      refine Fin.nil ?_
      refine L.nil ?_
      refine N.thenW ?_
      refine W.cond (Get.tmp rfl) (fun h3 => ?_) (fun h3 => ?_)
      · have ph3 := h3; try simp only [decide_eq_true_eq, decide_eq_false_iff_not, Bool.and_eq_true, Bool.or_eq_true, Bool.and_eq_false_iff, Bool.or_eq_false_iff, Bool.not_eq_true', Bool.not_eq_false', Bool.not_true, Bool.not_false, Int.not_lt, Int.not_le] at ph3
        refine W.seq ?_
        refine W.region ?_
        refine L.op1 rfl rfl (GSpec.plain rfl (spec_assign rfl Get.cbool)) ?_
        refine L.nil ?_
        refine N.thenW ?_
        refine W.ret ?_
        refine N.ret () rfl (.tmp (t := 2) (Get.tmp rfl) .nil) (res1 (eqB ?_)) .nil (fun _ _ h => h)
        exfalso; have h := h3; simp at h
      · have ph3 := h3; try simp only [decide_eq_true_eq, decide_eq_false_iff_not, Bool.and_eq_true, Bool.or_eq_true, Bool.and_eq_false_iff, Bool.or_eq_false_iff, Bool.not_eq_true', Bool.not_eq_false', Bool.not_true, Bool.not_false, Int.not_lt, Int.not_le] at ph3
        refine W.skip ?_
        refine N.blockNormal ?_
        refine N.thenW ?_
        refine W.region ?_
        refine L.op1 rfl rfl (GSpec.plain rfl (spec_move rfl (Get.tmp rfl))) ?_
        first | refine L.op1 rfl rfl (GSpec.plain rfl (fit_i64 (by omega) (by omega) (spec_add rfl (Get.tmp rfl) (Get.cint rfl)))) ?_ | refine L.op1 rfl rfl (GSpec.plain rfl (spec_add rfl (Get.tmp rfl) (Get.cint rfl))) ?_
        refine L.op1 rfl rfl (GSpec.plain rfl (spec_assign rfl (Get.tmp rfl))) ?_
        refine L.nil ?_
        refine N.roundK (i + 1) ?hI1 ?hmu1 ?hs1 ?hk1 ?hp1
        case hs1 => exact (.cons (t := 3) rfl .nil)
        case hk1 => exact (.cons (t := 0) rfl .nil)
        case hp1 => exact (.cons 0 rfl .nil)
        case hI1 => exact ⟨by omega, upto hI2 trivial⟩
        case hmu1 => omega
    · have ph2 := h2; try simp only [decide_eq_true_eq, decide_eq_false_iff_not, Bool.and_eq_true, Bool.or_eq_true, Bool.and_eq_false_iff, Bool.or_eq_false_iff, Bool.not_eq_true', Bool.not_eq_false', Bool.not_true, Bool.not_false, Int.not_lt, Int.not_le] at ph2
      refine W.exit ?_
      refine N.thenExit ?_
      refine N.thenExit ?_
      refine N.blockExit ?_
      refine N.thenW ?_
      refine W.seq ?_
      refine W.region ?_
      refine L.op1 rfl rfl (GSpec.plain rfl (spec_move rfl (Get.tmp rfl))) ?_
      refine L.op1 rfl rfl (GSpec.plain rfl (spec_call rfl Tryd.call13 (next_ok _ (by first | omega | decide)) (.cons (Get.tmp rfl) .nil))) ?_
      refine L.op1 rfl rfl (GSpec.plain rfl (spec_move rfl (Get.tmp rfl))) ?_
      refine L.op1 rfl rfl (GSpec.plain rfl (spec_extract rfl (Get.tmp rfl) rfl)) ?_
      refine L.op1 rfl rfl (GSpec.plain rfl (spec_extract rfl (Get.tmp rfl) rfl)) ?_
      refine L.op1 rfl rfl (GSpec.plain rfl (spec_assign rfl (Get.tmp rfl))) ?_
      refine L.op1 rfl rfl (GSpec.plain rfl (spec_assign rfl (Get.tmp rfl))) ?_
      refine L.nil ?_
      refine N.thenW ?_
      refine W.keep (.cons (t := 0) rfl (.cons (t := 4) rfl (.cons (t := 5) rfl .nil))) .refl ?_
      refine W.seq ?_
      refine W.region ?_
      refine L.op1 rfl rfl (GSpec.plain rfl (spec_move rfl (Get.tmp rfl))) ?_
      refine L.op1 rfl rfl (GSpec.plain rfl (spec_call rfl Tryd.call14 (rnext_ok _ (by omega)) (.cons (Get.tmp rfl) .nil))) ?_
      refine L.op1 rfl rfl (GSpec.plain rfl (spec_move rfl (Get.tmp rfl))) ?_
      refine L.op1 rfl rfl (GSpec.plain rfl (spec_extract rfl (Get.tmp rfl) rfl)) ?_
      refine L.op1 rfl rfl (GSpec.plain rfl (spec_extract rfl (Get.tmp rfl) rfl)) ?_
      refine L.op1 rfl rfl (GSpec.plain rfl (spec_assign rfl (Get.tmp rfl))) ?_
      refine L.op1 rfl rfl (GSpec.plain rfl (spec_assign rfl (Get.tmp rfl))) ?_
      refine L.nil ?_
      refine N.thenW ?_
      refine W.seq ?_
      refine W.region ?_
      refine L.op1 rfl rfl (GSpec.plain rfl (spec_move rfl (Get.tmp rfl))) ?_
      refine L.op1 rfl rfl (GSpec.plain rfl (spec_call rfl Tryd.call16 (order_ok _ (by omega)) (.cons (Get.tmp rfl) .nil))) ?_
      refine L.op1 rfl rfl (GSpec.plain rfl (spec_move rfl (Get.tmp rfl))) ?_
      refine L.op1 rfl rfl (GSpec.plain rfl (spec_call rfl Tryd.call17 (rorder_ok _ (by omega)) (.cons (Get.tmp rfl) .nil))) ?_
      refine L.op1 rfl rfl (GSpec.plain rfl (spec_call rfl Tryd.call15 (numbers_ok _ _) (.cons (Get.tmp rfl) (.cons (Get.tmp rfl) .nil)))) ?_
      refine L.op1 rfl rfl (GSpec.plain rfl (spec_move rfl (Get.tmp rfl))) ?_
      refine L.op1 rfl rfl (GSpec.guard rfl rfl rfl fun hg => (spec_move rfl (Get.tmp rfl))) ?_
      refine L.op1 rfl rfl (GSpec.guard rfl rfl rfl fun hg => (spec_move rfl (Get.tmp rfl))) ?_
      refine L.op1 rfl rfl (GSpec.guard rfl rfl rfl fun hg => (spec_eql rfl (Get.opt rfl hg) (Get.opt rfl hg))) ?_
      refine L.op1 rfl rfl (GSpec.plain rfl (spec_and rfl (Get.tmp rfl) (fun hb => (Get.opt rfl hb)))) ?_
      refine L.op1 rfl rfl (GSpec.plain rfl (spec_move rfl (Get.tmp rfl))) ?_
      refine L.op1 rfl rfl (GSpec.guard rfl rfl rfl fun hg => (spec_move rfl (Get.tmp rfl))) ?_
      refine L.op1 rfl rfl (GSpec.guard rfl rfl rfl fun hg => (spec_move rfl (Get.tmp rfl))) ?_
      refine L.op1 rfl rfl (GSpec.guard rfl rfl rfl fun hg => (spec_eqlB rfl Tryd.underlying4 (Get.opt rfl hg) (Get.opt rfl hg))) ?_
      refine L.op1 rfl rfl (GSpec.plain rfl (spec_and rfl (Get.tmp rfl) (fun hb => (Get.opt rfl hb)))) ?_
      refine L.op1 rfl rfl (GSpec.plain rfl (spec_move rfl (Get.tmp rfl))) ?_
      refine L.op1 rfl rfl (GSpec.guard rfl rfl rfl fun hg => (spec_callG (k := 0) rfl Tryd.call10 rfl (awake_ok ) .nil)) ?_
      refine L.op1 rfl rfl (GSpec.plain rfl (spec_and rfl (Get.tmp rfl) (fun hb => (Get.opt rfl hb)))) ?_
      refine L.op1 rfl rfl (GSpec.plain rfl (spec_assign rfl (Get.tmp rfl))) ?_
      refine L.nil ?_
      refine N.thenW ?_
      refine W.keep (.cons (t := 2) rfl .nil) .refl ?_
      refine W.ret ?_
      refine N.ret () rfl (.tmp (t := 2) (Get.tmp rfl) .nil) (res1 (eqB ?_)) .nil (fun _ _ h => h)
      simp

theorem SchedAssigns_ok (l : List Jb) (w : Int) : CallT Tryd.prog 4 [Rp.slice eJ l, Rp.int .i64 w] [kwG] (.one (Rp.bool true)) := by
  refine W.enter (fn := Tryd.f4) (n := 62) Tryd.func4 rfl Tryd.ntmps4 rfl (fun w₀ C₀ => ?_)
  simp only [argS]
  refine W.seq ?_
  refine W.region ?_
  refine L.op1 rfl rfl (GSpec.plain rfl (spec_assign rfl Get.cbool)) ?_
  refine L.nil ?_
  refine N.thenW ?_
  refine W.seq ?_
  refine W.seq ?_
  refine W.region ?_
  refine L.op1 rfl rfl (GSpec.plain rfl (spec_move rfl (Get.tmp rfl))) ?_
  refine L.op1 rfl rfl (GSpec.plain rfl (spec_call rfl Tryd.call9 (few_ok _) (.cons (Get.tmp rfl) .nil))) ?_
  refine L.op1 rfl rfl (GSpec.plain rfl (spec_not rfl (Get.tmp rfl))) ?_
  refine L.nil ?_
  refine N.thenW ?_
  refine W.cond (Get.tmp rfl) (fun h1 => ?_) (fun h1 => ?_)
  · have ph1 := h1; try simp only [decide_eq_true_eq, decide_eq_false_iff_not, Bool.and_eq_true, Bool.or_eq_true, Bool.and_eq_false_iff, Bool.or_eq_false_iff, Bool.not_eq_true', Bool.not_eq_false', Bool.not_true, Bool.not_false, Int.not_lt, Int.not_le] at ph1
    refine W.seq ?_
    refine W.region ?_
    refine L.op1 rfl rfl (GSpec.plain rfl (spec_callG (k := 0) rfl Tryd.call10 rfl (awake_ok ) .nil)) ?_
    refine L.op1 rfl rfl (GSpec.plain rfl (spec_assign rfl (Get.tmp rfl))) ?_
    refine L.nil ?_
    refine N.thenW ?_
    refine W.ret ?_
    refine N.ret () rfl (.tmp (t := 4) (Get.tmp rfl) .nil) (res1 (eqB ?_)) .nil (fun _ _ h => h)
    rfl
  · have ph1 := h1; simp only [decide_eq_true_eq, decide_eq_false_iff_not, Bool.and_eq_true, Bool.or_eq_true, Bool.and_eq_false_iff, Bool.or_eq_false_iff, Bool.not_eq_true', Bool.not_eq_false', Bool.not_true, Bool.not_false, Int.not_lt, Int.not_le] at ph1
    have hq : fewB l = true := by have h := h1; simpa using h
    have h30 := few_len hq
    refine W.skip ?_
    refine N.thenW ?_
    refine W.seq ?_
    refine W.region ?_
    refine L.op1 rfl rfl (GSpec.plain rfl (spec_move rfl (Get.tmp rfl))) ?_
    refine L.op1 rfl rfl (GSpec.plain rfl (spec_move rfl (Get.tmp rfl))) ?_
    refine L.op1 rfl rfl (GSpec.plain rfl (spec_callG (k := 0) rfl Tryd.call18 rfl (assign_ok _ _ (by first | omega | decide)) (.cons (Get.tmp rfl) (.cons (Get.tmp rfl) .nil)))) ?_
    refine L.op1 rfl rfl (GSpec.plain rfl (spec_move rfl (Get.tmp rfl))) ?_
    refine L.op1 rfl rfl (GSpec.plain rfl (spec_extract rfl (Get.tmp rfl) rfl)) ?_
    refine L.op1 rfl rfl (GSpec.plain rfl (spec_extract rfl (Get.tmp rfl) rfl)) ?_
    refine L.op1 rfl rfl (GSpec.plain rfl (spec_assign rfl (Get.tmp rfl))) ?_
    refine L.op1 rfl rfl (GSpec.plain rfl (spec_assign rfl (Get.tmp rfl))) ?_
    refine L.nil ?_
    refine N.thenW ?_
    refine W.keep (.cons (t := 0) rfl (.cons (t := 1) rfl (.cons (t := 4) rfl (.cons (t := 5) rfl (.cons (t := 6) rfl .nil))))) .refl ?_
    refine W.seq ?_
    refine W.region ?_
    refine L.op1 rfl rfl (GSpec.plain rfl (spec_move rfl (Get.tmp rfl))) ?_
    refine L.op1 rfl rfl (GSpec.plain rfl (spec_move rfl (Get.tmp rfl))) ?_
    refine L.op1 rfl rfl (GSpec.plain rfl (spec_call rfl Tryd.call19 (rassign_ok _ _ (by omega)) (.cons (Get.tmp rfl) (.cons (Get.tmp rfl) .nil)))) ?_
    refine L.op1 rfl rfl (GSpec.plain rfl (spec_move rfl (Get.tmp rfl))) ?_
    refine L.op1 rfl rfl (GSpec.plain rfl (spec_extract rfl (Get.tmp rfl) rfl)) ?_
    refine L.op1 rfl rfl (GSpec.plain rfl (spec_extract rfl (Get.tmp rfl) rfl)) ?_
    refine L.op1 rfl rfl (GSpec.plain rfl (spec_assign rfl (Get.tmp rfl))) ?_
    refine L.op1 rfl rfl (GSpec.plain rfl (spec_assign rfl (Get.tmp rfl))) ?_
    refine L.nil ?_
    refine N.thenW ?_
    refine W.keep (.cons (t := 0) rfl (.cons (t := 1) rfl (.cons (t := 4) rfl (.cons (t := 5) rfl (.cons (t := 6) rfl (.cons (t := 7) rfl (.cons (t := 8) rfl .nil))))))) .refl ?_
    refine W.seq ?_
    refine W.region ?_
    refine L.op1 rfl rfl (GSpec.plain rfl (spec_move rfl (Get.tmp rfl))) ?_
    refine L.op1 rfl rfl (GSpec.plain rfl (spec_move rfl (Get.tmp rfl))) ?_
    refine L.op1 rfl rfl (GSpec.plain rfl (spec_callG (k := 0) rfl Tryd.call20 rfl (bound_ok _ _) (.cons (Get.tmp rfl) (.cons (Get.tmp rfl) .nil)))) ?_
    refine L.op1 rfl rfl (GSpec.plain rfl (spec_move rfl (Get.tmp rfl))) ?_
    refine L.op1 rfl rfl (GSpec.plain rfl (spec_extract rfl (Get.tmp rfl) rfl)) ?_
    refine L.op1 rfl rfl (GSpec.plain rfl (spec_extract rfl (Get.tmp rfl) rfl)) ?_
    refine L.op1 rfl rfl (GSpec.plain rfl (spec_assign rfl (Get.tmp rfl))) ?_
    refine L.op1 rfl rfl (GSpec.plain rfl (spec_assign rfl (Get.tmp rfl))) ?_
    refine L.nil ?_
    refine N.thenW ?_
    refine W.keep (.cons (t := 0) rfl (.cons (t := 1) rfl (.cons (t := 4) rfl (.cons (t := 5) rfl (.cons (t := 6) rfl (.cons (t := 7) rfl (.cons (t := 8) rfl (.cons (t := 9) rfl (.cons (t := 10) rfl .nil))))))))) .refl ?_
    refine W.seq ?_
    refine W.region ?_
    refine L.op1 rfl rfl (GSpec.plain rfl (spec_move rfl (Get.tmp rfl))) ?_
    refine L.op1 rfl rfl (GSpec.plain rfl (spec_move rfl (Get.tmp rfl))) ?_
    refine L.op1 rfl rfl (GSpec.plain rfl (spec_call rfl Tryd.call21 (rbound_ok _ _) (.cons (Get.tmp rfl) (.cons (Get.tmp rfl) .nil)))) ?_
    refine L.op1 rfl rfl (GSpec.plain rfl (spec_move rfl (Get.tmp rfl))) ?_
    refine L.op1 rfl rfl (GSpec.plain rfl (spec_extract rfl (Get.tmp rfl) rfl)) ?_
    refine L.op1 rfl rfl (GSpec.plain rfl (spec_extract rfl (Get.tmp rfl) rfl)) ?_
    refine L.op1 rfl rfl (GSpec.plain rfl (spec_assign rfl (Get.tmp rfl))) ?_
    refine L.op1 rfl rfl (GSpec.plain rfl (spec_assign rfl (Get.tmp rfl))) ?_
    refine L.nil ?_
    refine N.thenW ?_
    refine W.keep (.cons (t := 4) rfl (.cons (t := 5) rfl (.cons (t := 6) rfl (.cons (t := 7) rfl (.cons (t := 8) rfl (.cons (t := 9) rfl (.cons (t := 10) rfl (.cons (t := 11) rfl (.cons (t := 12) rfl .nil))))))))) .refl ?_
    refine W.seq ?_
    refine W.region ?_
    refine L.op1 rfl rfl (GSpec.plain rfl (spec_move rfl (Get.tmp rfl))) ?_
    refine L.op1 rfl rfl (GSpec.plain rfl (spec_move rfl (Get.tmp rfl))) ?_
    refine L.op1 rfl rfl (GSpec.plain rfl (spec_call rfl Tryd.call22 (plans_ok _ _) (.cons (Get.tmp rfl) (.cons (Get.tmp rfl) .nil)))) ?_
    refine L.op1 rfl rfl (GSpec.plain rfl (spec_move rfl (Get.tmp rfl))) ?_
    refine L.op1 rfl rfl (GSpec.guard rfl rfl rfl fun hg => (spec_move rfl (Get.tmp rfl))) ?_
    refine L.op1 rfl rfl (GSpec.guard rfl rfl rfl fun hg => (spec_move rfl (Get.tmp rfl))) ?_
    refine L.op1 rfl rfl (GSpec.guard rfl rfl rfl fun hg => (spec_eql rfl (Get.opt rfl hg) (Get.opt rfl hg))) ?_
    refine L.op1 rfl rfl (GSpec.plain rfl (spec_and rfl (Get.tmp rfl) (fun hb => (Get.opt rfl hb)))) ?_
    refine L.op1 rfl rfl (GSpec.plain rfl (spec_move rfl (Get.tmp rfl))) ?_
    refine L.op1 rfl rfl (GSpec.guard rfl rfl rfl fun hg => (spec_move rfl (Get.tmp rfl))) ?_
    refine L.op1 rfl rfl (GSpec.guard rfl rfl rfl fun hg => (spec_move rfl (Get.tmp rfl))) ?_
    refine L.op1 rfl rfl (GSpec.guard rfl rfl rfl fun hg => (spec_eql rfl (Get.opt rfl hg) (Get.opt rfl hg))) ?_
    refine L.op1 rfl rfl (GSpec.plain rfl (spec_and rfl (Get.tmp rfl) (fun hb => (Get.opt rfl hb)))) ?_
    refine L.op1 rfl rfl (GSpec.plain rfl (spec_move rfl (Get.tmp rfl))) ?_
    refine L.op1 rfl rfl (GSpec.guard rfl rfl rfl fun hg => (spec_move rfl (Get.tmp rfl))) ?_
    refine L.op1 rfl rfl (GSpec.guard rfl rfl rfl fun hg => (spec_move rfl (Get.tmp rfl))) ?_
    refine L.op1 rfl rfl (GSpec.guard rfl rfl rfl fun hg => (spec_eql rfl (Get.opt rfl hg) (Get.opt rfl hg))) ?_
    refine L.op1 rfl rfl (GSpec.plain rfl (spec_and rfl (Get.tmp rfl) (fun hb => (Get.opt rfl hb)))) ?_
    refine L.op1 rfl rfl (GSpec.plain rfl (spec_move rfl (Get.tmp rfl))) ?_
    refine L.op1 rfl rfl (GSpec.guard rfl rfl rfl fun hg => (spec_callG (k := 0) rfl Tryd.call10 rfl (awake_ok ) .nil)) ?_
    refine L.op1 rfl rfl (GSpec.plain rfl (spec_and rfl (Get.tmp rfl) (fun hb => (Get.opt rfl hb)))) ?_
    refine L.op1 rfl rfl (GSpec.plain rfl (spec_assign rfl (Get.tmp rfl))) ?_
    refine L.nil ?_
    refine N.thenW ?_
    refine W.keep (.cons (t := 4) rfl .nil) .refl ?_
    refine W.ret ?_
    refine N.ret () rfl (.tmp (t := 4) (Get.tmp rfl) .nil) (res1 (eqB ?_)) .nil (fun _ _ h => h)
    simp

end Go.Proofs.YtlbhpjigjehffaaDoor
/- Places in the order; one worker; as data. -/
namespace Go.Proofs.YtlbhpjigjehffaaDoor
open Go.Sim
theorem next_snd (l : List Jb) : (nextE l).2 = decide (0 < l.length) := by
  by_cases h : l.length = 0
  · rw [next_no h, h]; rfl
  · rw [next_yes h, decide_eq_true (by omega)]
theorem next_fst {l : List Jb} (h : 0 < l.length) : (nextE l).1 = (ordS l).getD 0 default := by rw [next_yes (by omega)]
theorem ord_ahead {l : List Jb} {i j : Nat} (hij : i < j) (hj : j < l.length) : aheadP l ((ordS l).getD i default) ((ordS l).getD j default) := srt_lt (ordS_srt (by omega)).1 hij (by rw [ordS_len]; exact hj)
theorem bound_snd (l : List Jb) (w : Int) : (boundE l w).2 = askedE l w := by
  by_cases h : askedE l w = 0
  · rw [bound_yes h, h]
  · rw [bound_no h]
theorem assign_snd (l : List Jb) (w : Int) : (assignE l w).2 = askedE l w := by
  by_cases h : askedE l w = 0
  · rw [assign_yes h, h]
  · rw [assign_no h]
theorem bound_range {l : List Jb} {w : Int} (h : askedE l w = 0) : 0 ≤ (boundE l w).1 ∧ (boundE l w).1 ≤ 268435456 := by
  obtain ⟨h1, h2, h3⟩ := asked_yes h
  rw [bound_yes h]
  have ht := total_range h3 l.length (Nat.le_refl _)
  rw [List.take_length] at ht
  have hl := (jobs_ok h3).1
  have hg : greatC l ≤ 1048576 := great_is (by omega) fun i hi => (jobs_cost h3 hi).2
  have hs : (totalC l + w - 1) / w ≤ totalC l := share_le (by omega) (by
    have := Int.mul_le_mul_of_nonneg_right h1 ht.1
    rwa [Int.one_mul] at this)
  have hg0 := (great_ge (l := l)).1
  dsimp only
  omega
theorem sub_srt {lt : Int → Int → Prop} {a b : List Int} (h : a.Sublist b) : Srt lt b → Srt lt a := by
  induction h with
  | slnil => exact id
  | cons x _ ih => exact fun hb => ih hb.2
  | cons_cons x hs ih => exact fun hb => ⟨fun y hy => hb.1 y (hs.mem hy), ih hb.2⟩
/-- Who is ahead has the smaller place. -/
theorem rank_mono {l : List Jb} {a b : Int} (ha : 0 ≤ a ∧ a < l.length) (hb : 0 ≤ b ∧ b < l.length) (h : aheadP l a b) : rankA l a < rankA l b := by
  have h1 := rank_lt (l := l) (z := a.toNat) (by omega)
  have h2 := rank_lt (l := l) (z := b.toNat) (by omega)
  rw [show ((a.toNat : Nat) : Int) = a by omega] at h1
  rw [show ((b.toNat : Nat) : Int) = b by omega] at h2
  apply Classical.byContradiction
  intro hn
  by_cases e : rankA l a = rankA l b
  · have : a = b := by rw [← h1.2, ← h2.2, e]
    subst this
    exact ahead_irr l _ h
  · have := ord_ahead (l := l) (i := rankA l b) (j := rankA l a) (by omega) h1.1
    rw [h1.2, h2.2] at this
    exact ahead_asy h this
/-- The places written so far. -/
def placeZ (l : List Jb) (z : Nat) : List Int := (List.range l.length).map fun x : Nat => if rankA l (x : Nat) < z then ((rankA l (x : Nat) : Nat) : Int) + 1 else 0
theorem placeZ_len (l : List Jb) (z : Nat) : (placeZ l z).length = l.length := by simp [placeZ]
theorem placeZ_get {l : List Jb} {z x : Nat} (h : x < l.length) : (placeZ l z).getD x default = if rankA l (x : Nat) < z then ((rankA l (x : Nat) : Nat) : Int) + 1 else 0 := by
  unfold placeZ
  rw [List.getD, List.getElem?_map, List.getElem?_range h]; rfl
theorem placeZ_0 (l : List Jb) : placeZ l 0 = List.replicate l.length 0 := by
  apply ext_get
  · simp [placeZ_len]
  · intro j hj
    rw [placeZ_len] at hj
    rw [placeZ_get hj, if_neg (by omega), List.getD, List.getElem?_replicate, if_pos hj]; rfl
theorem getD_set' {b : List Int} {u j : Nat} {y : Int} : (b.set u y).getD j default = if u = j ∧ u < b.length then y else b.getD j default := by
  simp only [List.getD, List.getElem?_set]
  by_cases e : u = j
  · by_cases e2 : u < b.length
    · subst e; simp [e2]
    · subst e; simp [e2]
  · simp [e]
theorem placeZ_step {l : List Jb} {z : Nat} (h : z < l.length) : placeZ l (z + 1) = (placeZ l z).set ((ordS l).getD z default).toNat ((z : Nat) + 1) := by
  have ha := ordS_at h
  have hr := rank_at h
  apply ext_get
  · simp [placeZ_len]
  · intro j hj
    rw [placeZ_len] at hj
    rw [placeZ_get hj]
    by_cases e : ((ordS l).getD z default).toNat = j
    · subst e
      rw [show (((((ordS l).getD z default).toNat : Nat)) : Int) = (ordS l).getD z default by omega, hr, if_pos (by omega), getD_set', if_pos ⟨rfl, by rw [placeZ_len]; exact hj⟩]
    · have e3 : ((placeZ l z).set ((ordS l).getD z default).toNat ((z : Nat) + 1)).getD j default = (placeZ l z).getD j default := by rw [getD_set', if_neg (fun q => e q.1)]
      rw [e3, placeZ_get hj]
      have hj2 := rank_lt hj
      have hne : rankA l (j : Nat) ≠ z := fun q => e (by rw [← q, hj2.2]; omega)
      by_cases e2 : rankA l (j : Nat) < z
      · rw [if_pos e2, if_pos (by omega)]
      · rw [if_neg e2, if_neg (by omega)]
theorem placeZ_new {l : List Jb} {z : Nat} (h : z < l.length) : (placeZ l z).getD ((ordS l).getD z default).toNat default = 0 := by
  have ha := ordS_at h
  have hr := rank_at h
  rw [placeZ_get (by omega), show (((((ordS l).getD z default).toNat : Nat)) : Int) = (ordS l).getD z default by omega, hr, if_neg (by omega)]
theorem placeZ_end {l : List Jb} {x : Int} (h : 0 ≤ x ∧ x < l.length) : (placeZ l l.length).getD x.toNat default = ((rankA l x : Nat) : Int) + 1 := by
  have hr := rank_lt (l := l) (z := x.toNat) (by omega)
  rw [placeZ_get (by omega)]
  rw [show ((x.toNat : Nat) : Int) = x by omega] at hr ⊢
  rw [if_pos hr.1]
abbrev rowsA (l : List Jb) (w : Nat) : List (List Int) := (runA l w (ordS l)).rows
theorem rowsA_in {l : List Jb} {w : Nat} (hw : 1 ≤ w) (j : Nat) : inR l.length ((rowsA l w).getD j default) := by
  have := run_in (l := l) hw (k := (ordS l).length) (Nat.le_refl _) j
  rwa [List.take_length] at this
/-- The numbers of a worker are in order. -/
theorem rowsA_rank {l : List Jb} {w : Nat} (hw : 1 ≤ w) {j k : Nat} (hk : k + 1 < ((rowsA l w).getD j default).length) : rankA l (((rowsA l w).getD j default).getD k default) < rankA l (((rowsA l w).getD j default).getD (k + 1) default) := by
  have h1 := run_sub (l := l) hw (ix := ordS l) (ordS l).length (Nat.le_refl _) j
  rw [List.take_length] at h1
  have hin := rowsA_in (l := l) hw j
  have hn : 1 ≤ l.length := by
    have := hin _ (getD_mem' (show k < _ by omega)); omega
  have hs := sub_srt h1 (ordS_srt hn).1
  exact rank_mono (hin _ (getD_mem' (by omega))) (hin _ (getD_mem' hk)) (srt_lt hs (Nat.lt_succ_self k) hk)
theorem rows_count {l : List Jb} {w : Nat} (hw : 1 ≤ w) : ((rowsA l w).map List.length).sum = l.length := by
  have := (complete_iff.1 (assign_complete (l := l) hw)).length_eq
  rwa [List.length_flatten, iota_len] at this
theorem take_sum_le {a : List Nat} (k : Nat) : (a.take k).sum ≤ a.sum := by
  conv => rhs; rw [← List.take_append_drop k a, List.sum_append]
  omega
def cntR (p : List (List Int)) (i : Nat) : Nat := ((p.take i).map List.length).sum
theorem cntR_step {p : List (List Int)} {i : Nat} (h : i < p.length) : cntR p (i + 1) = cntR p i + (p.getD i default).length := by
  unfold cntR; rw [take_succ h, List.map_append, List.sum_append]; simp
theorem cntR_le {p : List (List Int)} (i : Nat) : cntR p i ≤ (p.map List.length).sum := by
  unfold cntR; rw [List.map_take]; exact take_sum_le i
theorem cntR_end (p : List (List Int)) : cntR p p.length = (p.map List.length).sum := by unfold cntR; rw [List.take_length]
theorem great_total {l : List Jb} (hl : jobsE l = 0) : greatC l ≤ totalC l := by
  have hin : inR l.length (iota l.length l.length) := iota_in _
  rw [total_sum]
  refine great_is (sumC_nonneg hl hin) fun i hi => ?_
  have := cost_le_sum hl hin (i := (i : Nat)) (iota_mem_iff.2 ⟨by omega, by omega⟩)
  simpa [costAt] using this
/-- One worker does all the work. -/
theorem one_span {l : List Jb} (hl : jobsE l = 0) : spanC l (rowsA l 1) = totalC l := by
  have hp := complete_iff.1 (assign_complete (l := l) (w := 1) (Nat.le_refl _))
  have hlen := (runA_len l 1 (ordS l)).1
  obtain ⟨r, hr⟩ : ∃ r, rowsA l 1 = [r] := List.length_eq_one_iff.1 hlen
  have h2 : totalC l = sumC l r := by
    rw [total_sum]
    have : (rowsA l 1).flatten.Perm (iota l.length l.length) := hp
    rw [hr] at this
    rw [← sumC_perm this]; simp
  have h3 : 0 ≤ sumC l r := by
    rw [← h2, total_sum]; exact sumC_nonneg hl (iota_in _)
  rw [hr, h2]
  simp only [spanC, List.foldl_cons, List.foldl_nil]
  omega
theorem one_bound {l : List Jb} (hl : jobsE l = 0) : boundE l 1 = (totalC l, 0) := by
  have h1 := great_total hl
  have hk : askedE l 1 = 0 := by rw [asked_in (by omega) (by omega)]; exact hl
  rw [bound_yes hk, show totalC l + 1 - 1 = totalC l by omega, Int.ediv_one]
  congr 1
  omega
theorem one_assign {l : List Jb} (hl : jobsE l = 0) : assignE l 1 = (rowsA l 1, 0) := by
  have hk : askedE l 1 = 0 := by rw [asked_in (by omega) (by omega)]; exact hl
  rw [assign_yes hk]; rfl
theorem one_spanE {l : List Jb} (hl : jobsE l = 0) : spanE l (rowsA l 1) = (totalC l, 0) := by rw [span_yes hl (assign_complete (Nat.le_refl _)), one_span hl]
theorem span_zero {l : List Jb} (h : l.length = 0) {w : Nat} (hw : 1 ≤ w) : spanC l (rowsA l w) = 0 := by
  have hs := span_ge (l := l) (p := rowsA l w)
  have : spanC l (rowsA l w) ≤ 0 := span_is (Int.le_refl _) fun x hx => by
    obtain ⟨i, _, rfl⟩ := mem_getD hx
    have hin := rowsA_in (l := l) hw i
    have : (rowsA l w).getD i default = [] := by
      match hr : (rowsA l w).getD i default with
      | [] => rfl
      | y :: r => rw [hr] at hin; have := hin y List.mem_cons_self; omega
    rw [this]; simp [sumC]
  omega
theorem bound_holds {l : List Jb} {p : List (List Int)} (hl : jobsE l = 0) (hw : 1 ≤ p.length) (hb : (boundE l p.length).1 = max (greatC l) ((totalC l + p.length - 1) / p.length)) : (!decide ((spanE l p).2 = 0) || decide ((boundE l p.length).1 ≤ (spanE l p).1)) = true := by
  cases hc : completeB p l.length with
  | false => rw [span_bad hl hc]; rfl
  | true =>
    rw [span_yes hl hc, hb, decide_eq_true (bound_least hl hw hc)]
    simp
end Go.Proofs.YtlbhpjigjehffaaDoor
set_option linter.unusedSimpArgs false
set_option maxRecDepth 8000
set_option linter.unusedVariables false
namespace Go.Proofs.YtlbhpjigjehffaaDoor
open Go.Sim
theorem SchedBounded_ok (l : List Jb) (p : List (List Int)) : CallT Tryd.prog 6 [Rp.slice eJ l, Rp.slice eII p] [kwG] (.one (Rp.bool true)) := by
  refine W.enter (fn := Tryd.f6) (n := 106) Tryd.func6 rfl Tryd.ntmps6 rfl (fun w₀ C₀ => ?_)
  simp only [argS]
  refine W.fact 1 rfl slice_fact fun hpl => ?_
  refine W.seq ?_
  refine W.region ?_
  refine L.op1 rfl rfl (GSpec.plain rfl (spec_assign rfl Get.cbool)) ?_
  refine L.nil ?_
  refine N.thenW ?_
  refine W.seq ?_
  refine W.seq ?_
  refine W.region ?_
  refine L.op1 rfl rfl (GSpec.plain rfl (spec_move rfl (Get.tmp rfl))) ?_
  refine L.op1 rfl rfl (GSpec.plain rfl (spec_call rfl Tryd.call9 (few_ok _) (.cons (Get.tmp rfl) .nil))) ?_
  refine L.op1 rfl rfl (GSpec.plain rfl (spec_not rfl (Get.tmp rfl))) ?_
  refine L.op1 rfl rfl (GSpec.plain rfl (spec_move rfl (Get.tmp rfl))) ?_
  refine L.op1 rfl rfl (GSpec.guard rfl rfl rfl fun hg => (spec_move rfl (Get.tmp rfl))) ?_
  refine L.op1 rfl rfl (GSpec.guard rfl rfl rfl fun hg => (spec_len rfl Tryd.underlying34 (Get.opt rfl hg))) ?_
  refine L.op1 rfl rfl (GSpec.guard rfl rfl rfl fun hg => (spec_gtr rfl (Get.opt rfl hg) (Get.cint rfl))) ?_
  refine L.op1 rfl rfl (GSpec.plain rfl (spec_or rfl (Get.tmp rfl) (fun hb => (Get.opt rfl hb)))) ?_
  refine L.nil ?_
  refine N.thenW ?_
  refine W.cond (Get.tmp rfl) (fun h1 => ?_) (fun h1 => ?_)
  · refine W.seq ?_
    refine W.region ?_
    refine L.op1 rfl rfl (GSpec.plain rfl (spec_callG (k := 0) rfl Tryd.call10 rfl (awake_ok ) .nil)) ?_
    refine L.op1 rfl rfl (GSpec.plain rfl (spec_assign rfl (Get.tmp rfl))) ?_
    refine L.nil ?_
    refine N.thenW ?_
    refine W.keep (.cons (t := 0) rfl (.cons (t := 1) rfl (.cons (t := 4) rfl .nil))) .refl ?_
    refine W.ret ?_
    refine N.ret () rfl (.tmp (t := 4) (Get.tmp rfl) .nil) (res1 (eqB ?_)) .nil (fun _ _ h => h)
    rfl
  · have hq : fewB l = true ∧ p.length ≤ 64 := by have h := h1; simp only [decide_eq_true_eq, decide_eq_false_iff_not, Bool.and_eq_true, Bool.or_eq_true, Bool.and_eq_false_iff, Bool.or_eq_false_iff, Bool.not_eq_true', Bool.not_eq_false', Bool.not_true, Bool.not_false, Int.not_lt, Int.not_le] at h; exact ⟨by simpa using h.1, by omega⟩
    have h30 := few_len hq.1
    have hp64 := hq.2
    refine W.skip ?_
    refine N.thenW ?_
    refine W.keep (.cons (t := 0) rfl (.cons (t := 1) rfl (.cons (t := 4) rfl .nil))) .refl ?_
    refine W.seq ?_
    refine W.region ?_
    refine L.op1 rfl rfl (GSpec.plain rfl (spec_move rfl (Get.tmp rfl))) ?_
    refine L.op1 rfl rfl (GSpec.plain rfl (spec_move rfl (Get.tmp rfl))) ?_
    refine L.op1 rfl rfl (GSpec.plain rfl (spec_len rfl Tryd.underlying34 (Get.tmp rfl))) ?_
    refine L.op1 rfl rfl (GSpec.plain rfl (spec_callG (k := 0) rfl Tryd.call20 rfl (bound_ok _ _) (.cons (Get.tmp rfl) (.cons (Get.tmp rfl) .nil)))) ?_
    refine L.op1 rfl rfl (GSpec.plain rfl (spec_move rfl (Get.tmp rfl))) ?_
    refine L.op1 rfl rfl (GSpec.plain rfl (spec_extract rfl (Get.tmp rfl) rfl)) ?_
    refine L.op1 rfl rfl (GSpec.plain rfl (spec_extract rfl (Get.tmp rfl) rfl)) ?_
    refine L.op1 rfl rfl (GSpec.plain rfl (spec_assign rfl (Get.tmp rfl))) ?_
    refine L.op1 rfl rfl (GSpec.plain rfl (spec_assign rfl (Get.tmp rfl))) ?_
    refine L.nil ?_
    refine N.thenW ?_
    refine W.keep (.cons (t := 0) rfl (.cons (t := 1) rfl (.cons (t := 4) rfl (.cons (t := 5) rfl (.cons (t := 6) rfl .nil))))) .refl ?_
    refine W.seq ?_
    refine W.region ?_
    refine L.op1 rfl rfl (GSpec.plain rfl (spec_move rfl (Get.tmp rfl))) ?_
    refine L.op1 rfl rfl (GSpec.plain rfl (spec_move rfl (Get.tmp rfl))) ?_
    refine L.op1 rfl rfl (GSpec.plain rfl (spec_len rfl Tryd.underlying34 (Get.tmp rfl))) ?_
    refine L.op1 rfl rfl (GSpec.plain rfl (spec_callG (k := 0) rfl Tryd.call18 rfl (assign_ok _ _ (by first | omega | decide)) (.cons (Get.tmp rfl) (.cons (Get.tmp rfl) .nil)))) ?_
    refine L.op1 rfl rfl (GSpec.plain rfl (spec_move rfl (Get.tmp rfl))) ?_
    refine L.op1 rfl rfl (GSpec.plain rfl (spec_extract rfl (Get.tmp rfl) rfl)) ?_
    refine L.op1 rfl rfl (GSpec.plain rfl (spec_extract rfl (Get.tmp rfl) rfl)) ?_
    refine L.op1 rfl rfl (GSpec.plain rfl (spec_assign rfl (Get.tmp rfl))) ?_
    refine L.op1 rfl rfl (GSpec.plain rfl (spec_assign rfl (Get.tmp rfl))) ?_
    refine L.nil ?_
    refine N.thenW ?_
    refine W.keep (.cons (t := 0) rfl (.cons (t := 1) rfl (.cons (t := 4) rfl (.cons (t := 5) rfl (.cons (t := 6) rfl (.cons (t := 7) rfl (.cons (t := 8) rfl .nil))))))) .refl ?_
    refine W.seq ?_
    refine W.seq ?_
    refine W.region ?_
    refine L.op1 rfl rfl (GSpec.plain rfl (spec_move rfl (Get.tmp rfl))) ?_
    refine L.op1 rfl rfl (GSpec.plain rfl (spec_neq rfl (Get.tmp rfl) (Get.cint rfl))) ?_
    refine L.op1 rfl rfl (GSpec.plain rfl (spec_move rfl (Get.tmp rfl))) ?_
    refine L.op1 rfl rfl (GSpec.guard rfl rfl rfl fun hg => (spec_move rfl (Get.tmp rfl))) ?_
    refine L.op1 rfl rfl (GSpec.guard rfl rfl rfl fun hg => (spec_neq rfl (Get.opt rfl hg) (Get.cint rfl))) ?_
    refine L.op1 rfl rfl (GSpec.plain rfl (spec_or rfl (Get.tmp rfl) (fun hb => (Get.opt rfl hb)))) ?_
    refine L.nil ?_
    refine N.thenW ?_
    refine W.cond (Get.tmp rfl) (fun h2 => ?_) (fun h2 => ?_)
    · have q0 : askedE l p.length ≠ 0 := by have h := h2; simp only [bound_snd, assign_snd] at h; simpa using h
      refine W.seq ?_
      refine W.region ?_
      refine L.op1 rfl rfl (GSpec.plain rfl (spec_move rfl (Get.tmp rfl))) ?_
      refine L.op1 rfl rfl (GSpec.plain rfl (spec_move rfl (Get.tmp rfl))) ?_
      refine L.op1 rfl rfl (GSpec.plain rfl (spec_eql rfl (Get.tmp rfl) (Get.tmp rfl))) ?_
      refine L.op1 rfl rfl (GSpec.plain rfl (spec_move rfl (Get.tmp rfl))) ?_
      refine L.op1 rfl rfl (GSpec.guard rfl rfl rfl fun hg => (spec_move rfl (Get.tmp rfl))) ?_
      refine L.op1 rfl rfl (GSpec.guard rfl rfl rfl fun hg => (spec_eql rfl (Get.opt rfl hg) (Get.cint rfl))) ?_
      refine L.op1 rfl rfl (GSpec.plain rfl (spec_and rfl (Get.tmp rfl) (fun hb => (Get.opt rfl hb)))) ?_
      refine L.op1 rfl rfl (GSpec.plain rfl (spec_move rfl (Get.tmp rfl))) ?_
      refine L.op1 rfl rfl (GSpec.guard rfl rfl rfl fun hg => (spec_move rfl (Get.tmp rfl))) ?_
      refine L.op1 rfl rfl (GSpec.guard rfl rfl rfl fun hg => (spec_len rfl Tryd.underlying34 (Get.opt rfl hg))) ?_
      refine L.op1 rfl rfl (GSpec.guard rfl rfl rfl fun hg => (spec_eql rfl (Get.opt rfl hg) (Get.cint rfl))) ?_
      refine L.op1 rfl rfl (GSpec.plain rfl (spec_and rfl (Get.tmp rfl) (fun hb => (Get.opt rfl hb)))) ?_
      refine L.op1 rfl rfl (GSpec.plain rfl (spec_move rfl (Get.tmp rfl))) ?_
      refine L.op1 rfl rfl (GSpec.guard rfl rfl rfl fun hg => (spec_callG (k := 0) rfl Tryd.call10 rfl (awake_ok ) .nil)) ?_
      refine L.op1 rfl rfl (GSpec.plain rfl (spec_and rfl (Get.tmp rfl) (fun hb => (Get.opt rfl hb)))) ?_
      refine L.op1 rfl rfl (GSpec.plain rfl (spec_assign rfl (Get.tmp rfl))) ?_
      refine L.nil ?_
      refine N.thenW ?_
      refine W.keep (.cons (t := 0) rfl (.cons (t := 1) rfl (.cons (t := 4) rfl (.cons (t := 5) rfl (.cons (t := 7) rfl .nil))))) .refl ?_
      refine W.ret ?_
      refine N.ret () rfl (.tmp (t := 4) (Get.tmp rfl) .nil) (res1 (eqB ?_)) .nil (fun _ _ h => h)
      rw [bound_snd, assign_snd, bound_no q0, assign_no q0]; simp
    · have q0 : askedE l p.length = 0 := by have h := h2; simp only [bound_snd, assign_snd] at h; simpa using h
      obtain ⟨hw1, hw2, hok⟩ := asked_yes q0
      have hbr := bound_range q0
      have hw0 : 1 ≤ p.length := by omega
      have hac := assign_complete (l := l) hw0
      have hsp : spanE l (assignE l p.length).1 = (spanC l (rowsA l p.length), 0) := by rw [assign_yes q0]; exact span_yes hok hac
      have hb1 : (boundE l p.length).1 = max (greatC l) ((totalC l + p.length - 1) / p.length) := by rw [bound_yes q0]
      have hge : (boundE l p.length).1 ≤ spanC l (rowsA l p.length) := by rw [hb1]; have h := bound_least hok (by rw [(runA_len l p.length (ordS l)).1]; exact hw0) hac; rw [(runA_len l p.length (ordS l)).1] at h; exact h
      have hlt : 1 ≤ l.length → spanC l (rowsA l p.length) < 2 * (boundE l p.length).1 := fun h => by rw [hb1]; exact assign_short hok hw0 h
      have h00 : l.length = 0 → spanC l (rowsA l p.length) = 0 := fun h => span_zero h hw0
      refine W.skip ?_
      refine N.thenW ?_
      refine W.keep (.cons (t := 0) rfl (.cons (t := 1) rfl (.cons (t := 4) rfl (.cons (t := 5) rfl (.cons (t := 7) rfl .nil))))) .refl ?_
      refine W.seq ?_
      refine W.region ?_
      refine L.op1 rfl rfl (GSpec.plain rfl (spec_move rfl (Get.tmp rfl))) ?_
      refine L.op1 rfl rfl (GSpec.plain rfl (spec_move rfl (Get.tmp rfl))) ?_
      refine L.op1 rfl rfl (GSpec.plain rfl (spec_callG (k := 0) rfl Tryd.call23 rfl (span_ok _ _) (.cons (Get.tmp rfl) (.cons (Get.tmp rfl) .nil)))) ?_
      refine L.op1 rfl rfl (GSpec.plain rfl (spec_move rfl (Get.tmp rfl))) ?_
      refine L.op1 rfl rfl (GSpec.plain rfl (spec_extract rfl (Get.tmp rfl) rfl)) ?_
      refine L.op1 rfl rfl (GSpec.plain rfl (spec_extract rfl (Get.tmp rfl) rfl)) ?_
      refine L.op1 rfl rfl (GSpec.plain rfl (spec_assign rfl (Get.tmp rfl))) ?_
      refine L.op1 rfl rfl (GSpec.plain rfl (spec_assign rfl (Get.tmp rfl))) ?_
      refine L.nil ?_
      refine N.thenW ?_
      refine W.keep (.cons (t := 0) rfl (.cons (t := 1) rfl (.cons (t := 4) rfl (.cons (t := 5) rfl (.cons (t := 9) rfl (.cons (t := 10) rfl .nil)))))) .refl ?_
      refine W.seq ?_
      refine W.seq ?_
      refine W.region ?_
      refine L.op1 rfl rfl (GSpec.plain rfl (spec_move rfl (Get.tmp rfl))) ?_
      refine L.op1 rfl rfl (GSpec.plain rfl (spec_neq rfl (Get.tmp rfl) (Get.cint rfl))) ?_
      refine L.op1 rfl rfl (GSpec.plain rfl (spec_move rfl (Get.tmp rfl))) ?_
      refine L.op1 rfl rfl (GSpec.guard rfl rfl rfl fun hg => (spec_move rfl (Get.tmp rfl))) ?_
      refine L.op1 rfl rfl (GSpec.guard rfl rfl rfl fun hg => (spec_move rfl (Get.tmp rfl))) ?_
      refine L.op1 rfl rfl (GSpec.guard rfl rfl rfl fun hg => (spec_lss rfl (Get.opt rfl hg) (Get.opt rfl hg))) ?_
      refine L.op1 rfl rfl (GSpec.plain rfl (spec_or rfl (Get.tmp rfl) (fun hb => (Get.opt rfl hb)))) ?_
      refine L.op1 rfl rfl (GSpec.plain rfl (spec_move rfl (Get.tmp rfl))) ?_
      refine L.op1 rfl rfl (GSpec.guard rfl rfl rfl fun hg => (spec_move rfl (Get.tmp rfl))) ?_
      refine L.op1 rfl rfl (GSpec.guard rfl rfl rfl fun hg => (spec_len rfl Tryd.underlying22 (Get.opt rfl hg))) ?_
      refine L.op1 rfl rfl (GSpec.guard rfl rfl rfl fun hg => (spec_gtr rfl (Get.opt rfl hg) (Get.cint rfl))) ?_
      refine L.op1 rfl rfl (GSpec.guard rfl rfl rfl fun hg => (spec_move rfl (Get.opt rfl hg))) ?_
      refine L.op1 rfl rfl (GSpec.guardOpt rfl rfl rfl fun hg => (spec_move rfl (Get.tmp rfl))) ?_
      refine L.op1 rfl rfl (GSpec.guardOpt rfl rfl rfl fun hg => (spec_move rfl (Get.tmp rfl))) ?_
      first | refine L.op1 rfl rfl (GSpec.guardOpt rfl rfl rfl fun hg => (fit_i64 (by (first | omega | (simp only [hsp] at *; omega))) (by (first | omega | (simp only [hsp] at *; omega))) (spec_mul rfl (Get.cint rfl) (Get.opt rfl hg)))) ?_ | refine L.op1 rfl rfl (GSpec.guardOpt rfl rfl rfl fun hg => (spec_mul rfl (Get.cint rfl) (Get.opt rfl hg))) ?_
      refine L.op1 rfl rfl (GSpec.guardOpt rfl rfl rfl fun hg => (spec_geq rfl (Get.opt rfl hg) (Get.opt rfl hg))) ?_
      refine L.op1 rfl rfl (GSpec.guard rfl rfl rfl fun hg => (spec_and rfl (Get.opt rfl hg) (fun hb => (Get.opt rfl ⟨hg, hb⟩)))) ?_
      refine L.op1 rfl rfl (GSpec.plain rfl (spec_or rfl (Get.tmp rfl) (fun hb => (Get.opt rfl hb)))) ?_
      refine L.op1 rfl rfl (GSpec.plain rfl (spec_move rfl (Get.tmp rfl))) ?_
      refine L.op1 rfl rfl (GSpec.guard rfl rfl rfl fun hg => (spec_move rfl (Get.tmp rfl))) ?_
      refine L.op1 rfl rfl (GSpec.guard rfl rfl rfl fun hg => (spec_len rfl Tryd.underlying22 (Get.opt rfl hg))) ?_
      refine L.op1 rfl rfl (GSpec.guard rfl rfl rfl fun hg => (spec_eql rfl (Get.opt rfl hg) (Get.cint rfl))) ?_
      refine L.op1 rfl rfl (GSpec.guard rfl rfl rfl fun hg => (spec_move rfl (Get.opt rfl hg))) ?_
      refine L.op1 rfl rfl (GSpec.guardOpt rfl rfl rfl fun hg => (spec_move rfl (Get.tmp rfl))) ?_
      refine L.op1 rfl rfl (GSpec.guardOpt rfl rfl rfl fun hg => (spec_neq rfl (Get.opt rfl hg) (Get.cint rfl))) ?_
      refine L.op1 rfl rfl (GSpec.guard rfl rfl rfl fun hg => (spec_and rfl (Get.opt rfl hg) (fun hb => (Get.opt rfl ⟨hg, hb⟩)))) ?_
      refine L.op1 rfl rfl (GSpec.plain rfl (spec_or rfl (Get.tmp rfl) (fun hb => (Get.opt rfl hb)))) ?_
      refine L.nil ?_
      refine N.thenW ?_
      refine W.keep (.cons (t := 0) rfl (.cons (t := 1) rfl (.cons (t := 4) rfl (.cons (t := 5) rfl (.cons (t := 89) rfl .nil))))) .refl ?_
      refine W.cond (Get.tmp rfl) (fun h3 => ?_) (fun h3 => ?_)
      · refine W.seq ?_
        refine W.region ?_
        refine L.op1 rfl rfl (GSpec.plain rfl (spec_assign rfl Get.cbool)) ?_
        refine L.nil ?_
        refine N.thenW ?_
        refine W.ret ?_
        refine N.ret () rfl (.tmp (t := 4) (Get.tmp rfl) .nil) (res1 (eqB ?_)) .nil (fun _ _ h => h)
        exfalso; have h := h3; rw [hsp] at h; rw [decide_eq_true (rfl : (0 : Int) = 0), Bool.not_true, Bool.false_or] at h; simp only [decide_eq_true_eq, decide_eq_false_iff_not, Bool.and_eq_true, Bool.or_eq_true, Bool.and_eq_false_iff, Bool.or_eq_false_iff, Bool.not_eq_true', Bool.not_eq_false', Bool.not_true, Bool.not_false, Int.not_lt, Int.not_le] at h; omega
      · have hfin : (!decide ((spanE l p).2 = 0) || decide ((boundE l p.length).1 ≤ (spanE l p).1)) = true := bound_holds hok hw0 hb1
        refine W.skip ?_
        refine N.thenW ?_
        refine W.seq ?_
        refine W.region ?_
        refine L.op1 rfl rfl (GSpec.plain rfl (spec_move rfl (Get.tmp rfl))) ?_
        refine L.op1 rfl rfl (GSpec.plain rfl (spec_move rfl (Get.tmp rfl))) ?_
        refine L.op1 rfl rfl (GSpec.plain rfl (spec_callG (k := 0) rfl Tryd.call23 rfl (span_ok _ _) (.cons (Get.tmp rfl) (.cons (Get.tmp rfl) .nil)))) ?_
        refine L.op1 rfl rfl (GSpec.plain rfl (spec_move rfl (Get.tmp rfl))) ?_
        refine L.op1 rfl rfl (GSpec.plain rfl (spec_extract rfl (Get.tmp rfl) rfl)) ?_
        refine L.op1 rfl rfl (GSpec.plain rfl (spec_extract rfl (Get.tmp rfl) rfl)) ?_
        refine L.op1 rfl rfl (GSpec.plain rfl (spec_assign rfl (Get.tmp rfl))) ?_
        refine L.op1 rfl rfl (GSpec.plain rfl (spec_assign rfl (Get.tmp rfl))) ?_
        refine L.nil ?_
        refine N.thenW ?_
        refine W.keep (.cons (t := 4) rfl (.cons (t := 5) rfl (.cons (t := 11) rfl (.cons (t := 12) rfl .nil)))) .refl ?_
        refine W.seq ?_
        refine W.region ?_
        refine L.op1 rfl rfl (GSpec.plain rfl (spec_move rfl (Get.tmp rfl))) ?_
        refine L.op1 rfl rfl (GSpec.plain rfl (spec_neq rfl (Get.tmp rfl) (Get.cint rfl))) ?_
        refine L.op1 rfl rfl (GSpec.plain rfl (spec_move rfl (Get.tmp rfl))) ?_
        refine L.op1 rfl rfl (GSpec.guard rfl rfl rfl fun hg => (spec_move rfl (Get.tmp rfl))) ?_
        refine L.op1 rfl rfl (GSpec.guard rfl rfl rfl fun hg => (spec_move rfl (Get.tmp rfl))) ?_
        refine L.op1 rfl rfl (GSpec.guard rfl rfl rfl fun hg => (spec_geq rfl (Get.opt rfl hg) (Get.opt rfl hg))) ?_
        refine L.op1 rfl rfl (GSpec.plain rfl (spec_or rfl (Get.tmp rfl) (fun hb => (Get.opt rfl hb)))) ?_
        refine L.op1 rfl rfl (GSpec.plain rfl (spec_move rfl (Get.tmp rfl))) ?_
        refine L.op1 rfl rfl (GSpec.guard rfl rfl rfl fun hg => (spec_callG (k := 0) rfl Tryd.call10 rfl (awake_ok ) .nil)) ?_
        refine L.op1 rfl rfl (GSpec.plain rfl (spec_and rfl (Get.tmp rfl) (fun hb => (Get.opt rfl hb)))) ?_
        refine L.op1 rfl rfl (GSpec.plain rfl (spec_assign rfl (Get.tmp rfl))) ?_
        refine L.nil ?_
        refine N.thenW ?_
        refine W.keep (.cons (t := 4) rfl .nil) .refl ?_
        refine W.ret ?_
        refine N.ret () rfl (.tmp (t := 4) (Get.tmp rfl) .nil) (res1 (eqB ?_)) .nil (fun _ _ h => h)
        rw [hfin]; rfl

end Go.Proofs.YtlbhpjigjehffaaDoor
