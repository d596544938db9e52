/- The solutions in order: how many there are below each assignment; Nth and Index are inverse to each other. -/
import Derived.Test.YtcpkjpkjahgobaaCtP
namespace Go.Proofs.Ytcpkjpkjahgobaa
open Go.Sim

theorem eb_at {l : List Node} {n : Int} {β β' : Int → Bool} : ∀ (m : Nat) (f : Int) (z : Nat), f.toNat ≤ m → At l n f z → (∀ i : Int, z ≤ i → i < n → β i = β' i) → eb l β f = eb l β' f := by
  intro m
  induction m with
  | zero => intro f z hm h _; have := h.fit.ok.1; have : f = 0 := by omega
            subst this; rw [eb_0, eb_0]
  | succ m ih =>
    intro f z hm h hb
    by_cases h1 : 1 < f
    · obtain ⟨e1, e2, e3, e4, e5⟩ := h.fit.lvl_node h1
      have hl := h.lvl
      have hk := h.fit.good.lohi h.fit.ok h1
      have b1 := hk.1.1; have b2 := hk.2.1.1
      have h20 : lev l f ≠ 20 := by have := h.fit.n20; unfold lev; omega
      have i1 := ih (nd l f).lo ((nd l f).level.toNat + 1) (by omega) ⟨h.fit.lo h1, by omega⟩ (fun i hi hn => hb i (by omega) hn)
      have i2 := ih (nd l f).hi ((nd l f).level.toNat + 1) (by omega) ⟨h.fit.hi h1, by omega⟩ (fun i hi hn => hb i (by omega) hn)
      rw [eb_node h.fit.good h.fit.ok h20, eb_node h.fit.good h.fit.ok h20, i1, i2, hb (lev l f) (by unfold lev; omega) (by unfold lev; omega)]
    · have := h.fit.ok.1
      have : f = 0 ∨ f = 1 := by omega
      rcases this with rfl | rfl
      · rw [eb_0, eb_0]
      · rw [eb_1, eb_1]
theorem branch_eb {l : List Node} {n f : Int} {z : Nat} {β : Int → Bool} (h : At l n f z) (hz : (z : Int) < n) : eb l β (branchD l f z (β z)) = eb l β f := by
  by_cases hl : (nd l f).level = z
  · have h1 := h.inner hz hl
    rw [branch_kid h hz hl, eb_node h.fit.good h.fit.ok (fun e => by unfold lev at e; have := h.fit.n20; omega)]
    unfold lev; rw [hl]
    cases β z <;> rfl
  · rw [branch_same h hz hl]
def bet (N m : Nat) (i : Int) : Bool := decide (m / 2 ^ (N - 1 - i.toNat) % 2 = 1)
def ev2 (l : List Node) (N m : Nat) (f : Int) : Bool := eb l (bet N m) f
def rank (l : List Node) (N : Nat) (f : Int) (m : Nat) : Nat := (List.range m).countP fun m' => ev2 l N m' f
theorem rank_0 (l : List Node) (N : Nat) (f : Int) : rank l N f 0 = 0 := rfl
theorem rank_succ (l : List Node) (N : Nat) (f : Int) (m : Nat) : rank l N f (m + 1) = rank l N f m + (if ev2 l N m f = true then 1 else 0) := by
  unfold rank; rw [List.range_succ, List.countP_append, List.countP_singleton]
theorem rank_le (l : List Node) (N : Nat) (f : Int) (m : Nat) : rank l N f m ≤ m := by
  have := List.countP_le_length (p := fun m' => ev2 l N m' f) (l := List.range m)
  rwa [List.length_range] at this
theorem rank_mono (l : List Node) (N : Nat) (f : Int) {m : Nat} : ∀ d, rank l N f m ≤ rank l N f (m + d)
  | 0 => Nat.le_refl _
  | d + 1 => by rw [← Nat.add_assoc, rank_succ]; have := rank_mono l N f (m := m) d; omega
theorem rank_lt {l : List Node} {N : Nat} {f : Int} {m M : Nat} (h : m < M) (he : ev2 l N m f = true) : rank l N f m < rank l N f M := by
  have h1 := rank_succ l N f m
  rw [if_pos he] at h1
  have h2 := rank_mono l N f (m := m + 1) (M - (m + 1))
  rw [show m + 1 + (M - (m + 1)) = M by omega] at h2
  omega
theorem bet_shift {N z m : Nat} {i : Int} (hz : z < N) (hm : 2 ^ (N - z - 1) ≤ m) (hi : ((z + 1 : Nat) : Int) ≤ i) (hn : i < N) : bet N m i = bet N (m - 2 ^ (N - z - 1)) i := by
  unfold bet
  obtain ⟨d, hd⟩ : ∃ d, N - z - 1 = (N - 1 - i.toNat) + (d + 1) := ⟨N - z - 1 - (N - 1 - i.toNat) - 1, by omega⟩
  have e : m = (m - 2 ^ (N - z - 1)) + 2 ^ (N - 1 - i.toNat) * 2 ^ (d + 1) := by rw [← Nat.pow_add, ← hd]; omega
  have hp : 0 < 2 ^ (N - 1 - i.toNat) := Nat.pow_pos (by decide)
  have e2 : m / 2 ^ (N - 1 - i.toNat) = (m - 2 ^ (N - z - 1)) / 2 ^ (N - 1 - i.toNat) + 2 ^ (d + 1) := by
    conv => lhs; rw [e]
    rw [Nat.add_mul_div_left _ _ hp]
  rw [e2, Nat.pow_succ]
  congr 1
  rw [Nat.add_mul_mod_self_right]
theorem bet_lo {N z m : Nat} (hz : z < N) (hm : m < 2 ^ (N - z - 1)) : bet N m z = false := by
  unfold bet
  rw [show N - 1 - (z : Int).toNat = N - z - 1 by omega, Nat.div_eq_of_lt hm]; rfl
theorem bet_hi {N z m : Nat} (hz : z < N) (hm : 2 ^ (N - z - 1) ≤ m) (hm2 : m < 2 ^ (N - z)) : bet N m z = true := by
  unfold bet
  have e : 2 ^ (N - z) = 2 ^ (N - z - 1) * 2 := by rw [← Nat.pow_succ]; congr 1; omega
  have : m / 2 ^ (N - z - 1) = 1 := by
    apply Nat.div_eq_of_lt_le
    · omega
    · rw [Nat.add_mul]; omega
  rw [show N - 1 - (z : Int).toNat = N - z - 1 by omega, this]; rfl
section
variable {l : List Node} {n f : Int} {z : Nat}
theorem half_lo (h : At l n f z) (hz : (z : Int) < n) {m : Nat} (hm : m < 2 ^ (n.toNat - z - 1)) : ev2 l n.toNat m f = ev2 l n.toNat m (branchD l f z false) := by
  unfold ev2
  rw [← branch_eb (β := bet n.toNat m) h hz, bet_lo (by omega) hm]
theorem half_hi (h : At l n f z) (hz : (z : Int) < n) {m : Nat} (hm : 2 ^ (n.toNat - z - 1) ≤ m) (hm2 : m < 2 ^ (n.toNat - z)) : ev2 l n.toNat m f = ev2 l n.toNat (m - 2 ^ (n.toNat - z - 1)) (branchD l f z true) := by
  unfold ev2
  rw [← branch_eb (β := bet n.toNat m) h hz, bet_hi (by omega) hm hm2]
  exact eb_at _ _ (z + 1) (Nat.le_refl _) (h.branch hz true) fun i hi hn => bet_shift (by omega) hm hi (by omega)
theorem pow_half {N : Nat} (hz : z < N) : 2 ^ (N - z) = 2 ^ (N - z - 1) + 2 ^ (N - z - 1) := by
  rw [show N - z = (N - z - 1) + 1 by omega, Nat.pow_succ, Nat.add_sub_cancel]; omega
theorem rank_lo (h : At l n f z) (hz : (z : Int) < n) {m : Nat} (hm : m ≤ 2 ^ (n.toNat - z - 1)) : rank l n.toNat f m = rank l n.toNat (branchD l f z false) m := by
  unfold rank
  refine List.countP_congr fun x hx => ?_
  rw [half_lo h hz (by have := List.mem_range.1 hx; omega)]
theorem rank_hi (h : At l n f z) (hz : (z : Int) < n) {m : Nat} (hm : 2 ^ (n.toNat - z - 1) ≤ m) (hm2 : m ≤ 2 ^ (n.toNat - z)) :
    rank l n.toNat f m = rank l n.toNat (branchD l f z false) (2 ^ (n.toNat - z - 1)) + rank l n.toNat (branchD l f z true) (m - 2 ^ (n.toNat - z - 1)) := by
  rw [← rank_lo h hz (Nat.le_refl _)]
  unfold rank
  conv => lhs; rw [show m = 2 ^ (n.toNat - z - 1) + (m - 2 ^ (n.toNat - z - 1)) by omega, List.range_add]
  rw [List.countP_append, List.countP_map]
  congr 1
  refine List.countP_congr fun x hx => ?_
  have := List.mem_range.1 hx
  simp only [Function.comp]
  rw [half_hi h hz (by omega) (by omega), Nat.add_sub_cancel_left]
theorem from_branch (h : At l n f z) (hz : (z : Int) < n) : fromD l n f z = fromD l n (branchD l f z false) (z + 1 : Nat) + fromD l n (branchD l f z true) (z + 1 : Nat) := by
  by_cases hl : (nd l f).level = z
  · have h1 := h.inner hz hl
    rw [branch_kid h hz hl, branch_kid h hz hl, from_node h.fit h1 (by omega) (by omega), hl]
    simp
  · have hb := (h.branch hz false).lvl
    rw [branch_same h hz hl] at hb
    rw [branch_same h hz hl, branch_same h hz hl]
    unfold fromD
    rw [show (lvl l n f - (z : Int)).toNat = (lvl l n f - ((z + 1 : Nat) : Int)).toNat + 1 by omega, Int.pow_succ]
    rw [← Int.mul_assoc]; omega
end
theorem rank_all {l : List Node} {n : Int} : ∀ (d : Nat) (f : Int) (z : Nat), At l n f z → n.toNat = z + d → (rank l n.toNat f (2 ^ d) : Int) = fromD l n f z := by
  intro d
  induction d with
  | zero =>
    intro f z h hd
    have hn := h.fit.n0
    have hl := h.lvl; have hv := h.fit.lvl0
    have h2 : f < 2 := by
      refine Int.not_le.1 fun hle => ?_
      have := h.fit.lvl_node (by omega); omega
    have e : lvl l n f = n := h.fit.lvl_end h2
    have h0 := h.fit.ok.1
    have : f = 0 ∨ f = 1 := by omega
    unfold fromD
    rw [e, show (n - (z : Int)).toNat = 0 by omega, Nat.pow_zero, rank_succ, rank_0]
    rcases this with rfl | rfl
    · unfold ev2 below; rw [eb_0, fold_end (by decide)]; simp
    · unfold ev2 below; rw [eb_1, fold_end (by decide)]; simp
  | succ d ih =>
    intro f z h hd
    have hn := h.fit.n0
    have hz : (z : Int) < n := by omega
    have e1 : n.toNat - z - 1 = d := by omega
    have e2 : n.toNat - z = d + 1 := by omega
    have hh := rank_hi h hz (m := 2 ^ (d + 1)) (by rw [e1, Nat.pow_succ]; omega) (by rw [e2]; exact Nat.le_refl _)
    rw [e1, show 2 ^ (d + 1) - 2 ^ d = 2 ^ d by rw [Nat.pow_succ]; omega] at hh
    rw [hh, from_branch h hz, ← ih _ (z + 1) (h.branch hz false) (by omega), ← ih _ (z + 1) (h.branch hz true) (by omega)]
    push_cast; rfl
def asgD (k n : Int) : List Bool := (List.range n.toNat).map fun i => decide (k / 2 ^ (n - 1 - (i : Nat)).toNat % 2 = 1)
theorem asg_get {m : Nat} {n : Int} {z : Nat} (hz : (z : Int) < n) : (asgD (m : Nat) n).getD z default = bet n.toNat m z := by
  unfold asgD bet
  rw [List.getD_eq_getElem?_getD, List.getElem?_map, List.getElem?_range (by omega)]
  simp only [Option.map_some, Option.getD_some]
  have e : (n - 1 - (z : Int)).toNat = n.toNat - 1 - (z : Int).toNat := by omega
  rw [e]
  rw [Bool.eq_iff_iff, decide_eq_true_eq, decide_eq_true_eq]
  constructor
  · intro h; exact_mod_cast h
  · intro h; exact_mod_cast h
theorem asg_len (k n : Int) : (asgD k n).length = n.toNat := by simp [asgD]
theorem asg_eval {l : List Node} {n f : Int} (h : FitP l f n) {m : Nat} : evalD l f (asgD (m : Nat) n) = ev2 l n.toNat m f := by
  rw [eval_eb h.good h.ok]
  refine eb_at _ f 0 (Nat.le_refl _) (.start h) fun i hi hn => ?_
  obtain ⟨j, rfl⟩ : ∃ j : Nat, i = j := ⟨i.toNat, by omega⟩
  rw [← asg_get hn]
  unfold bitAt
  rw [asg_len]
  simp; omega
/-- What is left of an assignment from a level on. -/
theorem rest_step {N z m : Nat} (hz : z < N) : (bet N m z = true → 2 ^ (N - z - 1) ≤ m % 2 ^ (N - z) ∧ m % 2 ^ (N - z - 1) = m % 2 ^ (N - z) - 2 ^ (N - z - 1)) ∧ (bet N m z = false → m % 2 ^ (N - z) < 2 ^ (N - z - 1) ∧ m % 2 ^ (N - z - 1) = m % 2 ^ (N - z)) := by
  have e : 2 ^ (N - z) = 2 ^ (N - z - 1) * 2 := by rw [← Nat.pow_succ]; congr 1; omega
  have hp : 0 < 2 ^ (N - z - 1) := Nat.pow_pos (by decide)
  have hm : m % (2 ^ (N - z - 1) * 2) = m % 2 ^ (N - z - 1) + 2 ^ (N - z - 1) * (m / 2 ^ (N - z - 1) % 2) := Nat.mod_mul
  have hlt := Nat.mod_lt m hp
  unfold bet
  rw [show N - 1 - (z : Int).toNat = N - z - 1 by omega, e]
  constructor
  · intro h
    rw [of_decide_eq_true h, Nat.mul_one] at hm
    omega
  · intro h
    have := of_decide_eq_false h
    have h2 : m / 2 ^ (N - z - 1) % 2 = 0 := by omega
    rw [h2, Nat.mul_zero] at hm
    omega
theorem idx_rank {l : List Node} {n f : Int} (h : FitP l f n) {m : Nat} (hm : m < 2 ^ n.toNat) : ∀ z : Nat, (z : Int) ≤ n →
    (idxS l n f (asgD (m : Nat) n) z).2 + (rank l n.toNat (idxS l n f (asgD (m : Nat) n) z).1 (m % 2 ^ (n.toNat - z)) : Nat) = (rank l n.toNat f m : Nat)
  | 0, _ => by simp only [idxS, Nat.sub_zero]; rw [Nat.mod_eq_of_lt hm]; omega
  | z + 1, hz => by
    have ih := idx_rank h hm z (by omega)
    have hA := idx_at (bits := asgD (m : Nat) n) h z (by omega)
    have hin : (z : Int) < n := by omega
    have hr := rest_step (m := m) (N := n.toNat) (z := z) (by omega)
    have hlt := Nat.mod_lt m (show 0 < 2 ^ (n.toNat - z) from Nat.pow_pos (by decide))
    rw [show n.toNat - (z + 1) = n.toNat - z - 1 by omega]
    cases hb : bet n.toNat m z with
    | true =>
      obtain ⟨h1, h2⟩ := hr.1 hb
      rw [idx_yes (by rw [asg_get hin]; exact hb), h2]
      dsimp only
      rw [rank_hi hA hin h1 (Nat.le_of_lt hlt)] at ih
      have ha := rank_all (n.toNat - z - 1) _ (z + 1) (hA.branch hin false) (by omega)
      rw [← ha]; push_cast at ih ⊢; omega
    | false =>
      obtain ⟨h1, h2⟩ := hr.2 hb
      rw [idx_no (by rw [asg_get hin]; exact hb), h2]
      dsimp only
      rw [rank_lo hA hin (Nat.le_of_lt h1)] at ih
      exact ih
theorem idx_is {l : List Node} {n f : Int} (h : FitP l f n) {m : Nat} (hm : m < 2 ^ n.toNat) : (idxS l n f (asgD (m : Nat) n) n.toNat).2 = (rank l n.toNat f m : Nat) := by
  have := idx_rank h hm n.toNat (by have := h.n0; omega)
  rw [Nat.sub_self, Nat.pow_zero, Nat.mod_one, rank_0] at this
  simpa using this
theorem nth_rank {l : List Node} {n f : Int} (h : FitP l f n) {m : Nat} (hm : m < 2 ^ n.toNat) (he : ev2 l n.toNat m f = true) : ∀ z : Nat, (z : Int) ≤ n →
    nthS l n f (rank l n.toNat f m : Nat) z = ((idxS l n f (asgD (m : Nat) n) z).1, ((rank l n.toNat (idxS l n f (asgD (m : Nat) n) z).1 (m % 2 ^ (n.toNat - z)) : Nat) : Int), (asgD (m : Nat) n).take z) ∧ ev2 l n.toNat (m % 2 ^ (n.toNat - z)) (idxS l n f (asgD (m : Nat) n) z).1 = true
  | 0, _ => by
    simp only [idxS, nthS, Nat.sub_zero, List.take_zero]
    rw [Nat.mod_eq_of_lt hm]
    exact ⟨rfl, he⟩
  | z + 1, hz => by
    obtain ⟨ih, iv⟩ := nth_rank h hm he z (by omega)
    have hA := idx_at (bits := asgD (m : Nat) n) h z (by omega)
    have hin : (z : Int) < n := by omega
    have hr := rest_step (m := m) (N := n.toNat) (z := z) (by omega)
    have hlt := Nat.mod_lt m (show 0 < 2 ^ (n.toNat - z) from Nat.pow_pos (by decide))
    have ha := rank_all (n.toNat - z - 1) _ (z + 1) (hA.branch hin false) (by omega)
    have htk : (asgD (m : Nat) n).take (z + 1) = (asgD (m : Nat) n).take z ++ [bet n.toNat m z] := by
      rw [List.take_add_one, getD_at (by rw [asg_len]; omega), asg_get hin]; rfl
    rw [htk, show n.toNat - (z + 1) = n.toNat - z - 1 by omega]
    cases hb : bet n.toNat m z with
    | true =>
      obtain ⟨h1, h2⟩ := hr.1 hb
      have hhi := rank_hi hA hin h1 (Nat.le_of_lt hlt)
      rw [idx_yes (by rw [asg_get hin]; exact hb), h2, ← half_hi hA hin h1 hlt]
      refine ⟨?_, iv⟩
      rw [nth_yes (by rw [ih]; dsimp only; rw [← ha, hhi]; push_cast; omega), ih]
      dsimp only
      rw [← ha, hhi]
      congr 2
      push_cast; omega
    | false =>
      obtain ⟨h1, h2⟩ := hr.2 hb
      have hlo := rank_lo hA hin (Nat.le_of_lt h1)
      rw [idx_no (by rw [asg_get hin]; exact hb), h2, ← half_lo hA hin h1]
      refine ⟨?_, iv⟩
      have hl2 := rank_lt h1 (by rw [← half_lo hA hin h1]; exact iv)
      rw [nth_no (by rw [ih]; dsimp only; rw [← ha, hlo]; omega), ih]
      dsimp only
      rw [hlo]
theorem nth_is {l : List Node} {n f : Int} (h : FitP l f n) {m : Nat} (hm : m < 2 ^ n.toNat) (he : ev2 l n.toNat m f = true) : nthD l f n (rank l n.toNat f m : Nat) = (asgD (m : Nat) n, 0) := by
  have hn := h.n0
  have h1 := (nth_rank h hm he n.toNat (by omega)).1
  have h2 := rank_lt hm he
  have h3 := rank_all n.toNat f 0 (.start h) (by omega)
  unfold nthD
  rw [if_pos (fits_iff.2 h), if_neg (by rw [show fromD l n f 0 = fromD l n f ((0 : Nat) : Int) from rfl, ← h3]; omega), h1]
  dsimp only
  rw [List.take_of_length_le (by rw [asg_len]; exact Nat.le_refl _)]
theorem nth_end {l : List Node} {n f : Int} (h : FitP l f n) : nthD l f n (rank l n.toNat f (2 ^ n.toNat) : Nat) = ([], 12) := by
  have hn := h.n0
  have h3 := rank_all n.toNat f 0 (.start h) (by omega)
  unfold nthD
  rw [if_pos (fits_iff.2 h), if_pos (by rw [show fromD l n f 0 = fromD l n f ((0 : Nat) : Int) from rfl, ← h3]; exact .inr (Int.le_refl _))]
theorem count_is {l : List Node} {n f : Int} (h : FitP l f n) : fromD l n f 0 = (rank l n.toNat f (2 ^ n.toNat) : Nat) := (rank_all n.toNat f 0 (.start h) (by have := h.n0; omega)).symm
theorem index_is {l : List Node} {n f : Int} (h : FitP l f n) {m : Nat} (hm : m < 2 ^ n.toNat) : indexD l f n (asgD (m : Nat) n) = if ev2 l n.toNat m f = true then (((rank l n.toNat f m : Nat) : Int), (0 : Int)) else (0, 12) := by
  unfold indexD
  rw [if_pos ⟨fits_iff.2 h, by rw [asg_len]; have := h.n0; omega⟩, asg_eval h, idx_is h hm]
end Go.Proofs.Ytcpkjpkjahgobaa
