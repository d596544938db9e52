/- Bounds of the sums of products, and units. -/
import Derived.Test.YtcpkjpkjahgobaaCtZ
namespace Go.Proofs.Ytcpkjpkjahgobaa
open Go.Sim

def Small (ones : List Int) : Prop := ∀ i : Nat, i < ones.length → 0 ≤ ones.getD i default ∧ ones.getD i default ≤ 100
def psum (l : List Node) (ones : List Int) (f : Int) (z : Nat) : Nat := sumTo (fun m => if ev2 l ones.length m f = true then prodT ones ones.length m ones.length else 0) z
theorem prod_le {ones : List Int} (h : Small ones) (m : Nat) : ∀ k, k ≤ ones.length → prodT ones ones.length m k ≤ 100 ^ k
  | 0, _ => by simp [prodT]
  | k + 1, hk => by
    have ih := prod_le h m k (by omega)
    have h1 := h k (by omega)
    have h2 : pick1 ones ones.length m k ≤ 100 := by
      unfold pick1 one; split
      · rw [Int.toNat_natCast]; omega
      · decide
    rw [prodT, Nat.pow_succ]
    exact Nat.mul_le_mul ih h2
theorem prod_le8 {ones : List Int} (h : Small ones) (h8 : ones.length ≤ 8) (m : Nat) {k : Nat} (hk : k ≤ ones.length) : prodT ones ones.length m k ≤ 10000000000000000 := by
  have h1 := prod_le h m k hk
  have h2 : 100 ^ k ≤ 100 ^ 8 := Nat.pow_le_pow_right (by decide) (by omega)
  omega
theorem psum_le {l : List Node} {ones : List Int} {f : Int} (h : Small ones) (h8 : ones.length ≤ 8) (z : Nat) : psum l ones f z ≤ z * 10000000000000000 :=
  sum_le (fun i => by
    split
    · exact prod_le8 h h8 i (Nat.le_refl _)
    · omega) z
theorem pow8 {n : Nat} (h : n ≤ 8) : 2 ^ n ≤ 256 := Nat.le_trans (Nat.pow_le_pow_right (by decide) h) (by decide)
theorem small_ones {ones : List Int} (h : Small ones) : OnesP ones := fun i hi => by have := h i hi; omega
theorem small_neg {ones : List Int} (h : Small ones) : negB ones = false := neg_no fun i hi => by have := h i hi; omega
theorem weigh_is {l : List Node} {f : Int} {ones : List Int} (h : FitP l f ones.length) (hs : Small ones) (h8 : ones.length ≤ 8) : weighD l f ones = (((psum l ones f (2 ^ ones.length) : Nat) : Int), (0 : Int)) := by
  have e : wfrom l ones f 0 = psum l ones f (2 ^ ones.length) := prod_sum h
  have hle := psum_le (l := l) (f := f) hs h8 (2 ^ ones.length)
  have := pow8 h8
  have ha : amt (wfrom l ones f 0) = ⟨(psum l ones f (2 ^ ones.length) : Nat), false⟩ := by rw [e]; exact amt_small (by omega)
  unfold weighD
  rw [if_pos (fits_iff.2 h), if_neg (by rw [small_neg hs]; decide), ha, if_neg (by simp)]
theorem weigh_no {l : List Node} {f : Int} {ones : List Int} (h : ¬ fitsB l f ones.length = true) : weighD l f ones = (0, 1) := by unfold weighD; rw [if_neg h]
def uP (N z : Nat) : List Int := (List.range N).map fun i => if i < z then 1 else 0
theorem uP_len (N z : Nat) : (uP N z).length = N := by simp [uP]
theorem uP_0 (N : Nat) : List.replicate N (0 : Int) = uP N 0 := by
  unfold uP
  apply List.ext_getElem?
  intro i
  by_cases h : i < N <;> simp [h]
theorem uP_next {N z : Nat} (hz : z < N) : (uP N z).set z 1 = uP N (z + 1) := by
  unfold uP
  apply List.ext_getElem?
  intro i
  rw [List.getElem?_set]
  by_cases h : i < N
  · by_cases e : z = i
    · subst e; simp [h]
    · rw [if_neg e]
      simp only [List.getElem?_map, List.getElem?_range h, Option.map_some]
      congr 1
      by_cases h2 : i < z
      · rw [if_pos h2, if_pos (by omega)]
      · rw [if_neg h2, if_neg (by omega)]
  · have : ¬ z = i := by omega
    rw [if_neg this]; simp [h]
theorem uP_get {N i : Nat} (h : i < N) : (uP N N).getD i default = 1 := by
  unfold uP
  rw [List.getD_eq_getElem?_getD, List.getElem?_map, List.getElem?_range h]
  simp [h]
theorem unit_small (N : Nat) : Small (uP N N) := fun i hi => by rw [uP_len] at hi; rw [uP_get hi]; omega
theorem unit_prod {N : Nat} (m : Nat) : ∀ k, k ≤ N → prodT (uP N N) N m k = 1
  | 0, _ => rfl
  | k + 1, hk => by
    rw [prodT, unit_prod m k (by omega), Nat.one_mul]
    unfold pick1 one
    split
    · rw [Int.toNat_natCast, uP_get (by omega)]; rfl
    · rfl
theorem unit_sum {l : List Node} {f : Int} (N : Nat) : ∀ z, psum l (uP N N) f z = rank l N f z
  | 0 => rfl
  | z + 1 => by
    have ih := unit_sum (l := l) (f := f) N z
    unfold psum at *
    rw [sumTo, ih, rank_succ, uP_len, unit_prod z N (Nat.le_refl _)]
theorem unit_is {l : List Node} {f : Int} {N : Nat} (h8 : N ≤ 8) : weighD l f (uP N N) = countD l f N := by
  by_cases hf : fitsB l f N = true
  · have hF : FitP l f ((uP N N).length : Nat) := by rw [uP_len]; exact fits_iff.1 hf
    rw [weigh_is hF (unit_small N) (by rw [uP_len]; exact h8), uP_len, unit_sum, count_yes (fits_iff.1 hf), count_is (fits_iff.1 hf)]
    rfl
  · rw [weigh_no (by rw [uP_len]; exact hf)]
    unfold countD; rw [if_neg hf]
theorem weigh_fit {l : List Node} {f : Int} {ones : List Int} (h : (weighD l f ones).2 = 0) : FitP l f ones.length := by
  by_cases hf : fitsB l f ones.length = true
  · exact fits_iff.1 hf
  · rw [weigh_no hf] at h; cases h
theorem werr {l : List Node} {f : Int} {ones : List Int} (hs : Small ones) (h8 : ones.length ≤ 8) : (weighD l f ones).2 = (countD l f ones.length).2 := by
  by_cases hf : fitsB l f ones.length = true
  · rw [weigh_is (fits_iff.1 hf) hs h8, count_yes (fits_iff.1 hf)]
  · rw [weigh_no hf]; unfold countD; rw [if_neg hf]
theorem weigh_sum {l : List Node} {f : Int} {ones : List Int} {z : Nat} (hs : Small ones) (h8 : ones.length ≤ 8) (hz : (weighD l f ones).2 = 0 ∨ z = 0) (he : (weighD l f ones).2 = 0 → z = 2 ^ ones.length) : (weighD l f ones).1 = (psum l ones f z : Nat) := by
  by_cases h : (weighD l f ones).2 = 0
  · rw [he h, weigh_is (weigh_fit h) hs h8]
  · have := hz.resolve_left h
    subst this
    by_cases hf : fitsB l f ones.length = true
    · rw [weigh_is (fits_iff.1 hf) hs h8] at h; exact absurd rfl h
    · rw [weigh_no hf]; rfl
theorem prod_yes {ones : List Int} {m k : Nat} (hs : Small ones) (hk : k < ones.length) (hb : bet ones.length m (k : Nat) = true) : ((prodT ones ones.length m (k + 1) : Nat) : Int) = (prodT ones ones.length m k : Nat) * ones.getD ((k : Nat) : Int).toNat default := by
  have := hs k hk
  rw [prodT]; unfold pick1 one; rw [if_pos hb, Int.toNat_natCast]; push_cast; rw [Int.toNat_of_nonneg this.1]
theorem prod_no {ones : List Int} {m k : Nat} (hb : bet ones.length m (k : Nat) = false) : prodT ones ones.length m (k + 1) = prodT ones ones.length m k := by
  rw [prodT]; unfold pick1; rw [if_neg (by rw [hb]; decide), Nat.mul_one]
theorem psum_yes {l : List Node} {ones : List Int} {f : Int} {z : Nat} (h : ev2 l ones.length z f = true) : psum l ones f (z + 1) = psum l ones f z + prodT ones ones.length z ones.length := by
  unfold psum; rw [sumTo, if_pos h]
theorem psum_no {l : List Node} {ones : List Int} {f : Int} {z : Nat} (h : ev2 l ones.length z f = false) : psum l ones f (z + 1) = psum l ones f z := by
  unfold psum; rw [sumTo, if_neg (by rw [h]; decide), Nat.add_zero]
end Go.Proofs.Ytcpkjpkjahgobaa
