/- What the law of different nodes computes: levels, assignments, and that assignments tell different nodes apart. -/
import Derived.Test.YtdcmldlnhikbcaaDgG
import Derived.Test.YtdcmldlnhikbcaaSimG
namespace Go.Proofs.Ytdcmldlnhikbcaa
open Go.Sim
open Go

def up (n : Int) (x : Node) : Int := max n (IntKind.i64.wrap (x.level + 1))
def levN (l : List Node) (z : Nat) : Int := ((l.take z).drop 2).foldl up 0
def levelsD (l : List Node) : Int := (l.drop 2).foldl up 0
theorem levN_next {l : List Node} {z : Nat} (h2 : 2 ≤ z) (hz : z < l.length) : levN l (z + 1) = max (levN l z) (IntKind.i64.wrap ((nd l (z : Nat)).level + 1)) := by
  unfold levN
  have e : l.take (z + 1) = l.take z ++ [nd l (z : Nat)] := by rw [List.take_add_one, nd_get hz]; rfl
  rw [e, List.drop_append_of_le_length (by rw [List.length_take]; omega), List.foldl_append]
  rfl
theorem levN_2 (l : List Node) : levN l 2 = 0 := by
  unfold levN; rw [List.drop_eq_nil_of_le (by rw [List.length_take]; omega)]; rfl
theorem levN_all {l : List Node} {z : Nat} (hz : l.length ≤ z) : levN l z = levelsD l := by unfold levN levelsD; rw [List.take_of_length_le hz]
theorem up_le (l : List Node) : ∀ n : Int, n ≤ l.foldl up n ∧ ∀ x ∈ l, IntKind.i64.wrap (x.level + 1) ≤ l.foldl up n := by
  induction l with
  | nil => intro n; exact ⟨Int.le_refl _, fun x hx => by cases hx⟩
  | cons y l ih =>
    intro n
    have h := ih (up n y)
    have hu : n ≤ up n y ∧ IntKind.i64.wrap (y.level + 1) ≤ up n y := by unfold up; omega
    refine ⟨Int.le_trans hu.1 h.1, fun x hx => ?_⟩
    rcases List.mem_cons.1 hx with rfl | hx
    · exact Int.le_trans hu.2 h.1
    · exact h.2 x hx
theorem levels_0 (l : List Node) : 0 ≤ levelsD l := (up_le _ 0).1
theorem levels_lt {l : List Node} (h : Good l) {f : Int} (hf : okNode l f) (h20 : lev l f ≠ 20) : lev l f < levelsD l := by
  have hi := h.inner hf h20
  have hfl : f.toNat < l.length := by have := hf.2; have := hf.1; omega
  have hg := nd_get hfl
  rw [Int.toNat_of_nonneg hf.1] at hg
  have hm : nd l f ∈ l.drop 2 := by
    apply List.mem_of_getElem? (i := f.toNat - 2)
    rw [List.getElem?_drop, show 2 + (f.toNat - 2) = f.toNat by omega, hg]
  have := (up_le (l.drop 2) 0).2 _ hm
  have hl := (h.placed hf hi.1)
  have hw : IntKind.i64.wrap ((nd l f).level + 1) = (nd l f).level + 1 := wrap_in (k := .i64) ⟨by have := hl.1; omega, by have := hl.2.1; omega⟩
  rw [hw] at this
  unfold levelsD lev
  omega

def bitK (k : Int) (i : Nat) : Bool := decide (k / 2 ^ i % 2 = 1)
def bitsD (k n : Int) : List Bool := (List.range n.toNat).map (bitK k)
def asg (k n : Int) (z : Nat) : List Bool := (List.range n.toNat).map fun i => decide (i < z) && bitK k i
theorem asg_0 (k n : Int) : List.replicate n.toNat false = asg k n 0 := by
  unfold asg
  apply List.ext_getElem?
  intro i
  by_cases h : i < n.toNat <;> simp [h]
theorem asg_len (k n : Int) (z : Nat) : (asg k n z).length = n.toNat := by simp [asg]
theorem asg_next {k n : Int} {z : Nat} (hz : (z : Int) < n) : (asg k n z).set z (bitK k z) = asg k n (z + 1) := by
  unfold asg
  apply List.ext_getElem?
  intro i
  rw [List.getElem?_set]
  by_cases h : i < n.toNat
  · by_cases e : z = i
    · subst e; simp [h]
    · rw [if_neg e]
      simp only [List.getElem?_map, List.getElem?_range h, Option.map_some]
      have : decide (i < z) = decide (i < z + 1) := by rw [Bool.eq_iff_iff]; simp; omega
      rw [this]
  · have : ¬ z = i := by omega
    rw [if_neg this]; simp [h]
theorem asg_all {k n : Int} {z : Nat} (hz : n ≤ z) : asg k n z = bitsD k n := by
  unfold asg bitsD
  apply List.map_congr_left
  intro i hi
  have := List.mem_range.1 hi
  have : i < z := by omega
  simp [this]
theorem bits_at {k n : Int} {i : Int} (h0 : 0 ≤ i) (hn : i < n) : bitAt (bitsD k n) i = bitK k i.toNat := by
  unfold bitAt bitsD
  have h : i.toNat < n.toNat := by omega
  have h2 : i < ((List.map (bitK k) (List.range n.toNat)).length : Int) := by simp; omega
  simp only [decide_eq_true h2, Bool.true_and, List.getD_eq_getElem?_getD, List.getElem?_map, List.getElem?_range h, Option.map_some, Option.getD_some]

def num : Nat → (Nat → Bool) → Nat
  | 0, _ => 0
  | n + 1, β => (β 0).toNat + 2 * num n (fun i => β (i + 1))
theorem num_lt : ∀ (n : Nat) (β : Nat → Bool), num n β < 2 ^ n
  | 0, _ => by simp [num]
  | n + 1, β => by
    have h := num_lt n fun i => β (i + 1)
    have hb : (β 0).toNat ≤ 1 := Bool.toNat_le _
    rw [num, Nat.pow_succ]; omega
theorem num_bit : ∀ (n : Nat) (β : Nat → Bool) (i : Nat), i < n → num n β / 2 ^ i % 2 = (β i).toNat
  | 0, _, _, h => by omega
  | n + 1, β, 0, _ => by
    have hb : (β 0).toNat ≤ 1 := Bool.toNat_le _
    rw [num, Nat.pow_zero, Nat.div_one]; omega
  | n + 1, β, i + 1, h => by
    have hb : (β 0).toNat ≤ 1 := Bool.toNat_le _
    have e : ((β 0).toNat + 2 * num n (fun i => β (i + 1))) / 2 = num n (fun i => β (i + 1)) := by omega
    rw [num, Nat.pow_succ, Nat.mul_comm (2 ^ i) 2, ← Nat.div_div_eq_div_mul, e]
    exact num_bit n (fun i => β (i + 1)) i (by omega)
theorem num_bitK {n i : Nat} {β : Nat → Bool} (h : i < n) : bitK (num n β : Nat) i = β i := by
  have e := num_bit n β i h
  unfold bitK
  have e2 : ((num n β : Nat) : Int) / 2 ^ i % 2 = (((β i).toNat : Nat) : Int) := by rw [← e]; norm_cast
  rw [e2]
  cases β i <;> rfl

theorem eb_below {L : List Node} {β β' : Int → Bool} {n : Int} (h : Good L) (hn : ∀ f, okNode L f → lev L f ≠ 20 → lev L f < n) (hb : ∀ i, 0 ≤ i → i < n → β i = β' i) : ∀ (m : Nat) (f : Int), f.toNat ≤ m → okNode L f → eb L β f = eb L β' f := by
  intro m
  induction m with
  | zero => intro f hm hf; have := hf.1; have : f = 0 := by omega
            subst this; rw [eb_0, eb_0]
  | succ m ih =>
    intro f hm hf
    by_cases h20 : lev L f = 20
    · rcases (h.level hf).2.2.1 h20 with rfl | rfl
      · rw [eb_0, eb_0]
      · rw [eb_1, eb_1]
    · have hk := h.kids hf h20
      rw [eb_node h hf h20, eb_node h hf h20, hb _ (h.level hf).1 (hn f hf h20), ih _ (by have := hk.2.1.1; omega) hk.2.1, ih _ (by have := hk.1.1; omega) hk.1]

def dif (l : List Node) (f g n : Int) : Nat → Bool
  | 0 => false
  | z + 1 => dif l f g n z || (evalD l f (bitsD (z : Nat) n) != evalD l g (bitsD (z : Nat) n))
theorem dif_next {l : List Node} {f g n : Int} {z : Nat} : dif l f g n (z + 1) = (dif l f g n z || !decide (evalD l f (bitsD (z : Nat) n) = evalD l g (bitsD (z : Nat) n))) := by
  rw [dif]; congr 1
theorem dif_iff {l : List Node} {f g n : Int} : ∀ z : Nat, dif l f g n z = false ↔ ∀ k : Nat, k < z → evalD l f (bitsD (k : Nat) n) = evalD l g (bitsD (k : Nat) n)
  | 0 => by simp [dif]
  | z + 1 => by
    rw [dif, Bool.or_eq_false_iff, dif_iff z]
    constructor
    · intro ⟨h1, h2⟩ k hk
      by_cases e : k = z
      · subst e; simpa using h2
      · exact h1 k (by omega)
    · intro h
      exact ⟨fun k hk => h k (by omega), by simpa using h z (by omega)⟩
theorem canonical {l : List Node} (h : Good l) {f g : Int} (hf : okNode l f) (hg : okNode l g) : dif l f g (levelsD l) (2 ^ (levelsD l).toNat) = decide (f ≠ g) := by
  by_cases e : f = g
  · subst e
    rw [(dif_iff _).2 fun _ _ => rfl]; simp
  · cases hd : dif l f g (levelsD l) (2 ^ (levelsD l).toNat) with
    | true => simp [e]
    | false =>
      exfalso
      apply e
      refine canon' h hf hg fun β => ?_
      have hk := (dif_iff _).1 hd (num (levelsD l).toNat fun i => β (i : Nat)) (num_lt _ _)
      rw [eval_eb h hf, eval_eb h hg] at hk
      have hb : ∀ i, 0 ≤ i → i < levelsD l → bitAt (bitsD ((num (levelsD l).toNat fun i => β (i : Nat) : Nat) : Int) (levelsD l)) i = β i := by
        intro i h0 hi
        rw [bits_at h0 hi, num_bitK (by omega), Int.toNat_of_nonneg h0]
      rw [eb_below h (fun f hf h20 => levels_lt h hf h20) hb _ f (Nat.le_refl _) hf, eb_below h (fun f hf h20 => levels_lt h hf h20) hb _ g (Nat.le_refl _) hg] at hk
      exact hk
theorem pow_le {n : Int} (h : n ≤ 8) : 2 ^ n.toNat ≤ 256 := Nat.le_trans (Nat.pow_le_pow_right (by decide) (show n.toNat ≤ 8 by omega)) (by decide)

section
variable {P : Program} {σ : Nat → Option Rp} {M : List MF} {o : Oper}
theorem spec_shl1 {T T' : TypeId} {k' : IntKind} {x y : Operand} {n : Int} (h : o.op = .binOp .shl T x y T') (hx : Get σ x (Rp.int .i64 1)) (hy : Get σ y (Rp.int k' n)) (hn : 0 ≤ n) (hn2 : n ≤ 8) : Go.Sim.Spec P σ M o (.one (Rp.int .i64 ((2 ^ n.toNat : Nat) : Int))) := by
  have := spec_shl (P := P) (M := M) h hx hy hn
  have e : IntKind.i64.wrap (1 * 2 ^ (min n.toNat IntKind.i64.bits)) = ((2 ^ n.toNat : Nat) : Int) := by
    have hp := pow_le hn2
    rw [show min n.toNat IntKind.i64.bits = n.toNat by simp [IntKind.bits]; omega, Int.one_mul, wrap_in (k := .i64)]
    · norm_cast
    · have : (0 : Int) ≤ 2 ^ n.toNat := Int.pow_nonneg (by decide)
      have e : ((2 ^ n.toNat : Nat) : Int) = 2 ^ n.toNat := by norm_cast
      exact ⟨by omega, by omega⟩
  rw [e] at this; exact this
theorem spec_shrP {T T' : TypeId} {k' : IntKind} {x y : Operand} {m n : Int} (h : o.op = .binOp .shr T x y T') (hx : Get σ x (Rp.int .i64 m)) (hy : Get σ y (Rp.int k' n)) (hn : 0 ≤ n) (hn2 : n ≤ 64) : Go.Sim.Spec P σ M o (.one (Rp.int .i64 (m / 2 ^ n.toNat))) := by
  have := spec_shr (P := P) (M := M) h hx hy hn
  have hp : (0 : Int) < 2 ^ n.toNat := Int.pow_pos (by decide)
  rw [show min n.toNat IntKind.i64.bits = n.toNat by simp [IntKind.bits]; omega, Int.fdiv_eq_ediv_of_nonneg _ (Int.le_of_lt hp)] at this
  exact this
end
end Go.Proofs.Ytdcmldlnhikbcaa
