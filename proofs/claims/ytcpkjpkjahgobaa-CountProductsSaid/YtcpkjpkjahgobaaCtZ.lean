/- A weighted sum is the sum of products over all solutions. -/
import Derived.Test.YtcpkjpkjahgobaaCtY
namespace Go.Proofs.Ytcpkjpkjahgobaa
open Go.Sim

def sumTo (g : Nat → Nat) : Nat → Nat
  | 0 => 0
  | m + 1 => sumTo g m + g m
theorem sum_congr {g h : Nat → Nat} : ∀ {m : Nat}, (∀ i, i < m → g i = h i) → sumTo g m = sumTo h m
  | 0, _ => rfl
  | m + 1, he => by rw [sumTo, sumTo, sum_congr (fun i hi => he i (by omega)), he m (by omega)]
theorem sum_split (g : Nat → Nat) (a : Nat) : ∀ b, sumTo g (a + b) = sumTo g a + sumTo (fun i => g (a + i)) b
  | 0 => rfl
  | b + 1 => by rw [← Nat.add_assoc, sumTo, sum_split g a b, sumTo, Nat.add_assoc]
theorem sum_mul (c : Nat) (g : Nat → Nat) : ∀ m, sumTo (fun i => c * g i) m = c * sumTo g m
  | 0 => rfl
  | m + 1 => by rw [sumTo, sumTo, sum_mul c g m, Nat.mul_add]
theorem sum_le {g : Nat → Nat} {b : Nat} (h : ∀ i, g i ≤ b) : ∀ m, sumTo g m ≤ m * b
  | 0 => by simp [sumTo]
  | m + 1 => by rw [sumTo, Nat.succ_mul]; have := sum_le h m; have := h m; omega
def pick1 (ones : List Int) (N m i : Nat) : Nat := if bet N m (i : Nat) = true then one ones (i : Nat) else 1
def prodF (ones : List Int) (N m : Nat) : Nat → Nat → Nat
  | _, 0 => 1
  | z, d + 1 => pick1 ones N m z * prodF ones N m (z + 1) d
def prodT (ones : List Int) (N m : Nat) : Nat → Nat
  | 0 => 1
  | k + 1 => prodT ones N m k * pick1 ones N m k
theorem prod_join (ones : List Int) (N m : Nat) : ∀ d z, prodT ones N m (z + d) = prodT ones N m z * prodF ones N m z d
  | 0, z => by simp [prodF]
  | d + 1, z => by
    rw [show z + (d + 1) = (z + 1) + d by omega, prod_join ones N m d (z + 1), prodT, prodF, Nat.mul_assoc]
theorem prod_same {ones : List Int} {N m m' : Nat} : ∀ d z, (∀ i : Nat, z ≤ i → i < z + d → bet N m (i : Nat) = bet N m' (i : Nat)) → prodF ones N m z d = prodF ones N m' z d
  | 0, _, _ => rfl
  | d + 1, z, h => by
    rw [prodF, prodF, prod_same d (z + 1) (fun i h1 h2 => h i (by omega) (by omega))]
    unfold pick1; rw [h z (Nat.le_refl _) (by omega)]
def term (l : List Node) (ones : List Int) (N : Nat) (f : Int) (z m : Nat) : Nat := if ev2 l N m f = true then prodF ones N m z (N - z) else 0
theorem skip_one {ones : List Int} {z : Nat} : skipD ones (z : Nat) ((z + 1 : Nat) : Int) = 1 + one ones (z : Nat) := by
  unfold skipD
  rw [show (((z + 1 : Nat) : Int) - (z : Nat)).toNat = 1 by omega]
  simp [skP]
theorem skip_none {ones : List Int} {a : Int} : skipD ones a a = 1 := by unfold skipD; rw [Int.sub_self]; rfl
theorem wfrom_branch {l : List Node} {ones : List Int} {f : Int} {z : Nat} (h : At l ones.length f z) (hz : (z : Int) < ones.length) :
    wfrom l ones f z = wfrom l ones (branchD l f z false) (z + 1 : Nat) + one ones (z : Nat) * wfrom l ones (branchD l f z true) (z + 1 : Nat) := by
  by_cases hl : (nd l f).level = z
  · have h1 := h.inner hz hl
    rw [branch_kid h hz hl, branch_kid h hz hl, wfrom_node h.fit h1 (by omega) (by omega), hl, skip_none, Nat.one_mul]
    rfl
  · have hb := (h.branch hz false).lvl
    rw [branch_same h hz hl] at hb
    rw [branch_same h hz hl, branch_same h hz hl]
    unfold wfrom
    rw [skip_add (b := ((z + 1 : Nat) : Int)) (by omega) (by omega) hb, skip_one]
    rw [Nat.add_mul, Nat.one_mul, Nat.mul_add, ← Nat.mul_assoc, Nat.mul_left_comm, Nat.mul_assoc]
theorem term_all {l : List Node} {ones : List Int} {N : Nat} (hN : N = ones.length) : ∀ (d : Nat) (f : Int) (z : Nat), At l ones.length f z → N = z + d → sumTo (term l ones N f z) (2 ^ d) = wfrom l ones f z := by
  intro d
  induction d with
  | zero =>
    intro f z h hd
    have hl := h.lvl; have hv := h.fit.lvl0
    have h2 : f < 2 := by
      refine Int.not_le.1 fun hle => ?_
      have := h.fit.lvl_node (by omega); omega
    have h0 := h.fit.ok.1
    have : f = 0 ∨ f = 1 := by omega
    have e : (z : Int) = ones.length := by omega
    rw [Nat.pow_zero, sumTo, sumTo, Nat.zero_add]
    unfold term
    rw [show N - z = 0 by omega]
    rcases this with rfl | rfl
    · rw [wfrom_zero]; unfold ev2; rw [eb_0]; simp
    · rw [wfrom_one h.fit, e, skip_none]; unfold ev2; rw [eb_1]; simp [prodF]
  | succ d ih =>
    intro f z h hd
    have hz : (z : Int) < ones.length := by omega
    have e0 : (ones.length : Int).toNat = N := by omega
    have e1 : N - z - 1 = d := by omega
    have e2 : N - z = d + 1 := by omega
    rw [show 2 ^ (d + 1) = 2 ^ d + 2 ^ d by rw [Nat.pow_succ]; omega, sum_split, wfrom_branch h hz, ← ih _ (z + 1) (h.branch hz false) (by omega), ← ih _ (z + 1) (h.branch hz true) (by omega), ← sum_mul]
    congr 1
    · refine sum_congr fun m hm => ?_
      unfold term
      have hl := half_lo h hz (m := m) (by rw [e0, e1]; exact hm)
      rw [e0] at hl
      rw [hl, e2, show N - (z + 1) = d by omega, prodF]
      unfold pick1
      rw [bet_lo (by omega) (by rw [e1]; exact hm)]
      simp
    · refine sum_congr fun m hm => ?_
      unfold term
      have hh := half_hi h hz (m := 2 ^ d + m) (by rw [e0, e1]; omega) (by rw [e0, e2, Nat.pow_succ]; omega)
      rw [e0, e1, Nat.add_sub_cancel_left] at hh
      rw [hh, e2, show N - (z + 1) = d by omega, prodF]
      unfold pick1
      rw [bet_hi (by omega) (by rw [e1]; omega) (by rw [e2, Nat.pow_succ]; omega)]
      rw [prod_same (m := 2 ^ d + m) (m' := m) d (z + 1) fun i h1 h2 => by
        have := bet_shift (N := N) (z := z) (m := 2 ^ d + m) (i := (i : Nat)) (by omega) (by rw [e1]; omega) (by omega) (by omega)
        rw [e1, Nat.add_sub_cancel_left] at this; exact this]
      simp only [if_true]
      split <;> simp
theorem prod_sum {l : List Node} {f : Int} {ones : List Int} (h : FitP l f ones.length) : wfrom l ones f 0 = sumTo (fun m => if ev2 l ones.length m f = true then prodT ones ones.length m ones.length else 0) (2 ^ ones.length) := by
  have := term_all (l := l) (ones := ones) rfl ones.length f 0 (.start h) (by omega)
  rw [show wfrom l ones f 0 = wfrom l ones f ((0 : Nat) : Int) from rfl, ← this]
  refine sum_congr fun m _ => ?_
  have := prod_join ones ones.length m ones.length 0
  rw [Nat.zero_add, prodT, Nat.one_mul] at this
  unfold term; rw [this, Nat.sub_zero]
end Go.Proofs.Ytcpkjpkjahgobaa
