/- Counting: levels, which nodes fit, the numbers of solutions and of ways. -/
import Derived.Test.YtcpkjpkjahgobaaCtH
namespace Go.Proofs.Ytcpkjpkjahgobaa
open Go.Sim
open Go

def lvl (l : List Node) (bits f : Int) : Int := min (lev l f) bits
def maxc (n : Node) (lo hi : Int) : Int := max (max n.level lo) hi
def addc (_ : Node) (lo hi : Int) : Int := lo + hi
def belc (l : List Node) (bits : Int) (n : Node) (lo hi : Int) : Int := lo * 2 ^ (lvl l bits n.lo - n.level - 1).toNat + hi * 2 ^ (lvl l bits n.hi - n.level - 1).toNat
def below (l : List Node) (bits f : Int) : Int := fold l (belc l bits) 0 1 f
def fromD (l : List Node) (bits f level : Int) : Int := below l bits f * 2 ^ (lvl l bits f - level).toNat
def pathsD (l : List Node) (f : Int) : Int := fold l addc 0 1 f
def fitsB (l : List Node) (f n : Int) : Bool := (decide (0 ≤ n ∧ n ≤ 20) && hasB l [f]) && decide (fold l maxc (-1) (-1) f < n)

/-- The nodes that are reached have levels below a number of bits. -/
def Low (l : List Node) (f n : Int) : Prop := ∀ k, Reach l f k → 1 < k → lev l k < n
theorem Reach.trans {l : List Node} {f g k : Int} (h : Reach l f g) (h' : Reach l g k) : Reach l f k := by
  induction h' with
  | here => exact h
  | lo _ h1 ih => exact .lo ih h1
  | hi _ h1 ih => exact .hi ih h1
theorem Reach.cases_on {l : List Node} {f k : Int} (h : Reach l f k) : k = f ∨ (1 < f ∧ (Reach l (nd l f).lo k ∨ Reach l (nd l f).hi k)) := by
  induction h with
  | here => exact .inl rfl
  | lo _ h1 ih =>
    rcases ih with rfl | ⟨h2, h3⟩
    · exact .inr ⟨h1, .inl .here⟩
    · exact .inr ⟨h2, h3.imp (fun h => .lo h h1) (fun h => .lo h h1)⟩
  | hi _ h1 ih =>
    rcases ih with rfl | ⟨h2, h3⟩
    · exact .inr ⟨h1, .inr .here⟩
    · exact .inr ⟨h2, h3.imp (fun h => .hi h h1) (fun h => .hi h h1)⟩
theorem low_max {l : List Node} (hg : Good l) {n : Int} (hn : 0 ≤ n) : ∀ (j : Nat) (f : Int), f.toNat ≤ j → okNode l f → (fold l maxc (-1) (-1) f < n ↔ Low l f n) := by
  intro j
  induction j with
  | zero =>
    intro f hj hf
    have := hf.1
    rw [fold_end (by omega)]
    refine ⟨fun _ k hk h1 => ?_, fun _ => by split <;> omega⟩
    have := (hk.ok hg hf).2; omega
  | succ j ih =>
    intro f hj hf
    by_cases h1 : 1 < f
    · have hl := hg.lohi hf h1
      have b1 := hl.1.1; have b2 := hl.2.1.1
      rw [fold_node hg hf h1]
      have i1 := ih (nd l f).lo (by omega) hl.1
      have i2 := ih (nd l f).hi (by omega) hl.2.1
      unfold maxc
      have e : (max (max (nd l f).level (fold l maxc (-1) (-1) (nd l f).lo)) (fold l maxc (-1) (-1) (nd l f).hi) < n) ↔ (lev l f < n ∧ fold l maxc (-1) (-1) (nd l f).lo < n ∧ fold l maxc (-1) (-1) (nd l f).hi < n) := by unfold lev; omega
      have e2 : (max (max (nd l f).level (fold l (fun n lo hi => max (max n.level lo) hi) (-1) (-1) (nd l f).lo)) (fold l (fun n lo hi => max (max n.level lo) hi) (-1) (-1) (nd l f).hi) < n) ↔ (lev l f < n ∧ fold l maxc (-1) (-1) (nd l f).lo < n ∧ fold l maxc (-1) (-1) (nd l f).hi < n) := e
      rw [e2, i1, i2]
      constructor
      · rintro ⟨p1, p2, p3⟩ k hk hk1
        rcases hk.cases_on with rfl | ⟨_, h | h⟩
        · exact p1
        · exact p2 k h hk1
        · exact p3 k h hk1
      · intro h
        exact ⟨h f .here h1, fun k hk hk1 => h k ((Reach.lo .here h1).trans hk) hk1, fun k hk hk1 => h k ((Reach.hi .here h1).trans hk) hk1⟩
    · have := hf.1
      rw [fold_end (by omega)]
      refine ⟨fun _ k hk h1 => ?_, fun _ => by split <;> omega⟩
      have := (hk.ok hg hf).2; omega
/-- What it means that a node fits. -/
structure FitP (l : List Node) (f n : Int) : Prop where
  good : Good l
  ok : okNode l f
  n0 : 0 ≤ n
  n20 : n ≤ 20
  low : Low l f n
theorem fits_iff {l : List Node} {f n : Int} : fitsB l f n = true ↔ FitP l f n := by
  unfold fitsB
  simp only [Bool.and_eq_true, decide_eq_true_eq, has1]
  constructor
  · rintro ⟨⟨⟨h0, h20⟩, hg, hf⟩, h⟩
    exact ⟨hg, hf, h0, h20, (low_max hg h0 _ f (Nat.le_refl _) hf).1 h⟩
  · intro h
    exact ⟨⟨⟨h.n0, h.n20⟩, h.good, h.ok⟩, (low_max h.good h.n0 _ f (Nat.le_refl _) h.ok).2 h.low⟩
theorem FitP.reach {l : List Node} {f n k : Int} (h : FitP l f n) (hk : Reach l f k) : FitP l k n :=
  ⟨h.good, (hk.ok h.good h.ok).1, h.n0, h.n20, fun j hj h1 => h.low j (hk.trans hj) h1⟩
theorem FitP.lo {l : List Node} {f n : Int} (h : FitP l f n) (h1 : 1 < f) : FitP l (nd l f).lo n := h.reach (.lo .here h1)
theorem FitP.hi {l : List Node} {f n : Int} (h : FitP l f n) (h1 : 1 < f) : FitP l (nd l f).hi n := h.reach (.hi .here h1)
theorem FitP.lvl0 {l : List Node} {f n : Int} (h : FitP l f n) : 0 ≤ lvl l n f ∧ lvl l n f ≤ n := by
  have := (h.good.level h.ok).1; have := h.n0; unfold lvl; omega
theorem FitP.lvl_end {l : List Node} {f n : Int} (h : FitP l f n) (h2 : f < 2) : lvl l n f = n := by
  have h1 := (h.good.level h.ok).2.2.2 (by have := h.ok.1; omega)
  have := h.n20; unfold lvl; omega
theorem FitP.lvl_node {l : List Node} {f n : Int} (h : FitP l f n) (h1 : 1 < f) : lvl l n f = (nd l f).level ∧ (nd l f).level < n ∧ 0 ≤ (nd l f).level ∧ (nd l f).level < lvl l n (nd l f).lo ∧ (nd l f).level < lvl l n (nd l f).hi := by
  have h2 := h.low f .here h1
  have h3 := h.good.lohi h.ok h1
  have h4 := (h.good.level h.ok).1
  unfold lvl lev at *; omega
theorem below_node {l : List Node} {f n : Int} (h : FitP l f n) (h1 : 1 < f) : below l n f = below l n (nd l f).lo * 2 ^ (lvl l n (nd l f).lo - (nd l f).level - 1).toNat + below l n (nd l f).hi * 2 ^ (lvl l n (nd l f).hi - (nd l f).level - 1).toNat := fold_node h.good h.ok h1
theorem pow_mul {x : Int} {i j k : Nat} (h : x ≤ 2 ^ i) (e : i + j = k) : x * 2 ^ j ≤ 2 ^ k := by
  subst e; rw [Int.pow_add]; exact Int.mul_le_mul_of_nonneg_right h (Int.le_of_lt (Int.pow_pos (by decide)))
theorem below_le {l : List Node} {n : Int} : ∀ (j : Nat) (f : Int), f.toNat ≤ j → FitP l f n → 0 ≤ below l n f ∧ below l n f ≤ 2 ^ (n - lvl l n f).toNat := by
  have base : ∀ f : Int, f < 2 → FitP l f n → 0 ≤ below l n f ∧ below l n f ≤ 2 ^ (n - lvl l n f).toNat := by
    intro f h2 h
    rw [h.lvl_end h2, Int.sub_self]
    unfold below
    rw [fold_end h2]; split <;> simp
  intro j
  induction j with
  | zero => intro f hj h; exact base f (by have := h.ok.1; omega) h
  | succ j ih =>
    intro f hj h
    by_cases h1 : 1 < f
    · have hl := h.good.lohi h.ok h1
      have b1 := hl.1.1; have b2 := hl.2.1.1
      obtain ⟨e1, e2, e3, e4, e5⟩ := h.lvl_node h1
      have i1 := ih _ (by omega) (h.lo h1)
      have i2 := ih _ (by omega) (h.hi h1)
      have k1 := (h.lo h1).lvl0; have k2 := (h.hi h1).lvl0
      rw [below_node h h1, e1]
      have m1 := pow_mul (k := (n - (nd l f).level - 1).toNat) (j := (lvl l n (nd l f).lo - (nd l f).level - 1).toNat) i1.2 (by omega)
      have m2 := pow_mul (k := (n - (nd l f).level - 1).toNat) (j := (lvl l n (nd l f).hi - (nd l f).level - 1).toNat) i2.2 (by omega)
      have p1 := Int.mul_nonneg i1.1 (Int.pow_nonneg (n := 2) (m := (lvl l n (nd l f).lo - (nd l f).level - 1).toNat) (by decide))
      have p2 := Int.mul_nonneg i2.1 (Int.pow_nonneg (n := 2) (m := (lvl l n (nd l f).hi - (nd l f).level - 1).toNat) (by decide))
      have e : (2 : Int) ^ (n - (nd l f).level).toNat = 2 * 2 ^ (n - (nd l f).level - 1).toNat := by
        rw [show (n - (nd l f).level).toNat = (n - (nd l f).level - 1).toNat + 1 by omega, Int.pow_succ]; omega
      omega
    · exact base f (by omega) h
theorem pow20 {m : Nat} (h : m ≤ 20) : (2 : Int) ^ m ≤ 1048576 := by
  have : 2 ^ m ≤ 2 ^ 20 := Nat.pow_le_pow_right (by decide) h
  have e : ((2 ^ m : Nat) : Int) = 2 ^ m := by norm_cast
  rw [← e]; omega
theorem FitP.below {l : List Node} {f n : Int} (h : FitP l f n) : 0 ≤ below l n f ∧ below l n f ≤ 2 ^ (n - lvl l n f).toNat ∧ below l n f ≤ 1048576 := by
  have h1 := below_le _ f (Nat.le_refl _) h
  have := h.n20; have := h.lvl0
  have h2 := pow20 (m := (n - lvl l n f).toNat) (by omega)
  exact ⟨h1.1, h1.2, by omega⟩
theorem FitP.from {l : List Node} {f n : Int} (h : FitP l f n) {level : Int} (h0 : 0 ≤ level) (hl : level ≤ lvl l n f) : 0 ≤ fromD l n f level ∧ fromD l n f level ≤ 2 ^ (n - level).toNat ∧ fromD l n f level ≤ 1048576 := by
  have hb := h.below
  have := h.n20; have hv := h.lvl0
  have h1 := pow_mul (k := (n - level).toNat) (j := (lvl l n f - level).toNat) hb.2.1 (by omega)
  have h2 := pow20 (m := (n - level).toNat) (by omega)
  have h3 := Int.mul_nonneg hb.1 (Int.pow_nonneg (n := 2) (m := (lvl l n f - level).toNat) (by decide))
  unfold fromD
  exact ⟨h3, h1, by omega⟩
theorem from_node {l : List Node} {f n : Int} (h : FitP l f n) (h1 : 1 < f) {level : Int} (_h0 : 0 ≤ level) (_hl : level ≤ (nd l f).level) : fromD l n f level = (fromD l n (nd l f).lo ((nd l f).level + 1) + fromD l n (nd l f).hi ((nd l f).level + 1)) * 2 ^ ((nd l f).level - level).toNat := by
  obtain ⟨e1, e2, e3, e4, e5⟩ := h.lvl_node h1
  unfold fromD
  rw [below_node h h1, e1, Int.sub_sub, Int.sub_sub]
theorem end_in {f x : Int} (m : Nat) (h : x = if f = 1 then 1 else 0) : 0 ≤ x ∧ x ≤ 2 ^ m := by
  have hp : (0 : Int) < 2 ^ m := Int.pow_pos (by decide)
  rw [h]; split <;> omega
theorem paths_le {l : List Node} : ∀ (j : Nat) (f : Int), f.toNat ≤ j → Good l → okNode l f → 0 ≤ pathsD l f ∧ pathsD l f ≤ 2 ^ (20 - lev l f).toNat := by
  intro j
  induction j with
  | zero => intro f hj hg hf; have := hf.1; unfold pathsD; exact end_in _ (fold_end (by omega))
  | succ j ih =>
    intro f hj hg hf
    by_cases h1 : 1 < f
    · have hl := hg.lohi hf h1
      have b1 := hl.1.1; have b2 := hl.2.1.1
      have i1 := ih _ (by omega) hg hl.1
      have i2 := ih _ (by omega) hg hl.2.1
      have l1 := hg.level hf; have l2 := hg.level hl.1; have l3 := hg.level hl.2.1
      have key : ∀ x : Int, lev l f < x → (2 : Int) ^ (20 - x).toNat ≤ 2 ^ (20 - lev l f - 1).toNat := fun x hx => by
        have : 2 ^ (20 - x).toNat ≤ 2 ^ (20 - lev l f - 1).toNat := Nat.pow_le_pow_right (by decide) (by omega)
        exact_mod_cast this
      have k1 := key _ hl.2.2.2.2.2.1; have k2 := key _ hl.2.2.2.2.2.2
      have e : (2 : Int) ^ (20 - lev l f).toNat = 2 * 2 ^ (20 - lev l f - 1).toNat := by
        rw [show (20 - lev l f).toNat = (20 - lev l f - 1).toNat + 1 by omega, Int.pow_succ]; omega
      have e2 : pathsD l f = pathsD l (nd l f).lo + pathsD l (nd l f).hi := fold_node hg hf h1
      rw [e2]; omega
    · have := hf.1; unfold pathsD; exact end_in _ (fold_end (by omega))
theorem paths_in {l : List Node} {f : Int} (hg : Good l) (hf : okNode l f) : 0 ≤ pathsD l f ∧ pathsD l f ≤ 1048576 := by
  have h1 := paths_le _ f (Nat.le_refl _) hg hf
  have := (hg.level hf).1
  have := pow20 (m := (20 - lev l f).toNat) (by omega)
  omega
def cntR (l : List Node) (n : Int) : List Rp := [Rp.slice eN l, Rp.int .i64 n]
def askR (l : List Node) (f n : Int) : List Rp := [Rp.slice eN l, Rp.int .i64 f, Rp.int .i64 n]
theorem ask_fact {l : List Node} {f n : Int} (w : World) (C : Nat → Prop) (v : Value) (h : (Rp.agg (askR l f n)).p w C v) : l.length ≤ 9223372036854775807 :=
  agg_fact (fun w C vs h => by
    match vs, h with
    | [a, b, c], ⟨h1, _⟩ => exact h1.1) w C v h
def fewB (l : List Node) : Bool := decide (∀ j : Nat, j < min l.length 61 → 2 ≤ j → (nd l (j : Nat)).level < 10) && decide (l.length ≤ 60)
def okP (_ : Node) (lo hi : Int) : Prop := (0 ≤ lo ∧ lo ≤ 1048576) ∧ 0 ≤ hi ∧ hi ≤ 1048576
def okB (l : List Node) (b : Int) (n : Node) (lo hi : Int) : Prop := ∃ k, FitP l k b ∧ 1 < k ∧ n = nd l k ∧ lo = below l b n.lo ∧ hi = below l b n.hi
theorem okB_in {l : List Node} {b k : Int} (h : FitP l k b) (h1 : 1 < k) :
    (0 ≤ below l b (nd l k).lo * 2 ^ (lvl l b (nd l k).lo - (nd l k).level - 1).toNat ∧ below l b (nd l k).lo * 2 ^ (lvl l b (nd l k).lo - (nd l k).level - 1).toNat ≤ 1048576) ∧
    0 ≤ below l b (nd l k).hi * 2 ^ (lvl l b (nd l k).hi - (nd l k).level - 1).toNat ∧ below l b (nd l k).hi * 2 ^ (lvl l b (nd l k).hi - (nd l k).level - 1).toNat ≤ 1048576 := by
  obtain ⟨e1, e2, e3, e4, e5⟩ := h.lvl_node h1
  have h2 := (h.lo h1).from (level := (nd l k).level + 1) (by omega) (by omega)
  have h3 := (h.hi h1).from (level := (nd l k).level + 1) (by omega) (by omega)
  unfold fromD at h2 h3
  rw [← Int.sub_sub] at h2 h3
  exact ⟨⟨h2.1, h2.2.2⟩, h3.1, h3.2.2⟩
section
variable {P : Program} {σ : Nat → Option Rp} {M : List MF} {o : Oper}
theorem spec_shlP {T T' : TypeId} {k' : IntKind} {x y : Operand} {m n : Int} (h : o.op = .binOp .shl T x y T') (hx : Get σ x (Rp.int .i64 m)) (hy : Get σ y (Rp.int k' n)) (hn : 0 ≤ n) (hn2 : n ≤ 64) (h0 : 0 ≤ m * 2 ^ n.toNat ∧ m * 2 ^ n.toNat ≤ 1048576) : Go.Sim.Spec P σ M o (.one (Rp.int .i64 (m * 2 ^ n.toNat))) := by
  have := spec_shl (P := P) (M := M) h hx hy hn
  rw [show min n.toNat IntKind.i64.bits = n.toNat by simp [IntKind.bits]; omega, wrap_in (k := .i64) ⟨by omega, by omega⟩] at this
  exact this
theorem spec_shrP {T T' : TypeId} {k' : IntKind} {x y : Operand} {m n : Int} (h : o.op = .binOp .shr T x y T') (hx : Get σ x (Rp.int .i64 m)) (hy : Get σ y (Rp.int k' n)) (hn : 0 ≤ n) (hn2 : n ≤ 64) : Go.Sim.Spec P σ M o (.one (Rp.int .i64 (m / 2 ^ n.toNat))) := by
  have := spec_shr (P := P) (M := M) h hx hy hn
  have hp : (0 : Int) < 2 ^ n.toNat := Int.pow_pos (by decide)
  rw [show min n.toNat IntKind.i64.bits = n.toNat by simp [IntKind.bits]; omega, Int.fdiv_eq_ediv_of_nonneg _ (Int.le_of_lt hp)] at this
  exact this
end
end Go.Proofs.Ytcpkjpkjahgobaa
