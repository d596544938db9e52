/- Paths of threads as data: the numbers of a path by steps, texts of numbers, streams. -/
import Derived.Test.YteannfdcbblooaaDoorThTyp
import Derived.Test.YteannfdcbblooaaDoorThShelf
namespace Go.Proofs.YteannfdcbblooaaDoor
open Go.Sim

def tabG : MF := MF.tab Tryd.prog "internal/strconv.uint64pow10" 0 .u64 Lib.pow10Tab
theorem finX : ∃ f : B64 → B64, ∀ x, f x =
    (let x1 := (x ^^^ (x >>> 30)) * BitVec.ofNat 64 13787848793156543929
     let x2 := (x1 ^^^ (x1 >>> 27)) * BitVec.ofNat 64 10723151780598845931
     x2 ^^^ (x2 >>> 31)) := ⟨_, fun _ => rfl⟩
/-- Hidden from the kernel: it is not to reckon with these numbers. -/
noncomputable def finB : B64 → B64 := Classical.choose finX
theorem finB_eq (x : B64) : finB x =
    (let x1 := (x ^^^ (x >>> 30)) * BitVec.ofNat 64 13787848793156543929
     let x2 := (x1 ^^^ (x1 >>> 27)) * BitVec.ofNat 64 10723151780598845931
     x2 ^^^ (x2 >>> 31)) := Classical.choose_spec finX x
theorem mixX : ∃ f : B64 → B64 → B64, ∀ a b, f a b = finB (a + BitVec.ofNat 64 11400714819323198485 * (b + BitVec.ofNat 64 1)) := ⟨_, fun _ _ => rfl⟩
noncomputable def mixB : B64 → B64 → B64 := Classical.choose mixX
theorem mixB_eq (a b : B64) : mixB a b = finB (a + BitVec.ofNat 64 11400714819323198485 * (b + BitVec.ofNat 64 1)) := Classical.choose_spec mixX a b
theorem hashX : ∃ f : B64 → UInt8 → B64, ∀ h c, f h c = (h ^^^ BitVec.ofNat 64 c.toNat) * BitVec.ofNat 64 1099511628211 := ⟨_, fun _ _ => rfl⟩
noncomputable def hashS : B64 → UInt8 → B64 := Classical.choose hashX
theorem hashS_eq (h : B64) (c : UInt8) : hashS h c = (h ^^^ BitVec.ofNat 64 c.toNat) * BitVec.ofNat 64 1099511628211 := Classical.choose_spec hashX h c
def hash0 : B64 := BitVec.ofNat 64 14695981039346656037
noncomputable def hashB (s : List UInt8) : B64 := s.foldl hashS hash0
theorem U0 : U (BitVec.ofNat 64 0) = 0 := by unfold U; rw [BitVec.toNat_ofNat]; rfl
noncomputable def newR (x : B64) : Rn := ⟨finB x, BitVec.ofNat 64 0⟩
noncomputable def childR (r : Rn) (s : List UInt8) : Rn := ⟨mixB r.key (hashB s), BitVec.ofNat 64 0⟩

/-- The decimal form of a number that is not negative. -/
def fmt (n : Int) : List UInt8 := Lib.decDigits n.toNat
def numOk (n : Int) : Prop := 0 ≤ n ∧ n ≤ 1048575
def numsOk (l : List Int) : Prop := ∀ n ∈ l, numOk n
theorem fmt_itoa {n : Int} (h : 0 ≤ n) : Lib.itoa n = fmt n := by
  unfold Lib.itoa fmt; rw [if_neg (by omega)]
theorem fmt_small {n : Int} (h0 : 0 ≤ n) (h : n < 10) : fmt n = [UInt8.ofNat (48 + n.toNat)] := by
  unfold fmt; rw [Lib.decDigits]; rw [dif_pos (by omega)]
theorem fmt_big {n : Int} (h : 10 ≤ n) : fmt n = fmt (n / 10) ++ [UInt8.ofNat (48 + (n % 10).toNat)] := by
  unfold fmt; rw [Lib.decDigits, dif_neg (by omega)]
  congr 2
  · congr 1; omega
  · congr 2; omega
theorem fmt_len {n : Int} (h : numOk n) : 1 ≤ (fmt n).length ∧ (fmt n).length ≤ 7 := by
  have key : ∀ k : Nat, ∀ n : Int, 0 ≤ n → n < 10 ^ (k + 1) → 1 ≤ (fmt n).length ∧ (fmt n).length ≤ k + 1 := by
    intro k
    induction k with
    | zero => intro n h0 h1; rw [fmt_small h0 (by simpa using h1)]; simp
    | succ k ih =>
      intro n h0 h1
      by_cases h : n < 10
      · rw [fmt_small h0 h]; simp
      · rw [fmt_big (by omega)]
        have := ih (n / 10) (by omega) (by rw [Int.pow_succ] at h1; omega)
        simp; omega
  exact key 6 n h.1 (by have := h.2; omega)

def cmpI (x y : Int) : Int := if x < y then -1 else if y < x then 1 else 0
def numX (l : List Int) (b : Bool) : RA := ⟨Value, fun v => Rp.tuple [Rp.val v, Rp.bool b], fun v => [MF.osl v 3 1 eI l]⟩
/-! Texts of numbers. -/
def joinK (l : List Int) : Nat → List UInt8
  | 0 => []
  | k + 1 => (if 0 < k then joinK l k ++ [46] else joinK l k) ++ fmt (l.getD k default)
def joinT (l : List Int) : List UInt8 := joinK l l.length
theorem join_len {l : List Int} (h : numsOk l) : ∀ k, k ≤ l.length → (joinK l k).length ≤ 8 * k
  | 0, _ => by simp [joinK]
  | k + 1, hk => by
    have h1 := join_len h k (by omega)
    have h2 := (fmt_len (h _ (getD_mem' (show k < l.length by omega)))).2
    rw [joinK]
    split <;> simp only [List.length_append, List.length_cons, List.length_nil] <;> omega

/-! The numbers of a path. -/
structure PS where
  out : List Int
  n : Int
  d : Int
  lead : Bool
def stp (p : PS) (c : Int) : Option PS :=
  if c = 46 ∧ 0 < p.d then some ⟨p.out ++ [p.n], 0, 0, false⟩
  else if (48 ≤ c ∧ c ≤ 57) ∧ p.lead = false ∧ p.n ≤ 1048575 then
    if 10 * p.n + (c - 48) ≤ 1048575 then some ⟨p.out, 10 * p.n + (c - 48), p.d + 1, decide (p.d = 0) && decide (c = 48)⟩ else none
  else none
def run0 : PS := ⟨[], 0, 0, false⟩
def runN (s : List UInt8) : Nat → Option PS
  | 0 => some run0
  | k + 1 => (runN s k).bind fun p => stp p (ch s k)
def endB (p : PS) : Bool := decide (0 < p.d) && decide (((p.out.length + 1 : Nat) : Int) ≤ 16)
def numsP (s : List UInt8) : List Int × Bool :=
  if s = [] then ([], true) else match runN s s.length with
  | none => ([], false)
  | some p => (p.out ++ [p.n], endB p)
/-- What the document's reading yields: nothing if it is no path. -/
def numsR (s : List UInt8) : List Int × Bool := if (numsP s).2 = true then numsP s else ([], false)
def okPS (k : Nat) (p : PS) : Prop := p.out.length ≤ k ∧ numOk p.n ∧ 0 ≤ p.d ∧ p.d ≤ k ∧ numsOk p.out
theorem numsOk_app {l : List Int} {n : Int} (h : numsOk l) (hn : numOk n) : numsOk (l ++ [n]) := fun x hx => by
  rcases List.mem_append.1 hx with hx | hx
  · exact h x hx
  · rw [List.mem_singleton.1 hx]; exact hn
theorem stp_ok {k : Nat} {p q : PS} {c : Int} (h : okPS k p) (e : stp p c = some q) : okPS (k + 1) q := by
  unfold stp at e
  split at e
  · cases e
    exact ⟨by have := h.1; simp; omega, ⟨Int.le_refl 0, show (0 : Int) ≤ 1048575 by decide⟩, Int.le_refl 0, show (0 : Int) ≤ ((k + 1 : Nat) : Int) by omega, numsOk_app h.2.2.2.2 h.2.1⟩
  split at e
  · rename_i hc
    split at e
    · cases e
      have := h.2.1; have h2 := h.2.2.1; have h3 := h.2.2.2.1
      exact ⟨by have := h.1; simp; omega, ⟨by have := this.1; dsimp only; omega, by assumption⟩, by dsimp only; omega, by dsimp only; omega, h.2.2.2.2⟩
    · cases e
  · cases e
theorem runN_ok {s : List UInt8} : ∀ {k : Nat} {p : PS}, runN s k = some p → okPS k p
  | 0, p, e => by cases e; exact ⟨by simp [run0], ⟨by decide, by decide⟩, by decide, by decide, fun x hx => by cases hx⟩
  | k + 1, p, e => by
    rw [runN] at e
    cases hq : runN s k with
    | none => rw [hq] at e; cases e
    | some q => rw [hq] at e; exact stp_ok (runN_ok hq) e
theorem runN_none {s : List UInt8} {k : Nat} (h : runN s k = none) : ∀ j, k ≤ j → runN s j = none := by
  intro j hj
  induction j with
  | zero => rw [← h]; congr 1; omega
  | succ j ih =>
    by_cases he : k = j + 1
    · rw [← he]; exact h
    · rw [runN, ih (by omega)]; rfl
theorem runN_step {s : List UInt8} {k : Nat} {p : PS} (h : runN s k = some p) : runN s (k + 1) = stp p (ch s k) := by rw [runN, h]; rfl
theorem nums_none {s : List UInt8} {k : Nat} (hk : k ≤ s.length) (h : runN s k = none) : numsP s = ([], false) := by
  have h0 : s ≠ [] := by
    rintro rfl
    have : k = 0 := by simpa using hk
    subst this; cases h
  unfold numsP
  rw [if_neg h0, runN_none h _ hk]
theorem nums_some {s : List UInt8} {p : PS} (h0 : s ≠ []) (h : runN s s.length = some p) : numsP s = (p.out ++ [p.n], endB p) := by
  unfold numsP
  rw [if_neg h0, h]
theorem numsP_ok (s : List UInt8) : numsOk (numsP s).1 ∧ ((numsP s).2 = true → (numsP s).1.length ≤ 16) := by
  have hnil : numsOk [] := fun x hx => by cases hx
  by_cases h0 : s = []
  · unfold numsP; rw [if_pos h0]; exact ⟨hnil, fun _ => Nat.zero_le _⟩
  · cases hp : runN s s.length with
    | none => rw [nums_none (Nat.le_refl _) hp]; exact ⟨hnil, fun h => by cases h⟩
    | some p =>
      rw [nums_some h0 hp]
      have h := runN_ok hp
      refine ⟨numsOk_app h.2.2.2.2 h.2.1, fun hb => ?_⟩
      simp only [endB, Bool.and_eq_true, decide_eq_true_eq] at hb
      simp; omega
/-- A rune is as its first byte: both are beyond the digits, or it is the byte. -/
theorem rune_stp (s : List UInt8) (i : Nat) (p : PS) : stp p (runeAt s i).1 = stp p (ch s i) := by
  by_cases h2 : (s.getD i 0).toNat < 128
  · rw [runeAt_ascii h2]; rfl
  · have h := runeAt_high (l := s) (i := i) (by omega)
    have h3 : 128 ≤ ch s i := by simp only [ch]; omega
    unfold stp
    rw [if_neg (by omega), if_neg (by omega), if_neg (by omega), if_neg (by omega)]
theorem next_low {s : List UInt8} {i : Nat} (hi : i < s.length) (h : (runeAt s i).1 < 128) : nextPos s i = i + 1 := by
  rw [nextPos, if_pos hi]
  by_cases h2 : (s.getD i 0).toNat < 128
  · rw [runeAt_ascii h2]
  · have := runeAt_high (l := s) (i := i) (by omega)
    omega
end Go.Proofs.YteannfdcbblooaaDoor
