/- Values of nodes from those of their kids: as data, and the memory of what is known. -/
import Derived.Test.YtcpkjpkjahgobaaCtG
import Derived.Test.YtcpkjpkjahgobaaSimP
namespace Go.Proofs.Ytcpkjpkjahgobaa
open Go.Sim

section
variable {α : Type}
def fo (l : List Node) (cb : Node → α → α → α) (e0 e1 : α) : Nat → Int → α
  | 0, k => if k = 1 then e1 else e0
  | j + 1, k => if k < 2 then (if k = 1 then e1 else e0) else cb (nd l k) (fo l cb e0 e1 j (nd l k).lo) (fo l cb e0 e1 j (nd l k).hi)
def fold (l : List Node) (cb : Node → α → α → α) (e0 e1 : α) (k : Int) : α := fo l cb e0 e1 k.toNat k
variable {l : List Node} {cb : Node → α → α → α} {e0 e1 : α}
theorem Good.lohi (h : Good l) {k : Int} (hk : okNode l k) (h1 : 1 < k) : okNode l (nd l k).lo ∧ okNode l (nd l k).hi ∧ (nd l k).lo < k ∧ (nd l k).hi < k ∧ (nd l k).lo ≠ (nd l k).hi ∧ lev l k < lev l (nd l k).lo ∧ lev l k < lev l (nd l k).hi :=
  h.kids hk fun e => by have := (h.level hk).2.2.1 e; omega
theorem fo_fuel (h : Good l) : ∀ (i j : Nat) (k : Int), okNode l k → k.toNat ≤ i → k.toNat ≤ j → fo l cb e0 e1 i k = fo l cb e0 e1 j k
  | 0, 0, _, _, _, _ => rfl
  | 0, j + 1, k, hk, h1, _ => by have := hk.1; simp only [fo]; rw [if_pos (show k < 2 by omega)]
  | i + 1, 0, k, hk, _, h2 => by have := hk.1; simp only [fo]; rw [if_pos (show k < 2 by omega)]
  | i + 1, j + 1, k, hk, h1, h2 => by
    simp only [fo]
    by_cases h3 : k < 2
    · rw [if_pos h3, if_pos h3]
    · rw [if_neg h3, if_neg h3]
      have hl := h.lohi hk (by omega)
      have b1 := hl.1.1; have b2 := hl.2.1.1
      rw [fo_fuel h i j _ hl.1 (by omega) (by omega), fo_fuel h i j _ hl.2.1 (by omega) (by omega)]
theorem fold_end {k : Int} (h : k < 2) : fold l cb e0 e1 k = if k = 1 then e1 else e0 := by
  unfold fold
  cases k.toNat with
  | zero => rfl
  | succ j => simp only [fo]; rw [if_pos h]
theorem fold_node (h : Good l) {k : Int} (hk : okNode l k) (h1 : 1 < k) : fold l cb e0 e1 k = cb (nd l k) (fold l cb e0 e1 (nd l k).lo) (fold l cb e0 e1 (nd l k).hi) := by
  have hl := h.lohi hk h1
  have b1 := hl.1.1; have b2 := hl.2.1.1
  obtain ⟨j, hj⟩ : ∃ j, k.toNat = j + 1 := ⟨k.toNat - 1, by omega⟩
  unfold fold
  rw [hj, fo, if_neg (by omega), fo_fuel h j _ _ hl.1 (by omega) (Nat.le_refl _), fo_fuel h j _ _ hl.2.1 (by omega) (Nat.le_refl _)]

/-- The nodes that a node reaches. -/
inductive Reach (l : List Node) (f : Int) : Int → Prop where
  | here : Reach l f f
  | lo {k : Int} : Reach l f k → 1 < k → Reach l f (nd l k).lo
  | hi {k : Int} : Reach l f k → 1 < k → Reach l f (nd l k).hi
theorem Reach.ok (h : Good l) {f k : Int} (hf : okNode l f) (hr : Reach l f k) : okNode l k ∧ k ≤ f := by
  induction hr with
  | here => exact ⟨hf, Int.le_refl _⟩
  | lo _ h1 ih => have := h.lohi ih.1 h1; exact ⟨this.1, by omega⟩
  | hi _ h1 ih => have := h.lohi ih.1 h1; exact ⟨this.2.1, by omega⟩

/-- What is known so far. -/
structure VOk (l : List Node) (cb : Node → α → α → α) (e0 e1 : α) (f : Int) (K : List α) (D : List Bool) : Prop where
  lenK : K.length = f.toNat + 1
  lenD : D.length = f.toNat + 1
  known : ∀ j : Nat, D[j]? = some true → K[j]? = some (fold l cb e0 e1 (j : Nat))
theorem vok_nil {f : Int} {z : α} {n : Nat} (hn : n = f.toNat + 1) : VOk l cb e0 e1 f (List.replicate n z) (List.replicate n false) :=
  ⟨by simp [hn], by simp [hn], fun j hj => by
    rw [List.getElem?_replicate] at hj
    split at hj
    · cases hj
    · cases hj⟩
theorem VOk.set {f k : Int} {K : List α} {D : List Bool} (h : VOk l cb e0 e1 f K D) (hk : 0 ≤ k) (hkf : k ≤ f) {x : α} (hx : x = fold l cb e0 e1 k) : VOk l cb e0 e1 f (K.set k.toNat x) (D.set k.toNat true) :=
  ⟨by rw [List.length_set]; exact h.lenK, by rw [List.length_set]; exact h.lenD, fun j hj => by
    rw [List.getElem?_set] at hj ⊢
    by_cases e : k.toNat = j
    · rw [if_pos e]
      have := h.lenK
      rw [if_pos (by omega), hx, ← e, Int.toNat_of_nonneg hk]
    · rw [if_neg e] at hj ⊢; exact h.known j hj⟩
theorem VOk.get {f k : Int} {K : List α} {D : List Bool} [Inhabited α] (h : VOk l cb e0 e1 f K D) (hk : 0 ≤ k) (hd : D.getD k.toNat default = true) : K.getD k.toNat default = fold l cb e0 e1 k := by
  have hd2 : D[k.toNat]? = some true := by
    rw [List.getD_eq_getElem?_getD] at hd
    cases hx : D[k.toNat]? with
    | none => rw [hx] at hd; cases hd
    | some b => rw [hx] at hd; simpa using hd
  have := h.known _ hd2
  rw [List.getD_eq_getElem?_getD, this, Int.toNat_of_nonneg hk]; rfl
theorem VOk.at {f k : Int} {K : List α} {D : List Bool} [Inhabited α] (h : VOk l cb e0 e1 f K D) (_hk : 0 ≤ k) (hkf : k ≤ f) {x : α} (hx : x = fold l cb e0 e1 k) : (K.set k.toNat x).getD k.toNat default = fold l cb e0 e1 k := by
  have := h.lenK
  rw [List.getD_eq_getElem?_getD, List.getElem?_set, if_pos rfl, if_pos (by omega), hx]; rfl
theorem ends_row {E : α → List Rp} {sz : Nat} (hE : ∀ x, (E x).length = sz) {k : Int} (hk : 0 ≤ k) (h2 : k < 2) : ((E e0 ++ E e1).drop (k.toNat * sz)).take sz = E (if k = 1 then e1 else e0) := by
  have : k = 0 ∨ k = 1 := by omega
  rcases this with rfl | rfl
  · simp [hE]
  · simp [hE]; exact List.take_of_length_le (by rw [hE]; exact Nat.le_refl _)
end
/-! Functions that combine. -/
def cI {α : Type} (ok : Node → α → α → Prop) : Type := {x : Node × α × α // ok x.1 x.2.1 x.2.2}
def cA {α : Type} (R : α → Rp) (ok : Node → α → α → Prop) (i : cI ok) : List Rp := [Rp.agg (eN i.1.1), R i.1.2.1, R i.1.2.2]
def cX {α : Type} (R : α → Rp) (cb : Node → α → α → α) (ok : Node → α → α → Prop) (i : cI ok) : RA := .one (R (cb i.1.1 i.1.2.1 i.1.2.2))
def cR {α : Type} (R : α → Rp) (cb : Node → α → α → α) (ok : Node → α → α → Prop) : Rp := Rp.fn Try.prog (cA R ok) (cX R cb ok)
instance {α : Type} {R : α → Rp} {cb : Node → α → α → α} {ok : Node → α → α → Prop} : Go.Sim.One (cR R cb ok) := inferInstanceAs (Go.Sim.One (Rp.fn _ _ _))
abbrev rI (n : Int) : Rp := Rp.int .i64 n
/-- The amount of a number: a number that is greater than any int is none. -/
def amt (x : Nat) : Amt := if x ≤ 9223372036854775807 then ⟨x, false⟩ else ⟨0, true⟩
def eA (x : Nat) : List Rp := eM (amt x)
abbrev rM (x : Nat) : Rp := Rp.agg (eA x)
/-- What a visit leaves. -/
def visX {α : Type} (R : α → Rp) (E : α → List Rp) (T sz : Nat) (l : List Node) (cb : Node → α → α → α) (e0 e1 : α) (f : Int) (vk vd : Value) (k : Int) : RA :=
  ⟨{x : List α × List Bool // VOk l cb e0 e1 f x.1 x.2}, fun _ => R (fold l cb e0 e1 k), fun x => [MF.osl vk T sz E x.1.1, MF.osl vd 4 1 eB x.1.2]⟩
end Go.Proofs.Ytcpkjpkjahgobaa
