/- Lists by their indices: first index with a property, first error, folds over beginnings. -/
import Derived.Test.YtlbhpjigjehffaaDoorSimT
namespace Go.Sim
theorem getD_mem' {α : Type} [Inhabited α] {l : List α} {i : Nat} (h : i < l.length) : l.getD i default ∈ l := by
  rw [List.getD, List.getElem?_eq_getElem h]; exact List.getElem_mem h
theorem mem_getD {α : Type} [Inhabited α] {l : List α} {x : α} (h : x ∈ l) : ∃ i, i < l.length ∧ l.getD i default = x := by
  obtain ⟨i, hi, rfl⟩ := List.getElem_of_mem h
  exact ⟨i, hi, by rw [List.getD, List.getElem?_eq_getElem hi]; rfl⟩
theorem take_succ {α : Type} [Inhabited α] {l : List α} {i : Nat} (h : i < l.length) : l.take (i + 1) = l.take i ++ [l.getD i default] := by
  rw [List.take_add_one, List.getElem?_eq_getElem h, List.getD, List.getElem?_eq_getElem h]; rfl
theorem fold_take {α β : Type} [Inhabited α] (f : β → α → β) (b : β) {l : List α} {i : Nat} (h : i < l.length) : (l.take (i + 1)).foldl f b = f ((l.take i).foldl f b) (l.getD i default) := by
  rw [take_succ h, List.foldl_append]; rfl
theorem map_take {α β : Type} [Inhabited α] (f : α → β) {l : List α} {i : Nat} (h : i < l.length) : (l.take (i + 1)).map f = (l.take i).map f ++ [f (l.getD i default)] := by
  rw [take_succ h, List.map_append]; rfl
theorem getD_take {α : Type} [Inhabited α] {l : List α} {i j : Nat} (h : j < i) : (l.take i).getD j default = l.getD j default := by
  rw [List.getD, List.getD, List.getElem?_take, if_pos h]
theorem ext_get {α : Type} [Inhabited α] {a b : List α} (hl : a.length = b.length) (h : ∀ j : Nat, j < a.length → a.getD j default = b.getD j default) : a = b := by
  apply List.ext_getElem hl
  intro j h1 h2
  have := h j h1
  simpa [List.getD, h1, h2] using this

/-- The first index of an element with a property; -1 if there is none. -/
def idxI {α : Type} (p : α → Bool) (l : List α) : Int := match l.findIdx? p with | some i => (i : Int) | none => -1
theorem idx_yes {α : Type} [Inhabited α] {p : α → Bool} {l : List α} {i : Nat} (hi : i < l.length) (h : p (l.getD i default) = true) (hn : ∀ j, j < i → p (l.getD j default) = false) : idxI p l = i := by
  have : l.findIdx? p = some i := by
    rw [List.findIdx?_eq_some_iff_getElem]
    refine ⟨hi, ?_, fun j hj => ?_⟩
    · simpa [List.getD, hi] using h
    · have := hn j hj
      simpa [List.getD, show j < l.length by omega] using this
  simp [idxI, this]
theorem idx_no {α : Type} [Inhabited α] {p : α → Bool} {l : List α} (hn : ∀ j, j < l.length → p (l.getD j default) = false) : idxI p l = -1 := by
  have : l.findIdx? p = none := by
    rw [List.findIdx?_eq_none_iff]
    intro x hx
    obtain ⟨i, hi, rfl⟩ := mem_getD hx
    exact hn i hi
  simp [idxI, this]
theorem idx_cases {α : Type} [Inhabited α] (p : α → Bool) (l : List α) : (∃ i, i < l.length ∧ p (l.getD i default) = true ∧ (∀ j, j < i → p (l.getD j default) = false) ∧ idxI p l = i) ∨ ((∀ j, j < l.length → p (l.getD j default) = false) ∧ idxI p l = -1) := by
  by_cases h : ∀ j, j < l.length → p (l.getD j default) = false
  · exact .inr ⟨h, idx_no h⟩
  · have : ∃ i, i < l.length ∧ p (l.getD i default) = true ∧ ∀ j, j < i → p (l.getD j default) = false := by
      have key : ∀ n, n ≤ l.length → (∀ j, j < n → p (l.getD j default) = false) ∨ ∃ i, i < n ∧ p (l.getD i default) = true ∧ ∀ j, j < i → p (l.getD j default) = false := by
        intro n
        induction n with
        | zero => intro _; exact .inl fun j hj => absurd hj (Nat.not_lt_zero _)
        | succ n ih =>
          intro hn
          rcases ih (by omega) with h1 | ⟨i, h1, h2, h3⟩
          · cases hp : p (l.getD n default) with
            | true => exact .inr ⟨n, by omega, hp, h1⟩
            | false =>
              refine .inl fun j hj => ?_
              rcases Nat.lt_succ_iff_lt_or_eq.1 hj with hj | rfl
              · exact h1 j hj
              · exact hp
          · exact .inr ⟨i, by omega, h2, h3⟩
      rcases key _ (Nat.le_refl _) with h1 | h1
      · exact absurd h1 h
      · exact h1
    obtain ⟨i, h1, h2, h3⟩ := this
    exact .inl ⟨i, h1, h2, h3, idx_yes h1 h2 h3⟩
theorem idx_any {α : Type} [Inhabited α] (p : α → Bool) (l : List α) : decide (0 ≤ idxI p l) = l.any p := by
  rw [Bool.eq_iff_iff, decide_eq_true_eq, List.any_eq_true]
  rcases idx_cases p l with ⟨i, h1, h2, _, h4⟩ | ⟨h1, h2⟩
  · exact ⟨fun _ => ⟨_, getD_mem' h1, h2⟩, fun _ => by omega⟩
  · refine ⟨fun h => by omega, fun ⟨x, hx, hp⟩ => ?_⟩
    obtain ⟨i, hi, rfl⟩ := mem_getD hx
    rw [h1 i hi] at hp; cases hp
theorem idx_ge {α : Type} [Inhabited α] (p : α → Bool) (l : List α) : -1 ≤ idxI p l ∧ idxI p l < l.length := by
  rcases idx_cases p l with ⟨i, h1, _, _, h4⟩ | ⟨_, h2⟩ <;> omega
theorem idx_get {α : Type} [Inhabited α] {p : α → Bool} {l : List α} (h : 0 ≤ idxI p l) : p (l.getD (idxI p l).toNat default) = true := by
  rcases idx_cases p l with ⟨i, _, h2, _, h4⟩ | ⟨_, h2⟩
  · rw [h4]; exact h2
  · omega
theorem any_no {α : Type} [Inhabited α] {p : α → Bool} {l : List α} (hn : ∀ j, j < l.length → p (l.getD j default) = false) : l.any p = false := by
  rw [← idx_any, idx_no hn]; rfl
theorem any_yes {α : Type} [Inhabited α] {p : α → Bool} {l : List α} {i : Nat} (hi : i < l.length) (h : p (l.getD i default) = true) : l.any p = true :=
  List.any_eq_true.2 ⟨_, getD_mem' hi, h⟩

theorem mem_take {α : Type} [Inhabited α] {l : List α} {i k : Nat} (hi : i ≤ l.length) (hk : k < i) : l.getD k default ∈ l.take i := by
  rw [← getD_take hk]; exact getD_mem' (by simp; omega)
theorem any_take_yes {α : Type} [Inhabited α] {p : α → Bool} {l : List α} {i j : Nat} (hi : i ≤ l.length) (hj : j < i) (h : p (l.getD j default) = true) : (l.take i).any p = true :=
  any_yes (i := j) (by simp; omega) (by rw [getD_take hj]; exact h)
theorem any_take_no {α : Type} [Inhabited α] {p : α → Bool} {l : List α} {i : Nat} (h : ∀ j, j < i → p (l.getD j default) = false) : (l.take i).any p = false :=
  any_no fun j hj => by
    have hj' : j < i := by simp at hj; omega
    rw [getD_take hj']; exact h j hj'

/-- The first value that is not 0. -/
def firstI : Nat → (Nat → Int) → Int
  | 0, _ => 0
  | n + 1, e => if firstI n e ≠ 0 then firstI n e else e n
theorem first_no {e : Nat → Int} : ∀ {n : Nat}, (∀ j, j < n → e j = 0) → firstI n e = 0
  | 0, _ => rfl
  | n + 1, h => by
    have h1 := first_no (n := n) fun j hj => h j (by omega)
    simp [firstI, h1, h n (by omega)]
theorem first_yes {e : Nat → Int} {i : Nat} (h0 : e i ≠ 0) (h : ∀ j, j < i → e j = 0) : ∀ {n : Nat}, i < n → firstI n e = e i
  | 0, hi => absurd hi (Nat.not_lt_zero _)
  | n + 1, hi => by
    rcases Nat.lt_succ_iff_lt_or_eq.1 hi with hi | rfl
    · simp [firstI, first_yes h0 h hi, h0]
    · simp [firstI, first_no h]
theorem first_zero {e : Nat → Int} : ∀ {n : Nat}, firstI n e = 0 → ∀ j, j < n → e j = 0
  | 0, _, j, hj => absurd hj (Nat.not_lt_zero _)
  | n + 1, h, j, hj => by
    simp only [firstI] at h
    split at h
    · rename_i h1; exact absurd h h1
    · rename_i h1
      have h1 : firstI n e = 0 := by simpa using h1
      rcases Nat.lt_succ_iff_lt_or_eq.1 hj with hj | rfl
      · exact first_zero h1 j hj
      · exact h
theorem first_congr {e e' : Nat → Int} : ∀ {n : Nat}, (∀ j, j < n → (∀ i, i < j → e i = 0) → e j = e' j) → firstI n e = firstI n e'
  | 0, _ => rfl
  | n + 1, h => by
    have h1 := first_congr (n := n) fun j hj => h j (by omega)
    simp only [firstI, h1]
    split
    · rfl
    · rename_i h2
      have h2 : firstI n e' = 0 := by simpa using h2
      exact h n (by omega) (first_zero (by rw [h1, h2]))

/-! Names: letters, digits, '_', beginning with a small letter; no keyword. -/
def lowB (c : Int) : Bool := decide (97 ≤ c) && decide (c ≤ 122)
def digB (c : Int) : Bool := decide (48 ≤ c) && decide (c ≤ 57)
def folB (c : Int) : Bool := lowB c || digB c || (decide (65 ≤ c) && decide (c ≤ 90)) || decide (c = 95)
def ch (s : List UInt8) (i : Nat) : Int := ((s.getD i 0).toNat : Int)
def wordB (s : List UInt8) : Bool := decide (s ≠ []) && lowB (ch s 0) && decide (∀ j, j < s.length → folB (ch s j) = true)
def keywords : List (List UInt8) := [[99, 108, 97, 115, 115], [101, 120, 116, 101, 110, 100, 115], [114, 97, 110, 100], [114, 97, 110, 100, 99], [115, 116, 97, 116, 101], [99, 111, 110, 115, 116, 114, 97, 105, 110, 116], [115, 111, 102, 116], [100, 105, 115, 116], [105, 102], [101, 108, 115, 101], [101, 97, 99, 104], [105, 110], [115, 111, 108, 118, 101], [98, 101, 102, 111, 114, 101], [105, 110, 115, 105, 100, 101], [112, 114, 111, 112, 101, 114, 116, 121], [115, 101, 113], [97, 110, 100], [111, 114], [110, 111, 116], [115, 101, 116], [104, 111, 108, 100], [112, 108, 97, 105, 110], [114, 101, 112, 101, 97, 116]]
def kwB (s : List UInt8) : Bool := keywords.any fun x => s == x
def nameB (s : List UInt8) : Bool := wordB s && decide (s.length ≤ 16) && !kwB s
theorem folB_lt {c : Int} (h : folB c = true) : 0 ≤ c ∧ c < 128 := by
  simp only [folB, lowB, digB, Bool.or_eq_true, Bool.and_eq_true, decide_eq_true_eq] at h
  omega
theorem low_fol {c : Int} (h : lowB c = true) : folB c = true := by simp [folB, h]
theorem ch_range (s : List UInt8) (i : Nat) : 0 ≤ ch s i ∧ ch s i ≤ 255 := by
  have := (s.getD i 0).toNat_lt
  simp only [ch]; omega
/-- A rune that continues a name is a byte. -/
theorem rune_fol {s : List UInt8} {i : Nat} (h : folB (runeAt s i).1 = true) : ch s i = (runeAt s i).1 ∧ (runeAt s i).2 = 1 := by
  have h1 := folB_lt h
  by_cases h2 : (s.getD i 0).toNat < 128
  · rw [runeAt_ascii h2]; exact ⟨rfl, rfl⟩
  · have := runeAt_high (l := s) (i := i) (by omega)
    omega
theorem rune_not {s : List UInt8} {i : Nat} (h : folB (runeAt s i).1 = false) : folB (ch s i) = false := by
  by_cases h2 : (s.getD i 0).toNat < 128
  · rw [runeAt_ascii h2] at h; exact h
  · cases hc : folB (ch s i) with
    | false => rfl
    | true => have := folB_lt hc; simp only [ch] at this; omega
theorem rune_notlow {s : List UInt8} {i : Nat} (h : lowB (runeAt s i).1 = false) : lowB (ch s i) = false := by
  by_cases h2 : (s.getD i 0).toNat < 128
  · rw [runeAt_ascii h2] at h; exact h
  · cases hc : lowB (ch s i) with
    | false => rfl
    | true => have := folB_lt (low_fol hc); simp only [ch] at this; omega
theorem next_fol {s : List UInt8} {i : Nat} (hi : i < s.length) (h : folB (runeAt s i).1 = true) : nextPos s i = i + 1 := by
  rw [nextPos, if_pos hi, (rune_fol h).2]
theorem name_ne {s : List UInt8} (h : ((s == []) || decide (16 < (s.length : Int))) = false) : 0 < s.length := by
  cases s with
  | nil => simp at h
  | cons a s => simp
theorem name_first {s : List UInt8} (hn : nameB s = true) (h : ((((s == []) || decide (16 < (s.length : Int))) || !lowB (ch s 0)) || kwB s) = true) : False := by
  simp only [nameB, wordB, Bool.and_eq_true, decide_eq_true_eq, Bool.not_eq_true'] at hn
  obtain ⟨⟨⟨⟨h1, h2⟩, h3⟩, h4⟩, h5⟩ := hn
  simp only [Bool.or_eq_true, Bool.not_eq_true', decide_eq_true_eq, beq_iff_eq] at h
  rcases h with ((h | h) | h) | h
  · exact h1 h
  · omega
  · rw [h2] at h; cases h
  · rw [h5] at h; cases h
theorem name_inner {s : List UInt8} (hn : nameB s = true) {i : Nat} (hi : i < s.length) (h : folB (ch s i) = false) : False := by
  simp only [nameB, wordB, Bool.and_eq_true, decide_eq_true_eq, Bool.not_eq_true'] at hn
  obtain ⟨⟨⟨⟨h1, h2⟩, h3⟩, h4⟩, h5⟩ := hn
  rw [h3 i hi] at h; cases h
theorem name_all {s : List UInt8} (h : ((((s == []) || decide (16 < (s.length : Int))) || !lowB (ch s 0)) || kwB s) = false) (hf : ∀ j, j < s.length → folB (ch s j) = true) : nameB s = true := by
  simp only [Bool.or_eq_false_iff, Bool.not_eq_false', decide_eq_false_iff_not] at h
  obtain ⟨⟨⟨h1, h2⟩, h3⟩, h4⟩ := h
  simp only [nameB, wordB, Bool.and_eq_true, decide_eq_true_eq, Bool.not_eq_true']
  exact ⟨⟨⟨⟨by intro e; subst e; simp at h1, h3⟩, hf⟩, by omega⟩, h4⟩
theorem word_no {s : List UInt8} {i : Nat} (hi : i < s.length) (h : ((decide (i = 0) && !lowB (ch s i)) || !folB (ch s i)) = true) : wordB s = false := by
  simp only [wordB, Bool.and_eq_false_iff, decide_eq_false_iff_not]
  simp only [Bool.or_eq_true, Bool.and_eq_true, decide_eq_true_eq, Bool.not_eq_true'] at h
  rcases h with ⟨rfl, h⟩ | h
  · exact .inl (.inr h)
  · exact .inr fun hh => by rw [hh i hi] at h; cases h
theorem word_yes {s : List UInt8} (h : ∀ j, j < s.length → folB (ch s j) = true) (h0 : 0 < s.length → lowB (ch s 0) = true) : wordB s = !(s == []) := by
  cases s with
  | nil => simp [wordB]
  | cons a s =>
    simp only [wordB]
    rw [h0 (by simp), decide_eq_true h]
    rfl
end Go.Sim
