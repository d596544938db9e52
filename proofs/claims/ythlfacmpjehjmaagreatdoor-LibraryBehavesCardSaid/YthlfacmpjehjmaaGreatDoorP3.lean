/- Lemmas for the claim, part 3: rules for walks, contracts of functions, the data they compute. No conditions. -/
import Derived.Test.YthlfacmpjehjmaaGreatDoorP2
import Derived.Laws.IdiomStrings
import Derived.Lib.ConvBytes
import Derived.Lib.LaidTab
import Derived.Sort.Grow
import Derived.Deep.Draws
import Derived.SizedLaws
import Derived.Test.YthlfacmpjehjmaaGreatDoorP1
import Derived.Test.YthlfacmpjehjmaaGreatDoorProg
import Derived.KernelRfl
/- Lists by their indices: first index with a property, first error, folds over beginnings. -/
namespace Go.Sim
theorem getD_mem' {α : Type} [Inhabited α] {l : List α} {i : Nat} (h : i < l.length) : l.getD i default ∈ l := by
  rw [List.getD, List.getElem?_eq_getElem h]; exact List.getElem_mem h
theorem mem_getD {α : Type} [Inhabited α] {l : List α} {x : α} (h : x ∈ l) : ∃ i, i < l.length ∧ l.getD i default = x := by
  obtain ⟨i, hi, rfl⟩ := List.getElem_of_mem h
  exact ⟨i, hi, by rw [List.getD, List.getElem?_eq_getElem hi]; rfl⟩
theorem take_succ {α : Type} [Inhabited α] {l : List α} {i : Nat} (h : i < l.length) : l.take (i + 1) = l.take i ++ [l.getD i default] := by
  rw [List.take_add_one, List.getElem?_eq_getElem h, List.getD, List.getElem?_eq_getElem h]; rfl
theorem fold_take {α β : Type} [Inhabited α] (f : β → α → β) (b : β) {l : List α} {i : Nat} (h : i < l.length) : (l.take (i + 1)).foldl f b = f ((l.take i).foldl f b) (l.getD i default) := by
  rw [take_succ h, List.foldl_append]; rfl
theorem map_take {α β : Type} [Inhabited α] (f : α → β) {l : List α} {i : Nat} (h : i < l.length) : (l.take (i + 1)).map f = (l.take i).map f ++ [f (l.getD i default)] := by
  rw [take_succ h, List.map_append]; rfl
theorem getD_take {α : Type} [Inhabited α] {l : List α} {i j : Nat} (h : j < i) : (l.take i).getD j default = l.getD j default := by
  rw [List.getD, List.getD, List.getElem?_take, if_pos h]
theorem ext_get {α : Type} [Inhabited α] {a b : List α} (hl : a.length = b.length) (h : ∀ j : Nat, j < a.length → a.getD j default = b.getD j default) : a = b := by
  apply List.ext_getElem hl
  intro j h1 h2
  have := h j h1
  simpa [List.getD, h1, h2] using this

/-- The first index of an element with a property; -1 if there is none. -/
def idxI {α : Type} (p : α → Bool) (l : List α) : Int := match l.findIdx? p with | some i => (i : Int) | none => -1
theorem idx_yes {α : Type} [Inhabited α] {p : α → Bool} {l : List α} {i : Nat} (hi : i < l.length) (h : p (l.getD i default) = true) (hn : ∀ j, j < i → p (l.getD j default) = false) : idxI p l = i := by
  have : l.findIdx? p = some i := by
    rw [List.findIdx?_eq_some_iff_getElem]
    refine ⟨hi, ?_, fun j hj => ?_⟩
    · simpa [List.getD, hi] using h
    · have := hn j hj
      simpa [List.getD, show j < l.length by omega] using this
  simp [idxI, this]
theorem idx_no {α : Type} [Inhabited α] {p : α → Bool} {l : List α} (hn : ∀ j, j < l.length → p (l.getD j default) = false) : idxI p l = -1 := by
  have : l.findIdx? p = none := by
    rw [List.findIdx?_eq_none_iff]
    intro x hx
    obtain ⟨i, hi, rfl⟩ := mem_getD hx
    exact hn i hi
  simp [idxI, this]
theorem idx_cases {α : Type} [Inhabited α] (p : α → Bool) (l : List α) : (∃ i, i < l.length ∧ p (l.getD i default) = true ∧ (∀ j, j < i → p (l.getD j default) = false) ∧ idxI p l = i) ∨ ((∀ j, j < l.length → p (l.getD j default) = false) ∧ idxI p l = -1) := by
  by_cases h : ∀ j, j < l.length → p (l.getD j default) = false
  · exact .inr ⟨h, idx_no h⟩
  · have : ∃ i, i < l.length ∧ p (l.getD i default) = true ∧ ∀ j, j < i → p (l.getD j default) = false := by
      have key : ∀ n, n ≤ l.length → (∀ j, j < n → p (l.getD j default) = false) ∨ ∃ i, i < n ∧ p (l.getD i default) = true ∧ ∀ j, j < i → p (l.getD j default) = false := by
        intro n
        induction n with
        | zero => intro _; exact .inl fun j hj => absurd hj (Nat.not_lt_zero _)
        | succ n ih =>
          intro hn
          rcases ih (by omega) with h1 | ⟨i, h1, h2, h3⟩
          · cases hp : p (l.getD n default) with
            | true => exact .inr ⟨n, by omega, hp, h1⟩
            | false =>
              refine .inl fun j hj => ?_
              rcases Nat.lt_succ_iff_lt_or_eq.1 hj with hj | rfl
              · exact h1 j hj
              · exact hp
          · exact .inr ⟨i, by omega, h2, h3⟩
      rcases key _ (Nat.le_refl _) with h1 | h1
      · exact absurd h1 h
      · exact h1
    obtain ⟨i, h1, h2, h3⟩ := this
    exact .inl ⟨i, h1, h2, h3, idx_yes h1 h2 h3⟩
theorem idx_any {α : Type} [Inhabited α] (p : α → Bool) (l : List α) : decide (0 ≤ idxI p l) = l.any p := by
  rw [Bool.eq_iff_iff, decide_eq_true_eq, List.any_eq_true]
  rcases idx_cases p l with ⟨i, h1, h2, _, h4⟩ | ⟨h1, h2⟩
  · exact ⟨fun _ => ⟨_, getD_mem' h1, h2⟩, fun _ => by omega⟩
  · refine ⟨fun h => by omega, fun ⟨x, hx, hp⟩ => ?_⟩
    obtain ⟨i, hi, rfl⟩ := mem_getD hx
    rw [h1 i hi] at hp; cases hp
theorem idx_ge {α : Type} [Inhabited α] (p : α → Bool) (l : List α) : -1 ≤ idxI p l ∧ idxI p l < l.length := by
  rcases idx_cases p l with ⟨i, h1, _, _, h4⟩ | ⟨_, h2⟩ <;> omega
theorem idx_get {α : Type} [Inhabited α] {p : α → Bool} {l : List α} (h : 0 ≤ idxI p l) : p (l.getD (idxI p l).toNat default) = true := by
  rcases idx_cases p l with ⟨i, _, h2, _, h4⟩ | ⟨_, h2⟩
  · rw [h4]; exact h2
  · omega
theorem any_no {α : Type} [Inhabited α] {p : α → Bool} {l : List α} (hn : ∀ j, j < l.length → p (l.getD j default) = false) : l.any p = false := by
  rw [← idx_any, idx_no hn]; rfl
theorem any_yes {α : Type} [Inhabited α] {p : α → Bool} {l : List α} {i : Nat} (hi : i < l.length) (h : p (l.getD i default) = true) : l.any p = true :=
  List.any_eq_true.2 ⟨_, getD_mem' hi, h⟩

theorem mem_take {α : Type} [Inhabited α] {l : List α} {i k : Nat} (hi : i ≤ l.length) (hk : k < i) : l.getD k default ∈ l.take i := by
  rw [← getD_take hk]; exact getD_mem' (by simp; omega)
theorem any_take_yes {α : Type} [Inhabited α] {p : α → Bool} {l : List α} {i j : Nat} (hi : i ≤ l.length) (hj : j < i) (h : p (l.getD j default) = true) : (l.take i).any p = true :=
  any_yes (i := j) (by simp; omega) (by rw [getD_take hj]; exact h)
theorem any_take_no {α : Type} [Inhabited α] {p : α → Bool} {l : List α} {i : Nat} (h : ∀ j, j < i → p (l.getD j default) = false) : (l.take i).any p = false :=
  any_no fun j hj => by
    have hj' : j < i := by simp at hj; omega
    rw [getD_take hj']; exact h j hj'

/-- The first value that is not 0. -/
def firstI : Nat → (Nat → Int) → Int
  | 0, _ => 0
  | n + 1, e => if firstI n e ≠ 0 then firstI n e else e n
theorem first_no {e : Nat → Int} : ∀ {n : Nat}, (∀ j, j < n → e j = 0) → firstI n e = 0
  | 0, _ => rfl
  | n + 1, h => by
    have h1 := first_no (n := n) fun j hj => h j (by omega)
    simp [firstI, h1, h n (by omega)]
theorem first_yes {e : Nat → Int} {i : Nat} (h0 : e i ≠ 0) (h : ∀ j, j < i → e j = 0) : ∀ {n : Nat}, i < n → firstI n e = e i
  | 0, hi => absurd hi (Nat.not_lt_zero _)
  | n + 1, hi => by
    rcases Nat.lt_succ_iff_lt_or_eq.1 hi with hi | rfl
    · simp [firstI, first_yes h0 h hi, h0]
    · simp [firstI, first_no h]
theorem first_zero {e : Nat → Int} : ∀ {n : Nat}, firstI n e = 0 → ∀ j, j < n → e j = 0
  | 0, _, j, hj => absurd hj (Nat.not_lt_zero _)
  | n + 1, h, j, hj => by
    simp only [firstI] at h
    split at h
    · rename_i h1; exact absurd h h1
    · rename_i h1
      have h1 : firstI n e = 0 := by simpa using h1
      rcases Nat.lt_succ_iff_lt_or_eq.1 hj with hj | rfl
      · exact first_zero h1 j hj
      · exact h
theorem first_congr {e e' : Nat → Int} : ∀ {n : Nat}, (∀ j, j < n → (∀ i, i < j → e i = 0) → e j = e' j) → firstI n e = firstI n e'
  | 0, _ => rfl
  | n + 1, h => by
    have h1 := first_congr (n := n) fun j hj => h j (by omega)
    simp only [firstI, h1]
    split
    · rfl
    · rename_i h2
      have h2 : firstI n e' = 0 := by simpa using h2
      exact h n (by omega) (first_zero (by rw [h1, h2]))

/-! Names: letters, digits, '_', beginning with a small letter; no keyword. -/
def lowB (c : Int) : Bool := decide (97 ≤ c) && decide (c ≤ 122)
def digB (c : Int) : Bool := decide (48 ≤ c) && decide (c ≤ 57)
def folB (c : Int) : Bool := lowB c || digB c || (decide (65 ≤ c) && decide (c ≤ 90)) || decide (c = 95)
def ch (s : List UInt8) (i : Nat) : Int := ((s.getD i 0).toNat : Int)
def wordB (s : List UInt8) : Bool := decide (s ≠ []) && lowB (ch s 0) && decide (∀ j, j < s.length → folB (ch s j) = true)
def keywords : List (List UInt8) := [[99, 108, 97, 115, 115], [101, 120, 116, 101, 110, 100, 115], [114, 97, 110, 100], [114, 97, 110, 100, 99], [115, 116, 97, 116, 101], [99, 111, 110, 115, 116, 114, 97, 105, 110, 116], [115, 111, 102, 116], [100, 105, 115, 116], [105, 102], [101, 108, 115, 101], [101, 97, 99, 104], [105, 110], [115, 111, 108, 118, 101], [98, 101, 102, 111, 114, 101], [105, 110, 115, 105, 100, 101], [112, 114, 111, 112, 101, 114, 116, 121], [115, 101, 113], [97, 110, 100], [111, 114], [110, 111, 116], [115, 101, 116], [104, 111, 108, 100], [112, 108, 97, 105, 110], [114, 101, 112, 101, 97, 116]]
def kwB (s : List UInt8) : Bool := keywords.any fun x => s == x
def nameB (s : List UInt8) : Bool := wordB s && decide (s.length ≤ 16) && !kwB s
theorem folB_lt {c : Int} (h : folB c = true) : 0 ≤ c ∧ c < 128 := by
  simp only [folB, lowB, digB, Bool.or_eq_true, Bool.and_eq_true, decide_eq_true_eq] at h
  omega
theorem low_fol {c : Int} (h : lowB c = true) : folB c = true := by simp [folB, h]
theorem ch_range (s : List UInt8) (i : Nat) : 0 ≤ ch s i ∧ ch s i ≤ 255 := by
  have := (s.getD i 0).toNat_lt
  simp only [ch]; omega
/-- A rune that continues a name is a byte. -/
theorem rune_fol {s : List UInt8} {i : Nat} (h : folB (runeAt s i).1 = true) : ch s i = (runeAt s i).1 ∧ (runeAt s i).2 = 1 := by
  have h1 := folB_lt h
  by_cases h2 : (s.getD i 0).toNat < 128
  · rw [runeAt_ascii h2]; exact ⟨rfl, rfl⟩
  · have := runeAt_high (l := s) (i := i) (by omega)
    omega
theorem rune_not {s : List UInt8} {i : Nat} (h : folB (runeAt s i).1 = false) : folB (ch s i) = false := by
  by_cases h2 : (s.getD i 0).toNat < 128
  · rw [runeAt_ascii h2] at h; exact h
  · cases hc : folB (ch s i) with
    | false => rfl
    | true => have := folB_lt hc; simp only [ch] at this; omega
theorem rune_notlow {s : List UInt8} {i : Nat} (h : lowB (runeAt s i).1 = false) : lowB (ch s i) = false := by
  by_cases h2 : (s.getD i 0).toNat < 128
  · rw [runeAt_ascii h2] at h; exact h
  · cases hc : lowB (ch s i) with
    | false => rfl
    | true => have := folB_lt (low_fol hc); simp only [ch] at this; omega
theorem next_fol {s : List UInt8} {i : Nat} (hi : i < s.length) (h : folB (runeAt s i).1 = true) : nextPos s i = i + 1 := by
  rw [nextPos, if_pos hi, (rune_fol h).2]
theorem name_ne {s : List UInt8} (h : ((s == []) || decide (16 < (s.length : Int))) = false) : 0 < s.length := by
  cases s with
  | nil => simp at h
  | cons a s => simp
theorem name_first {s : List UInt8} (hn : nameB s = true) (h : ((((s == []) || decide (16 < (s.length : Int))) || !lowB (ch s 0)) || kwB s) = true) : False := by
  simp only [nameB, wordB, Bool.and_eq_true, decide_eq_true_eq, Bool.not_eq_true'] at hn
  obtain ⟨⟨⟨⟨h1, h2⟩, h3⟩, h4⟩, h5⟩ := hn
  simp only [Bool.or_eq_true, Bool.not_eq_true', decide_eq_true_eq, beq_iff_eq] at h
  rcases h with ((h | h) | h) | h
  · exact h1 h
  · omega
  · rw [h2] at h; cases h
  · rw [h5] at h; cases h
theorem name_inner {s : List UInt8} (hn : nameB s = true) {i : Nat} (hi : i < s.length) (h : folB (ch s i) = false) : False := by
  simp only [nameB, wordB, Bool.and_eq_true, decide_eq_true_eq, Bool.not_eq_true'] at hn
  obtain ⟨⟨⟨⟨h1, h2⟩, h3⟩, h4⟩, h5⟩ := hn
  rw [h3 i hi] at h; cases h
theorem name_all {s : List UInt8} (h : ((((s == []) || decide (16 < (s.length : Int))) || !lowB (ch s 0)) || kwB s) = false) (hf : ∀ j, j < s.length → folB (ch s j) = true) : nameB s = true := by
  simp only [Bool.or_eq_false_iff, Bool.not_eq_false', decide_eq_false_iff_not] at h
  obtain ⟨⟨⟨h1, h2⟩, h3⟩, h4⟩ := h
  simp only [nameB, wordB, Bool.and_eq_true, decide_eq_true_eq, Bool.not_eq_true']
  exact ⟨⟨⟨⟨by intro e; subst e; simp at h1, h3⟩, hf⟩, by omega⟩, h4⟩
theorem word_no {s : List UInt8} {i : Nat} (hi : i < s.length) (h : ((decide (i = 0) && !lowB (ch s i)) || !folB (ch s i)) = true) : wordB s = false := by
  simp only [wordB, Bool.and_eq_false_iff, decide_eq_false_iff_not]
  simp only [Bool.or_eq_true, Bool.and_eq_true, decide_eq_true_eq, Bool.not_eq_true'] at h
  rcases h with ⟨rfl, h⟩ | h
  · exact .inl (.inr h)
  · exact .inr fun hh => by rw [hh i hi] at h; cases h
theorem word_yes {s : List UInt8} (h : ∀ j, j < s.length → folB (ch s j) = true) (h0 : 0 < s.length → lowB (ch s 0) = true) : wordB s = !(s == []) := by
  cases s with
  | nil => simp [wordB]
  | cons a s =>
    simp only [wordB]
    rw [h0 (by simp), decide_eq_true h]
    rfl
end Go.Sim
/- Conversions between strings and bytes; calls that need a ghost fact of any kind; a library's contract as a contract here. -/
namespace Go.Sim
open Go
theorem get_rp {S : Nat → Option Rp} {x : Operand} {R : Rp} {a : Act} {w : World} {C : Nat → Prop} (hx : Get S x R) (hs : SlotsOk S a w C) : R.p w C (a.eval x) := hx a w C hs
section
variable {P : Program} {M : List MF} {o : Oper} {σ : Nat → Option Rp}
theorem u8_len {E : UInt8 → List Rp} (hE : ∀ b, E b = [Rp.int .u8 (b.toNat : Int)]) : ∀ l : List UInt8, (l.flatMap E).length = l.length
  | [] => rfl
  | b :: l => by rw [List.flatMap_cons, hE, List.length_append, u8_len hE l]; simp; omega
theorem u8_mk {E : UInt8 → List Rp} (hE : ∀ b, E b = [Rp.int .u8 (b.toNat : Int)]) {w : World} {C : Nat → Prop} : ∀ l : List UInt8, AllR (l.flatMap E) w C (l.map fun b => Value.int .u8 (b.toNat : Int))
  | [] => ⟨trivial, by simp⟩
  | b :: l => by
    rw [List.flatMap_cons, hE, List.map_cons]
    refine ⟨⟨⟨rfl, by have := b.toNat_lt; simp only [InR]; omega⟩, (u8_mk hE l).1⟩, fun v hv => ?_⟩
    rcases List.mem_cons.1 hv with rfl | hv
    · rfl
    · exact (u8_mk hE (w := w) (C := C) l).2 v hv
theorem eU8_all {E : UInt8 → List Rp} (hE : ∀ b, E b = [Rp.int .u8 (b.toNat : Int)]) {w : World} {C : Nat → Prop} : ∀ {l : List UInt8} {vs : List Value}, AllP (l.flatMap E) w C vs → vs = l.map fun b => Value.int .u8 (b.toNat : Int)
  | [], [], _ => rfl
  | [], _ :: _, h => h.elim
  | b :: l, vs, h => by
    rw [List.flatMap_cons, hE b] at h
    match vs, h with
    | v :: vs, ⟨h1, h2⟩ =>
      rw [List.map_cons, eU8_all hE h2, h1.1]
    | [], h => exact h.elim
/-- 'string(bytes)'. -/
theorem spec_bytesStr {T T' e : TypeId} {x : Operand} {E : UInt8 → List Rp} {l : List UInt8} (hE : ∀ b, E b = [Rp.int .u8 (b.toNat : Int)]) (h : o.op = .convert T T' x) (hs : P.underlying T = some (.slice e)) (he : P.underlying e = some (.int .u8)) (hd : P.underlying T' = some .string)
    (hx : Get σ x (Rp.slice E l)) : Spec P σ M o (.one (Rp.str l)) :=
  Spec.of_run fun a w C hsl _ => by
    obtain ⟨hl, hv⟩ := get_rp hx hsl
    have hone : ∀ v, v = .slice none 0 0 → (convert T T' v).run P w = .ok (.string ⟨#[]⟩) w := by
      rintro v rfl
      rw [run_convert_bytes_string w T T' e none 0 0 hs he hd]
      simp [Conv.bytesToString]
      rfl
    rcases hv with ⟨hv, rfl⟩ | ⟨ad, cap, hv, _, hrow⟩
    · exact ⟨.string ⟨#[]⟩, by simp [execOp, h, hone _ hv], rfl, by simp⟩
    · refine ⟨.string ⟨l.toArray⟩, ?_, rfl, by simpa using hl⟩
      have := run_convert_bytes_back (P := P) w T T' e ad cap l hs he hd (fun j hj => by
        rcases hrow with rfl | ⟨hsp, hC, cs, T0, fr, hc, hA⟩
        · simp at hj
        · have hvs := eU8_all hE hA.1
          have hfl := u8_len hE l
          rw [hfl] at hvs
          have h2 : ((cs.toList.drop ad.off).take l.length)[j]? = some (.int .u8 (l[j].toNat : Int)) := by rw [hvs]; simp [hj]
          rw [List.getElem?_take, if_pos hj, List.getElem?_drop] at h2
          have e2 : ad.add j = ⟨ad.block, ad.off + j, none⟩ := by unfold Addr.add; cases ad; simp_all
          rw [e2]
          simp only [World.cell?, hc]
          simpa using h2)
      simp [execOp, h, hv, this]
/-- '[]byte(s)', published. -/
theorem spec_strBytes {T T' e : TypeId} {x : Operand} {E : UInt8 → List Rp} {l : List UInt8} {u : TypeDesc} (hE : ∀ b, E b = [Rp.int .u8 (b.toNat : Int)]) (h : o.op = .convert T T' x) (hs : P.underlying T = some u) (he : P.underlying e = some (.int .u8)) (hd : P.underlying T' = some (.slice e))
    (hx : Get σ x (Rp.str l)) : Spec P σ M o (.one (Rp.slice E l)) := by
  intro a w C K Q hsl hm hk
  have hv : a.eval x = .string ⟨l.toArray⟩ := get_str hx hsl
  have hl := (get_rp hx hsl).2
  unfold Oper.wp
  rw [show (execOp a.eval o).run P w = .ok (.value (.slice (some ⟨w.heap.size, 0, none⟩) l.length (grownCap w l.length 0 e))) (Lib.bytesWorld w e ⟨l.toArray⟩) by
    have := Lib.run_convert_string_bytes (P := P) w T T' e ⟨l.toArray⟩ hs hd he
    rw [show (ByteArray.mk l.toArray).size = l.length by simp [ByteArray.size]] at this
    simp [execOp, h, hv, this]]
  have hsz := Lib.bytesWorld_size w e ⟨l.toArray⟩
  have hold : ∀ b, b < w.heap.size → (Lib.bytesWorld w e ⟨l.toArray⟩).heap[b]? = w.heap[b]? := fun b hb => Lib.bytesWorld_at_old w e ⟨l.toArray⟩ b hb
  have hos : (Lib.bytesWorld w e ⟨l.toArray⟩).os = w.os ∧ (Lib.bytesWorld w e ⟨l.toArray⟩).tape = w.tape ∧ (Lib.bytesWorld w e ⟨l.toArray⟩).output = w.output := by
    simp [Lib.bytesWorld, World.freeze, World.alloc, World.drew, -World.alloc_eq, -World.drew_eq]
  refine hk () _ _ (fun b => C b ∨ b = w.heap.size) ⟨by omega, fun b hb _ => hold b hb, fun b hb _ => ⟨fun h => h.resolve_right (by omega), .inl⟩, hos.1, hos.2.1, hos.2.2⟩ (fun b hb => ?_) ⟨hl, .inr ⟨⟨w.heap.size, 0, none⟩, _, rfl, grownCap_ge w _ _ e, .inr ⟨rfl, .inr rfl, _, _, _, Lib.bytesWorld_at_new w e ⟨l.toArray⟩, ?_⟩⟩⟩ MNew.nil
  · rcases hb with hb | hb
    · have := hm.wf b hb; omega
    · omega
  · rw [u8_len hE, List.drop_zero]
    have e1 : ((Lib.bytesCells w e ⟨l.toArray⟩).toList).take l.length = l.map fun b => Value.int .u8 (b.toNat : Int) := by
      unfold Lib.bytesCells
      simp
    rw [e1]
    exact u8_mk hE l
theorem spec_callG0 {f : FuncId} {args : Array Operand} {ts : Array TypeId} {A : List Rp} {X : RA} {k : Nat} {F : MF} (h : o.op = .call ⟨.value (.func f), args, ts⟩) (hc : ∀ args w, (callFunc f args).run P w = .ok (.enter f args) w)
    (hk : M[k]? = some F) (hF : F.foot = []) (hf : CallT P f A [F] X) (ha : ArgsOk σ args.toList A) : Spec P σ M o X := by
  intro a w C K Q hs hm hk'
  have hft : feet [F] = [] := by simp [feet, hF]
  unfold Oper.wp
  rw [show (execOp a.eval o).run P w = .ok (.enter f (args.map a.eval)) w by
    simp [execOp, h, resolve, Deferred.ofValue, Act.eval, invoke, hc]]
  rw [Oper.upon_enter]
  refine (hf w C _ (by simpa using args_run hs ha) ⟨fun G hG => by rw [List.mem_singleton.1 hG]; exact hm.facts _ (List.mem_of_getElem? hk), by rw [hft]; simp, by rw [hft]; simp, hm.wf⟩).mono ?_
  rintro e w' ⟨i, v, C', rfl, he, hR, hM, hb⟩
  rw [hft] at he hb
  exact hk' i v w' C' he hM.wf hR ⟨hM.facts, hM.nodup, fun b hb' => ⟨(hb b hb').resolve_left (by simp), hM.own b hb'⟩⟩
end

/-- A package variable that is an array of numbers, as a ghost fact. -/
def MF.tab (P : Program) (n : String) (g : Nat) (k : IntKind) (zs : List Int) : MF where
  foot := []
  p w C := C g ∧ P.globalNamed n = some g ∧ Lib.TabIs P w n k zs
  loc hp _ h := ⟨(hp _ h.1).1, h.2.1, by
    have e := (hp _ h.1).2
    have := h.2.2
    unfold Lib.TabIs World.var? at this ⊢
    rw [h.2.1, Option.bind_some] at this ⊢
    rw [e]; exact this⟩
/-- A function of the library that leaves all as it was but for new blocks, with a string. -/
theorem call_grow {P : Program} {f : FuncId} {A : List Rp} {G : List MF} {l : List UInt8} (hll : l.length ≤ 9223372036854775807) (h : ∀ w C (args : Array Value), AllP A w C args.toList → MOk G w C → Calls P f args w fun e w' => e = .returned (.string ⟨l.toArray⟩) ∧ ∃ k os, w' = Go.Sort.grow (w.drewN k) os) :
    CallT P f A G (.one (Rp.str l)) := fun w C args hA hm => (h w C args hA hm).mono fun e w' ⟨he, k, os, hw⟩ => by
  subst hw
  have hsz : (Go.Sort.grow (w.drewN k) os).heap.size = w.heap.size + os.size := by simp [Go.Sort.grow, World.drewN]
  refine ⟨(), _, C, he, ⟨by omega, fun b hb _ => ?_, fun _ _ _ => Iff.rfl, rfl, rfl, rfl⟩, ⟨rfl, by simpa using hll⟩, ⟨by simp [RA.one], by simp [RA.one, feet], by simp [RA.one, feet], fun b hb => ?_⟩, by simp [RA.one, feet]⟩
  · exact Go.Sort.heap_grow_old (w.drewN k) os hb
  · have := hm.wf b hb; omega
end Go.Sim
/- Function values that need a ghost fact. -/
namespace Go.Sim
open Go
theorem spec_callFG {P : Program} {M : List MF} {o : Oper} {σ : Nat → Option Rp} {ι : Type} {A : ι → List Rp} {X : ι → RA} {k : Nat} {F : MF} (hk : M[k]? = some F) (hF : F.foot = []) (i : ι) {x : Operand} {args : Array Operand} {ts : Array TypeId} (h : o.op = .call ⟨.value x, args, ts⟩)
    (hx : Get σ x (Rp.fnM P A (fun _ => [F]) X)) (ha : ArgsOk σ args.toList (A i)) : Spec P σ M o (X i) := by
  intro a w C K Q hs hm hk'
  have hft : feet [F] = [] := by simp [feet, hF]
  obtain ⟨f, Rs, ⟨caps, hv, hcaps⟩, hc, hf⟩ := hx a w C hs
  unfold Oper.wp
  rw [run_callV h hv hc, Oper.upon_enter]
  refine (hf i w C _ (by simpa using (args_run hs ha).append hcaps) ⟨fun G hG => by rw [List.mem_singleton.1 hG]; exact hm.facts _ (List.mem_of_getElem? hk), by rw [hft]; simp, by rw [hft]; simp, hm.wf⟩).mono ?_
  rintro e w' ⟨j, v, C', rfl, he, hR, hM, hb⟩
  rw [hft] at he hb
  exact hk' j v w' C' he hM.wf hR ⟨hM.facts, hM.nodup, fun b hb' => ⟨(hb b hb').resolve_left (by simp), hM.own b hb'⟩⟩
end Go.Sim
/- Many owned facts as one: an own slice of own slices. -/
namespace Go.Sim
open Go
def MF.many (Ms : List MF) : MF where
  foot := feet Ms
  p w C := ∀ F ∈ Ms, F.p w C
  loc hp hf h F hF := F.loc hp (fun b hb => hf b (mem_feet.2 ⟨F, hF, hb⟩)) (h F hF)
theorem feet_cons (F : MF) (M : List MF) : feet (F :: M) = F.foot ++ feet M := by simp [feet]
section
variable {P : Program} {B : Base} {n : Nat} {S : List (Nat × Rp)} {M : List MF} {Q : Exit → Act → World → Prop} {ops : Array Oper} {rest : List Oper}
theorem St.swapM {M' : List MF} {a : Act} {w : World} {C : Nat → Prop} (hp : (feet M').Perm (feet M)) (hf : ∀ F ∈ M', F.p w C) (st : St B n S M a w C) : St B n S M' a w C :=
  ⟨st.size, st.defers, st.slots, ⟨hf, hp.nodup_iff.2 st.mem.nodup, fun b hb => st.mem.own b (hp.mem_iff.1 hb), st.mem.wf⟩, st.eff, fun b hb => st.since b (hp.mem_iff.1 hb)⟩
theorem St.focus {Ms R : List MF} {F : MF} {i : Nat} {a : Act} {w : World} {C : Nat → Prop} (hM : Pick M (MF.many Ms :: R)) (hi : Ms[i]? = some F) (st' : St B n S M a w C) : St B n S (F :: MF.many (Ms.eraseIdx i) :: R) a w C := by
  have st := st'.pick hM
  refine st.swapM ?_ fun G hG => ?_
  · rw [feet_cons, feet_cons, feet_cons, ← List.append_assoc]
    refine List.Perm.append_right _ ?_
    have := feet_perm (perm_eraseIdx Ms i F hi)
    rw [feet_cons] at this
    exact this.symm
  · have h0 := st.mem.facts _ (List.mem_cons_self)
    rcases List.mem_cons.1 hG with rfl | hG
    · exact h0 _ (List.mem_of_getElem? hi)
    rcases List.mem_cons.1 hG with rfl | hG
    · exact fun F' hF' => h0 F' (List.mem_of_mem_eraseIdx hF')
    · exact st.mem.facts G (List.mem_cons_of_mem _ hG)
theorem St.unfocus {Ms R : List MF} {F : MF} {i : Nat} {a : Act} {w : World} {C : Nat → Prop} (hM : Pick M (F :: MF.many (Ms.eraseIdx i) :: R)) (hi : i < Ms.length) (st' : St B n S M a w C) : St B n S (MF.many (Ms.set i F) :: R) a w C := by
  have st := st'.pick hM
  have he : (Ms.set i F).eraseIdx i = Ms.eraseIdx i := by
    apply List.ext_getElem?
    intro j
    rw [List.getElem?_eraseIdx, List.getElem?_eraseIdx]
    split
    · rw [List.getElem?_set_ne (by omega)]
    · rw [List.getElem?_set_ne (by omega)]
  have hp := perm_eraseIdx (Ms.set i F) i F (by simp [hi])
  rw [he] at hp
  refine st.swapM ?_ fun G hG => ?_
  · rw [feet_cons, feet_cons, feet_cons, ← List.append_assoc]
    refine List.Perm.append_right _ ?_
    have := feet_perm hp
    rwa [feet_cons] at this
  · rcases List.mem_cons.1 hG with rfl | hG
    · intro F' hF'
      rcases List.mem_cons.1 (hp.mem_iff.1 hF') with rfl | hF'
      · exact st.mem.facts _ (List.mem_cons_self)
      · exact st.mem.facts _ (List.mem_cons_of_mem _ List.mem_cons_self) F' hF'
    · exact st.mem.facts G (List.mem_cons_of_mem _ (List.mem_cons_of_mem _ hG))
theorem W.focus {c : Code} {Ms R : List MF} {F : MF} {i : Nat} (hM : Pick M (MF.many Ms :: R)) (hi : Ms[i]? = some F) (h : W P B n S (F :: MF.many (Ms.eraseIdx i) :: R) c Q) : W P B n S M c Q := fun a w C st => h a w C (st.focus hM hi)
theorem W.unfocus {c : Code} {Ms R : List MF} {F : MF} {i : Nat} (hM : Pick M (F :: MF.many (Ms.eraseIdx i) :: R)) (hi : i < Ms.length) (h : W P B n S (MF.many (Ms.set i F) :: R) c Q) : W P B n S M c Q := fun a w C st => h a w C (st.unfocus hM hi)
/-- Of nothing but nil slices. -/
theorem W.many {c : Code} {Ms : List MF} (hf : feet Ms = []) (h0 : ∀ w C, ∀ F ∈ Ms, F.p w C) (h : W P B n S (MF.many Ms :: M) c Q) : W P B n S M c Q := fun a w C st => h a w C (st.swapM (by rw [feet_cons]; simp [MF.many, hf]) (fun G hG => by
  rcases List.mem_cons.1 hG with rfl | hG
  · exact h0 w C
  · exact st.mem.facts G hG))
end
theorem osl_slice {α : Type} {v : Value} {T sz : Nat} {E : α → List Rp} {xs : List α} (hE : ∀ x, (E x).length = sz) {w : World} {C : Nat → Prop} (h : (MF.osl v T sz E xs).p w C) (hb : ∀ b, v.ownBlock = some b → C b) : (Rp.slice E xs).p w C v := by
  obtain ⟨cs, h1, h2, h3⟩ := h
  refine ⟨by omega, ?_⟩
  rcases h1.2 with ⟨hv0, hn0⟩ | ⟨g, cap, cur, hv1, _, hg, hlc, _, hcs, htk⟩
  · exact .inl ⟨hv0, List.eq_nil_of_length_eq_zero hn0⟩
  · refine .inr ⟨⟨g, 0, none⟩, cap, hv1, hlc, .inr ⟨rfl, hb g (by rw [hv1]; rfl), cur, T, (0, 0), hg, ?_⟩⟩
    simp only [List.drop_zero]
    rw [flatMap_len hE, htk]
    exact h2
def eV (v : Value) : List Rp := [Rp.val v]
def rowsM {α : Type} (T sz : Nat) (E : α → List Rp) (vs : List Value) (rs : List (List α)) : List MF := List.zipWith (fun v r => MF.osl v T sz E r) vs rs
theorem rowsM_set {α : Type} {T sz : Nat} {E : α → List Rp} {vs : List Value} {rs : List (List α)} {i : Nat} {v : Value} {r : List α} : (rowsM T sz E vs rs).set i (MF.osl v T sz E r) = rowsM T sz E (vs.set i v) (rs.set i r) := by
  unfold rowsM
  apply List.ext_getElem?
  intro j
  simp only [List.getElem?_set, List.getElem?_zipWith, List.length_zipWith]
  by_cases e : i = j
  · subst e
    simp only [if_true]
    by_cases h1 : i < vs.length <;> by_cases h2 : i < rs.length <;> simp [h1, h2] <;> omega
  · simp only [if_neg e]
theorem rowsM_get {α : Type} {T sz : Nat} {E : α → List Rp} {vs : List Value} {rs : List (List α)} {i : Nat} {v : Value} {r : List α} (h1 : vs[i]? = some v) (h2 : rs[i]? = some r) : (rowsM T sz E vs rs)[i]? = some (MF.osl v T sz E r) := by
  unfold rowsM; rw [List.getElem?_zipWith, h1, h2]
theorem vals_eq : ∀ {vs cs : List Value} {w : World} {C : Nat → Prop}, AllP (vs.flatMap eV) w C cs → cs = vs
  | [], [], _, _, _ => rfl
  | [], _ :: _, _, _, h => h.elim
  | v :: vs, [], _, _, h => h.elim
  | v :: vs, c :: cs, w, C, h => by
    have h' : (Rp.val v).p w C c ∧ AllP (vs.flatMap eV) w C cs := h
    rw [vals_eq h'.2, show c = v from h'.1]
theorem rows_all {α : Type} {T sz : Nat} {E : α → List Rp} (hE : ∀ x, (E x).length = sz) {w : World} {C : Nat → Prop} : ∀ {vs : List Value} {rs : List (List α)}, vs.length = rs.length → (∀ F ∈ rowsM T sz E vs rs, F.p w C) → (∀ b ∈ feet (rowsM T sz E vs rs), C b) → AllP (rs.flatMap fun r => [Rp.slice E r]) w C vs
  | [], [], _, _, _ => trivial
  | [], _ :: _, h, _, _ => by cases h
  | _ :: _, [], h, _, _ => by cases h
  | v :: vs, r :: rs, h, hf, hb => by
    have e : rowsM T sz E (v :: vs) (r :: rs) = MF.osl v T sz E r :: rowsM T sz E vs rs := rfl
    rw [e] at hf hb
    rw [feet_cons] at hb
    refine ⟨osl_slice hE (hf _ List.mem_cons_self) fun b hv => hb b (List.mem_append_left _ (by simp [MF.osl, hv])), ?_⟩
    exact rows_all hE (by simpa using h) (fun F hF => hf F (List.mem_cons_of_mem _ hF)) (fun b hb' => hb b (List.mem_append_right _ hb'))
/-- An own slice of own slices, published. -/
theorem rows_slice {α : Type} {v : Value} {T T' sz : Nat} {E : α → List Rp} {vs : List Value} {rs : List (List α)} (hE : ∀ x, (E x).length = sz) (hl : vs.length = rs.length) {w : World} {C : Nat → Prop} (hf : ∀ G ∈ [MF.osl v T' 1 eV vs, MF.many (rowsM T sz E vs rs)], G.p w C) (hb : ∀ b ∈ feet [MF.osl v T' 1 eV vs, MF.many (rowsM T sz E vs rs)], C b) : (Rp.slice (fun r => [Rp.slice E r]) rs).p w C v := by
  obtain ⟨cs, h1, h2, h3⟩ := hf _ List.mem_cons_self
  have hm := hf _ (List.mem_cons_of_mem _ List.mem_cons_self)
  obtain rfl := vals_eq h2.1
  have hall := rows_all hE hl hm (fun b hb' => hb b (by rw [feet_cons, feet_cons]; exact List.mem_append_right _ (List.mem_append_left _ hb')))
  have hfl : ∀ rs : List (List α), (rs.flatMap fun r => [Rp.slice E r]).length = rs.length := fun rs => by rw [flatMap_len (n := 1) (fun _ => rfl)]; omega
  have hfv : (cs.flatMap eV).length = cs.length := by rw [flatMap_len (n := 1) (fun _ => rfl)]; omega
  refine ⟨by omega, ?_⟩
  rcases h1.2 with ⟨hv0, hn0⟩ | ⟨g, cap, cur, hv1, _, hg, hlc, _, hcs, htk⟩
  · exact .inl ⟨hv0, List.eq_nil_of_length_eq_zero (by omega)⟩
  · refine .inr ⟨⟨g, 0, none⟩, cap, by rw [← hl]; exact hv1, by omega, .inr ⟨rfl, hb g (by rw [feet_cons]; exact List.mem_append_left _ (by simp [MF.osl, hv1, Value.ownBlock])), cur, T', (0, 0), hg, ?_⟩⟩
    simp only [List.drop_zero]
    rw [hfl, ← hl, show cs.length = cs.length * 1 by omega, htk]
    exact ⟨hall, h2.2⟩
end Go.Sim
namespace Go.Sim
open Go
/-- An element of an array as a value. -/
theorem spec_indexAI {P : Program} {M : List MF} {o : Oper} {σ : Nat → Option Rp} {T e n : Nat} {x ix : Operand} {Rs : List Rp} {R : Rp} {k : IntKind} {i : Int} (h : o.op = .index T x ix) (hu : P.underlying T = some (.array n e)) (hs : ∀ w, (sizeOf e).run P w = .ok 1 w) (ha : ∀ w, (isAgg e).run P w = .ok false w)
    (hx : Get σ x (Rp.agg Rs)) (hi : Get σ ix (Rp.int k i)) (hr : 0 ≤ i ∧ i < n) (hR : Rs[i.toNat]? = some R) : Spec P σ M o (.one R) :=
  Spec.of_run fun a w C hsl _ => by
    obtain ⟨cs, hv, hcs⟩ := get_rp hx hsl
    obtain ⟨v, hv', hR'⟩ := hcs.1.get _ hR
    refine ⟨v, ?_, hR'⟩
    simp [execOp, h, Instr.index, get_int hi hsl, asIntOf, run_underlying hu, hv, hr.1, hr.2, hs, part, ha, hv']
end Go.Sim
/- Calls that read a row of an own slice of own slices, or all of it. -/
namespace Go.Sim
open Go
theorem Lift.row {α : Type} {M Ms : List MF} {v : Value} {T sz : Nat} {E : α → List Rp} {xs : List α} (k i : Nat) (hk : M[k]? = some (MF.many Ms)) (hi : Ms[i]? = some (MF.osl v T sz E xs)) (hE : ∀ x, (E x).length = sz) : Lift M (Rp.val v) (Rp.slice E xs) := fun w C C' u hC hf hm hu => by
  rw [show u = v from hu]
  have hk' := List.mem_of_getElem? hk
  have hi' := List.mem_of_getElem? hi
  exact osl_read hE (fun b hb => ⟨hC b hb, rfl⟩) (fun b hb => hf b (mem_feet.2 ⟨_, hk', mem_feet.2 ⟨_, hi', by simp [MF.osl, hb]⟩⟩)) (hm _ hk' _ hi')
end Go.Sim
/- Values of recursive types; arguments whose sizes are known; slices of one element that are owned. -/
namespace Go.Sim
open Go.ChangeShapes Go.WideShapes Go.ChangeAt Go.RowKit
theorem Rp.ext' {R R' : Rp} (h : R.p = R'.p) : R = R' := by cases R; cases R'; cases h; rfl
/-- A slice of rows that are given one by one. -/
theorem slice_map {α : Type} (E : α → List Rp) (xs : List α) : Rp.slice (fun r : List Rp => r) (xs.map E) = Rp.slice E xs := Rp.ext' (by
  funext w C v
  simp only [Rp.slice, List.length_map, List.map_eq_nil_iff, List.flatMap_map])
theorem Spec.eq {P : Program} {σ : Nat → Option Rp} {M : List MF} {o : Oper} {R R' : Rp} (e : R = R') (h : Spec P σ M o (.one R)) : Spec P σ M o (.one R') := e ▸ h
theorem Get.eq {σ : Nat → Option Rp} {x : Operand} {R R' : Rp} (e : R = R') (h : Get σ x R) : Get σ x R' := e ▸ h
section
variable {P : Program} {σ : Nat → Option Rp} {M : List MF} {o : Oper}
theorem spec_buildSlice1O {α : Type} {T e sz bytes : Nat} {E : α → List Rp} {y : α} {x : Operand} {z : Value} {Zs : List Rp} (h : o.op = .buildSlice T 1 #[(0, x)]) (hu : P.underlying T = some (.slice e)) (hT : TI P e sz bytes z)
    (hz : ∀ w C, AllR Zs w C z.cells.toList) (hb : sz ≤ 16777216 ∧ Zs.length = sz ∧ 0 < sz) (hx : GetC σ x (E y)) (hE : ∀ x, (E x).length = sz) : Spec P σ M o (.own e sz E [y]) :=
  Spec.new (A := .own e sz E [y]) (fun r => .slice (some ⟨r, 0, none⟩) 1 1) fun a w C hs hm => by
    have hc := hx a w C hs
    have hl := hc.1.length
    rw [hE] at hl
    have hsz : (a.eval x).cells.size = sz := by rw [← Array.length_toList]; exact hl
    have hzl : z.cells.size = sz := by rw [← Array.length_toList, (hz w C).1.length, hb.2.1]
    refine ⟨.slice (some ⟨w.heap.size, 0, none⟩) 1 1, .cells (a.eval x).cells e, ?_, rfl, rfl, fun G hG => ?_⟩
    · have hfill : Instr.fill (fun i => some (i * sz, sz)) ((Array.range (1 * sz)).map (z.cells[· % z.cells.size]!)) [(0, a.eval x)] = some (a.eval x).cells := by
        have hf := fold_set 0 (a.eval x).cells.toList 0 ((Array.range (1 * sz)).map (z.cells[· % z.cells.size]!)) (by simp; omega)
        simp only [Instr.fill]
        rw [if_neg]
        · congr 1
          rw [← Array.toList_inj, ← Array.foldl_toList, Array.toList_zipIdx]
          have h0 : 0 * sz = 0 := by simp
          rw [h0, hf]
          simp
          omega
        · simp [hsz]
      have h0 : ¬ (1 * sz > 2 ^ 24) := by omega
      have h1 : ¬ (1 * sz = 0) := by omega
      simp only [execOp, h, Instr.buildSlice, Sem.run_bind, run_underlying hu, Result.andThen_ok, hT.size, h0, if_false, h1, hT.zero, Sem.run_pure]
      simp only [List.map_toArray, List.map_cons, List.map_nil, hfill]
      simp [newRow]
    · have : G = MF.osl (.slice (some ⟨w.heap.size, 0, none⟩) 1 1) e sz E [y] := by simpa [RA.own] using hG
      subst this
      refine ⟨(a.eval x).cells.toList, ⟨by rw [Array.length_toList, hsz]; simp, .inr ⟨w.heap.size, 1, (a.eval x).cells, rfl, Nat.zero_le _, new_at _ _, Nat.le_refl _, by simp [maxLen], by rw [hsz]; simp, ?_⟩⟩, ?_, by simp⟩
      · rw [List.take_of_length_le]; rw [Array.length_toList, hsz]; simp
      · simp only [List.flatMap_cons, List.flatMap_nil, List.append_nil]
        refine AllR.mono (fun b hb => ⟨hb, ?_⟩) hc
        exact (new_eff w C (.cells (a.eval x).cells e)).keep b (hm.wf b hb) (by simp)
end
section
variable {P : Program} {M : List MF} {o : Oper} {σ : Nat → Option Rp}
theorem spec_is {k : IntKind} {e e' : Int} (h : e = e') (hs : Spec P σ M o (.one (Rp.int k e))) : Spec P σ M o (.one (Rp.int k e')) := h ▸ hs
theorem str_is {l l' : List UInt8} (h : l = l') (hs : Spec P σ M o (.one (Rp.str l))) : Spec P σ M o (.one (Rp.str l')) := h ▸ hs
theorem spec_dig {T T' : TypeId} {x : Operand} {e : Int} (m : Nat) (h : o.op = .convert T T' x) (hT : ∃ d, P.underlying T = some d) (hu : P.underlying T' = some (.int .u8)) (hx : Get σ x (Rp.int .i64 e)) (he : e = 48 + m) :
    Spec P σ M o (.one (Rp.int .u8 ((UInt8.ofNat (48 + m)).toNat : Int))) := by
  have := spec_conv (P := P) (M := M) h hu hT hx
  rw [show IntKind.u8.wrap e = ((UInt8.ofNat (48 + m)).toNat : Int) by
    rw [he, UInt8.toNat_ofNat', IntKind.wrap]
    simp only [IntKind.bits, IntKind.signed]
    simp] at this
  exact this
end
/-! Arguments with their sizes. -/
def OpensS (P : Program) (t : TypeId) (N : Nat) {α : Type} (R : α → List Rp) (Q : α → Prop) : Prop :=
  ∀ {H : Type} (enc : TypeId × Value → H) (w : World) (fuel : Nat) (cs : List Value) (x : DataW H × List MemPlace), fuel ≤ N →
    DataW.trod enc P w 0 (fun _ => true) true fuel t cs = some x → (∀ m ∈ x.1.weights P t, m ≤ reachBytes) → ∃ a, AllR (R a) w (old w) cs ∧ Q a
section
variable {P : Program} {t : TypeId} {N : Nat}
theorem OpensS.of {α : Type} {R : α → List Rp} (h : Opens P t R) : OpensS P t N R (fun _ => True) := by
  intro H enc w fuel cs x _ hx _
  obtain ⟨a, ha⟩ := h enc w fuel cs x hx
  exact ⟨a, ha, trivial⟩
theorem weightsAll_in {H : Type} {e : TypeId} {m : Nat} {d : DataW H} : ∀ {l : List (DataW H)}, d ∈ l → m ∈ DataW.weights P e d → m ∈ DataW.weightsAll P e l
  | y :: r, h, hx => by
    simp only [DataW.weightsAll]
    rcases List.mem_cons.1 h with rfl | h
    · exact List.mem_append_left _ hx
    · exact List.mem_append_right _ (weightsAll_in h hx)
theorem OpensS.slice {α : Type} {e : TypeId} {E : α → List Rp} {c b : Nat} {Q : α → Prop} (ht : P.underlying t = some (.slice e)) (hc : P.cellsOf e = c) (hby : P.bytesOf e = b) (hpos : 0 < c) (hE : ∀ x, (E x).length = c) (he : ∀ n, n + 1 ≤ N → OpensS P e n E Q) :
    OpensS P t N (fun l : List α => [Rp.slice E l]) (fun l => l.length * b ≤ reachBytes ∧ ∀ a ∈ l, Q a) := by
  intro H enc w fuel cs x hN h hwt
  rcases DataW.trod_slice ht h with ⟨rfl, _⟩ | ⟨a, len, cap, elems, rest, n, rfl, rfl, rfl, _, hl, hm, hlen, hel, _, _⟩
  · exact ⟨[], ⟨⟨⟨by simp, .inl ⟨rfl, rfl⟩⟩, trivial⟩, by simp [Value.oneCell']⟩, by simp, fun a h => by cases h⟩
  rw [hc] at hel
  have hw1 : (elems.length + rest.length) * b ≤ reachBytes := hwt _ (by
    simp only [DataW.weights, ht, List.length_map, hby]
    exact List.mem_cons_self)
  have hgo : ∀ i, i < len → ∃ y, (∃ cs', w.cells? 0 (a.add (i * c)) c = some cs' ∧ AllR (E y) w (old w) cs') ∧ Q y := fun i hi => by
    have hi' : i < elems.length := by omega
    have key := hel i hi
    rw [List.getElem?_eq_getElem hi'] at key
    obtain ⟨cs', h1, h2⟩ := Option.bind_eq_some_iff.1 key
    obtain ⟨y, hy, hq⟩ := he n (by omega) enc w n cs' _ (Nat.le_refl _) h2 (fun m hm' => hwt m (by
      simp only [DataW.weights, ht]
      exact List.mem_cons_of_mem _ (List.mem_append_left _ (weightsAll_in (List.mem_map.2 ⟨elems[i], List.getElem_mem hi', rfl⟩) hm'))))
    exact ⟨y, ⟨cs', h1, hy⟩, hq⟩
  obtain ⟨l, hll, hp'⟩ := choose_list len hgo
  have hp : ∀ (i : Nat) (a_1 : α), l[i]? = some a_1 → ∃ cs', w.cells? 0 (a.add (i * c)) c = some cs' ∧ AllR (E a_1) w (old w) cs' := fun i y hy => (hp' i y hy).1
  refine ⟨l, ⟨⟨⟨by rw [hll]; simp [maxLen] at hm; omega, .inr ⟨a, cap, by rw [hll], by omega, ?_⟩⟩, trivial⟩, by simp [Value.oneCell']⟩, ?_, fun y hy => ?_⟩
  · rcases l with _ | ⟨y0, l'⟩
    · exact .inl rfl
    refine .inr ?_
    obtain ⟨cs0, h1, h2⟩ := hp 0 y0 rfl
    have hadd0 : a.add (0 * c) = a := by simp [Addr.add]
    rw [hadd0] at h1
    obtain ⟨hsp, hb, cells, T, fr, hh, _, _⟩ := allR_cells h1 h2 hpos
    refine ⟨hsp, hb, cells, T, fr, hh, ?_⟩
    rw [flatMap_len hE]
    have hpiece : ∀ i y, (y0 :: l')[i]? = some y → a.off + i * c + c ≤ cells.size ∧ ∃ cs', (cells.toList.drop (a.off + i * c)).take c = cs' ∧ AllR (E y) w (old w) cs' := fun i y hy => by
      obtain ⟨cs', h3, h4⟩ := hp i y hy
      have hadd : a.add (i * c) = ⟨a.block, a.off + i * c, none⟩ := by unfold Addr.add; split <;> (cases a; simp_all)
      rw [hadd] at h3
      obtain ⟨_, _, cells2, T2, fr2, hh2, hle, htk⟩ := allR_cells h3 h4 hpos
      simp only at hh2 hle htk
      rw [hh] at hh2
      obtain ⟨rfl, rfl, rfl⟩ : cells = cells2 ∧ T = T2 ∧ fr = fr2 := by cases hh2; exact ⟨rfl, rfl, rfl⟩
      exact ⟨hle, cs', htk, h4⟩
    refine allR_pieces hE _ _ ?_ ?_
    · have hlast := (hpiece ((y0 :: l').length - 1) ((y0 :: l')[(y0 :: l').length - 1]'(by simp)) (List.getElem?_eq_getElem _)).1
      have : ((y0 :: l').length - 1) * c + c = (y0 :: l').length * c := by
        rw [← Nat.succ_mul]; simp
      have hcl : cells.toList.length = cells.size := Array.length_toList
      rw [List.length_take, List.length_drop]
      omega
    · intro i y hy
      obtain ⟨_, cs', htk, h4⟩ := hpiece i y hy
      have hi : i < (y0 :: l').length := (List.getElem?_eq_some_iff.1 hy).1
      rw [List.drop_take, List.take_take, List.drop_drop]
      have : min c ((y0 :: l').length * c - i * c) = c := by
        have : (i + 1) * c ≤ (y0 :: l').length * c := Nat.mul_le_mul_right _ hi
        rw [Nat.add_mul] at this
        omega
      rw [this, htk]
      exact h4
  · rw [hll, ← hlen]
    exact Nat.le_trans (Nat.mul_le_mul_right b (Nat.le_add_right _ _)) hw1
  · obtain ⟨i, hi, rfl⟩ := List.getElem_of_mem hy
    exact (hp' i _ (List.getElem?_eq_getElem hi)).2
/-- The fields of a struct, with their sizes. -/
inductive FldsS (P : Program) (N : Nat) : List Field → Nat → {α : Type} → (α → List Rp) → (α → Prop) → Prop
  | nil {k : Nat} : FldsS P N [] k (fun _ : Unit => []) (fun _ => True)
  | cons {f : Field} {fs : List Field} {k c : Nat} {α β : Type} {R : α → List Rp} {Rs : β → List Rp} {Q : α → Prop} {Qs : β → Prop} (ho : f.offset = k) (hc : P.cellsOf f.type = c) (h : OpensS P f.type N R Q) (hs : FldsS P N fs (k + c) Rs Qs) :
      FldsS P N (f :: fs) k (fun g : α × β => R g.1 ++ Rs g.2) (fun g => Q g.1 ∧ Qs g.2)
theorem FldsS.opens {H : Type} {enc : TypeId × Value → H} {w : World} {n : Nat} (hn : n ≤ N) {cs : List Value} {fs : List Field} {k : Nat} {α : Type} {R : α → List Rp} {Q : α → Prop} (h : FldsS P N fs k R Q) :
    (∀ (i : Nat) (f : Field), fs[i]? = some f → ∃ x, DataW.trod enc P w 0 (fun _ => true) true n f.type ((cs.drop f.offset).take (P.cellsOf f.type)) = some x ∧ ∀ m ∈ x.1.weights P f.type, m ≤ reachBytes) → cs.length = k + (fs.map fun f => P.cellsOf f.type).sum →
    ∃ a, AllR (R a) w (old w) (cs.drop k) ∧ Q a := by
  induction h with
  | nil =>
    intro _ hl
    refine ⟨(), ?_, trivial⟩
    rw [List.drop_of_length_le (by simp at hl; omega)]
    exact ⟨trivial, by simp⟩
  | cons ho hc h hs ih =>
    intro hx hl
    obtain ⟨x, h0, hw0⟩ := hx 0 _ rfl
    obtain ⟨a, ha, hq⟩ := h enc w n _ x hn h0 hw0
    obtain ⟨b, hb, hqs⟩ := ih (fun i f' hf => hx (i + 1) f' (by simpa using hf)) (by rw [hl, List.map_cons, List.sum_cons, hc]; omega)
    refine ⟨(a, b), ?_, hq, hqs⟩
    rw [ho, hc] at ha
    have := ha.append hb
    rw [← List.drop_drop, List.take_append_drop] at this
    exact this
theorem OpensS.struct {α : Type} {R : α → List Rp} {Q : α → Prop} {fs : Array Field} {l : List Field} (ht : P.underlying t = some (.struct fs)) (hl : fs.toList = l) (hf : FldsS P N l 0 R Q) (hc : P.cellsOf t = (l.map fun f => P.cellsOf f.type).sum) : OpensS P t N R Q := by
  intro H enc w fuel cs x hN h hwt
  obtain ⟨xs, n, rfl, rfl, hlen, hxl, hx⟩ := DataW.trod_struct ht h
  have := hf.opens (enc := enc) (w := w) (n := n) (by omega) (cs := cs) (fun i f hi => by
    have hfi : fs[i]? = some f := by rw [← hl] at hi; simpa using hi
    have hlt : i < xs.length := by rw [hxl]; exact (Array.getElem?_eq_some_iff.1 hfi).1
    refine ⟨xs[i], by rw [hx i f hfi, List.getElem?_eq_getElem hlt], fun m hm => hwt m ?_⟩
    simp only [DataW.weights, ht]
    exact DataW.weights_mem_each (j := i) (t := f.type) (d := xs[i].1) (by rw [hl]; simp [hi]) (by simp [hlt]) m hm) (by rw [hlen, hc]; omega)
  simpa using this
theorem OpensS.map {α β : Type} {R : α → List Rp} {Q : α → Prop} {T : β → List Rp} {Q' : β → Prop} (h : OpensS P t N R Q) (hg : ∀ a, Q a → ∃ b, T b = R a ∧ Q' b) : OpensS P t N T Q' := by
  intro H enc w fuel cs x hN hx hwt
  obtain ⟨a, ha, hq⟩ := h enc w fuel cs x hN hx hwt
  obtain ⟨b, hb, hq'⟩ := hg a hq
  exact ⟨b, hb ▸ ha, hq'⟩
/-- An argument of the type. -/
def OpensVS (P : Program) (t : TypeId) {α : Type} (R : α → Rp) (Q : α → Prop) : Prop :=
  ∀ {H : Type} (enc : TypeId × Value → H) (w : World) (b : Nat) (v : Value) (d : DataW H) (ps : List MemPlace), Value.okWide P w .any b t v → DataW.Trod enc P w 0 (fun _ => true) true t v d ps → (∀ m ∈ d.weights P t, m ≤ reachBytes) → ∃ a, (R a).p w (old w) v ∧ Q a
theorem OpensVS.one {α : Type} {R : α → Rp} {Q : α → Prop} (h : ∀ N, OpensS P t N (fun a => [R a]) Q) (hv : ∀ w b v, Value.okWide P w .any b t v → v.cells = #[v]) : OpensVS P t R Q := by
  intro H enc w b v d ps hok ⟨n, hn⟩ hwt
  obtain ⟨a, ha, hq⟩ := h n enc w n _ _ (Nat.le_refl _) hn hwt
  rw [hv w b v hok] at ha
  exact ⟨a, ha.1.1, hq⟩
theorem OpensVS.agg {α : Type} {R : α → List Rp} {Q : α → Prop} (h : ∀ N, OpensS P t N R Q) (hv : ∀ w b v, Value.okWide P w .any b t v → ∃ cs, v = .agg cs) : OpensVS P t (fun a => Rp.agg (R a)) Q := by
  intro H enc w b v d ps hok ⟨n, hn⟩ hwt
  obtain ⟨a, ha, hq⟩ := h n enc w n _ _ (Nat.le_refl _) hn hwt
  obtain ⟨cs, rfl⟩ := hv w b v hok
  exact ⟨a, ⟨cs.toList, by simp, by simpa [Value.cells] using ha⟩, hq⟩
def OpensAS (P : Program) (ts : List TypeId) {κ : Type} (A : κ → List Rp) (Q : κ → Prop) : Prop :=
  ∀ {H : Type} (enc : TypeId × Value → H) (w : World) (b : Nat) (vs : List Value) (ds : List (DataW H)) (ps : List MemPlace), (∀ (j : Nat) t v, ts[j]? = some t → vs[j]? = some v → Value.okWide P w .any b t v) → DataW.TrodAll enc P w 0 (fun _ => true) true ts vs ds ps →
    (∀ m ∈ DataW.weightsEach P ts ds, m ≤ reachBytes) → ds.length = ts.length ∧ ∃ k, AllP (A k) w (old w) vs ∧ Q k
theorem OpensAS.nil : OpensAS P [] (fun _ : Unit => []) (fun _ => True) := by
  intro H enc w b vs ds ps _ h _
  obtain ⟨rfl, rfl, rfl⟩ := trodAll_nil h
  exact ⟨rfl, (), trivial, trivial⟩
theorem OpensAS.cons {α κ : Type} {ts : List TypeId} {R : α → Rp} {A : κ → List Rp} {Q : α → Prop} {Qs : κ → Prop} (h : OpensVS P t R Q) (hs : OpensAS P ts A Qs) : OpensAS P (t :: ts) (fun k : α × κ => R k.1 :: A k.2) (fun k => Q k.1 ∧ Qs k.2) := by
  intro H enc w bs vs ds ps hok h0 hwt
  obtain ⟨v, vs, d, ds, a, b, rfl, rfl, rfl, h1, h2⟩ := trodAll_cons h0
  simp only [DataW.weightsEach] at hwt
  obtain ⟨x, hx, hq⟩ := h enc w bs v d a (hok 0 t v rfl rfl) h1 (fun m hm => hwt m (List.mem_append_left _ hm))
  obtain ⟨hl, k, hk, hqs⟩ := hs enc w bs vs ds b (fun j t' v' ht hv => hok (j + 1) t' v' (by simpa using ht) (by simpa using hv)) h2 (fun m hm => hwt m (List.mem_append_right _ hm))
  exact ⟨by simp [hl], ⟨x, k⟩, ⟨hx, hk⟩, hq, hqs⟩
end
theorem weightsEach_left {H : Type} {P : Program} {m : Nat} : ∀ {ts us : List TypeId} {ds gs : List (DataW H)}, ds.length = ts.length → m ∈ DataW.weightsEach P ts ds → m ∈ DataW.weightsEach P (ts ++ us) (ds ++ gs)
  | [], _, [], _, _, h => by simp [DataW.weightsEach] at h
  | t :: ts, us, d :: ds, gs, hl, h => by
    simp only [DataW.weightsEach, List.cons_append] at h ⊢
    rcases List.mem_append.1 h with h | h
    · exact List.mem_append_left _ h
    · exact List.mem_append_right _ (weightsEach_left (by simpa using hl) h)
  | [], _, _ :: _, _, hl, _ => by simp at hl
  | _ :: _, _, [], _, hl, _ => by simp at hl
/-- THE STATEMENT'S OWN END, where the arguments' sizes count. -/
theorem law_postS {P : Program} {G : List MF} {f : FuncId} {fn : Func} {s : ChangeSpec} {us : List TypeId} {tb : TypeId} {κ : Type} {A : κ → List Rp} {Q : κ → Prop} (hlaid : laidOutB P = true) (hts' : (fn.params.toList.all fun t => P.readableRec t && decide (t < P.types.size)) = true)
    (hr : fn.resultTypes = #[tb]) (htb : P.underlying tb = some .bool) (hvars : s.vars = []) (hspec : ∀ (H : Type) (ds : List (DataW H)), ds.length = fn.params.toList.length → s.fn H ds = { results := [.lit (.bool true)], args := ds })
    (hopen : OpensAS P fn.params.toList A Q) (hG0 : feet G = [])
    {H : Type} {enc : TypeId × Value → H} {W : World} {args : Array Value} {ds gs : List (DataW H)} {before : List MemPlace} {base : Nat}
    (hlaw : ∀ k, Q k → CallT P f (A k) G (.one (Rp.bool true))) (hG : ∀ F ∈ G, F.p W (old W))
    (hval : ∀ (j : Nat) t v, fn.params[j]? = some t → args[j]? = some v → Value.okWide P W .any base t v)
    (hz : (DataW.weightsEach P (fn.params.toList ++ us) (ds ++ gs)).all (· ≤ reachBytes) = true)
    (hW : DataW.Whole enc P fn.params.toList s.vars false W args.toList ds gs before) :
    Calls P f args W fun e W' => ∃ v, e = .returned v ∧ s.post enc P fn false true false false W args v W' := by
  have hts : ∀ t ∈ fn.params.toList, P.readableRec t = true ∧ t < P.types.size := fun t ht => by
    have := List.all_eq_true.1 hts' t ht
    simpa using this
  have hW' := hW
  obtain ⟨p, q, hA, hV, rfl, hfz, _⟩ := hW
  rw [hvars] at hV
  obtain ⟨rfl, rfl⟩ := trodVars_none hV
  have hlen : ds.length = fn.params.toList.length := by
    have key : ∀ {ts : List TypeId} {vs : List Value} {ds : List (DataW H)} {ps : List MemPlace}, DataW.TrodAll enc P W 0 (fun _ => true) true ts vs ds ps → ds.length = ts.length := by
      intro ts
      induction ts with
      | nil => intro vs ds ps h; obtain ⟨rfl, rfl, rfl⟩ := trodAll_nil h; rfl
      | cons t ts ih => intro vs ds ps h; obtain ⟨v, vs, d, ds, a, b, rfl, rfl, rfl, h1, h2⟩ := trodAll_cons h; simp [ih h2]
    exact key hA
  obtain ⟨hdl, k, hk, hq⟩ := hopen enc W base args.toList ds p (fun j t v ht hv => hval j t v (by simpa using ht) (by simpa using hv)) hA
    (fun m hm => by simpa using List.all_eq_true.1 hz m (weightsEach_left hlen hm))
  refine (hlaw k hq W (old W) args hk ⟨hG, by rw [hG0]; simp, by rw [hG0]; simp, fun b hb => hb⟩).mono fun e W' ⟨i, v, C', he, heff, hv, _, _⟩ => ?_
  obtain rfl : v = .bool true := hv
  have hb : RowKit.Below W.heap.size W W' := ⟨heff.os, heff.tape, heff.output, heff.size, fun b hb => heff.keep b hb (by rw [hG0]; simp)⟩
  have hlt : ∀ x ∈ p, x.block < W.heap.size := fun x hx => hW'.lt x (by simp [hx])
  simp only [List.append_nil] at hW'
  refine ⟨_, he, ds, [], p, [], p, [], hW', ?_, ?_, ?_, hb.frame _, fun h => by cases h⟩
  · rw [List.append_nil, hspec H ds hdl, hr]
    exact ⟨[], [], ⟨1, by simp [DataW.trod, htb, Value.cells]⟩, rfl, rfl⟩
  · rw [List.append_nil, hspec H ds hdl]
    exact trodAll_grown hlaid (fun x hx => hb.same hx) hts hA hlt (fun x hx => by simpa using hlt x hx)
  · rw [List.append_nil, hspec H ds hdl, hvars]
    exact rfl
end Go.Sim
/- Tables of numbers in package variables: a ghost fact, and reading an entry. -/
set_option linter.unusedSimpArgs false
set_option linter.unusedVariables false
namespace Go.Sim
theorem byte_ix (b : UInt8) : 0 ≤ ((b.toNat : Nat) : Int) ∧ ((b.toNat : Nat) : Int) < ((256 : Nat) : Int) := by
  have := UInt8.toNat_lt b; omega
section
variable {P : Program} {M : List MF} {o : Oper} {σ : Nat → Option Rp}
theorem spec_xor64 {T : TypeId} {x : Operand} {n : Int} (h : o.op = .unOp .xor T x) (hx : Get σ x (Rp.int .i64 n)) : Spec P σ M o (.one (Rp.int .i64 (bitsOf .xor .i64 (-1) n))) :=
  Spec.of_run fun a w C hs _ => ⟨.int .i64 (bitsOf .xor .i64 (-1) n), by
    have := (hx a w C hs).1
    simp [execOp, h, this, Op.unary, Op.intBits, bitsOf, IntKind.signed], rfl, in_wrap _ _⟩
theorem spec_indexAddrG {T e n g k : Nat} {io : Operand} {kk ke : IntKind} {i : Int} {zs : List Int} (h : o.op = .indexAddr T (.global g) io) (hu : P.underlying T = some (.array n e)) (hn : ∀ w, (sizeOf e).run P w = .ok 1 w)
    (hk : M[k]? = some (MF.glob g (zs.map (Rp.int ke)))) (hi : Get σ io (Rp.int kk i)) (hr : 0 ≤ i ∧ i < n) (hl : n ≤ zs.length) : Spec P σ M o (.one (Rp.at [Rp.int ke (zs.getD i.toNat 0)])) :=
  Spec.of_run fun a w C hs hm => by
    obtain ⟨ad, hv, hrow⟩ := get_glob (a := a) hk hm
    have hil : i.toNat < zs.length := by omega
    refine ⟨.pointer (some (ad.add (i.toNat * 1))), by simp [execOp, h, hv, get_int hi hs, Instr.indexAt, asIntOf, run_underlying hu, hn, hr.1, hr.2, Instr.sureAddr], _, rfl, ?_⟩
    have h2 := rowAt_sub (i.toNat * 1) 1 (by simp; omega) hrow
    have e : ((zs.map (Rp.int ke)).drop (i.toNat * 1)).take 1 = [Rp.int ke (zs.getD i.toNat 0)] := by
      rw [Nat.mul_one, List.drop_eq_getElem_cons (by simpa using hil)]
      simp [List.getD, hil]
    rwa [e] at h2
theorem spec_indexAA {α : Type} [Inhabited α] {T e n sz : Nat} {x ix : Operand} {E : α → List Rp} {xs : List α} {k : IntKind} {i : Int} (h : o.op = .index T x ix) (hu : P.underlying T = some (.array n e)) (hs : ∀ w, (sizeOf e).run P w = .ok sz w) (ha : ∀ w, (isAgg e).run P w = .ok true w)
    (hE : ∀ x, (E x).length = sz) (hx : Get σ x (Rp.agg (xs.flatMap E))) (hi : Get σ ix (Rp.int k i)) (hr : 0 ≤ i ∧ i < n) (hl : n ≤ xs.length) : Spec P σ M o (.one (Rp.agg (E (xs.getD i.toNat default)))) :=
  Spec.of_run fun a w C hsl _ => by
    obtain ⟨cs, hv, hcs⟩ := hx a w C hsl
    have hy : xs[i.toNat]? = some (xs.getD i.toNat default) := getD_some ⟨hr.1, by omega⟩
    have h2 := hcs.sub (i.toNat * sz) sz
    rw [flatMap_one hE xs hy] at h2
    exact ⟨.agg ((cs.drop (i.toNat * sz)).take sz).toArray, by
      simp [execOp, h, hv, Instr.index, get_int hi hsl, asIntOf, run_underlying hu, hr.1, hr.2, hs, part, ha, asAgg], _, rfl, h2⟩
end
theorem tab_row {k : IntKind} (W : World) (C : Nat → Prop) : ∀ (zs : List Int), (∀ z ∈ zs, InR k z) → AllR (zs.map (Rp.int k)) W C (zs.map fun z => Value.int k z)
  | [], _ => ⟨trivial, fun v hv => by cases hv⟩
  | z :: r, h => by
    have h2 := tab_row W C r fun x hx => h x (List.mem_cons_of_mem _ hx)
    refine ⟨⟨⟨rfl, h z List.mem_cons_self⟩, h2.1⟩, fun v hv => ?_⟩
    rcases List.mem_cons.1 hv with rfl | hv
    · rfl
    · exact h2.2 v hv
theorem glob_tab {P : Program} {W : World} {n : String} {g : Nat} {k : IntKind} {zs : List Int} (hg : P.globalNamed n = some g) (ht : Lib.TabIs P W n k zs) (hz : ∀ z ∈ zs, InR k z) : (MF.glob g (zs.map (Rp.int k))).p W (old W) := by
  unfold Lib.TabIs World.var? at ht
  rw [hg, Option.bind_some] at ht
  split at ht
  · rename_i cs' T fr hh
    cases ht
    refine ⟨rfl, (Array.getElem?_eq_some_iff.1 hh).1, _, T, fr, hh, ?_⟩
    show AllR (zs.map (Rp.int k)) W (old W) (((zs.map fun z => Value.int k z).drop 0).take (zs.map (Rp.int k)).length)
    rw [List.drop_zero, List.take_of_length_le (by simp)]
    exact tab_row W (old W) zs hz
  · cases ht
/-! Arrays of two numbers: equality. -/
theorem equal_ints {P : Program} {e : TypeId} {k kk : IntKind} {a b : Int} {d : Nat} {w : World} (he : P.underlying e = some (.int kk)) : (Op.equalIn (d + 1) e (.int k a) (.int k b)).run P w = .ok (decide (a = b)) w := by
  simp [Op.equalIn, run_underlying he]
  rfl
theorem equal_pairN {P : Program} {T e n : Nat} {k : IntKind} {a b c d : Int} {w : World} (hu : P.underlying T = some (.array 2 e)) (hn : ∀ w, (sizeOf e).run P w = .ok 1 w) (ha : ∀ w, (isAgg e).run P w = .ok false w)
    (h0 : ∀ a b, (Op.equalIn n e (.int k a) (.int k b)).run P w = .ok (decide (a = b)) w) :
    (Op.equalIn (n + 1) T (.agg #[.int k a, .int k b]) (.agg #[.int k c, .int k d])).run P w = .ok (decide (a = c) && decide (b = d)) w := by
  simp [Op.equalIn, run_underlying hu, hn, Std.Legacy.Range.forIn_eq_forIn_range', Std.Legacy.Range.size, List.range', part, ha, h0]
  by_cases h1 : a = c
  · by_cases h2 : b = d
    · simp [h1, h2]
    · simp [h1, h2]
  · simp [h1]
theorem equal_pair {P : Program} {T e : Nat} {k kk : IntKind} {a b c d : Int} {w : World} (hu : P.underlying T = some (.array 2 e)) (he : P.underlying e = some (.int kk)) (hn : ∀ w, (sizeOf e).run P w = .ok 1 w) (ha : ∀ w, (isAgg e).run P w = .ok false w) :
    (Op.equal T (.agg #[.int k a, .int k b]) (.agg #[.int k c, .int k d])).run P w = .ok (decide (a = c) && decide (b = d)) w :=
  equal_pairN (n := 9999) hu hn ha fun a b => equal_ints (d := 9998) he
section
variable {P : Program} {M : List MF} {o : Oper} {σ : Nat → Option Rp}
theorem spec_eqlP {T T' e : TypeId} {x y : Operand} {k kk : IntKind} {n m : Int × Int} (h : o.op = .binOp .eql T x y T') (hu : P.underlying T = some (.array 2 e)) (he : P.underlying e = some (.int kk)) (hn : ∀ w, (sizeOf e).run P w = .ok 1 w) (ha : ∀ w, (isAgg e).run P w = .ok false w) (hg : P.eqGuardType P.depth T = false)
    (hx : Get σ x (Rp.agg [Rp.int k n.1, Rp.int k n.2])) (hy : Get σ y (Rp.agg [Rp.int k m.1, Rp.int k m.2])) : Spec P σ M o (.one (Rp.bool (decide (n = m)))) :=
  Spec.of_run fun a w C hs _ => by
    obtain ⟨xs, hvx, hxs⟩ := hx a w C hs
    obtain ⟨ys, hvy, hys⟩ := hy a w C hs
    match xs, ys, hxs.1, hys.1 with
    | [x1, x2], [y1, y2], ⟨⟨h1, _⟩, ⟨h2, _⟩, _⟩, ⟨⟨h3, _⟩, ⟨h4, _⟩, _⟩ =>
      subst h1 h2 h3 h4
      have e := equal_pair (a := n.1) (b := n.2) (c := m.1) (d := m.2) (k := k) (w := w) hu he hn ha
      refine ⟨.bool (decide (n.1 = m.1) && decide (n.2 = m.2)), ?_, ?_⟩
      · simp only [execOp, h, hvx, hvy, Sem.run_bind, binOp, eqGuard_agg hg, Result.andThen_ok, e, Sem.run_pure]
      · show _ = _
        congr 1
        rw [Bool.eq_iff_iff]; simp [Prod.ext_iff]
theorem spec_neqP {T T' e : TypeId} {x y : Operand} {k kk : IntKind} {n m : Int × Int} (h : o.op = .binOp .neq T x y T') (hu : P.underlying T = some (.array 2 e)) (he : P.underlying e = some (.int kk)) (hn : ∀ w, (sizeOf e).run P w = .ok 1 w) (ha : ∀ w, (isAgg e).run P w = .ok false w) (hg : P.eqGuardType P.depth T = false)
    (hx : Get σ x (Rp.agg [Rp.int k n.1, Rp.int k n.2])) (hy : Get σ y (Rp.agg [Rp.int k m.1, Rp.int k m.2])) : Spec P σ M o (.one (Rp.bool (!decide (n = m)))) :=
  Spec.of_run fun a w C hs _ => by
    obtain ⟨xs, hvx, hxs⟩ := hx a w C hs
    obtain ⟨ys, hvy, hys⟩ := hy a w C hs
    match xs, ys, hxs.1, hys.1 with
    | [x1, x2], [y1, y2], ⟨⟨h1, _⟩, ⟨h2, _⟩, _⟩, ⟨⟨h3, _⟩, ⟨h4, _⟩, _⟩ =>
      subst h1 h2 h3 h4
      have e := equal_pair (a := n.1) (b := n.2) (c := m.1) (d := m.2) (k := k) (w := w) hu he hn ha
      refine ⟨.bool (!(decide (n.1 = m.1) && decide (n.2 = m.2))), ?_, ?_⟩
      · simp only [execOp, h, hvx, hvy, Sem.run_bind, binOp, eqGuard_agg hg, Result.andThen_ok, e, Sem.run_pure]
      · show _ = _
        congr 1; congr 1
        rw [Bool.eq_iff_iff]; simp [Prod.ext_iff]
end
end Go.Sim
/- A region whose order is open, with one change of which some operations of the head are free: they may come behind it. -/
namespace Go.Sim

def flags (m : Nat) (l : List Oper) : List Bool := (List.range m).map fun j => !((masks l []).getD m 0).testBit j
def anyB1 (m : Nat) (l : List Oper) : Bool :=
  let ms := masks l []
  let ops := l.toArray
  decide (m < l.length) &&
  l.zipIdx.all (fun x => x.1.after.toList.all fun e => !Region.binds .any e || decide (e.on < x.2)) &&
  (List.range m).all (fun k => (List.range m).all fun j => j == k || pairOk ops ms k j) &&
  (List.range l.length).all (fun t => decide (t ≤ m) || (List.range t).all fun j => (ms.getD t 0).testBit j)

inductive Head1 (P : Program) (n : Nat) (ops : Array Oper) (M Mf : List MF) : List Oper → List (Nat × Rp) → List HE → List Bool → Prop
  | nil {S : List (Nat × Rp)} : Head1 P n ops M Mf [] S [] []
  | one {o : Oper} {rest : List Oper} {S : List (Nat × Rp)} {R : Rp} {d : Nat} {Hs : List HE} {bs : List Bool} (hd : o.dst = some d) (hlt : Nat.blt d n = true) (hs : GSpec P ops (res (names ops o) S) M o (.one R))
      (h : Head1 P n ops M Mf rest ((d, R) :: S) Hs bs) : Head1 P n ops M Mf (o :: rest) S (⟨some d, .one R, R, fun _ _ _ _ h => h⟩ :: Hs) (false :: bs)
  | flo {o : Oper} {rest : List Oper} {S : List (Nat × Rp)} {R : Rp} {d : Nat} {Hs : List HE} {bs : List Bool} (hd : o.dst = some d) (hlt : Nat.blt d n = true) (hs : GSpec P ops (res (names ops o) S) Mf o (.one R))
      (h : Head1 P n ops M Mf rest ((d, R) :: S) Hs bs) : Head1 P n ops M Mf (o :: rest) S (⟨some d, .one R, R, fun _ _ _ _ h => h⟩ :: Hs) (true :: bs)
  | sink {o : Oper} {rest : List Oper} {S : List (Nat × Rp)} {A : RA} {d : Nat} {Hs : List HE} {bs : List Bool} (hd : o.dst = some d) (hlt : Nat.blt d n = true) (hs : GSpec P ops (res (names ops o) S) M o A)
      (h : Head1 P n ops M Mf rest ((d, Rp.any) :: S) Hs bs) : Head1 P n ops M Mf (o :: rest) S (⟨some d, A, Rp.any, fun _ _ _ _ _ => trivial⟩ :: Hs) (false :: bs)

/-- What is known behind the head: the free ones' facts apart. -/
def Fin1 (K : List (Nat × Rp) → List MF → List (Nat × Rp) → Prop) : List HE → List Bool → List (Nat × Rp) → List MF → List (Nat × Rp) → Prop
  | h :: hs, true :: bs, S, M, F => Fin1 K hs bs S M (putS h.dst h.T F)
  | h :: hs, false :: bs, S, M, F => ∀ i, Fin1 K hs bs (putS h.dst (h.A.R i) S) (h.A.F i ++ M) F
  | _, _, S, M, F => K S M F
theorem Fin1.one {K} {S : List (Nat × Rp)} {M : List MF} {F : List (Nat × Rp)} {d : Nat} {R : Rp} {le} {Hs : List HE} {bs : List Bool} (h : Fin1 K Hs bs ((d, R) :: S) M F) : Fin1 K (⟨some d, .one R, R, le⟩ :: Hs) (false :: bs) S M F := fun _ => h
theorem Fin1.flo {K} {S : List (Nat × Rp)} {M : List MF} {F : List (Nat × Rp)} {d : Nat} {R : Rp} {le} {Hs : List HE} {bs : List Bool} (h : Fin1 K Hs bs S M ((d, R) :: F)) : Fin1 K (⟨some d, .one R, R, le⟩ :: Hs) (true :: bs) S M F := h
theorem Fin1.sink {K} {S : List (Nat × Rp)} {M : List MF} {F : List (Nat × Rp)} {d : Nat} {A : RA} {T : Rp} {le} {Hs : List HE} {bs : List Bool} (h : ∀ i, Fin1 K Hs bs ((d, A.R i) :: S) (A.F i ++ M) F) : Fin1 K (⟨some d, A, T, le⟩ :: Hs) (false :: bs) S M F := h
theorem Fin1.nil {K} {S : List (Nat × Rp)} {M : List MF} {F : List (Nat × Rp)} (h : K S M F) : Fin1 K [] [] S M F := h

section
variable {P : Program} {B : Base} {n : Nat} {S : List (Nat × Rp)} {M Mf : List MF} {Q : Exit → Act → World → Prop}

theorem look_append {t : Nat} : ∀ (A C : List (Nat × Rp)), look t (A ++ C) = (look t A).or (look t C)
  | [], C => by simp [look]
  | (d, R) :: A, C => by
    by_cases h : d = t
    · subst h; rw [List.cons_append, look_cons_eq, look_cons_eq]; rfl
    · rw [List.cons_append, look_cons_ne h, look_cons_ne h, look_append A C]

theorem Sub.push {d : Nat} {R : Rp} (h : look d S = none) : Sub ((d, R) :: S) S := fun t R' h' => by
  by_cases e : d = t
  · subst e; rw [h] at h'; cases h'
  · exact ⟨R', by rw [look_cons_ne e]; exact h', fun _ _ _ h => h⟩
/-- Behind the change: the free ones that are left, then the rest. -/
def Aft (P : Program) (B : Base) (n : Nat) (ops : Array Oper) (Mf : List MF) (S₀ F X : List (Nat × Rp)) (rest : List Oper) (Q : Exit → Act → World → Prop) (e : Exit) (a : Act) (w : World) : Prop :=
  e = .normal ∧ ∃ S₁ M₁ C, St B n (S₁ ++ X) M₁ a w C ∧ Sub S₁ S₀ ∧ Pick M₁ Mf ∧ (∀ d R, look d F = some R → look d S₁ = none) ∧ L P B n (S₁ ++ F) M₁ ops rest Q
theorem Aft.next {ops : Array Oper} {S₀ F X : List (Nat × Rp)} {rest : List Oper} (S₁ : List (Nat × Rp)) {M₁ : List MF} (hs : Sub S₁ S₀) (hp : Pick M₁ Mf) (hf : (F.all fun x => (look x.1 S₁).isNone) = true) (h : L P B n (S₁ ++ F) M₁ ops rest Q) :
    N B n (S₁ ++ X) M₁ .normal (Aft P B n ops Mf S₀ F X rest Q) := fun a w C st => ⟨rfl, S₁, M₁, C, st, hs, hp, fun d R hd => by
  have hmem : ∀ (F : List (Nat × Rp)), look d F = some R → ∃ x ∈ F, x.1 = d := by
    intro F
    induction F with
    | nil => intro h; simp [look] at h
    | cons y F ih =>
      intro h
      by_cases hy : y.1 = d
      · exact ⟨y, by simp, hy⟩
      · obtain ⟨d', R'⟩ := y
        rw [look_cons_ne hy] at h
        obtain ⟨x, hx, h2⟩ := ih h
        exact ⟨x, by simp [hx], h2⟩
  obtain ⟨x, hx, rfl⟩ := hmem F hd
  simpa using List.all_eq_true.1 hf x hx, h⟩

/-- The contexts of those that are not free; the facts of the free ones; of those of them that are done. -/
def ctxN (S : List (Nat × Rp)) (H : Nat → HE) (fl : Nat → Bool) (s : Sel H) : Nat → List (Nat × Rp)
  | 0 => S
  | k + 1 => if fl k then ctxN S H fl s k else match s k with
    | some i => putS (H k).dst ((H k).A.R i) (ctxN S H fl s k)
    | none => ctxN S H fl s k
def ctxF (H : Nat → HE) (fl : Nat → Bool) : Nat → List (Nat × Rp)
  | 0 => []
  | k + 1 => if fl k then putS (H k).dst (H k).T (ctxF H fl k) else ctxF H fl k
def ctxX (H : Nat → HE) (fl : Nat → Bool) (s : Sel H) : Nat → List (Nat × Rp)
  | 0 => []
  | k + 1 => if fl k then (match s k with
    | some _ => putS (H k).dst (H k).T (ctxX H fl s k)
    | none => ctxX H fl s k) else ctxX H fl s k

theorem ctxN_congr {H : Nat → HE} {fl : Nat → Bool} {s s' : Sel H} : ∀ m, (∀ j, j < m → fl j = false → s j = s' j) → ctxN S H fl s m = ctxN S H fl s' m
  | 0, _ => rfl
  | m + 1, h => by
    simp only [ctxN]
    cases hf : fl m with
    | true => simp only [if_true]; exact ctxN_congr m fun j hj => h j (by omega)
    | false => simp only [Bool.false_eq_true, if_false]; rw [h m (by omega) hf, ctxN_congr m fun j hj => h j (by omega)]
theorem ctxX_full {H : Nat → HE} {fl : Nat → Bool} {s : Sel H} : ∀ m, (∀ j, j < m → fl j = true → s j ≠ none) → ctxX H fl s m = ctxF H fl m
  | 0, _ => rfl
  | m + 1, h => by
    simp only [ctxX, ctxF]
    cases hf : fl m with
    | true =>
      simp only [if_true]
      cases hs : s m with
      | none => exact absurd hs (h m (by omega) hf)
      | some i => simp only; rw [ctxX_full m fun j hj => h j (by omega)]
    | false => simp only [Bool.false_eq_true, if_false]; exact ctxX_full m fun j hj => h j (by omega)

/-- Nobody else writes what a free one writes. -/
structure Free (S : List (Nat × Rp)) (H : Nat → HE) (fl : Nat → Bool) (m : Nat) : Prop where
  one : ∀ k, k < m → fl k = true → ∀ i, (H k).A.R i = (H k).T ∧ (H k).A.F i = []
  sole : ∀ k j t, k < m → j < m → fl k = true → j ≠ k → (H k).dst = some t → (H j).dst ≠ some t
  fresh : ∀ k t, k < m → fl k = true → (H k).dst = some t → look t S = none

theorem look_ctxN_free {H : Nat → HE} {fl : Nat → Bool} {s : Sel H} {m : Nat} (hf : Free S H fl m) {k t : Nat} (hk : k < m) (hfl : fl k = true) (hd : (H k).dst = some t) : ∀ n, n ≤ m → look t (ctxN S H fl s n) = none
  | 0, _ => hf.fresh k t hk hfl hd
  | n + 1, hn => by
    have ih := look_ctxN_free (s := s) hf hk hfl hd n (by omega)
    simp only [ctxN]
    cases h : fl n with
    | true => simp only [if_true]; exact ih
    | false =>
      simp only [Bool.false_eq_true, if_false]
      cases s n with
      | none => exact ih
      | some i =>
        simp only
        rw [look_putS_ne (hf.sole k n t hk (by omega) hfl (fun e => by subst e; rw [hfl] at h; cases h) hd)]; exact ih
theorem look_ctxX {H : Nat → HE} {fl : Nat → Bool} {s : Sel H} {t : Nat} {R : Rp} : ∀ m, look t (ctxX H fl s m) = some R → ∃ k, k < m ∧ fl k = true ∧ (H k).dst = some t ∧ s k ≠ none ∧ R = (H k).T
  | 0, h => by simp [ctxX, look] at h
  | m + 1, h => by
    simp only [ctxX] at h
    have ih : look t (ctxX H fl s m) = some R → _ := look_ctxX m
    cases hfl : fl m with
    | false => rw [hfl] at h; simp only [Bool.false_eq_true, if_false] at h; obtain ⟨k, h1, h2⟩ := ih h; exact ⟨k, by omega, h2⟩
    | true =>
      rw [hfl] at h; simp only [if_true] at h
      cases hs : s m with
      | none => rw [hs] at h; obtain ⟨k, h1, h2⟩ := ih h; exact ⟨k, by omega, h2⟩
      | some i =>
        rw [hs] at h; simp only at h
        by_cases hd : (H m).dst = some t
        · simp only [hd, putS, look_cons_eq, Option.some.injEq] at h
          exact ⟨m, by omega, hfl, hd, by rw [hs]; simp, h.symm⟩
        · rw [look_putS_ne hd] at h; obtain ⟨k, h1, h2⟩ := ih h; exact ⟨k, by omega, h2⟩
theorem look_ctxX_of {H : Nat → HE} {fl : Nat → Bool} {s : Sel H} {m : Nat} (hf : Free S H fl m) {k t : Nat} (hk : k < m) (hfl : fl k = true) (hd : (H k).dst = some t) (hs : s k ≠ none) : ∀ n, n ≤ m → k < n → look t (ctxX H fl s n) = some (H k).T
  | 0, _, h => by omega
  | n + 1, hn, hkn => by
    simp only [ctxX]
    by_cases e : n = k
    · subst e
      cases hsn : s n with
      | none => exact absurd hsn hs
      | some i => simp only [hfl, if_true, hd, putS, look_cons_eq]
    · have ih := look_ctxX_of hf hk hfl hd hs n (by omega) (by omega)
      cases fl n with
      | false => simp only [Bool.false_eq_true, if_false]; exact ih
      | true =>
        simp only [if_true]
        cases s n with
        | none => exact ih
        | some i => simp only; rw [look_putS_ne (hf.sole k n t hk (by omega) hfl e hd)]; exact ih
/-- A slot that no free one writes. -/
theorem look_ctxS_nf {H : Nat → HE} {fl : Nat → Bool} {s : Sel H} {t : Nat} : ∀ m, (∀ k, k < m → fl k = true → (H k).dst ≠ some t) → look t (ctxS S H s m) = look t (ctxN S H fl s m)
  | 0, _ => rfl
  | m + 1, h => by
    have ih := look_ctxS_nf (s := s) m fun k hk => h k (by omega)
    simp only [ctxS, ctxN]
    cases hfl : fl m with
    | true =>
      simp only [if_true]
      cases s m with
      | none => exact ih
      | some i => simp only; rw [look_putS_ne (h m (by omega) hfl)]; exact ih
    | false =>
      simp only [Bool.false_eq_true, if_false]
      cases s m with
      | none => exact ih
      | some i =>
        simp only
        by_cases hd : (H m).dst = some t
        · simp only [hd, putS, look_cons_eq]
        · rw [look_putS_ne hd, look_putS_ne hd]; exact ih
/-- A slot that a free one writes. -/
theorem look_ctxS_free {H : Nat → HE} {fl : Nat → Bool} {s : Sel H} {m : Nat} (hf : Free S H fl m) {k t : Nat} (hk : k < m) (hfl : fl k = true) (hd : (H k).dst = some t) :
    look t (ctxS S H s m) = if s k = none then none else some (H k).T := by
  cases hs : s k with
  | none =>
    rw [look_ctxS_from (k := 0) m (by omega) (fun j _ hj hdj => by
      by_cases e : j = k
      · subst e; exact hs
      · exact absurd hdj (hf.sole k j t hk hj hfl e hd))]
    simp only [if_true]; exact hf.fresh k t hk hfl hd
  | some i =>
    rw [look_ctxS_from (k := k + 1) m (by omega) (fun j h1 hj hdj => absurd hdj (hf.sole k j t hk hj hfl (by omega) hd))]
    simp only [ctxS, hs, hd, putS, look_cons_eq, (hf.one k hk hfl i).1]
    simp

theorem sub_split {H : Nat → HE} {fl : Nat → Bool} {s : Sel H} {m : Nat} (hf : Free S H fl m) : Sub (ctxS S H s m) (ctxN S H fl s m ++ ctxX H fl s m) := by
  intro t R h
  rw [look_append] at h
  cases hn : look t (ctxN S H fl s m) with
  | some R' =>
    rw [hn] at h; simp at h; subst h
    rw [look_ctxS_nf (fl := fl) m (fun k hk hfl hd => by rw [look_ctxN_free hf hk hfl hd m (Nat.le_refl _)] at hn; cases hn)]
    exact ⟨_, hn, fun _ _ _ h => h⟩
  | none =>
    rw [hn] at h; simp at h
    obtain ⟨k, hk, hfl, hd, hs, rfl⟩ := look_ctxX m h
    refine ⟨(H k).T, ?_, fun _ _ _ h => h⟩
    rw [look_ctxS_free hf hk hfl hd, if_neg hs]

theorem fin1_full {K} {H : Nat → HE} {fl : Nat → Bool} {s : Sel H} {m : Nat} (hf : Free S H fl m) : ∀ (Hs : List HE) (bs : List Bool) (k : Nat) (S' : List (Nat × Rp)) (M' : List MF) (F' : List (Nat × Rp)), Hs.length = bs.length → k + Hs.length = m → (∀ j, j < Hs.length → Hs[j]? = some (H (k + j))) →
    (∀ j, j < bs.length → bs[j]? = some (fl (k + j))) → (∀ j, j < Hs.length → fl (k + j) = false → s (k + j) ≠ none) →
    S' = ctxN S H fl s k → M' = ctxM M H s k → F' = ctxF H fl k → Fin1 K Hs bs S' M' F' → K (ctxN S H fl s m) (ctxM M H s m) (ctxF H fl m) := by
  intro Hs
  induction Hs with
  | nil =>
    intro bs k S' M' F' hl hkm _ _ _ hS hM hF h
    have : bs = [] := List.eq_nil_of_length_eq_zero (by simpa using hl.symm)
    subst this
    have : k = m := by simpa using hkm
    subst this; subst hS; subst hM; subst hF; exact h
  | cons h hs ih =>
    intro bs k S' M' F' hl hkm hH hb hs' hS hM hF h'
    cases bs with
    | nil => simp at hl
    | cons b bs =>
      have h0 := hH 0 (by simp)
      simp only [List.getElem?_cons_zero, Nat.add_zero, Option.some.injEq] at h0
      subst h0
      have hb0 := hb 0 (by simp)
      simp only [List.getElem?_cons_zero, Nat.add_zero, Option.some.injEq] at hb0
      have hstep : ∀ (S₂ : List (Nat × Rp)) (M₂ : List MF) (F₂ : List (Nat × Rp)), S₂ = ctxN S H fl s (k + 1) → M₂ = ctxM M H s (k + 1) → F₂ = ctxF H fl (k + 1) → Fin1 K hs bs S₂ M₂ F₂ → K (ctxN S H fl s m) (ctxM M H s m) (ctxF H fl m) := fun S₂ M₂ F₂ e1 e2 e3 hK =>
        ih bs (k + 1) S₂ M₂ F₂ (by simpa using hl) (by simp only [List.length_cons] at hkm; omega) (fun j hj => by have := hH (j + 1) (by simp; omega); rw [show k + 1 + j = k + (j + 1) by omega]; simpa using this)
          (fun j hj => by have := hb (j + 1) (by simp; omega); rw [show k + 1 + j = k + (j + 1) by omega]; simpa using this)
          (fun j hj => by have := hs' (j + 1) (by simp; omega); rwa [show k + 1 + j = k + (j + 1) by omega]) e1 e2 e3 hK
      have hkm' : k < m := by simp only [List.length_cons] at hkm; omega
      cases b with
      | true =>
        have hfl := hb0.symm
        refine hstep S' M' (putS (H k).dst (H k).T F') ?_ ?_ ?_ h'
        · simp only [ctxN, hfl, if_true]; exact hS
        · simp only [ctxM]
          cases hsk : s k with
          | none => exact hM
          | some i => simp only [(hf.one k hkm' hfl i).2, List.nil_append]; exact hM
        · simp only [ctxF, hfl, if_true]; rw [hF]
      | false =>
        have hfl := hb0.symm
        cases hsk : s k with
        | none => exact absurd hsk (hs' 0 (by simp) hfl)
        | some i =>
          refine hstep _ _ F' ?_ ?_ ?_ (h' i)
          · simp only [ctxN, hfl, Bool.false_eq_true, if_false, hsk, hS]
          · simp only [ctxM, hsk, hM]
          · simp only [ctxF, hfl, Bool.false_eq_true, if_false, hF]

theorem head1_spec {ops : Array Oper} : ∀ (l : List Oper) (S : List (Nat × Rp)) (Hs : List HE) (bs : List Bool), Head1 P n ops M Mf l S Hs bs →
    Hs.length = l.length ∧ bs.length = l.length ∧ ∀ k o, l[k]? = some o → ∃ h b, Hs[k]? = some h ∧ bs[k]? = some b ∧ o.dst = h.dst ∧ (∀ d, h.dst = some d → d < n) ∧ (b = true → ∀ i, h.A.R i = h.T ∧ h.A.F i = []) ∧
      ∀ (H : Nat → HE), (∀ j, j < l.length → Hs[j]? = some (H j)) → GSpec P ops (res (names ops o) (ctxT S H k)) (if b then Mf else M) o h.A := by
  intro l S Hs bs h
  have key : ∀ {o : Oper} {rest : List Oper} {S : List (Nat × Rp)} {d : Nat} {Hs : List HE} {bs : List Bool} {h0 : HE} {b0 : Bool}, o.dst = some d → h0.dst = some d → Nat.blt d n = true → (b0 = true → ∀ i, h0.A.R i = h0.T ∧ h0.A.F i = []) → GSpec P ops (res (names ops o) S) (if b0 then Mf else M) o h0.A →
      (Hs.length = rest.length ∧ bs.length = rest.length ∧ ∀ k o, rest[k]? = some o → ∃ h b, Hs[k]? = some h ∧ bs[k]? = some b ∧ o.dst = h.dst ∧ (∀ d, h.dst = some d → d < n) ∧ (b = true → ∀ i, h.A.R i = h.T ∧ h.A.F i = []) ∧
        ∀ (H : Nat → HE), (∀ j, j < rest.length → Hs[j]? = some (H j)) → GSpec P ops (res (names ops o) (ctxT (putS (some d) h0.T S) H k)) (if b then Mf else M) o h.A) →
      ((h0 :: Hs).length = (o :: rest).length ∧ (b0 :: bs).length = (o :: rest).length ∧ ∀ k o', (o :: rest)[k]? = some o' → ∃ h b, (h0 :: Hs)[k]? = some h ∧ (b0 :: bs)[k]? = some b ∧ o'.dst = h.dst ∧ (∀ d, h.dst = some d → d < n) ∧ (b = true → ∀ i, h.A.R i = h.T ∧ h.A.F i = []) ∧
        ∀ (H : Nat → HE), (∀ j, j < (o :: rest).length → (h0 :: Hs)[j]? = some (H j)) → GSpec P ops (res (names ops o') (ctxT S H k)) (if b then Mf else M) o' h.A) := by
    intro o rest S d Hs bs h0 b0 hd hd0 hlt hone hs ⟨ih1, ih2, ih3⟩
    refine ⟨by simp [ih1], by simp [ih2], fun k o' ho => ?_⟩
    cases k with
    | zero =>
      simp only [List.getElem?_cons_zero, Option.some.injEq] at ho
      subst ho
      exact ⟨h0, b0, rfl, rfl, hd.trans hd0.symm, fun d' hd' => by rw [hd0] at hd'; cases hd'; simpa [Nat.blt_eq] using hlt, hone, fun H hH => hs⟩
    | succ k =>
      obtain ⟨h', b', hh', hb', h1, h2, h3, h4⟩ := ih3 k o' (by simpa using ho)
      refine ⟨h', b', by simpa using hh', by simpa using hb', h1, h2, h3, fun H hH => ?_⟩
      have h00 := hH 0 (by simp)
      simp only [List.getElem?_cons_zero, Option.some.injEq] at h00
      have := h4 (fun j => H (j + 1)) (fun j hj => by have := hH (j + 1) (by simp; omega); simpa using this)
      rw [ctxT_shift, ← h00, hd0]; exact this
  induction h with
  | nil => exact ⟨rfl, rfl, fun k o h => by simp at h⟩
  | one hd hlt hs _ ih => exact key hd rfl hlt (fun h => by cases h) (by simpa using hs) ih
  | flo hd hlt hs _ ih => exact key hd rfl hlt (fun _ i => ⟨rfl, rfl⟩) (by simpa using hs) ih
  | sink hd hlt hs _ ih => exact key hd rfl hlt (fun h => by cases h) (by simpa using hs) ih

/-- What a region's flags say. -/
structure Reg (l : List Oper) (m : Nat) (fl : Nat → Bool) : Prop where
  lt : m < l.length
  back : ∀ k o, l[k]? = some o → ∀ e ∈ o.after, Region.binds .any e = true → e.on < k
  pair : ∀ k j, k < m → j < m → j ≠ k → pairOk l.toArray (masks l []) k j = true
  last : ∀ t, m + 1 ≤ t → t < l.length → ∀ j, j < t → ((masks l []).getD t 0).testBit j = true
  bit : ∀ j, j < m → fl j = !((masks l []).getD m 0).testBit j

theorem reg_of {l : List Oper} {m : Nat} (hB : anyB1 m l = true) {fl : Nat → Bool} (hfl : ∀ j, j < m → fl j = !((masks l []).getD m 0).testBit j) : Reg l m fl where
  lt := by simp only [anyB1, Bool.and_eq_true, decide_eq_true_eq] at hB; exact hB.1.1.1
  back := by
    intro k o ho e he hb
    simp only [anyB1, Bool.and_eq_true, List.all_eq_true, Bool.or_eq_true, Bool.not_eq_true', decide_eq_true_eq] at hB
    have := hB.1.1.2 (o, k) (List.mem_zipIdx_iff_getElem?.2 (by simpa using ho)) e (by simpa using he)
    exact this.resolve_left (by simp [hb])
  pair := by
    intro k j hk hj hjk
    simp only [anyB1, Bool.and_eq_true, List.all_eq_true, List.mem_range, Bool.or_eq_true, beq_iff_eq] at hB
    exact (hB.1.2 k hk j hj).resolve_left hjk
  last := by
    intro t hmt ht j hj
    simp only [anyB1, Bool.and_eq_true, List.all_eq_true, List.mem_range, Bool.or_eq_true, decide_eq_true_eq] at hB
    exact (hB.2 t ht).resolve_left (by omega) j hj
  bit := hfl

/-- What is done is closed under what comes before. -/
def Closed (l : List Oper) (listed : Array Bool) : Prop := ∀ k o, l[k]? = some o → listed.getD k false = true → ∀ e ∈ o.after, Region.binds .any e = true → listed.getD e.on false = true

theorem closed_set {l : List Oper} {listed : Array Bool} {k : Nat} {o : Oper} (h : Closed l listed) (ho : l[k]? = some o) (hall : ∀ e ∈ o.after, Region.binds .any e = true → listed.getD e.on false = true) : Closed l (listed.setIfInBounds k true) := by
  intro k' o' ho'' hl' e he' hb
  by_cases hkk : k' = k
  · subst hkk
    rw [ho] at ho''; cases ho''
    exact getD_set_true (hall e he' hb)
  · rw [getD_set_ne false (Ne.symm hkk)] at hl'
    exact getD_set_true (h k' o' ho'' hl' e he' hb)
theorem count_set {listed : Array Bool} {k N : Nat} (hkls : k < listed.size) (hk1 : listed.getD k true = false) (hk : k < N) :
    (List.range N).countP (fun j => !listed.getD j true) = (List.range N).countP (fun j => !(listed.setIfInBounds k true).getD j true) + 1 := by
  induction N with
  | zero => omega
  | succ N ihN =>
    rw [List.range_succ, List.countP_append, List.countP_append]
    by_cases hNk : N = k
    · subst hNk
      have h2 : (List.range N).countP (fun j => !listed.getD j true) = (List.range N).countP (fun j => !(listed.setIfInBounds N true).getD j true) := by
        apply List.countP_congr
        intro x hx
        have : x ≠ N := by have := List.mem_range.1 hx; omega
        rw [getD_set_ne true (Ne.symm this)]
      have h3 : (listed.setIfInBounds N true).getD N true = true := by simp [hkls]
      rw [h2]
      simp only [List.countP_cons, List.countP_nil, hk1, h3]
      simp
    · rw [ihN (by omega)]
      have : (listed.setIfInBounds k true).getD N true = listed.getD N true := getD_set_ne true (Ne.symm hNk)
      simp only [List.countP_cons, List.countP_nil, this]
      omega

/-- Who writes what an operation of the head names, or writes, is ordered with it. -/
theorem ordered {l : List Oper} {m : Nat} {fl : Nat → Bool} {H : Nat → HE} {s : Sel H} {listed : Array Bool} (hr : Reg l m fl) (hcl : Closed l listed) (hls : ∀ j, j < m → (listed.getD j false = true ↔ s j ≠ none))
    (hdstj : ∀ j, j < m → ∃ oj, l[j]? = some oj ∧ oj.dst = (H j).dst) {k : Nat} {o : Oper} (hkm : k < m) (ho : l[k]? = some o) (hk1 : listed.getD k true = false) (hall : ∀ e ∈ o.after, Region.binds .any e = true → listed.getD e.on false = true) :
    ∀ t, (t ∈ names l.toArray o ∨ o.dst = some t) → ∀ j, j < m → j ≠ k → (H j).dst = some t → (j < k → s j ≠ none) ∧ (k < j → s j = none) := by
  intro t ht j hj hjk hdj
  obtain ⟨oj, hoj, hdoj⟩ := hdstj j hj
  have hp := hr.pair k j hkm hj hjk
  unfold pairOk at hp
  simp only [List.getElem?_toArray, ho, hoj, hdoj, hdj] at hp
  have hnm : ((names l.toArray o).contains t || o.dst == some t) = true := by
    rcases ht with ht | ht
    · simp [ht]
    · simp [ht]
  rw [hnm] at hp
  simp only [Bool.not_true, Bool.false_or] at hp
  constructor
  · intro hlt'
    rw [if_pos hlt'] at hp
    exact (hls j hj).1 (masks_listed (listed := fun k => listed.getD k false) hcl ho (fun e he hb => hall e he hb) hp)
  · intro hlt'
    rw [if_neg (by omega)] at hp
    cases hsj : s j with
    | none => rfl
    | some i =>
      exfalso
      have hlj : listed.getD j false = true := (hls j hj).2 (by rw [hsj]; simp)
      have hk3 : listed.getD k false = true := masks_listed (listed := fun k => listed.getD k false) hcl hoj (fun e he hb => hcl j oj hoj hlj e he hb) hp
      rw [getD_both hk1] at hk3; cases hk3

/-- The facts on what an operation of the head names. -/
theorem named {H : Nat → HE} {s : Sel H} {m k : Nat} {ns : List Nat} (hkm : k < m) (hsk : s k = none) (hord : ∀ t, t ∈ ns → ∀ j, j < m → j ≠ k → (H j).dst = some t → (j < k → s j ≠ none) ∧ (k < j → s j = none))
    {t : Nat} {R : Rp} (ht : res ns (ctxT S H k) t = some R) : t ∈ ns ∧ ∃ R', look t (ctxS S H s m) = some R' ∧ ∀ w C v, R'.p w C v → R.p w C v := by
  unfold res at ht
  cases hc : ns.contains t with
  | false => rw [hc] at ht; simp at ht
  | true =>
    rw [hc] at ht
    simp only [cond_true] at ht
    have htm : t ∈ ns := by simpa using hc
    obtain ⟨R', h1, h2⟩ := look_ctxT (S := S) (H := H) (s := s) (t := t) k (fun j hj hd => (hord t htm j (by omega) (by omega) hd).1 hj) R ht
    refine ⟨htm, R', ?_, h2⟩
    rw [look_ctxS_from (k := k) m (by omega) (fun j h3 h4 hd => ?_)]
    · exact h1
    · by_cases hjk : j = k
      · subst hjk; exact hsk
      · exact (hord t htm j h4 hjk hd).2 (by omega)

theorem count_tail {listed : Array Bool} {t : Nat} (h1 : ∀ j, j < t → listed.getD j true = true) : ∀ N, t ≤ N → (∀ j, t ≤ j → j < N → listed.getD j true = false) → (List.range N).countP (fun j => !listed.getD j true) = N - t := by
  intro N
  induction N with
  | zero => intro _ _; simp
  | succ N ih =>
    intro hN h2
    rcases Nat.lt_or_ge N t with h | h
    · have : t = N + 1 := by omega
      subst this
      rw [Nat.sub_self, List.countP_eq_zero]
      intro j hj
      rw [h1 j (List.mem_range.1 hj)]; simp
    · rw [List.range_succ, List.countP_append, ih h fun j h3 h4 => h2 j h3 (by omega)]
      simp only [List.countP_cons, List.countP_nil, h2 N h (by omega)]
      simp; omega
theorem getD_true {listed : Array Bool} {j : Nat} (h : listed.getD j false = true) : listed.getD j true = true := by
  rcases Nat.lt_or_ge j listed.size with h' | h'
  · simp [h'] at h ⊢; exact h
  · simp [Array.getElem?_eq_none h'] at h
theorem getD_false_of {listed : Array Bool} {j : Nat} (hj : j < listed.size) (h : ¬ (listed.getD j false = true)) : listed.getD j true = false := by
  simp [hj] at h ⊢; exact h
theorem least {p : Nat → Prop} {m : Nat} (h : ¬ ∀ j, j < m → p j) : ∃ k, k < m ∧ ¬ p k ∧ ∀ j, j < k → p j := by
  induction m with
  | zero => exact absurd (fun j hj => by omega) h
  | succ m ih =>
    by_cases hm : ∀ j, j < m → p j
    · refine ⟨m, by omega, fun hp => h fun j hj => ?_, hm⟩
      rcases Nat.lt_or_ge j m with h1 | h1
      · exact hm j h1
      · have : j = m := by omega
        subst this; exact hp
    · obtain ⟨k, h1, h2⟩ := ih hm
      exact ⟨k, by omega, h2⟩

/-- Behind the change: the free ones that are left, in any order, then the tail. -/
theorem any_after {l : List Oper} {m : Nat} {fl : Nat → Bool} {H : Nat → HE} (hr : Reg l m fl) (hf : Free S H fl m)
    (hsp : ∀ k o, k < m → l[k]? = some o → o.dst = (H k).dst ∧ (∀ d, (H k).dst = some d → d < n) ∧ GSpec P l.toArray (res (names l.toArray o) (ctxT S H k)) (if fl k then Mf else M) o (H k).A)
    {S₁ : List (Nat × Rp)} {M₁ : List MF} (hp : Pick M₁ Mf) (hL : L P B n (S₁ ++ ctxF H fl m) M₁ l.toArray (l.drop (m + 1)) Q) (hno : ∀ k t, k < m → fl k = true → (H k).dst = some t → look t S₁ = none) :
    ∀ (f : Nat) (listed : Array Bool) (s : Sel H) (a : Act) (w : World) (C : Nat → Prop), listed.size = l.length →
      (∀ j, j < m → (listed.getD j false = true ↔ s j ≠ none)) → listed.getD m false = true → (∀ j, m + 1 ≤ j → j < l.length → listed.getD j true = false) → Closed l listed →
      ((List.range l.length).countP (fun j => !listed.getD j true) = f) → (∀ j, j < m → fl j = false → s j ≠ none) → Sub S₁ (ctxN S H fl s m) →
      St B n (S₁ ++ ctxX H fl s m) M₁ a w C → wpAny P .any l.toArray Q f listed a w := by
  have hdstj : ∀ j, j < m → ∃ oj, l[j]? = some oj ∧ oj.dst = (H j).dst := by
    intro j hj
    have hjl : j < l.length := by have := hr.lt; omega
    exact ⟨l[j], by simp [hjl], (hsp j l[j] hj (by simp [hjl])).1⟩
  intro f
  induction f with
  | zero =>
    intro listed s a w C hsz hls hlm htail hcl hcount hnf hsub st
    have hall : ∀ j, j < l.length → listed.getD j true = true := by
      intro j hj
      have := List.countP_eq_zero.1 hcount j (List.mem_range.2 hj)
      simpa using this
    have hml : m + 1 = l.length := by
      have := hr.lt
      rcases Nat.lt_or_ge (m + 1) l.length with h | h
      · have h1 := htail (m + 1) (Nat.le_refl _) h
        rw [hall _ h] at h1; cases h1
      · omega
    have hdone : ∀ j, j < m → s j ≠ none := fun j hj => by
      refine (hls j hj).1 ?_
      have := hall j (by omega)
      have hjl : j < listed.size := by omega
      simp [hjl] at this ⊢; exact this
    rw [ctxX_full m fun j hj _ => hdone j hj] at st
    refine any_tail_of (m := m + 1) hr.last hr.back 0 (m + 1) listed a w (by omega) (Nat.le_refl _) hsz (fun j hj => ?_) htail (hL a w C st)
    rcases Nat.lt_or_ge j m with h | h
    · exact (hls j h).2 (hdone j h)
    · have : j = m := by omega
      subst this; exact hlm
  | succ f ih =>
    intro listed s a w C hsz hls hlm htail hcl hcount hnf hsub st
    by_cases hfull : ∀ j, j < m → s j ≠ none
    · have hdn : ∀ j, j < m + 1 → listed.getD j false = true := fun j hj => by
        rcases Nat.lt_or_ge j m with h | h
        · exact (hls j h).2 (hfull j h)
        · have : j = m := by omega
          subst this; exact hlm
      rw [ctxX_full m fun j hj _ => hfull j hj] at st
      refine any_tail_of (m := m + 1) hr.last hr.back (f + 1) (m + 1) listed a w ?_ (Nat.le_refl _) hsz hdn htail (hL a w C st)
      rw [← hcount, count_tail (fun j hj => getD_true (hdn j hj)) _ (by have := hr.lt; omega) htail]
      have := hr.lt; omega
    · obtain ⟨k₀, hk₀m, hk₀n, hk₀l⟩ := least hfull
      have hr₀ : k₀ ∈ Region.ready .any l.toArray listed := by
        have hk₀ll : k₀ < l.length := by have := hr.lt; omega
        refine mem_ready.2 ⟨getD_false_of (by omega) fun h => hk₀n ((hls k₀ hk₀m).1 h), l[k₀], by simp [hk₀ll], fun e he hb => ?_⟩
        have := hr.back k₀ l[k₀] (by simp [hk₀ll]) e he hb
        exact (hls e.on (by omega)).2 (hk₀l _ this)
      refine ⟨fun h0 => (by rw [h0] at hr₀; cases hr₀), fun k hk => ?_⟩
      obtain ⟨hk1, o, ho, hall⟩ := mem_ready.1 hk
      have ho' : l[k]? = some o := by simpa using ho
      have hkl : k < l.length := (List.getElem?_eq_some_iff.1 ho').1
      have hkm : k < m := by
        rcases Nat.lt_trichotomy k m with h | h | h
        · exact h
        · subst h; rw [getD_both hk1] at hlm; cases hlm
        · have := masks_listed (listed := fun k => listed.getD k false) hcl ho' (fun e he hb => hall e he hb) (hr.last k h hkl k₀ (by omega))
          exact absurd ((hls k₀ hk₀m).1 this) hk₀n
      have hsk : s k = none := by
        cases hs : s k with
        | none => rfl
        | some i =>
          have := (hls k hkm).2 (by rw [hs]; simp)
          rw [getD_both hk1] at this; cases this
      have hflk : fl k = true := by
        cases h : fl k with
        | true => rfl
        | false => exact absurd hsk (hnf k hkm h)
      obtain ⟨hdst, hlt, hgs⟩ := hsp k o hkm ho'
      rw [hflk] at hgs; simp only [if_true] at hgs
      have hord := ordered hr hcl hls hdstj hkm ho' hk1 hall
      have hslots : SlotsOk (res (names l.toArray o) (ctxT S H k)) a w C := by
        intro t R ht
        obtain ⟨htm, R', h1, h2⟩ := named (S := S) (s := s) hkm hsk (fun t ht => hord t (.inl ht)) ht
        refine h2 _ _ _ ?_
        by_cases hfree : ∃ g, g < m ∧ fl g = true ∧ (H g).dst = some t
        · obtain ⟨g, hg, hflg, hdg⟩ := hfree
          rw [look_ctxS_free hf hg hflg hdg] at h1
          by_cases hsg : s g = none
          · rw [if_pos hsg] at h1; cases h1
          · rw [if_neg hsg] at h1
            cases h1
            refine st.slots t _ ?_
            show look t (S₁ ++ ctxX H fl s m) = _
            rw [look_append, hno g t hg hflg hdg, look_ctxX_of hf hg hflg hdg hsg m (Nat.le_refl _) hg]; rfl
        · rw [look_ctxS_nf (fl := fl) m fun g hg hflg hdg => hfree ⟨g, hg, hflg, hdg⟩] at h1
          obtain ⟨R₀, h3, h4⟩ := hsub t R' h1
          refine h4 _ _ _ (st.slots t R₀ ?_)
          show look t (S₁ ++ ctxX H fl s m) = _
          rw [look_append, h3]; rfl
      have hmem : MOk Mf w C := st.mem.pick hp
      have hop := hgs a w C (fun a' w' => wpAny P .any l.toArray Q f (listed.setIfInBounds k true) a' w') Q hslots hmem (fun i v w' C' he hwf hv hn => ?_)
      · unfold wpOp
        simp only [ho]
        split
        · rename_i hw; rw [if_pos hw] at hop; exact .inl hop
        · rename_i hw; rw [if_neg hw] at hop; exact hop
      · have hkls : k < listed.size := by omega
        have hFR := hf.one k hkm hflk i
        refine ih (listed.setIfInBounds k true) (s.set k i) _ _ C' (by simp [hsz]) ?_ (getD_set_true hlm) ?_ (closed_set hcl ho' hall) ?_ ?_ ?_ ?_
        · intro j hj
          by_cases hjk : j = k
          · subst hjk; simp [set_self, hkls]
          · rw [set_other s i hjk, getD_set_ne false (Ne.symm hjk)]; exact hls j hj
        · intro j h1 h2; rw [getD_set_ne true (by omega)]; exact htail j h1 h2
        · have := count_set hkls hk1 hkl; omega
        · intro j hj hflj
          rw [set_other s i (fun e => by subst e; rw [hflk] at hflj; cases hflj)]; exact hnf j hj hflj
        · rw [ctxN_congr (s' := s) m fun j hj hflj => set_other s i (fun e => by subst e; rw [hflk] at hflj; cases hflj)]; exact hsub
        · rw [hFR.2] at hn
          rw [hFR.1] at hv
          have hst := st.step (dst := o.dst) (fun d hd => hlt d (by rw [← hdst]; exact hd)) he hwf hv hn
          refine St.sub ?_ hst
          intro t R ht
          rw [look_append] at ht
          cases hd : (H k).dst with
          | none =>
            rw [hdst, hd]
            refine ⟨R, ?_, fun _ _ _ h => h⟩
            show look t (S₁ ++ ctxX H fl s m) = _
            rw [look_append]
            cases h1 : look t S₁ with
            | some R' => rw [h1] at ht; exact ht
            | none =>
              rw [h1] at ht; simp at ht ⊢
              obtain ⟨g, hg, hflg, hdg, hsg, rfl⟩ := look_ctxX m ht
              refine look_ctxX_of hf hg hflg hdg ?_ m (Nat.le_refl _) hg
              rwa [set_other s i (fun e => by subst e; rw [hd] at hdg; cases hdg)] at hsg
          | some d =>
            rw [hdst, hd]
            refine ⟨R, ?_, fun _ _ _ h => h⟩
            show look t ((d, (H k).T) :: (S₁ ++ ctxX H fl s m)) = _
            by_cases hdt : d = t
            · subst hdt
              rw [look_cons_eq]
              rw [hno k d hkm hflk hd, look_ctxX_of hf hkm hflk hd (by rw [set_self]; simp) m (Nat.le_refl _) hkm] at ht
              exact ht
            · rw [look_cons_ne hdt, look_append]
              cases h1 : look t S₁ with
              | some R' => rw [h1] at ht; exact ht
              | none =>
                rw [h1] at ht; simp at ht ⊢
                obtain ⟨g, hg, hflg, hdg, hsg, rfl⟩ := look_ctxX m ht
                refine look_ctxX_of hf hg hflg hdg ?_ m (Nat.le_refl _) hg
                rwa [set_other s i (fun e => by subst e; rw [hd] at hdg; cases hdg; exact hdt rfl)] at hsg

theorem wp_monoQ {o : Oper} {a : Act} {w : World} {K K' : Act → World → Prop} {Q' : Exit → Act → World → Prop} (h : ∀ a w, K a w → K' a w) (hq : ∀ e a w, e ≠ .normal → Q e a w → Q' e a w)
    (hh : o.wp P a w K Q) : o.wp P a w K' Q' := by
  have hout : LetsOut Q → LetsOut Q' := fun ⟨a, w, h⟩ => ⟨a, w, hq _ _ _ (by simp) h⟩
  unfold Oper.wp at *
  generalize (execOp a.eval o).run P w = r at *
  cases r with
  | ok n w' =>
    cases n <;> simp only [Oper.upon] at hh ⊢ <;>
      first
        | exact h _ _ hh
        | exact Calls.mono hh (fun e w'' he => by cases e <;> first | exact h _ _ he | exact hq _ _ _ (by simp) he | exact hout he)
        | exact Rows.mono hh (fun _ _ he => h _ _ he)
  | halt x w' => cases x <;> simp only [Oper.upon] at hh ⊢ <;> exact hq _ _ _ (by simp) hh

/-- The head, in any order, and the change, wherever it stands. -/
theorem any_head1 {l : List Oper} {m : Nat} {o₁ : Oper} {fl : Nat → Bool} {H : Nat → HE} (hr : Reg l m fl) (hf : Free S H fl m) (ho₁ : l[m]? = some o₁) (hpM : Pick M Mf)
    (hsp : ∀ k o, k < m → l[k]? = some o → o.dst = (H k).dst ∧ (∀ d, (H k).dst = some d → d < n) ∧ GSpec P l.toArray (res (names l.toArray o) (ctxT S H k)) (if fl k then Mf else M) o (H k).A)
    (hK : ∀ s : Sel H, (∀ j, j < m → fl j = false → s j ≠ none) → ∀ X, L P B n (ctxN S H fl s m ++ X) (ctxM M H s m) l.toArray [o₁] (Aft P B n l.toArray Mf (ctxN S H fl s m) (ctxF H fl m) X (l.drop (m + 1)) Q)) :
    ∀ (f : Nat) (listed : Array Bool) (s : Sel H) (a : Act) (w : World) (C : Nat → Prop), listed.size = l.length →
      (∀ j, j < m → (listed.getD j false = true ↔ s j ≠ none)) → (∀ j, m ≤ j → j < l.length → listed.getD j true = false) → Closed l listed →
      ((List.range l.length).countP (fun j => !listed.getD j true) = f) →
      St B n (ctxS S H s m) (ctxM M H s m) a w C → wpAny P .any l.toArray Q f listed a w := by
  have hml := hr.lt
  have hdstj : ∀ j, j < m → ∃ oj, l[j]? = some oj ∧ oj.dst = (H j).dst := by
    intro j hj
    have hjl : j < l.length := by omega
    exact ⟨l[j], by simp [hjl], (hsp j l[j] hj (by simp [hjl])).1⟩
  intro f
  induction f with
  | zero =>
    intro listed s a w C hsz hls htail hcl hcount st
    have := List.countP_eq_zero.1 hcount m (List.mem_range.2 hml)
    rw [htail m (Nat.le_refl _) hml] at this
    simp at this
  | succ f ih =>
    intro listed s a w C hsz hls htail hcl hcount st
    -- something is ready
    have hne : Region.ready .any l.toArray listed ≠ [] := by
      intro h0
      by_cases hfull : ∀ j, j < m → s j ≠ none
      · have : m ∈ Region.ready .any l.toArray listed := by
          refine mem_ready.2 ⟨htail m (Nat.le_refl _) hml, o₁, by simpa using ho₁, fun e he hb => ?_⟩
          have := hr.back m o₁ ho₁ e he hb
          exact (hls e.on this).2 (hfull _ this)
        rw [h0] at this; cases this
      · obtain ⟨k₀, hk₀m, hk₀n, hk₀l⟩ := least hfull
        have : k₀ ∈ Region.ready .any l.toArray listed := by
          have hk₀ll : k₀ < l.length := by omega
          refine mem_ready.2 ⟨getD_false_of (by omega) fun h => hk₀n ((hls k₀ hk₀m).1 h), l[k₀], by simp [hk₀ll], fun e he hb => ?_⟩
          have := hr.back k₀ l[k₀] (by simp [hk₀ll]) e he hb
          exact (hls e.on (by omega)).2 (hk₀l _ this)
        rw [h0] at this; cases this
    refine ⟨fun h0 => absurd h0 hne, fun k hk => ?_⟩
    obtain ⟨hk1, o, ho, hall⟩ := mem_ready.1 hk
    have ho' : l[k]? = some o := by simpa using ho
    have hkl : k < l.length := (List.getElem?_eq_some_iff.1 ho').1
    have hkls : k < listed.size := by omega
    rcases Nat.lt_trichotomy k m with hkm | hkm | hkm
    · -- one of the head
      have hsk : s k = none := by
        cases hs : s k with
        | none => rfl
        | some i =>
          have := (hls k hkm).2 (by rw [hs]; simp)
          rw [getD_both hk1] at this; cases this
      obtain ⟨hdst, hlt, hgs⟩ := hsp k o hkm ho'
      have hord := ordered hr hcl hls hdstj hkm ho' hk1 hall
      have hslots : SlotsOk (res (names l.toArray o) (ctxT S H k)) a w C := by
        intro t R ht
        obtain ⟨htm, R', h1, h2⟩ := named (S := S) (s := s) hkm hsk (fun t ht => hord t (.inl ht)) ht
        exact h2 _ _ _ (st.slots t R' h1)
      have hmemM : MOk M w C := by
        obtain ⟨R, hR⟩ := ctxM_pick (M := M) (H := H) (s := s) m
        exact (st.mem.perm hR).left
      have hmem : MOk (if fl k then Mf else M) w C := by
        split
        · exact hmemM.pick hpM
        · exact hmemM
      have hop := hgs a w C (fun a' w' => wpAny P .any l.toArray Q f (listed.setIfInBounds k true) a' w') Q hslots hmem (fun i v w' C' he hwf hv hn => ?_)
      · unfold wpOp
        simp only [ho]
        split
        · rename_i hw; rw [if_pos hw] at hop; exact .inl hop
        · rename_i hw; rw [if_neg hw] at hop; exact hop
      · refine ih (listed.setIfInBounds k true) (s.set k i) _ _ C' (by simp [hsz]) ?_ ?_ (closed_set hcl ho' hall) ?_ ?_
        · intro j hj
          by_cases hjk : j = k
          · subst hjk; simp [set_self, hkls]
          · rw [set_other s i hjk, getD_set_ne false (Ne.symm hjk)]; exact hls j hj
        · intro j h1 h2; rw [getD_set_ne true (by omega)]; exact htail j h1 h2
        · have := count_set hkls hk1 hkl; omega
        · have hst := st.step (dst := o.dst) (fun d hd => hlt d (by rw [← hdst]; exact hd)) he hwf hv hn
          refine ⟨hst.size, hst.defers, ?_, hst.mem.perm (ctxM_set hsk m hkm).symm, hst.eff, ?_⟩
          · intro t R ht
            have hl := look_set (S := S) (H := H) (s := s) (k := k) (m := m) (t := t) (i := i) hkm hsk
            by_cases hd : (H k).dst = some t
            · have h1 := hl.1 hd (fun j h2 h3 h4 => (hord t (.inr (by rw [hdst]; exact hd)) j h3 (by omega) h4).2 h2)
              simp only at ht
              rw [h1] at ht
              have h2 := hst.slots t ((H k).A.R i) (by rw [hdst, hd]; exact look_cons_eq)
              cases ht; exact h2
            · have h1 := hl.2 hd
              simp only at ht
              rw [h1] at ht
              exact hst.slots t R (by
                show look t (putS o.dst _ _) = some R
                rw [look_putS_ne (by rw [hdst]; exact hd)]; exact ht)
          · intro b hb
            exact hst.since b ((feet_perm (ctxM_set hsk m hkm)).mem_iff.1 hb)
    · -- the change
      subst hkm
      rw [ho₁] at ho'; cases ho'
      have hnf : ∀ j, j < k → fl j = false → s j ≠ none := by
        intro j hj hflj
        have hb := hr.bit j hj
        rw [hflj] at hb
        have hb' : ((masks l []).getD k 0).testBit j = true := by simpa using hb.symm
        exact (hls j hj).1 (masks_listed (listed := fun k => listed.getD k false) hcl ho₁ (fun e he hb => hall e he hb) hb')
      have hL := hK s hnf (ctxX H fl s k) a w C (st.sub (sub_split hf))
      have hnext : ∀ a' w', Aft P B n l.toArray Mf (ctxN S H fl s k) (ctxF H fl k) (ctxX H fl s k) (l.drop (k + 1)) Q .normal a' w' → wpAny P .any l.toArray Q f (listed.setIfInBounds k true) a' w' := by
        intro a' w' ⟨_, S₁, M₁, C', st', hsub, hp, hno, hLr⟩
        refine any_after hr hf hsp hp hLr (fun j t hj hflj hdj => ?_) f _ s a' w' C' (by simp [hsz]) ?_ (by simp [hkls]) ?_ (closed_set hcl ho₁ hall) ?_ hnf hsub st'
        · have hFm : ∀ N, j < N → N ≤ k → ∃ R, look t (ctxF H fl N) = some R := by
            intro N
            induction N with
            | zero => intro h; omega
            | succ N ihN =>
              intro h1 h2
              simp only [ctxF]
              by_cases e : N = j
              · subst e; rw [hflj]; simp only [if_true, hdj, putS]; exact ⟨_, look_cons_eq⟩
              · obtain ⟨R, hR⟩ := ihN (by omega) (by omega)
                cases fl N with
                | false => simp only [Bool.false_eq_true, if_false]; exact ⟨R, hR⟩
                | true =>
                  simp only [if_true]
                  by_cases hdN : (H N).dst = some t
                  · rw [hdN]; exact ⟨_, look_cons_eq⟩
                  · rw [look_putS_ne hdN]; exact ⟨R, hR⟩
          obtain ⟨R, hR⟩ := hFm k hj (Nat.le_refl _)
          exact hno t R hR
        · intro j hj; rw [getD_set_ne false (by omega)]; exact hls j hj
        · intro j h1 h2; rw [getD_set_ne true (by omega)]; exact htail j (by omega) h2
        · have := count_set hkls hk1 hkl; omega
      have hq : ∀ (e : Exit) (a : Act) (w : World), e ≠ .normal → Aft P B n l.toArray Mf (ctxN S H fl s k) (ctxF H fl k) (ctxX H fl s k) (l.drop (k + 1)) Q e a w → Q e a w := fun e a w hne h => absurd h.1 hne
      unfold wpOp
      simp only [ho]
      simp only [wpList] at hL
      split
      · rename_i hw
        rw [if_pos hw] at hL
        refine hL.imp (wp_monoQ hnext hq) (fun h => ⟨h.1, ?_⟩)
        obtain ⟨a', w', h'⟩ := h.2
        exact absurd h'.1 (by simp)
      · rename_i hw
        rw [if_neg hw] at hL
        exact hnext _ _ hL
    · -- behind the change
      exfalso
      have h1 := masks_listed (listed := fun k => listed.getD k false) hcl ho' (fun e he hb => hall e he hb) (hr.last k hkm hkl m hkm)
      have h2 := htail m (Nat.le_refl _) hml
      rw [getD_both h2] at h1; cases h1

/-- What a free one writes is written by nobody else and was not known. -/
def freeB (S : List (Nat × Rp)) (Hs : List HE) (bs : List Bool) : Bool :=
  (List.range Hs.length).all fun k => !bs.getD k false || match (Hs[k]?).bind HE.dst with
    | some d => (S.all fun x => x.1 != d) && (List.range Hs.length).all fun j => j == k || (Hs[j]?).bind HE.dst != some d
    | none => true

theorem look_none {t : Nat} : ∀ S : List (Nat × Rp), (S.all fun x => x.1 != t) = true → look t S = none
  | [], _ => rfl
  | (d, R) :: S, h => by
    simp only [List.all_cons, Bool.and_eq_true, bne_iff_ne, ne_eq] at h
    rw [look_cons_ne h.1]; exact look_none S h.2

theorem W.any1 {id : Nat} {l : List Oper} {o₁ : Oper} (m : Nat) {Hs : List HE} {bs : List Bool} (hm : P.follows .mixedOrders = true) (hB : anyB1 m l = true) (hfl : flags m l = bs) (ho₁ : l[m]? = some o₁) (hpM : Pick M Mf)
    (hH : Head1 P n l.toArray M Mf (l.take m) S Hs bs) (hfr : freeB S Hs bs = true)
    (hK : Fin1 (fun S₀ M₀ F => ∀ X, L P B n (S₀ ++ X) M₀ l.toArray [o₁] (Aft P B n l.toArray Mf S₀ F X (l.drop (m + 1)) Q)) Hs bs S M []) : W P B n S M (.region id l.toArray true) Q := by
  intro a w C st
  refine wp_region_any hm ?_
  obtain ⟨hlen, hblen, hspec⟩ := head1_spec _ _ _ _ hH
  let fl : Nat → Bool := fun k => bs.getD k false
  have hbit : ∀ j, j < m → fl j = !((masks l []).getD m 0).testBit j := by
    intro j hj
    show bs.getD j false = _
    rw [← hfl]
    simp [flags, List.getD_eq_getElem?_getD, hj]
  have hr := reg_of hB hbit
  have hml := hr.lt
  have hlen' : Hs.length = m := by rw [hlen]; simp; omega
  have hblen' : bs.length = m := by rw [hblen]; simp; omega
  let H : Nat → HE := fun j => Hs.getD j ⟨none, .one Rp.any, Rp.any, fun _ _ _ _ h => h⟩
  have hHs : ∀ j, j < m → Hs[j]? = some (H j) := fun j hj => by
    have : j < Hs.length := by omega
    simp [H, this]
  have hbs : ∀ j, j < m → bs[j]? = some (fl j) := fun j hj => by
    have : j < bs.length := by omega
    simp [fl, this]
  have hsp : ∀ k o, k < m → l[k]? = some o → o.dst = (H k).dst ∧ (∀ d, (H k).dst = some d → d < n) ∧ (fl k = true → ∀ i, (H k).A.R i = (H k).T ∧ (H k).A.F i = []) ∧ GSpec P l.toArray (res (names l.toArray o) (ctxT S H k)) (if fl k then Mf else M) o (H k).A := by
    intro k o hk ho
    obtain ⟨h, b, hh, hb, h1, h2, h3, h4⟩ := hspec k o (by rw [List.getElem?_take]; simp [hk, ho])
    have e1 : h = H k := by have := hHs k hk; rw [hh] at this; simpa using this
    have e2 : b = fl k := by have := hbs k hk; rw [hb] at this; simpa using this
    subst e1; subst e2
    exact ⟨h1, h2, h3, h4 H (fun j hj => hHs j (by simp at hj; omega))⟩
  have hlk : ∀ k, k < m → ∃ o, l[k]? = some o := fun k hk => ⟨l[k], List.getElem?_eq_getElem (by omega)⟩
  have hfreeB : ∀ k t, k < m → fl k = true → (H k).dst = some t → (S.all fun x => x.1 != t) = true ∧ ∀ j, j < m → j ≠ k → (H j).dst ≠ some t := by
    intro k t hk hflk hd
    have := List.all_eq_true.1 hfr k (List.mem_range.2 (by omega))
    have e1 : bs.getD k false = true := hflk
    rw [e1, hHs k hk] at this
    simp only [Bool.not_true, Bool.false_or, Option.bind_some, hd, Bool.and_eq_true] at this
    refine ⟨this.1, fun j hj hjk hdj => ?_⟩
    have h2 := List.all_eq_true.1 this.2 j (List.mem_range.2 (by omega))
    rw [hHs j hj] at h2
    simp [hjk, hdj] at h2
  have hf : Free S H fl m := ⟨fun k hk hflk i => by
      obtain ⟨o, ho⟩ := hlk k hk
      exact (hsp k o hk ho).2.2.1 hflk i, fun k j t hk hj hflk hjk hd => (hfreeB k t hk hflk hd).2 j hj hjk, fun k t hk hflk hd => look_none S (hfreeB k t hk hflk hd).1⟩
  have hK' : ∀ s : Sel H, (∀ j, j < m → fl j = false → s j ≠ none) → ∀ X, L P B n (ctxN S H fl s m ++ X) (ctxM M H s m) l.toArray [o₁] (Aft P B n l.toArray Mf (ctxN S H fl s m) (ctxF H fl m) X (l.drop (m + 1)) Q) := by
    intro s hnf
    exact fin1_full (K := fun S₀ M₀ F => ∀ X, L P B n (S₀ ++ X) M₀ l.toArray [o₁] (Aft P B n l.toArray Mf S₀ F X (l.drop (m + 1)) Q)) (S := S) (M := M) (s := s) hf Hs bs 0 S M [] (by omega) (by omega) (fun j hj => by rw [Nat.zero_add]; exact hHs j (by omega))
      (fun j hj => by rw [Nat.zero_add]; exact hbs j (by omega)) (fun j hj h => by rw [Nat.zero_add] at h ⊢; exact hnf j (by omega) h) rfl rfl rfl hK
  have hsel : ∀ k, ctxS S H (fun _ => none) k = S := by
    intro k; induction k with
    | zero => rfl
    | succ k ih => simp only [ctxS]; exact ih
  have hselM : ∀ k, ctxM M H (fun _ => none) k = M := by
    intro k; induction k with
    | zero => rfl
    | succ k ih => simp only [ctxM]; exact ih
  have hrep : ∀ j d, j < l.length → (Array.replicate l.toArray.size false).getD j d = false := by
    intro j d hj; simp [hj]
  refine any_head1 hr hf ho₁ hpM (fun k o hk ho => ⟨(hsp k o hk ho).1, (hsp k o hk ho).2.1, (hsp k o hk ho).2.2.2⟩) hK' l.toArray.size _ (fun _ => none) a _ C (by simp) ?_ ?_ ?_ ?_ (by rw [hsel, hselM]; exact st.drew)
  · intro j hj
    rw [hrep j false (by omega)]; simp
  · intro j _ hj; exact hrep j true hj
  · intro k o ho hl
    rw [hrep k false (List.getElem?_eq_some_iff.1 ho).1] at hl; cases hl
  · rw [count_tail (t := 0) (fun j hj => by omega) _ (Nat.zero_le _) fun j _ hj => hrep j true hj]
    simp
end
end Go.Sim
/- The types of chapter 33, as the walk's rules want them. -/
set_option linter.unusedVariables false
namespace Go.Proofs.YthlfacmpjehjmaaGreatDoor
open Go.Sim

inductive Ex where
  | mk (op n : Int) (name : List UInt8) (args : List Ex)
def Ex.op : Ex → Int | .mk a _ _ _ => a
def Ex.n : Ex → Int | .mk _ a _ _ => a
def Ex.name : Ex → List UInt8 | .mk _ _ a _ => a
def Ex.args : Ex → List Ex | .mk _ _ _ a => a
instance : Inhabited Ex := ⟨.mk 0 0 [] []⟩
structure Pt where
  name : List UInt8
  width : Int
  deriving DecidableEq, Inhabited
structure Wr where
  name : List UInt8
  width : Int
  expr : Ex
  deriving Inhabited
structure Rg where
  name : List UInt8
  width : Int
  init : Int
  next : Ex
  deriving Inhabited
structure Ds where
  name : List UInt8
  inputs : List Pt
  wires : List Wr
  regs : List Rg
  outputs : List (List UInt8)
  deriving Inhabited
structure Sg where
  name : List UInt8
  val : Int
  deriving DecidableEq, Inhabited
structure Rw where
  v : Bool
  ready : Bool
  t : Int
  a : Int
  b : Int
  deriving DecidableEq, Inhabited
structure Pl where
  kind : Int
  n : Int
  width : Int
  rows : List Rw
  deriving DecidableEq, Inhabited
structure Wv where
  names : List (List UInt8)
  rows : List (List Int)
  deriving DecidableEq, Inhabited
mutual
def eXc : Ex → List Rp
  | .mk op n nm args => [Rp.int .i64 op, Rp.int .i64 n, Rp.str nm, Rp.slice (fun r : List Rp => r) (eXl args)]
def eXl : List Ex → List (List Rp)
  | [] => []
  | a :: r => eXc a :: eXl r
end
def _root_.Go.Sim.Rp.exs (l : List Ex) : Rp := Rp.slice (fun r : List Rp => r) (eXl l)
def eX (e : Ex) : List Rp := [Rp.int .i64 e.op, Rp.int .i64 e.n, Rp.str e.name, Rp.exs e.args]
theorem eXc_eq (e : Ex) : eXc e = eX e := by cases e; simp only [eXc, eX, Rp.exs, Ex.op, Ex.n, Ex.name, Ex.args]
theorem eXl_eq : ∀ l : List Ex, eXl l = l.map eX
  | [] => by simp only [eXl, List.map_nil]
  | a :: r => by simp only [eXl, List.map_cons, eXc_eq, eXl_eq r]
theorem exs_eq (l : List Ex) : Rp.exs l = Rp.slice eX l := by unfold Rp.exs; rw [eXl_eq, slice_map]
def eUb (b : UInt8) : List Rp := [Rp.int .u8 (b.toNat : Int)]
def eP (p : Pt) : List Rp := [Rp.str p.name, Rp.int .i64 p.width]
def eWr (w : Wr) : List Rp := [Rp.str w.name, Rp.int .i64 w.width, Rp.int .i64 w.expr.op, Rp.int .i64 w.expr.n, Rp.str w.expr.name, Rp.exs w.expr.args]
def eRg (r : Rg) : List Rp := [Rp.str r.name, Rp.int .i64 r.width, Rp.int .i64 r.init, Rp.int .i64 r.next.op, Rp.int .i64 r.next.n, Rp.str r.next.name, Rp.exs r.next.args]
def eD (d : Ds) : List Rp := [Rp.str d.name, Rp.slice eP d.inputs, Rp.slice eWr d.wires, Rp.slice eRg d.regs, Rp.slice eS d.outputs]
def eSg (s : Sg) : List Rp := [Rp.str s.name, Rp.int .i64 s.val]
def eSS (l : List Sg) : List Rp := [Rp.slice eSg l]
def eRw (r : Rw) : List Rp := [Rp.bool r.v, Rp.bool r.ready, Rp.int .u8 r.t, Rp.int .u8 r.a, Rp.int .u8 r.b]
def ePl (p : Pl) : List Rp := [Rp.int .u8 p.kind, Rp.int .u8 p.n, Rp.int .u8 p.width, Rp.slice eRw p.rows]
def eII (l : List Int) : List Rp := [Rp.slice eI l]
def eWv (w : Wv) : List Rp := [Rp.slice eS w.names, Rp.slice eII w.rows]
def eI2 (p : Int × Int) : List Rp := [Rp.int .i64 p.1, Rp.int .i64 p.2]
theorem Ex.ind {p : Ex → Prop} (h : ∀ e, (∀ a ∈ e.args, p a) → p e) : ∀ e, p e
  | .mk op n nm args => h _ fun a ha => Ex.ind h a
termination_by e => SizeOf.sizeOf e
decreasing_by
  have := List.sizeOf_lt_of_mem ha
  simp only [Ex.args] at this
  simp only [Ex.mk.sizeOf_spec]; omega
theorem mixed : Tryz.prog.follows .mixedOrders = true := by kernel_rfl
theorem ti3 : TI Tryz.prog 3 1 8 (.int .i64 0) := ⟨⟨Tryz.t3, by kernel_rfl, by kernel_rfl, by kernel_rfl, by kernel_rfl⟩⟩
theorem z3 (w : World) (C : Nat → Prop) : AllR [Rp.int .i64 0] w C (Value.int .i64 0).cells.toList := allR_of rfl ⟨zint rfl w C, trivial⟩
theorem ti4 : TI Tryz.prog 4 1 1 (.bool false) := ⟨⟨Tryz.t4, by kernel_rfl, by kernel_rfl, by kernel_rfl, by kernel_rfl⟩⟩
theorem z4 (w : World) (C : Nat → Prop) : AllR [Rp.bool false] w C (Value.bool false).cells.toList := allR_of rfl ⟨zbool w C, trivial⟩
theorem ti9 : TI Tryz.prog 9 1 16 (.string ⟨#[]⟩) := ⟨⟨Tryz.t9, by kernel_rfl, by kernel_rfl, by kernel_rfl, by kernel_rfl⟩⟩
theorem z9 (w : World) (C : Nat → Prop) : AllR [Rp.str []] w C (Value.string ⟨#[]⟩).cells.toList := allR_of rfl ⟨zstr w C, trivial⟩
theorem ti27 : TI Tryz.prog 27 5 112 (.agg #[.string ⟨#[]⟩, .slice none 0 0, .slice none 0 0, .slice none 0 0, .slice none 0 0]) := ⟨⟨Tryz.t27, by kernel_rfl, by kernel_rfl, by kernel_rfl, by kernel_rfl⟩⟩
theorem z27 (w : World) (C : Nat → Prop) : AllR [Rp.str [], Rp.slice eP [], Rp.slice eWr [], Rp.slice eRg [], Rp.slice eS []] w C (Value.agg #[.string ⟨#[]⟩, .slice none 0 0, .slice none 0 0, .slice none 0 0, .slice none 0 0]).cells.toList := allR_of rfl ⟨zstr w C, zslice w C, zslice w C, zslice w C, zslice w C, trivial⟩
theorem z27v (w : World) (C : Nat → Prop) : AllR [Rp.str [], Rp.val (.slice none 0 0), Rp.val (.slice none 0 0), Rp.val (.slice none 0 0), Rp.val (.slice none 0 0)] w C (Value.agg #[.string ⟨#[]⟩, .slice none 0 0, .slice none 0 0, .slice none 0 0, .slice none 0 0]).cells.toList := allR_of rfl ⟨zstr w C, zval w C, zval w C, zval w C, zval w C, trivial⟩
theorem ti45 : TI Tryz.prog 45 2 48 (.agg #[.slice none 0 0, .slice none 0 0]) := ⟨⟨Tryz.t45, by kernel_rfl, by kernel_rfl, by kernel_rfl, by kernel_rfl⟩⟩
theorem z45 (w : World) (C : Nat → Prop) : AllR [Rp.slice eS [], Rp.slice eII []] w C (Value.agg #[.slice none 0 0, .slice none 0 0]).cells.toList := allR_of rfl ⟨zslice w C, zslice w C, trivial⟩
theorem z45v (w : World) (C : Nat → Prop) : AllR [Rp.val (.slice none 0 0), Rp.val (.slice none 0 0)] w C (Value.agg #[.slice none 0 0, .slice none 0 0]).cells.toList := allR_of rfl ⟨zval w C, zval w C, trivial⟩
theorem ti54 : TI Tryz.prog 54 2 16 (.agg #[.int .i64 0, .int .i64 0]) := ⟨⟨Tryz.t54, by kernel_rfl, by kernel_rfl, by kernel_rfl, by kernel_rfl⟩⟩
theorem z54 (w : World) (C : Nat → Prop) : AllR [Rp.int .i64 0, Rp.int .i64 0] w C (Value.agg #[.int .i64 0, .int .i64 0]).cells.toList := allR_of rfl ⟨zint rfl w C, zint rfl w C, trivial⟩
theorem ti56 : TI Tryz.prog 56 5 5 (.agg #[.bool false, .bool false, .int .u8 0, .int .u8 0, .int .u8 0]) := ⟨⟨Tryz.t56, by kernel_rfl, by kernel_rfl, by kernel_rfl, by kernel_rfl⟩⟩
theorem z56 (w : World) (C : Nat → Prop) : AllR [Rp.bool false, Rp.bool false, Rp.int .u8 0, Rp.int .u8 0, Rp.int .u8 0] w C (Value.agg #[.bool false, .bool false, .int .u8 0, .int .u8 0, .int .u8 0]).cells.toList := allR_of rfl ⟨zbool w C, zbool w C, zint rfl w C, zint rfl w C, zint rfl w C, trivial⟩
theorem ti66 : TI Tryz.prog 66 4 56 (.agg #[.int .i64 0, .int .i64 0, .string ⟨#[]⟩, .slice none 0 0]) := ⟨⟨Tryz.t66, by kernel_rfl, by kernel_rfl, by kernel_rfl, by kernel_rfl⟩⟩
theorem z66 (w : World) (C : Nat → Prop) : AllR [Rp.int .i64 0, Rp.int .i64 0, Rp.str [], Rp.exs []] w C (Value.agg #[.int .i64 0, .int .i64 0, .string ⟨#[]⟩, .slice none 0 0]).cells.toList := allR_of rfl ⟨zint rfl w C, zint rfl w C, zstr w C, zslice w C, trivial⟩
theorem z66v (w : World) (C : Nat → Prop) : AllR [Rp.int .i64 0, Rp.int .i64 0, Rp.str [], Rp.val (.slice none 0 0)] w C (Value.agg #[.int .i64 0, .int .i64 0, .string ⟨#[]⟩, .slice none 0 0]).cells.toList := allR_of rfl ⟨zint rfl w C, zint rfl w C, zstr w C, zval w C, trivial⟩
theorem ti77 : TI Tryz.prog 77 6 80 (.agg #[.string ⟨#[]⟩, .int .i64 0, .int .i64 0, .int .i64 0, .string ⟨#[]⟩, .slice none 0 0]) := ⟨⟨Tryz.t77, by kernel_rfl, by kernel_rfl, by kernel_rfl, by kernel_rfl⟩⟩
theorem z77 (w : World) (C : Nat → Prop) : AllR [Rp.str [], Rp.int .i64 0, Rp.int .i64 0, Rp.int .i64 0, Rp.str [], Rp.exs []] w C (Value.agg #[.string ⟨#[]⟩, .int .i64 0, .int .i64 0, .int .i64 0, .string ⟨#[]⟩, .slice none 0 0]).cells.toList := allR_of rfl ⟨zstr w C, zint rfl w C, zint rfl w C, zint rfl w C, zstr w C, zslice w C, trivial⟩
theorem z77v (w : World) (C : Nat → Prop) : AllR [Rp.str [], Rp.int .i64 0, Rp.int .i64 0, Rp.int .i64 0, Rp.str [], Rp.val (.slice none 0 0)] w C (Value.agg #[.string ⟨#[]⟩, .int .i64 0, .int .i64 0, .int .i64 0, .string ⟨#[]⟩, .slice none 0 0]).cells.toList := allR_of rfl ⟨zstr w C, zint rfl w C, zint rfl w C, zint rfl w C, zstr w C, zval w C, trivial⟩
theorem ti81 : TI Tryz.prog 81 7 88 (.agg #[.string ⟨#[]⟩, .int .i64 0, .int .i64 0, .int .i64 0, .int .i64 0, .string ⟨#[]⟩, .slice none 0 0]) := ⟨⟨Tryz.t81, by kernel_rfl, by kernel_rfl, by kernel_rfl, by kernel_rfl⟩⟩
theorem z81 (w : World) (C : Nat → Prop) : AllR [Rp.str [], Rp.int .i64 0, Rp.int .i64 0, Rp.int .i64 0, Rp.int .i64 0, Rp.str [], Rp.exs []] w C (Value.agg #[.string ⟨#[]⟩, .int .i64 0, .int .i64 0, .int .i64 0, .int .i64 0, .string ⟨#[]⟩, .slice none 0 0]).cells.toList := allR_of rfl ⟨zstr w C, zint rfl w C, zint rfl w C, zint rfl w C, zint rfl w C, zstr w C, zslice w C, trivial⟩
theorem z81v (w : World) (C : Nat → Prop) : AllR [Rp.str [], Rp.int .i64 0, Rp.int .i64 0, Rp.int .i64 0, Rp.int .i64 0, Rp.str [], Rp.val (.slice none 0 0)] w C (Value.agg #[.string ⟨#[]⟩, .int .i64 0, .int .i64 0, .int .i64 0, .int .i64 0, .string ⟨#[]⟩, .slice none 0 0]).cells.toList := allR_of rfl ⟨zstr w C, zint rfl w C, zint rfl w C, zint rfl w C, zint rfl w C, zstr w C, zval w C, trivial⟩
theorem ti84 : TI Tryz.prog 84 2 24 (.agg #[.string ⟨#[]⟩, .int .i64 0]) := ⟨⟨Tryz.t84, by kernel_rfl, by kernel_rfl, by kernel_rfl, by kernel_rfl⟩⟩
theorem z84 (w : World) (C : Nat → Prop) : AllR [Rp.str [], Rp.int .i64 0] w C (Value.agg #[.string ⟨#[]⟩, .int .i64 0]).cells.toList := allR_of rfl ⟨zstr w C, zint rfl w C, trivial⟩
theorem ti92 : TI Tryz.prog 92 1 24 (.slice none 0 0) := ⟨⟨Tryz.t92, by kernel_rfl, by kernel_rfl, by kernel_rfl, by kernel_rfl⟩⟩
theorem z92 (w : World) (C : Nat → Prop) : AllR [Rp.slice eI []] w C (Value.slice none 0 0).cells.toList := allR_of rfl ⟨zslice w C, trivial⟩
theorem z92v (w : World) (C : Nat → Prop) : AllR [Rp.val (.slice none 0 0)] w C (Value.slice none 0 0).cells.toList := allR_of rfl ⟨zval w C, trivial⟩
theorem ti101 : TI Tryz.prog 101 2 24 (.agg #[.string ⟨#[]⟩, .int .i64 0]) := ⟨⟨Tryz.t101, by kernel_rfl, by kernel_rfl, by kernel_rfl, by kernel_rfl⟩⟩
theorem z101 (w : World) (C : Nat → Prop) : AllR [Rp.str [], Rp.int .i64 0] w C (Value.agg #[.string ⟨#[]⟩, .int .i64 0]).cells.toList := allR_of rfl ⟨zstr w C, zint rfl w C, trivial⟩
theorem ti102 : TI Tryz.prog 102 1 24 (.slice none 0 0) := ⟨⟨Tryz.t102, by kernel_rfl, by kernel_rfl, by kernel_rfl, by kernel_rfl⟩⟩
theorem z102 (w : World) (C : Nat → Prop) : AllR [Rp.slice eSg []] w C (Value.slice none 0 0).cells.toList := allR_of rfl ⟨zslice w C, trivial⟩
theorem z102v (w : World) (C : Nat → Prop) : AllR [Rp.val (.slice none 0 0)] w C (Value.slice none 0 0).cells.toList := allR_of rfl ⟨zval w C, trivial⟩
theorem ti107 : TI Tryz.prog 107 2 24 (.agg #[.string ⟨#[]⟩, .nilFunc]) := ⟨⟨Tryz.t107, by kernel_rfl, by kernel_rfl, by kernel_rfl, by kernel_rfl⟩⟩
theorem z107 (w : World) (C : Nat → Prop) : AllR [Rp.str [], Rp.val (.nilFunc)] w C (Value.agg #[.string ⟨#[]⟩, .nilFunc]).cells.toList := allR_of rfl ⟨zstr w C, zval w C, trivial⟩
theorem ti108 : TI Tryz.prog 108 10 120 (.agg #[.string ⟨#[]⟩, .nilFunc, .string ⟨#[]⟩, .nilFunc, .string ⟨#[]⟩, .nilFunc, .string ⟨#[]⟩, .nilFunc, .string ⟨#[]⟩, .nilFunc]) := ⟨⟨Tryz.t108, by kernel_rfl, by kernel_rfl, by kernel_rfl, by kernel_rfl⟩⟩
theorem z108 (w : World) (C : Nat → Prop) : AllR [Rp.str [], Rp.val (.nilFunc), Rp.str [], Rp.val (.nilFunc), Rp.str [], Rp.val (.nilFunc), Rp.str [], Rp.val (.nilFunc), Rp.str [], Rp.val (.nilFunc)] w C (Value.agg #[.string ⟨#[]⟩, .nilFunc, .string ⟨#[]⟩, .nilFunc, .string ⟨#[]⟩, .nilFunc, .string ⟨#[]⟩, .nilFunc, .string ⟨#[]⟩, .nilFunc]).cells.toList := allR_of rfl ⟨zstr w C, zval w C, zstr w C, zval w C, zstr w C, zval w C, zstr w C, zval w C, zstr w C, zval w C, trivial⟩
theorem ti111 : TI Tryz.prog 111 5 112 (.agg #[.string ⟨#[]⟩, .slice none 0 0, .slice none 0 0, .slice none 0 0, .slice none 0 0]) := ⟨⟨Tryz.t111, by kernel_rfl, by kernel_rfl, by kernel_rfl, by kernel_rfl⟩⟩
theorem z111 (w : World) (C : Nat → Prop) : AllR [Rp.str [], Rp.slice eP [], Rp.slice eWr [], Rp.slice eRg [], Rp.slice eS []] w C (Value.agg #[.string ⟨#[]⟩, .slice none 0 0, .slice none 0 0, .slice none 0 0, .slice none 0 0]).cells.toList := allR_of rfl ⟨zstr w C, zslice w C, zslice w C, zslice w C, zslice w C, trivial⟩
theorem z111v (w : World) (C : Nat → Prop) : AllR [Rp.str [], Rp.val (.slice none 0 0), Rp.val (.slice none 0 0), Rp.val (.slice none 0 0), Rp.val (.slice none 0 0)] w C (Value.agg #[.string ⟨#[]⟩, .slice none 0 0, .slice none 0 0, .slice none 0 0, .slice none 0 0]).cells.toList := allR_of rfl ⟨zstr w C, zval w C, zval w C, zval w C, zval w C, trivial⟩
theorem ti132 : TI Tryz.prog 132 5 72 (.agg #[.int .i64 0, .int .i64 0, .int .i64 0, .slice none 0 0, .slice none 0 0]) := ⟨⟨Tryz.t132, by kernel_rfl, by kernel_rfl, by kernel_rfl, by kernel_rfl⟩⟩
theorem z132 (w : World) (C : Nat → Prop) : AllR [Rp.int .i64 0, Rp.int .i64 0, Rp.int .i64 0, Rp.slice eS [], Rp.slice eS []] w C (Value.agg #[.int .i64 0, .int .i64 0, .int .i64 0, .slice none 0 0, .slice none 0 0]).cells.toList := allR_of rfl ⟨zint rfl w C, zint rfl w C, zint rfl w C, zslice w C, zslice w C, trivial⟩
theorem z132v (w : World) (C : Nat → Prop) : AllR [Rp.int .i64 0, Rp.int .i64 0, Rp.int .i64 0, Rp.val (.slice none 0 0), Rp.val (.slice none 0 0)] w C (Value.agg #[.int .i64 0, .int .i64 0, .int .i64 0, .slice none 0 0, .slice none 0 0]).cells.toList := allR_of rfl ⟨zint rfl w C, zint rfl w C, zint rfl w C, zval w C, zval w C, trivial⟩
theorem ti139 : TI Tryz.prog 139 2 16 (.agg #[.int .i64 0, .int .i64 0]) := ⟨⟨Tryz.t139, by kernel_rfl, by kernel_rfl, by kernel_rfl, by kernel_rfl⟩⟩
theorem z139 (w : World) (C : Nat → Prop) : AllR [Rp.int .i64 0, Rp.int .i64 0] w C (Value.agg #[.int .i64 0, .int .i64 0]).cells.toList := allR_of rfl ⟨zint rfl w C, zint rfl w C, trivial⟩
theorem pl27 (w : World) : (#[({ name := "Name", type := 9, offset := 0, embedded := false, tag := "", pkgPath := "", byteOffset := 0 } : Field), { name := "Inputs", type := 22, offset := 1, embedded := false, tag := "", pkgPath := "", byteOffset := 16 }, { name := "Wires", type := 23, offset := 2, embedded := false, tag := "", pkgPath := "", byteOffset := 40 }, { name := "Regs", type := 24, offset := 3, embedded := false, tag := "", pkgPath := "", byteOffset := 64 }, { name := "Outputs", type := 25, offset := 4, embedded := false, tag := "", pkgPath := "", byteOffset := 88 }].mapM fun f => (do pure (f.offset, ← sizeOf f.type) : Sem (Nat × Nat))).run Tryz.prog w = .ok #[(0, 1), (1, 1), (2, 1), (3, 1), (4, 1)] w := by
  simp [Tryz.sizeOf22, Tryz.sizeOf23, Tryz.sizeOf24, Tryz.sizeOf25, Tryz.sizeOf9]
theorem pl45 (w : World) : (#[({ name := "Names", type := 25, offset := 0, embedded := false, tag := "", pkgPath := "", byteOffset := 0 } : Field), { name := "Rows", type := 43, offset := 1, embedded := false, tag := "", pkgPath := "", byteOffset := 24 }].mapM fun f => (do pure (f.offset, ← sizeOf f.type) : Sem (Nat × Nat))).run Tryz.prog w = .ok #[(0, 1), (1, 1)] w := by
  simp [Tryz.sizeOf25, Tryz.sizeOf43]
theorem pl56 (w : World) : (#[({ name := "V", type := 4, offset := 0, embedded := false, tag := "", pkgPath := "", byteOffset := 0 } : Field), { name := "Ready", type := 4, offset := 1, embedded := false, tag := "", pkgPath := "", byteOffset := 1 }, { name := "T", type := 5, offset := 2, embedded := false, tag := "", pkgPath := "", byteOffset := 2 }, { name := "A", type := 5, offset := 3, embedded := false, tag := "", pkgPath := "", byteOffset := 3 }, { name := "B", type := 5, offset := 4, embedded := false, tag := "", pkgPath := "", byteOffset := 4 }].mapM fun f => (do pure (f.offset, ← sizeOf f.type) : Sem (Nat × Nat))).run Tryz.prog w = .ok #[(0, 1), (1, 1), (2, 1), (3, 1), (4, 1)] w := by
  simp [Tryz.sizeOf4, Tryz.sizeOf5]
theorem pl66 (w : World) : (#[({ name := "Op", type := 3, offset := 0, embedded := false, tag := "", pkgPath := "", byteOffset := 0 } : Field), { name := "N", type := 3, offset := 1, embedded := false, tag := "", pkgPath := "", byteOffset := 8 }, { name := "Name", type := 9, offset := 2, embedded := false, tag := "", pkgPath := "", byteOffset := 16 }, { name := "Args", type := 64, offset := 3, embedded := false, tag := "", pkgPath := "", byteOffset := 32 }].mapM fun f => (do pure (f.offset, ← sizeOf f.type) : Sem (Nat × Nat))).run Tryz.prog w = .ok #[(0, 1), (1, 1), (2, 1), (3, 1)] w := by
  simp [Tryz.sizeOf3, Tryz.sizeOf64, Tryz.sizeOf9]
theorem pl77 (w : World) : (#[({ name := "Name", type := 9, offset := 0, embedded := false, tag := "", pkgPath := "", byteOffset := 0 } : Field), { name := "Width", type := 3, offset := 1, embedded := false, tag := "", pkgPath := "", byteOffset := 16 }, { name := "Expr", type := 66, offset := 2, embedded := false, tag := "", pkgPath := "", byteOffset := 24 }].mapM fun f => (do pure (f.offset, ← sizeOf f.type) : Sem (Nat × Nat))).run Tryz.prog w = .ok #[(0, 1), (1, 1), (2, 4)] w := by
  simp [Tryz.sizeOf3, Tryz.sizeOf66, Tryz.sizeOf9]
theorem pl81 (w : World) : (#[({ name := "Name", type := 9, offset := 0, embedded := false, tag := "", pkgPath := "", byteOffset := 0 } : Field), { name := "Width", type := 3, offset := 1, embedded := false, tag := "", pkgPath := "", byteOffset := 16 }, { name := "Init", type := 3, offset := 2, embedded := false, tag := "", pkgPath := "", byteOffset := 24 }, { name := "Next", type := 66, offset := 3, embedded := false, tag := "", pkgPath := "", byteOffset := 32 }].mapM fun f => (do pure (f.offset, ← sizeOf f.type) : Sem (Nat × Nat))).run Tryz.prog w = .ok #[(0, 1), (1, 1), (2, 1), (3, 4)] w := by
  simp [Tryz.sizeOf3, Tryz.sizeOf66, Tryz.sizeOf9]
theorem pl84 (w : World) : (#[({ name := "Name", type := 9, offset := 0, embedded := false, tag := "", pkgPath := "", byteOffset := 0 } : Field), { name := "Width", type := 3, offset := 1, embedded := false, tag := "", pkgPath := "", byteOffset := 16 }].mapM fun f => (do pure (f.offset, ← sizeOf f.type) : Sem (Nat × Nat))).run Tryz.prog w = .ok #[(0, 1), (1, 1)] w := by
  simp [Tryz.sizeOf3, Tryz.sizeOf9]
theorem pl101 (w : World) : (#[({ name := "Name", type := 9, offset := 0, embedded := false, tag := "", pkgPath := "", byteOffset := 0 } : Field), { name := "Value", type := 3, offset := 1, embedded := false, tag := "", pkgPath := "", byteOffset := 16 }].mapM fun f => (do pure (f.offset, ← sizeOf f.type) : Sem (Nat × Nat))).run Tryz.prog w = .ok #[(0, 1), (1, 1)] w := by
  simp [Tryz.sizeOf3, Tryz.sizeOf9]
theorem pl107 (w : World) : (#[({ name := "name", type := 9, offset := 0, embedded := false, tag := "", pkgPath := "testbench/library", byteOffset := 0 } : Field), { name := "get", type := 74, offset := 1, embedded := false, tag := "", pkgPath := "testbench/library", byteOffset := 16 }].mapM fun f => (do pure (f.offset, ← sizeOf f.type) : Sem (Nat × Nat))).run Tryz.prog w = .ok #[(0, 1), (1, 1)] w := by
  simp [Tryz.sizeOf74, Tryz.sizeOf9]
theorem pl111 (w : World) : (#[({ name := "Design", type := 27, offset := 0, embedded := true, tag := "", pkgPath := "", byteOffset := 0 } : Field)].mapM fun f => (do pure (f.offset, ← sizeOf f.type) : Sem (Nat × Nat))).run Tryz.prog w = .ok #[(0, 5)] w := by
  simp [Tryz.sizeOf27]
theorem pl132 (w : World) : (#[({ name := "Nodes", type := 3, offset := 0, embedded := false, tag := "", pkgPath := "", byteOffset := 0 } : Field), { name := "Deepest", type := 3, offset := 1, embedded := false, tag := "", pkgPath := "", byteOffset := 8 }, { name := "First", type := 28, offset := 2, embedded := false, tag := "", pkgPath := "", byteOffset := 16 }, { name := "Vars", type := 25, offset := 3, embedded := false, tag := "", pkgPath := "", byteOffset := 24 }, { name := "Arrays", type := 25, offset := 4, embedded := false, tag := "", pkgPath := "", byteOffset := 48 }].mapM fun f => (do pure (f.offset, ← sizeOf f.type) : Sem (Nat × Nat))).run Tryz.prog w = .ok #[(0, 1), (1, 1), (2, 1), (3, 1), (4, 1)] w := by
  simp [Tryz.sizeOf25, Tryz.sizeOf28, Tryz.sizeOf3]
theorem pl139 (w : World) : (#[({ name := "start", type := 3, offset := 0, embedded := false, tag := "", pkgPath := "strings", byteOffset := 0 } : Field), { name := "end", type := 3, offset := 1, embedded := false, tag := "", pkgPath := "strings", byteOffset := 8 }].mapM fun f => (do pure (f.offset, ← sizeOf f.type) : Sem (Nat × Nat))).run Tryz.prog w = .ok #[(0, 1), (1, 1)] w := by
  simp [Tryz.sizeOf3]
instance {l : List Ex} : One (Rp.exs l) := inferInstanceAs (One (Rp.slice (fun r : List Rp => r) (eXl l)))
end Go.Proofs.YthlfacmpjehjmaaGreatDoor
/- Words, operators: as data. -/
set_option linter.unusedSimpArgs false
set_option linter.unusedVariables false
namespace Go.Proofs.YthlfacmpjehjmaaGreatDoor
open Go.Sim
def wrapE (n : Int) : Int := n % 65536
theorem wrap_lo (n : Int) : 0 ≤ wrapE n := Int.emod_nonneg _ (by decide)
theorem wrap_hi (n : Int) : wrapE n < 65536 := Int.emod_lt_of_pos _ (by decide)
theorem wrap_id {n : Int} (h0 : 0 ≤ n) (h1 : n < 65536) : wrapE n = n := Int.emod_eq_of_lt h0 h1
theorem tmod_wrap (n : Int) : wrapE n = if n.tmod 65536 < 0 then n.tmod 65536 + 65535 + 1 else n.tmod 65536 := by
  unfold wrapE
  have h1 := Int.tmod_def n 65536
  have h2 := Int.emod_def n 65536
  by_cases h : 0 ≤ n
  · rw [Int.tmod_eq_emod_of_nonneg h]
    have := Int.emod_nonneg n (show (65536 : Int) ≠ 0 by decide)
    rw [if_neg (by omega)]
  · have e : n.tmod 65536 = -((-n) % 65536) := by
      rw [← Int.tmod_eq_emod_of_nonneg (show 0 ≤ -n by omega), Int.neg_tmod, Int.neg_neg]
    rw [e]
    omega
theorem tmod_bd (n : Int) : -65536 ≤ n.tmod 65536 ∧ n.tmod 65536 < 65536 := by
  have h := tmod_wrap n; have h1 := wrap_lo n; have h2 := wrap_hi n
  revert h h1 h2
  generalize n.tmod 65536 = t
  generalize wrapE n = w
  intro h h1 h2
  split at h <;> omega
def powE (n : Int) : Int := 2 ^ n.toNat
def maskE (w : Int) : Int := if w < 0 ∨ 16 < w then 0 else powE w - 1
def cutE (n w : Int) : Int := wrapE n % (maskE w + 1)
def truthE (b : Bool) : Int := if b then 1 else 0
def addE (a b : Int) : Int := wrapE (wrapE a + wrapE b)
def subE (a b : Int) : Int := wrapE (wrapE a - wrapE b)
theorem pow_le {w : Int} (h : w ≤ 16) : 1 ≤ powE w ∧ powE w ≤ 65536 := by
  unfold powE
  obtain ⟨k, hk⟩ : ∃ k : Nat, w.toNat = k ∧ k ≤ 16 := ⟨w.toNat, rfl, by omega⟩
  rw [hk.1]
  have h2 := hk.2
  have : ∀ k : Nat, k ≤ 16 → (1 : Int) ≤ 2 ^ k ∧ (2 : Int) ^ k ≤ 65536 := by decide
  exact this k h2
theorem mask_le (w : Int) : 0 ≤ maskE w ∧ maskE w ≤ 65535 := by
  unfold maskE
  split
  · omega
  · have := pow_le (w := w) (by omega); omega
theorem pow_next (i : Nat) : (2 : Int) * powE i = powE ((i : Int) + 1) := by
  unfold powE
  rw [show ((i : Int) + 1).toNat = i + 1 by omega, show ((i : Nat) : Int).toNat = i by omega, Int.pow_succ]; omega
/-- The operators of the library, of one and of two operands. -/
def binE (op a b : Int) : Int :=
  if op = 7 then addE a b else if op = 8 then subE a b else if op = 15 then truthE (decide (a = b)) else if op = 16 then truthE (!decide (a = b)) else if op = 17 then truthE (decide (a < b)) else if op = 19 then truthE (!decide (a = 0) && !decide (b = 0)) else truthE (!decide (a = 0) || !decide (b = 0))
def BinOp (op : Int) : Prop := op = 7 ∨ op = 8 ∨ op = 15 ∨ op = 16 ∨ op = 17 ∨ op = 19 ∨ op = 20
def operE (op : Int) (l : List Int) : Int :=
  if op = 22 then (if l.getD 0 0 ≠ 0 then l.getD 1 0 else l.getD 2 0)
  else if op = 4 then truthE (decide (l.getD 0 0 = 0)) else binE op (l.getD 0 0) (l.getD 1 0)
def OpOk (op : Int) (n : Nat) : Prop := (op = 22 ∧ n = 3) ∨ (op = 4 ∧ n = 1) ∨ (BinOp op ∧ n = 2)
end Go.Proofs.YthlfacmpjehjmaaGreatDoor
/- Values of expressions, as data. -/
set_option linter.unusedSimpArgs false
set_option linter.unusedVariables false
namespace Go.Proofs.YthlfacmpjehjmaaGreatDoor
open Go.Sim
def findS (env : List Sg) (s : List UInt8) : Int × Bool := if 0 ≤ idxI (fun x : Sg => x.name == s) env then (wrapE (env.getD (idxI (fun x : Sg => x.name == s) env).toNat default).val, true) else (0, false)
theorem findS_yes {env : List Sg} {s : List UInt8} {i : Nat} (hi : i < env.length) (h : (env.getD i default).name = s) (hn : ∀ j, j < i → (env.getD j default).name ≠ s) : findS env s = (wrapE (env.getD i default).val, true) := by
  have := idx_yes (p := fun c : Sg => c.name == s) hi (by simpa using h) (fun j hj => by simpa using hn j hj)
  unfold findS
  rw [this, if_pos (by omega)]; simp
theorem findS_no {env : List Sg} {s : List UInt8} (hn : ∀ j, j < env.length → (env.getD j default).name ≠ s) : findS env s = (0, false) := by
  have := idx_no (p := fun c : Sg => c.name == s) (l := env) fun j hj => by simpa using hn j hj
  unfold findS
  rw [this, if_neg (by omega)]
mutual
def valX (env : List Sg) : Ex → Int
  | .mk op n nm args => if op = 1 then n else if op = 2 then (findS env nm).1 else operE op (valL env args)
def valL (env : List Sg) : List Ex → List Int
  | [] => []
  | a :: r => valX env a :: valL env r
end
theorem valL_map (env : List Sg) : ∀ l, valL env l = l.map (valX env)
  | [] => by simp only [valL, List.map_nil]
  | a :: r => by simp only [valL, List.map_cons, valL_map env r]
theorem valX_eq (env : List Sg) (e : Ex) : valX env e = if e.op = 1 then e.n else if e.op = 2 then (findS env e.name).1 else operE e.op (e.args.map (valX env)) := by
  cases e; simp only [valX, valL_map]; rfl
/-- An expression of the library's operators, whose names are all right. -/
inductive GX (ok : List UInt8 → Prop) : Ex → Prop
  | mk (e : Ex) (h : (e.op = 1 ∧ e.args = []) ∨ (e.op = 2 ∧ e.args = [] ∧ ok e.name) ∨ OpOk e.op e.args.length) (hs : ∀ a ∈ e.args, GX ok a) : GX ok e
def asksE (op : Int) : Bool := decide (op = 1) || (decide (op = 2) || decide (op = 3) || decide (op = 24))
theorem asks_no {op : Int} {n : Nat} (h : OpOk op n) : asksE op = false := by
  unfold asksE OpOk BinOp at *
  simp only [Bool.or_eq_false_iff, decide_eq_false_iff_not]; omega
theorem ex_fact {e : Ex} (w : World) (C : Nat → Prop) (v : Value) (h : (Rp.agg (eX e)).p w C v) : e.args.length ≤ 9223372036854775807 :=
  agg_fact (fun w C vs h => by
    match vs, h with
    | [a, b, c, d], ⟨_, _, _, h4, _⟩ => rw [exs_eq] at h4; exact h4.1) w C v h
theorem map_getD' {α β : Type} [Inhabited α] [Inhabited β] (f : α → β) {l : List α} {i : Nat} (h : i < l.length) : (l.map f).getD i default = f (l.getD i default) := by
  rw [List.getD, List.getD, List.getElem?_map, List.getElem?_eq_getElem h]; rfl
theorem gx_len {e : Ex} {p : Prop} (h : (e.op = 1 ∧ e.args = []) ∨ (e.op = 2 ∧ e.args = [] ∧ p) ∨ OpOk e.op e.args.length) : e.args.length ≤ 3 := by
  rcases h with h | h | h
  · rw [h.2]; simp
  · rw [h.2.1]; simp
  · unfold OpOk at h; omega
end Go.Proofs.YthlfacmpjehjmaaGreatDoor
/- Expressions whose nodes are right, as data. -/
set_option linter.unusedSimpArgs false
set_option linter.unusedVariables false
namespace Go.Proofs.YthlfacmpjehjmaaGreatDoor
open Go.Sim
def NodeOk (e : Ex) : Prop := (e.op = 1 ∧ e.args = [] ∧ 0 ≤ e.n ∧ e.n ≤ 65535 ∧ e.name = []) ∨ (e.op = 2 ∧ e.args = [] ∧ e.n = 0 ∧ nameB e.name = true) ∨ (OpOk e.op e.args.length ∧ e.n = 0 ∧ e.name = [])
def ArOk (op : Int) (n : Nat) : Prop := ((op = 1 ∨ op = 2) ∧ n = 0) ∨ OpOk op n
theorem node_ar {e : Ex} (h : NodeOk e) : ArOk e.op e.args.length := by
  rcases h with h | h | h
  · exact .inl ⟨.inl h.1, by rw [h.2.1]; rfl⟩
  · exact .inl ⟨.inr h.1, by rw [h.2.1]; rfl⟩
  · exact .inr h.1
/-- A name ends in a letter or a digit. -/
theorem name_end {s : List UInt8} (h : nameB s = true) (hl : 4 ≤ s.length) : ch s (((s.length : Nat) : Int) - 1).toNat ≠ 93 := by
  intro e
  rw [show (((s.length : Nat) : Int) - 1).toNat = s.length - 1 by omega] at e
  refine name_inner h (i := s.length - 1) (by omega) ?_
  rw [e]; decide
theorem node_nm {e : Ex} (h : NodeOk e) (h2 : e.op = 2) : nameB e.name = true := by
  rcases h with h | h | h
  · omega
  · exact h.2.2.2
  · have := h.1; unfold OpOk BinOp at this; omega
theorem node_t1 {e : Ex} (h : NodeOk e) : (((((decide (e.op < 1) || decide (25 < e.op)) || decide (e.n < 0)) || decide (65535 < e.n)) || (!decide (e.n = 0) && !decide (e.op = 1))) || (!(e.name == []) && !(decide (e.op = 2) || decide (e.op = 3) || decide (e.op = 24)))) = false := by
  rcases h with ⟨a, b, c, d, f⟩ | ⟨a, b, c, f⟩ | ⟨a, c, f⟩
  · rw [a, f]; simp; try omega
  · rw [a, c]; simp
  · rw [c, f]; unfold OpOk BinOp at a; simp; try omega
end Go.Proofs.YthlfacmpjehjmaaGreatDoor
/- The walk over an expression, as data. -/
set_option linter.unusedSimpArgs false
set_option linter.unusedVariables false
namespace Go.Proofs.YthlfacmpjehjmaaGreatDoor
open Go.Sim
structure Wk where
  n : Int
  d : Int
  vs : List (List UInt8)
def stepW (e : Ex) (d : Int) (s : Wk) : Wk := ⟨IntKind.i64.wrap (s.n + 1), if s.d < d then d else s.d, if e.op = 2 ∧ (s.vs.any fun x => e.name == x) = false then s.vs ++ [e.name] else s.vs⟩
mutual
def seeX : Ex → Int → Wk → Wk
  | .mk op n nm args, d, s => seeL args (IntKind.i64.wrap (d + 1)) (stepW (.mk op n nm args) d s)
def seeL : List Ex → Int → Wk → Wk
  | [], _, s => s
  | a :: r, d, s => seeL r d (seeX a d s)
end
theorem seeL_fold : ∀ (l : List Ex) (d : Int) (s : Wk), seeL l d s = l.foldl (fun s a => seeX a d s) s
  | [], d, s => by simp only [seeL, List.foldl_nil]
  | a :: r, d, s => by simp only [seeL, List.foldl_cons, seeL_fold r]
theorem seeX_eq (e : Ex) (d : Int) (s : Wk) : seeX e d s = e.args.foldl (fun s a => seeX a (IntKind.i64.wrap (d + 1)) s) (stepW e d s) := by
  cases e; rw [seeX, seeL_fold]; rfl
mutual
def szX : Ex → Nat
  | .mk _ _ _ args => 1 + szL args
def szL : List Ex → Nat
  | [] => 0
  | a :: r => szX a + szL r
end
theorem szX_eq (e : Ex) : szX e = 1 + szL e.args := by cases e; rw [szX]; rfl
theorem szL_take : ∀ (l : List Ex) (i : Nat), i < l.length → szL (l.take i) + szX (l.getD i default) ≤ szL l
  | [], i, h => absurd h (Nat.not_lt_zero _)
  | a :: r, 0, _ => by simp [szL]
  | a :: r, i + 1, h => by
    have := szL_take r i (by simpa using h)
    simp only [List.take_succ_cons, szL, List.getD_cons_succ]; omega
theorem step_len (e : Ex) (d : Int) (s : Wk) : (stepW e d s).vs.length ≤ s.vs.length + 1 := by
  unfold stepW; dsimp only; split <;> simp
theorem fold_len {d : Int} : ∀ (l : List Ex) (s : Wk), (∀ a ∈ l, ∀ s : Wk, (seeX a d s).vs.length ≤ s.vs.length + szX a) → (l.foldl (fun s a => seeX a d s) s).vs.length ≤ s.vs.length + szL l
  | [], s, _ => by simp [szL]
  | a :: r, s, h => by
    have h1 := h a List.mem_cons_self s
    have h2 := fold_len r (seeX a d s) fun x hx => h x (List.mem_cons_of_mem _ hx)
    rw [List.foldl_cons, szL]; omega
theorem see_len : ∀ (e : Ex) (d : Int) (s : Wk), (seeX e d s).vs.length ≤ s.vs.length + szX e := by
  refine Ex.ind fun e ih d s => ?_
  rw [seeX_eq, szX_eq]
  have h1 := fold_len e.args (stepW e d s) fun a ha s => ih a ha (IntKind.i64.wrap (d + 1)) s
  have h2 := step_len e d s
  omega
/-- Every node is right. -/
inductive GN : Ex → Prop
  | mk (e : Ex) (h : NodeOk e) (hs : ∀ a ∈ e.args, GN a) : GN e
def walkR (s : Wk) (va : Value) : List Rp := [Rp.int .i64 s.n, Rp.int .i64 s.d, Rp.int .i64 0, Rp.val va, Rp.slice eS []]
def seeA (r : Nat) (s : Wk) : RA := ⟨Value, fun _ => Rp.tuple [], fun va => [MF.box r 132 (walkR s va), MF.osl va 9 1 eS s.vs]⟩
def SeeT (e : Ex) (r : Nat) (va : Value) (d : Int) (s : Wk) : Prop := CallT Tryz.prog 116 [Rp.ptr r 0, Rp.agg (eX e), Rp.int .i64 d] [MF.box r 132 (walkR s va), MF.osl va 9 1 eS s.vs] (seeA r (seeX e d s))
theorem node_len {e : Ex} (h : NodeOk e) : e.args.length ≤ 3 := by
  have := node_ar h
  unfold ArOk OpOk at this; omega
theorem node_arr {e : Ex} (h : NodeOk e) : e.op ≠ 3 ∧ e.op ≠ 24 := by
  have := node_ar h
  unfold ArOk OpOk BinOp at this; omega
def seeE (e : Ex) : Wk := seeX e 1 ⟨0, 0, []⟩
def walkP (s : Wk) : List Rp := [Rp.int .i64 s.n, Rp.int .i64 s.d, Rp.int .i64 0, Rp.slice eS s.vs, Rp.slice eS []]
/-- A valid expression of the library. -/
structure XOk (e : Ex) : Prop where
  g : GN e
  sz : szX e ≤ 1000000
  d : (seeE e).d ≤ 24
  n : (seeE e).n ≤ 400
end Go.Proofs.YthlfacmpjehjmaaGreatDoor
/- Designs as data: names, widths, expressions. -/
set_option linter.unusedSimpArgs false
set_option linter.unusedVariables false
namespace Go.Proofs.YthlfacmpjehjmaaGreatDoor
open Go.Sim
def Sm (d : Ds) : Prop := d.inputs.length ≤ 1000 ∧ d.wires.length ≤ 1000 ∧ d.regs.length ≤ 1000 ∧ d.outputs.length ≤ 1000
def namesD (d : Ds) : List (List UInt8) := d.inputs.map Pt.name ++ d.wires.map Wr.name ++ d.regs.map Rg.name
def widthsD (d : Ds) : List Int := d.inputs.map Pt.width ++ d.wires.map Wr.width ++ d.regs.map Rg.width
def exprsD (d : Ds) : List Ex := d.wires.map Wr.expr ++ d.regs.map Rg.next
def indexE (l : List (List UInt8)) (s : List UInt8) : Int := idxI (fun x => x == s) l
def wireE (d : Ds) (s : List UInt8) : Int := idxI (fun w : Wr => w.name == s) d.wires
theorem map_next {α β : Type} [Inhabited α] (f : α → β) {l : List α} {i : Nat} (h : i < l.length) (p : List β) : p ++ (l.take (i + 1)).map f = (p ++ (l.take i).map f) ++ [f (l.getD i default)] := by
  rw [take_succ h, List.map_append]; simp
end Go.Proofs.YthlfacmpjehjmaaGreatDoor
/- Designs that are right, as data. -/
set_option linter.unusedSimpArgs false
set_option linter.unusedVariables false
namespace Go.Proofs.YthlfacmpjehjmaaGreatDoor
open Go.Sim
structure DsOk (d : Ds) : Prop where
  n : d.inputs.length + d.wires.length + d.regs.length ≤ 48
  o : d.outputs.length ≤ 1000
  nm : nameB d.name = true
  nms : ∀ i, i < (namesD d).length → nameB ((namesD d).getD i default) = true
  ix : ∀ i, i < (namesD d).length → indexE (namesD d) ((namesD d).getD i default) = i
  wd : ∀ i, i < (widthsD d).length → 1 ≤ (widthsD d).getD i default ∧ (widthsD d).getD i default ≤ 16
  ini : ∀ i, i < d.regs.length → (d.regs.getD i default).init = 0 ∧ 1 ≤ (d.regs.getD i default).width ∧ (d.regs.getD i default).width ≤ 16
  xs : ∀ i, i < (exprsD d).length → XOk ((exprsD d).getD i default)
  vs : ∀ i, i < (exprsD d).length → ∀ j, j < (seeE ((exprsD d).getD i default)).vs.length → 0 ≤ indexE (namesD d) ((seeE ((exprsD d).getD i default)).vs.getD j default)
  out1 : ∀ i, i < d.outputs.length → 0 ≤ indexE ((namesD d).drop d.inputs.length) (d.outputs.getD i default)
  out2 : ∀ i, i < d.outputs.length → indexE d.outputs (d.outputs.getD i default) = i
theorem DsOk.sm {d : Ds} (h : DsOk d) : Sm d := ⟨by have := h.n; omega, by have := h.n; omega, by have := h.n; omega, h.o⟩
theorem names_len (d : Ds) : (namesD d).length = d.inputs.length + d.wires.length + d.regs.length := by unfold namesD; simp; omega
theorem widths_len (d : Ds) : (widthsD d).length = d.inputs.length + d.wires.length + d.regs.length := by unfold widthsD; simp; omega
theorem exprs_len (d : Ds) : (exprsD d).length = d.wires.length + d.regs.length := by unfold exprsD; simp
theorem u64_wrap {n : Int} (h0 : 0 ≤ n) (h1 : n ≤ 100) : IntKind.u64.wrap n = n := by
  unfold IntKind.wrap
  simp [IntKind.signed, IntKind.bits]
  omega
theorem shl_pos {w : Int} (h0 : 1 ≤ w) (h1 : w ≤ 16) : 0 < IntKind.i64.wrap (1 * 2 ^ min (IntKind.u64.wrap w).toNat IntKind.i64.bits) := by
  rw [u64_wrap (by omega) (by omega)]
  obtain ⟨k, hk, hk2⟩ : ∃ k : Nat, w.toNat = k ∧ k ≤ 16 := ⟨w.toNat, rfl, by omega⟩
  rw [hk]
  have : ∀ k : Nat, k ≤ 16 → 0 < IntKind.i64.wrap (1 * 2 ^ min k IntKind.i64.bits) := by decide
  exact this k hk2
/-- A wire that a wire waits for. -/
def waitE (d : Ds) (done : List Bool) (s : List UInt8) : Bool := decide (0 ≤ wireE d s) && !(done.getD (wireE d s).toNat default)
def readyE (d : Ds) (i : Nat) (done : List Bool) : Bool := !((seeE (d.wires.getD i default).expr).vs.any (waitE d done))
theorem wire_lt (d : Ds) (s : List UInt8) : wireE d s < d.wires.length := by
  unfold wireE
  rcases idx_cases (fun w : Wr => w.name == s) d.wires with ⟨i, h1, _, _, h4⟩ | ⟨_, h4⟩
  · rw [h4]; omega
  · rw [h4]; omega
theorem wire_x {d : Ds} (h : DsOk d) {i : Nat} (hi : i < d.wires.length) : XOk (d.wires.getD i default).expr := by
  have hl := exprs_len d
  have := h.xs i (by omega)
  have e : (exprsD d).getD i default = (d.wires.getD i default).expr := by
    unfold exprsD
    simp [List.getD, List.getElem?_append_left (show i < (d.wires.map Wr.expr).length by simpa using hi), List.getElem?_eq_getElem hi]
  rwa [e] at this
end Go.Proofs.YthlfacmpjehjmaaGreatDoor
/- The order of the wires, as data. -/
set_option linter.unusedSimpArgs false
set_option linter.unusedVariables false
namespace Go.Proofs.YthlfacmpjehjmaaGreatDoor
open Go.Sim
def candE (d : Ds) (done : List Bool) (i : Nat) : Bool := !(done.getD i default) && readyE d i done
def pickE (d : Ds) (done : List Bool) : Int := idxI (candE d done) (List.range d.wires.length)
def stepO (d : Ds) (x : List Bool × List Int) : List Bool × List Int := if 0 ≤ pickE d x.1 then (x.1.set (pickE d x.1).toNat true, x.2 ++ [pickE d x.1]) else x
def iterO (d : Ds) : Nat → List Bool × List Int
  | 0 => (List.replicate d.wires.length false, [])
  | n + 1 => stepO d (iterO d n)
def orderE (d : Ds) : List Int := (iterO d d.wires.length).2
theorem range_getD {n i : Nat} (h : i < n) : (List.range n).getD i default = i := by simp [List.getD, h]
theorem pick_yes {d : Ds} {done : List Bool} {i : Nat} (hi : i < d.wires.length) (h : candE d done i = true) (hn : ∀ j, j < i → candE d done j = false) : pickE d done = i := by
  unfold pickE
  exact idx_yes (by simpa using hi) (by rw [range_getD hi]; exact h) (fun j hj => by rw [range_getD (by omega)]; exact hn j hj)
theorem pick_no {d : Ds} {done : List Bool} (hn : ∀ j, j < d.wires.length → candE d done j = false) : pickE d done = -1 := by
  unfold pickE
  exact idx_no fun j hj => by
    have hj' : j < d.wires.length := by simpa using hj
    rw [range_getD hj']; exact hn j hj'
theorem iter_len (d : Ds) : ∀ n, (iterO d n).1.length = d.wires.length ∧ (iterO d n).2.length ≤ n
  | 0 => by simp [iterO]
  | n + 1 => by
    have h := iter_len d n
    rw [iterO, stepO]
    split
    · simp [h.1]; exact h.2
    · exact ⟨h.1, by have := h.2; omega⟩
/-- A valid design. -/
structure DsV (d : Ds) : Prop where
  ok : DsOk d
  ord : (orderE d).length = d.wires.length
end Go.Proofs.YthlfacmpjehjmaaGreatDoor
/- Cycles of a design, as data. -/
set_option linter.unusedSimpArgs false
set_option linter.unusedVariables false
namespace Go.Proofs.YthlfacmpjehjmaaGreatDoor
open Go.Sim
def resetE (d : Ds) : List Int := d.regs.map Rg.init
def StOk (d : Ds) (st : List Int) : Prop := st.length = d.regs.length ∧ ∀ i, i < st.length → 0 ≤ st.getD i default ∧ st.getD i default ≤ maskE (d.regs.getD i default).width
def atS (l : List Sg) (s : List UInt8) : Int := idxI (fun x : Sg => x.name == s) l
def inputE (p : Pt) (l : List Sg) : Int := if 0 ≤ atS l p.name then cutE (l.getD (atS l p.name).toNat default).val p.width else 0
def valueE (l : List Sg) (s : List UInt8) : Int := if 0 ≤ atS l s then (l.getD (atS l s).toNat default).val else 0
theorem at_yes {l : List Sg} {s : List UInt8} {i : Nat} (hi : i < l.length) (h : (l.getD i default).name = s) (hn : ∀ j, j < i → (l.getD j default).name ≠ s) : atS l s = i :=
  idx_yes (p := fun c : Sg => c.name == s) hi (by simpa using h) (fun j hj => by simpa using hn j hj)
theorem at_no {l : List Sg} {s : List UInt8} (hn : ∀ j, j < l.length → (l.getD j default).name ≠ s) : atS l s = -1 :=
  idx_no (p := fun c : Sg => c.name == s) (l := l) fun j hj => by simpa using hn j hj
end Go.Proofs.YthlfacmpjehjmaaGreatDoor
/- The signals of a cycle, as data. -/
set_option linter.unusedSimpArgs false
set_option linter.unusedVariables false
namespace Go.Proofs.YthlfacmpjehjmaaGreatDoor
open Go.Sim
def inS (d : Ds) (l : List Sg) : List Sg := d.inputs.map fun p => ⟨p.name, inputE p l⟩
def regS (d : Ds) (st : List Int) (n : Nat) : List Sg := (List.range n).map fun i => ⟨(d.regs.getD i default).name, st.getD i default⟩
def wireS (d : Ds) (out : List Sg) (k : Int) : List Sg := out ++ [⟨(d.wires.getD k.toNat default).name, cutE (valX out (d.wires.getD k.toNat default).expr) (d.wires.getD k.toNat default).width⟩]
def sigsE (d : Ds) (st : List Int) (l : List Sg) : List Sg := (orderE d).foldl (wireS d) (inS d l ++ regS d st d.regs.length)
def settleE (d : Ds) (st : List Int) (l : List Sg) : List Sg := (namesD d).map fun s => ⟨s, valueE (sigsE d st l) s⟩
def stepE (d : Ds) (st : List Int) (l : List Sg) : List Int := d.regs.map fun r => cutE (valX (settleE d st l) r.next) r.width
def rowE (d : Ds) (st : List Int) (l : List Sg) : List Int := (settleE d st l).map Sg.val
/-- The states and the rows of a run. -/
def runS (d : Ds) (st : List Int) : List (List Sg) → List (List Int)
  | [] => []
  | l :: r => rowE d st l :: runS d (stepE d st l) r
def runE (d : Ds) (rows : List (List Sg)) : Wv := ⟨namesD d, runS d (resetE d) rows⟩
end Go.Proofs.YthlfacmpjehjmaaGreatDoor
/- The values of a cycle by their names. -/
set_option linter.unusedSimpArgs false
set_option linter.unusedVariables false
namespace Go.Proofs.YthlfacmpjehjmaaGreatDoor
open Go.Sim
theorem idx_cons {α : Type} (p : α → Bool) (x : α) (l : List α) : idxI p (x :: l) = if p x then 0 else if 0 ≤ idxI p l then idxI p l + 1 else -1 := by
  unfold idxI
  rw [List.findIdx?_cons]
  by_cases h : p x = true
  · rw [h]; rfl
  · rw [Bool.not_eq_true] at h
    rw [h]
    cases l.findIdx? p with
    | none => rfl
    | some k => simp only [Option.map_some, Bool.false_eq_true, if_false]; rw [if_pos (by omega)]; omega
theorem value_cons (x : Sg) (l : List Sg) (s : List UInt8) : valueE (x :: l) s = if x.name = s then x.val else valueE l s := by
  unfold valueE atS
  rw [idx_cons]
  by_cases h : x.name = s
  · have hb : (x.name == s) = true := by simpa using h
    simp only [hb, if_true]
    rw [if_pos h, if_pos (Int.le_refl 0)]; rfl
  · have hb : (x.name == s) = false := by simpa using h
    simp only [hb, Bool.false_eq_true, if_false]
    rw [if_neg h]
    by_cases h2 : 0 ≤ idxI (fun x : Sg => x.name == s) l
    · rw [if_pos h2, if_pos (by omega), if_pos h2, show (idxI (fun x : Sg => x.name == s) l + 1).toNat = (idxI (fun x : Sg => x.name == s) l).toNat + 1 by omega]; rfl
    · rw [if_neg h2, if_neg (by omega), if_neg h2]
theorem value_left {s : List UInt8} (b : List Sg) : ∀ {a : List Sg}, s ∈ a.map Sg.name → valueE (a ++ b) s = valueE a s
  | [], h => by simp at h
  | x :: a, h => by
    rw [List.cons_append, value_cons, value_cons]
    by_cases e : x.name = s
    · rw [if_pos e, if_pos e]
    · rw [if_neg e, if_neg e]
      refine value_left b ?_
      rw [List.map_cons, List.mem_cons] at h
      exact h.resolve_left fun q => e q.symm
theorem value_at : ∀ {l : List Sg} {i : Nat}, (l.map Sg.name).Nodup → i < l.length → valueE l (l.getD i default).name = (l.getD i default).val
  | [], _, _, h => absurd h (Nat.not_lt_zero _)
  | x :: l, 0, _, _ => by rw [value_cons]; simp
  | x :: l, i + 1, hn, h => by
    rw [List.map_cons, List.nodup_cons] at hn
    rw [List.getD_cons_succ, value_cons, if_neg, value_at hn.2 (by simpa using h)]
    intro e
    refine hn.1 (e ▸ List.mem_map_of_mem (getD_mem' (by simpa using h)))
theorem value_map (f : List UInt8 → Int) {s : List UInt8} : ∀ {l : List (List UInt8)}, s ∈ l → valueE (l.map fun x => ⟨x, f x⟩) s = f s
  | [], h => by simp at h
  | x :: l, h => by
    rw [List.map_cons, value_cons]
    by_cases e : x = s
    · rw [if_pos e, e]
    · rw [if_neg e]
      exact value_map f ((List.mem_cons.1 h).resolve_left fun q => e q.symm)
theorem find_val (env : List Sg) (s : List UInt8) : (findS env s).1 = wrapE (valueE env s) := by
  unfold findS valueE atS
  split
  · rfl
  · rfl
theorem found_iff (env : List Sg) (s : List UInt8) : (findS env s).2 = true ↔ s ∈ env.map Sg.name := by
  have h := idx_any (fun x : Sg => x.name == s) env
  unfold findS
  by_cases h2 : 0 ≤ idxI (fun x : Sg => x.name == s) env
  · rw [if_pos h2]
    rw [decide_eq_true h2] at h
    have h := h.symm
    rw [List.any_eq_true] at h
    obtain ⟨x, hx, he⟩ := h
    exact ⟨fun _ => List.mem_map.2 ⟨x, hx, by simpa using he⟩, fun _ => rfl⟩
  · rw [if_neg h2]
    rw [decide_eq_false h2] at h
    refine ⟨fun h => by simp at h, fun hm => ?_⟩
    obtain ⟨x, hx, he⟩ := List.mem_map.1 hm
    have := List.any_eq_false.1 h.symm x hx
    exact absurd (by simpa using he) this
mutual
def valF (f : List UInt8 → Int) : Ex → Int
  | .mk op n nm args => if op = 1 then n else if op = 2 then wrapE (f nm) else operE op (valFL f args)
def valFL (f : List UInt8 → Int) : List Ex → List Int
  | [] => []
  | a :: r => valF f a :: valFL f r
end
theorem valFL_map (f : List UInt8 → Int) : ∀ l, valFL f l = l.map (valF f)
  | [] => by simp only [valFL, List.map_nil]
  | a :: r => by simp only [valFL, List.map_cons, valFL_map f r]
theorem valF_eq (f : List UInt8 → Int) (e : Ex) : valF f e = if e.op = 1 then e.n else if e.op = 2 then wrapE (f e.name) else operE e.op (e.args.map (valF f)) := by
  cases e; simp only [valF, valFL_map]; rfl
theorem valX_F (env : List Sg) : ∀ e, valX env e = valF (valueE env) e := by
  refine Ex.ind fun e ih => ?_
  rw [valX_eq, valF_eq, find_val, List.map_congr_left ih]
theorem gx_mono {p q : List UInt8 → Prop} (h : ∀ s, p s → q s) : ∀ e, GX p e → GX q e := by
  refine Ex.ind fun e ih hg => ?_
  obtain ⟨_, hop, hs⟩ := hg
  refine ⟨_, ?_, fun a ha => ih a ha (hs a ha)⟩
  rcases hop with a | a | a
  · exact .inl a
  · exact .inr (.inl ⟨a.1, a.2.1, h _ a.2.2⟩)
  · exact .inr (.inr a)
theorem valF_congr {f g : List UInt8 → Int} : ∀ e, GX (fun s => f s = g s) e → valF f e = valF g e := by
  refine Ex.ind fun e ih hg => ?_
  obtain ⟨_, hop, hs⟩ := hg
  rw [valF_eq, valF_eq, List.map_congr_left fun a ha => ih a ha (hs a ha)]
  split
  · rfl
  · rename_i h1
    split
    · rename_i h2
      rcases hop with a | a | a
      · exact absurd a.1 h1
      · rw [a.2.2]
      · exfalso; unfold OpOk BinOp at a; omega
    · rfl
/-- A design whose wires stand in order. -/
structure DsQ (d : Ds) : Prop where
  v : DsV d
  ord : orderE d = (List.range d.wires.length).map fun i : Nat => (i : Int)
  nd : (d.inputs.map Pt.name ++ d.regs.map Rg.name ++ d.wires.map Wr.name).Nodup
  wx : ∀ i, i < d.wires.length → GX (fun s => s ∈ d.inputs.map Pt.name ++ d.regs.map Rg.name ++ (d.wires.take i).map Wr.name) (d.wires.getD i default).expr
  rx : ∀ i, i < d.regs.length → GX (fun s => s ∈ d.inputs.map Pt.name ++ d.regs.map Rg.name ++ d.wires.map Wr.name) (d.regs.getD i default).next
def sigN (d : Ds) (st : List Int) (l : List Sg) : Nat → List Sg
  | 0 => inS d l ++ regS d st d.regs.length
  | n + 1 => wireS d (sigN d st l n) n
theorem sig_fold (d : Ds) (st : List Int) (l : List Sg) : ∀ n, ((List.range n).map fun i : Nat => (i : Int)).foldl (wireS d) (inS d l ++ regS d st d.regs.length) = sigN d st l n
  | 0 => rfl
  | n + 1 => by rw [List.range_succ, List.map_append, List.foldl_append, sig_fold d st l n]; rfl
theorem sig_all {d : Ds} (h : DsQ d) (st : List Int) (l : List Sg) : sigsE d st l = sigN d st l d.wires.length := by
  unfold sigsE; rw [h.ord]; exact sig_fold d st l _
theorem reg_names (d : Ds) (st : List Int) : (regS d st d.regs.length).map Sg.name = d.regs.map Rg.name := by
  unfold regS
  rw [List.map_map]
  refine List.ext_getElem (by simp) fun i h1 h2 => ?_
  have : i < d.regs.length := by simpa using h2
  simp [List.getD, this]
theorem sig_names (d : Ds) (st : List Int) (l : List Sg) : ∀ n, n ≤ d.wires.length → (sigN d st l n).map Sg.name = d.inputs.map Pt.name ++ d.regs.map Rg.name ++ (d.wires.take n).map Wr.name
  | 0, _ => by
    rw [sigN, List.map_append, reg_names]
    simp only [inS, List.map_map, List.take_zero, List.map_nil, List.append_nil]
    rfl
  | n + 1, h => by
    rw [sigN, wireS, List.map_append, sig_names d st l n (by omega), take_succ (show n < d.wires.length by omega), List.map_append]
    simp
theorem sig_len (d : Ds) (st : List Int) (l : List Sg) : ∀ n, (sigN d st l n).length = d.inputs.length + d.regs.length + n
  | 0 => by simp [sigN, inS, regS]
  | n + 1 => by rw [sigN, wireS, List.length_append, sig_len d st l n]; simp; omega
theorem sig_pre (d : Ds) (st : List Int) (l : List Sg) (i : Nat) : ∀ n, i ≤ n → ∃ r, sigN d st l n = sigN d st l i ++ r
  | 0, h => ⟨[], by rw [show i = 0 by omega, List.append_nil]⟩
  | n + 1, h => by
    by_cases e : i = n + 1
    · exact ⟨[], by rw [e, List.append_nil]⟩
    · obtain ⟨r, hr⟩ := sig_pre d st l i n (by omega)
      exact ⟨r ++ _, by rw [sigN, wireS, hr, List.append_assoc]⟩
/-- The value of a signal in a cycle. -/
def envE (d : Ds) (st : List Int) (l : List Sg) (s : List UInt8) : Int := valueE (sigsE d st l) s
theorem env_at {d : Ds} (h : DsQ d) (st : List Int) (l : List Sg) {i : Nat} (hi : i < (sigsE d st l).length) : envE d st l ((sigsE d st l).getD i default).name = ((sigsE d st l).getD i default).val := by
  refine value_at ?_ hi
  rw [sig_all h, sig_names d st l _ (Nat.le_refl _), List.take_length]
  exact h.nd
theorem getD_left {α : Type} [Inhabited α] {a b : List α} {i : Nat} (h : i < a.length) : (a ++ b).getD i default = a.getD i default := by
  simp [List.getD, List.getElem?_append_left h]
theorem getD_right {α : Type} [Inhabited α] {a b : List α} (i : Nat) : (a ++ b).getD (a.length + i) default = b.getD i default := by
  simp [List.getD, List.getElem?_append_right (show a.length ≤ a.length + i by omega)]
theorem env_in {d : Ds} (h : DsQ d) (st : List Int) (l : List Sg) {i : Nat} (hi : i < d.inputs.length) : envE d st l (d.inputs.getD i default).name = inputE (d.inputs.getD i default) l := by
  obtain ⟨r, hr⟩ := sig_pre d st l 0 d.wires.length (by omega)
  have e := sig_all h st l
  have hl : (inS d l).length = d.inputs.length := by simp [inS]
  have e2 : (sigsE d st l).getD i default = ⟨(d.inputs.getD i default).name, inputE (d.inputs.getD i default) l⟩ := by
    rw [e, hr, sigN, List.append_assoc, getD_left (by omega), inS, map_getD' _ hi]
  have := env_at h st l (i := i) (by rw [e, sig_len]; omega)
  rwa [e2] at this
theorem env_reg {d : Ds} (h : DsQ d) (st : List Int) (l : List Sg) {i : Nat} (hi : i < d.regs.length) : envE d st l (d.regs.getD i default).name = st.getD i default := by
  obtain ⟨r, hr⟩ := sig_pre d st l 0 d.wires.length (by omega)
  have e := sig_all h st l
  have hl : (inS d l).length = d.inputs.length := by simp [inS]
  have e2 : (sigsE d st l).getD (d.inputs.length + i) default = ⟨(d.regs.getD i default).name, st.getD i default⟩ := by
    rw [e, hr, sigN, List.append_assoc, ← hl, getD_right, getD_left (by simp [regS]; exact hi), regS, map_getD' _ (by simpa using hi), range_getD hi]
  have := env_at h st l (i := d.inputs.length + i) (by rw [e, sig_len]; omega)
  rwa [e2] at this
theorem env_wire {d : Ds} (h : DsQ d) (st : List Int) (l : List Sg) {i : Nat} (hi : i < d.wires.length) : envE d st l (d.wires.getD i default).name = cutE (valF (envE d st l) (d.wires.getD i default).expr) (d.wires.getD i default).width := by
  obtain ⟨r, hr⟩ := sig_pre d st l (i + 1) d.wires.length (by omega)
  have e := sig_all h st l
  have hl := sig_len d st l i
  have e2 : (sigsE d st l).getD (d.inputs.length + d.regs.length + i) default = ⟨(d.wires.getD i default).name, cutE (valX (sigN d st l i) (d.wires.getD i default).expr) (d.wires.getD i default).width⟩ := by
    rw [e, hr, sigN, wireS, List.append_assoc, ← hl, show (sigN d st l i).length = (sigN d st l i).length + 0 from rfl, getD_right]; rfl
  have h3 := env_at h st l (i := d.inputs.length + d.regs.length + i) (by rw [e, sig_len]; omega)
  rw [e2] at h3
  rw [h3, valX_F]
  show cutE _ _ = cutE _ _
  congr 1
  refine valF_congr _ (gx_mono (fun s hs => ?_) _ (h.wx i hi))
  obtain ⟨r, hr⟩ := sig_pre d st l i d.wires.length (by omega)
  rw [envE, e, hr, value_left]
  rw [sig_names d st l i (by omega)]
  exact hs
theorem names_mem (d : Ds) (s : List UInt8) : s ∈ namesD d ↔ s ∈ d.inputs.map Pt.name ++ d.regs.map Rg.name ++ d.wires.map Wr.name := by
  unfold namesD; simp only [List.mem_append]; constructor <;> (rintro ((h | h) | h) <;> simp [h])
theorem settle_val {d : Ds} (st : List Int) (l : List Sg) {s : List UInt8} (hs : s ∈ namesD d) : valueE (settleE d st l) s = envE d st l s := by
  unfold settleE; exact value_map (fun s => valueE (sigsE d st l) s) hs
theorem step_at {d : Ds} (h : DsQ d) (st : List Int) (l : List Sg) {i : Nat} (hi : i < d.regs.length) : (stepE d st l).getD i default = cutE (valF (envE d st l) (d.regs.getD i default).next) (d.regs.getD i default).width := by
  unfold stepE
  rw [map_getD' _ hi, valX_F]
  congr 1
  refine valF_congr _ (gx_mono (fun s hs => ?_) _ (h.rx i hi))
  exact settle_val st l ((names_mem d s).2 hs)
theorem row_at (d : Ds) (st : List Int) (l : List Sg) {i : Nat} (hi : i < (namesD d).length) : (rowE d st l).getD i default = envE d st l ((namesD d).getD i default) := by
  unfold rowE settleE
  rw [List.map_map, map_getD' _ hi]; rfl
theorem wire_gx {d : Ds} (h : DsQ d) (st : List Int) (l : List Sg) {i : Nat} (hi : i < d.wires.length) : GX (fun s => (findS (sigN d st l i) s).2 = true) (d.wires.getD i default).expr := by
  refine gx_mono (fun s hs => ?_) _ (h.wx i hi)
  rw [found_iff, sig_names d st l i (by omega)]; exact hs
theorem reg_gx {d : Ds} (h : DsQ d) (st : List Int) (l : List Sg) {i : Nat} (hi : i < d.regs.length) : GX (fun s => (findS (settleE d st l) s).2 = true) (d.regs.getD i default).next := by
  refine gx_mono (fun s hs => ?_) _ (h.rx i hi)
  rw [found_iff]
  unfold settleE
  rw [List.map_map]
  refine List.mem_map.2 ⟨s, (names_mem d s).2 hs, rfl⟩
theorem ord_at {d : Ds} (h : DsQ d) {i : Nat} (hi : i < d.wires.length) : (orderE d).getD i default = (i : Int) := by
  rw [h.ord, map_getD' _ (by simpa using hi), range_getD hi]
end Go.Proofs.YthlfacmpjehjmaaGreatDoor
/- Runs, cycle by cycle. -/
set_option linter.unusedSimpArgs false
set_option linter.unusedVariables false
namespace Go.Proofs.YthlfacmpjehjmaaGreatDoor
open Go.Sim
theorem cut_bd (n w : Int) : 0 ≤ cutE n w ∧ cutE n w ≤ maskE w := by
  have h := mask_le w
  unfold cutE
  have h1 := Int.emod_nonneg (wrapE n) (show maskE w + 1 ≠ 0 by omega)
  have h2 := Int.emod_lt_of_pos (wrapE n) (show 0 < maskE w + 1 by omega)
  omega
theorem step_ok (d : Ds) (st : List Int) (l : List Sg) : StOk d (stepE d st l) := by
  unfold stepE
  refine ⟨by simp, fun i hi => ?_⟩
  have hi : i < d.regs.length := by simpa using hi
  rw [map_getD' _ hi]
  exact cut_bd _ _
theorem reset_st {d : Ds} (h : DsV d) : StOk d (resetE d) := by
  unfold resetE
  refine ⟨by simp, fun i hi => ?_⟩
  have hi : i < d.regs.length := by simpa using hi
  rw [map_getD' _ hi, (h.ok.ini i hi).1]
  exact ⟨Int.le_refl _, (mask_le _).1⟩
/-- The state ahead of a cycle. -/
def stN (d : Ds) (rows : List (List Sg)) : Nat → List Int
  | 0 => resetE d
  | t + 1 => stepE d (stN d rows t) (rows.getD t default)
theorem st_ok {d : Ds} (h : DsV d) (rows : List (List Sg)) : ∀ t, StOk d (stN d rows t)
  | 0 => reset_st h
  | t + 1 => step_ok d _ _
def rowN (d : Ds) (rows : List (List Sg)) (t : Nat) : List Int := rowE d (stN d rows t) (rows.getD t default)
def rowsN (d : Ds) (rows : List (List Sg)) (n : Nat) : List (List Int) := (List.range n).map (rowN d rows)
def waveE (d : Ds) (rows : List (List Sg)) : Wv := ⟨namesD d, rowsN d rows rows.length⟩
theorem rows_next (d : Ds) (rows : List (List Sg)) (n : Nat) : rowsN d rows (n + 1) = rowsN d rows n ++ [rowN d rows n] := by
  unfold rowsN; rw [List.range_succ, List.map_append]; rfl
theorem rows_len (d : Ds) (rows : List (List Sg)) (n : Nat) : (rowsN d rows n).length = n := by simp [rowsN]
theorem row_len (d : Ds) (rows : List (List Sg)) (t : Nat) : (rowN d rows t).length = (namesD d).length := by simp [rowN, rowE, settleE]
theorem settle_len (d : Ds) (st : List Int) (l : List Sg) : (settleE d st l).length = (namesD d).length := by simp [settleE]
def inS1 (l : List Sg) (p : Pt) : Sg := ⟨p.name, inputE p l⟩
def setS1 (d : Ds) (st : List Int) (l : List Sg) (s : List UInt8) : Sg := ⟨s, valueE (sigsE d st l) s⟩
def stepS1 (d : Ds) (st : List Int) (l : List Sg) (r : Rg) : Int := cutE (valX (settleE d st l) r.next) r.width
theorem reg_next (d : Ds) (st : List Int) (n : Nat) : regS d st (n + 1) = regS d st n ++ [⟨(d.regs.getD n default).name, st.getD n default⟩] := by
  unfold regS; rw [List.range_succ, List.map_append]; rfl
theorem sig_next {d : Ds} (h : DsQ d) (st : List Int) (l : List Sg) {i : Nat} (hi : i < d.wires.length) : sigN d st l (i + 1) = sigN d st l i ++ [⟨(d.wires.getD ((orderE d).getD i default).toNat default).name, cutE (valX (sigN d st l i) (d.wires.getD ((orderE d).getD i default).toNat default).expr) (d.wires.getD ((orderE d).getD i default).toNat default).width⟩] := by
  rw [ord_at h hi]; rfl
theorem reg_x {d : Ds} (h : DsOk d) {i : Nat} (hi : i < d.regs.length) : XOk (d.regs.getD i default).next := by
  have hl := exprs_len d
  have := h.xs (d.wires.length + i) (by omega)
  have e : (exprsD d).getD (d.wires.length + i) default = (d.regs.getD i default).next := by
    unfold exprsD
    rw [show d.wires.length + i = (d.wires.map Wr.expr).length + i by simp, getD_right, map_getD' _ hi]
  rwa [e] at this
theorem ord_len {d : Ds} (h : DsQ d) : (orderE d).length = d.wires.length := h.v.ord
theorem wire_xo {d : Ds} (h : DsQ d) {i : Nat} (hi : i < d.wires.length) : XOk (d.wires.getD ((orderE d).getD i default).toNat default).expr := by
  rw [ord_at h hi]; exact wire_x h.v.ok hi
theorem wire_go {d : Ds} (h : DsQ d) (st : List Int) (l : List Sg) {i : Nat} (hi : i < d.wires.length) : GX (fun s => (findS (sigN d st l i) s).2 = true) (d.wires.getD ((orderE d).getD i default).toNat default).expr := by
  rw [ord_at h hi]; exact wire_gx h st l hi
end Go.Proofs.YthlfacmpjehjmaaGreatDoor
/- The designs of the library, as data. -/
set_option linter.unusedSimpArgs false
set_option linter.unusedVariables false
namespace Go.Proofs.YthlfacmpjehjmaaGreatDoor
open Go.Sim
def sIv : List UInt8 := [105, 118]
def sIt : List UInt8 := [105, 116]
def sIa : List UInt8 := [105, 97]
def sIb : List UInt8 := [105, 98]
def sOrdy : List UInt8 := [111, 114, 100, 121]
def sIrdy : List UInt8 := [105, 114, 100, 121]
def sOv : List UInt8 := [111, 118]
def sOt : List UInt8 := [111, 116]
def sOa : List UInt8 := [111, 97]
def sPush : List UInt8 := [112, 117, 115, 104]
def sPop : List UInt8 := [112, 111, 112]
def sGo : List UInt8 := [103, 111]
def sN : List UInt8 := [110]
def sK : List UInt8 := [107]
def sV : List UInt8 := [118]
def sT : List UInt8 := [116]
def sA : List UInt8 := [97]
def sM : List UInt8 := [109]
def sR : List UInt8 := [114]
def sS : List UInt8 := [115]
def digT (m : Nat) : List UInt8 := [UInt8.ofNat (48 + m)]
def ixN (s : List UInt8) (i : Nat) : List UInt8 := s ++ digT i
def refE (s : List UInt8) : Ex := .mk 2 0 s []
def numE (n : Int) : Ex := .mk 1 n [] []
def nodeE (op : Int) (l : List Ex) : Ex := .mk op 0 [] l
def notE (a : Ex) : Ex := nodeE 4 [a]
def bothE (a b : Ex) : Ex := nodeE 19 [a, b]
def eitherE (a b : Ex) : Ex := nodeE 20 [a, b]
def plusE (a b : Ex) : Ex := nodeE 7 [a, b]
def minusE (a b : Ex) : Ex := nodeE 8 [a, b]
def equalE (a : Ex) (n : Int) : Ex := nodeE 15 [a, numE n]
def lessE (a b : Ex) : Ex := nodeE 17 [a, b]
def whenE (c a b : Ex) : Ex := nodeE 22 [c, a, b]
def beginD (nm : List UInt8) (w : Int) : Ds := ⟨nm, [⟨sIv, 1⟩, ⟨sIt, 4⟩, ⟨sIa, w⟩, ⟨sIb, w⟩, ⟨sOrdy, 1⟩], [], [], [sIrdy, sOv, sOt, sOa]⟩
def addW (d : Ds) (nm : List UInt8) (w : Int) (e : Ex) : Ds := ⟨d.name, d.inputs, d.wires ++ [⟨nm, w, e⟩], d.regs, d.outputs⟩
def addR (d : Ds) (nm : List UInt8) (w : Int) (e : Ex) : Ds := ⟨d.name, d.inputs, d.wires, d.regs ++ [⟨nm, w, 0, e⟩], d.outputs⟩
def pushD (d : Ds) : Ds := addW d sPush 1 (bothE (refE sIv) (refE sIrdy))
def popD (d : Ds) : Ds := addW d sPop 1 (bothE (refE sOv) (refE sOrdy))
def cellE (dep : Int) (s inp : List UInt8) (i : Nat) : Ex :=
  whenE (bothE (refE sPush) (equalE (refE sK) (i : Int))) (refE inp) (whenE (refE sPop) (if (i : Int) < dep - 1 then refE (ixN s (i + 1)) else numE 0) (refE (ixN s i)))
def queue0 (k w : Int) : Ds :=
  addR (addW (popD (pushD (addW (addW (addW (addW (beginD [113, 117, 101, 117, 101] w) sIrdy 1 (lessE (refE sN) (numE k))) sOv 1 (lessE (numE 0) (refE sN))) sOt 4 (refE [116, 48])) sOa w (refE [97, 48])))) sK 4 (minusE (refE sN) (refE sPop))) sN 4 (plusE (refE sK) (refE sPush))
def cellsD (k w : Int) : Nat → Ds
  | 0 => queue0 k w
  | i + 1 => addR (addR (cellsD k w i) (ixN sT i) 4 (cellE k sT sIt i)) (ixN sA i) w (cellE k sA sIa i)
def queueD (k : Nat) (w : Int) : Ds := cellsD k w k
def stageD (d : Ds) (w : Int) : Ds :=
  addR (addR (pushD (addW (addW (addW (addW d sIrdy 1 (eitherE (notE (refE sV)) (refE sOrdy))) sOv 1 (refE sV)) sOt 4 (refE sT)) sOa w (refE sA))) sV 1 (whenE (refE sPush) (numE 1) (whenE (refE sOrdy) (numE 0) (refE sV)))) sT 4 (whenE (refE sPush) (refE sIt) (refE sT))
def adderD (w : Int) : Ds := addR (stageD (beginD [97, 100, 100, 101, 114] w) w) sA w (whenE (refE sPush) (plusE (refE sIa) (refE sIb)) (refE sA))
def counterD (w : Int) : Ds := addR (addR (stageD (beginD [99, 111, 117, 110, 116, 101, 114] w) w) sA w (whenE (refE sPush) (refE sN) (refE sA))) sN w (whenE (refE sPush) (plusE (refE sN) (numE 1)) (refE sN))
/-- The name from which a stage of the pipeline takes over. -/
def fromE (s inp : List UInt8) : Nat → List UInt8
  | 0 => inp
  | i + 1 => ixN s i
def lastN (k : Nat) : Nat := ((k : Int) - 1).toNat
def delay0 (k : Nat) (w : Int) : Ds :=
  addW (addW (addW (addW (addW (beginD [100, 101, 108, 97, 121] w) sGo 1 (eitherE (notE (refE (ixN sV (lastN k)))) (refE sOrdy))) sIrdy 1 (refE sGo)) sOv 1 (refE (ixN sV (lastN k)))) sOt 4 (refE (ixN sT (lastN k)))) sOa w (refE (ixN sA (lastN k)))
def moveE (c : Ex) (a b : List UInt8) : Ex := whenE c (refE a) (refE b)
def takeE (i : Nat) : Ex := bothE (refE sGo) (refE (fromE sV sIv i))
def stagesD (k : Nat) (w : Int) : Nat → Ds
  | 0 => delay0 k w
  | i + 1 => addR (addR (addR (stagesD k w i) (ixN sV i) 1 (moveE (refE sGo) (fromE sV sIv i) (ixN sV i))) (ixN sT i) 4 (moveE (takeE i) (fromE sT sIt i) (ixN sT i))) (ixN sA i) w (moveE (takeE i) (fromE sA sIa i) (ixN sA i))
def delayD (k : Nat) (w : Int) : Ds := stagesD k w k
def swapW (w : Int) : Ds :=
  addW (popD (pushD (addW (addW (addW (addW (beginD [115, 119, 97, 112] w) sIrdy 1 (bothE (notE (refE sM)) (lessE (refE sN) (numE 2)))) sOv 1 (refE sM)) sOt 4 (whenE (equalE (refE sN) 2) (refE [116, 49]) (refE [116, 48]))) sOa w (whenE (equalE (refE sN) 2) (refE [97, 49]) (refE [97, 48]))))) sR 2 (minusE (plusE (refE sN) (refE sPush)) (refE sPop))
def leftE : Ex := nodeE 16 [refE sR, numE 0]
def waitsE : Ex := bothE (bothE (bothE (notE (refE sM)) (equalE (refE sN) 1)) (notE (refE sPush))) (lessE (refE sS) (numE 3))
def swap0 (w : Int) : Ds :=
  addR (addR (addR (swapW w) sN 2 (refE sR)) sM 1 (whenE (refE sM) leftE (eitherE (equalE (refE sR) 2) (bothE (equalE (refE sR) 1) (equalE (refE sS) 3))))) sS 2 (whenE waitsE (plusE (refE sS) (numE 1)) (numE 0))
def takeS (i : Nat) : Ex := bothE (refE sPush) (equalE (refE sN) (i : Int))
def swapsD (w : Int) : Nat → Ds
  | 0 => swap0 w
  | i + 1 => addR (addR (swapsD w i) (ixN sT i) 4 (whenE (takeS i) (refE sIt) (refE (ixN sT i)))) (ixN sA i) w (whenE (takeS i) (refE sIa) (refE (ixN sA i)))
def swapD (w : Int) : Ds := swapsD w 2
theorem cells_len (k w : Int) : ∀ i, (cellsD k w i).wires.length = 7 ∧ (cellsD k w i).regs.length = 1 + 2 * i
  | 0 => ⟨rfl, rfl⟩
  | i + 1 => by
    have h := cells_len k w i
    simp only [cellsD, addR, List.length_append, List.length_cons, List.length_nil]
    omega
theorem stages_len (k : Nat) (w : Int) : ∀ i, (stagesD k w i).wires.length = 5 ∧ (stagesD k w i).regs.length = 3 * i
  | 0 => ⟨rfl, rfl⟩
  | i + 1 => by
    have h := stages_len k w i
    simp only [stagesD, addR, List.length_append, List.length_cons, List.length_nil]
    omega
theorem swaps_len (w : Int) : ∀ i, (swapsD w i).wires.length = 7 ∧ (swapsD w i).regs.length = 3 + 2 * i
  | 0 => ⟨rfl, rfl⟩
  | i + 1 => by
    have h := swaps_len w i
    simp only [swapsD, addR, List.length_append, List.length_cons, List.length_nil]
    omega
/-- A builder in memory. -/
def bdR (d : Ds) (v : Value × Value) : List Rp := [Rp.str d.name, Rp.slice eP d.inputs, Rp.val v.1, Rp.val v.2, Rp.slice eS d.outputs]
def bdM (r : Nat) (d : Ds) (v : Value × Value) : List MF := [MF.box r 111 (bdR d v), MF.osl v.1 77 6 eWr d.wires, MF.osl v.2 81 7 eRg d.regs]
def bdX (r : Nat) (d : Ds) : RA := ⟨Value × Value, fun _ => Rp.tuple [], fun v => bdM r d v⟩
theorem small_dig {m : Nat} (h : m ≤ 9) : List.take (((m : Int) + 1).toNat - ((m : Int)).toNat) (List.drop ((m : Int)).toNat [48, 49, 50, 51, 52, 53, 54, 55, 56, 57, 97, 98, 99, 100, 101, 102, 103, 104, 105, 106, 107, 108, 109, 110, 111, 112, 113, 114, 115, 116, 117, 118, 119, 120, 121, 122]) = digT m := by
  match m, h with
  | 0, _ => rfl
  | 1, _ => rfl
  | 2, _ => rfl
  | 3, _ => rfl
  | 4, _ => rfl
  | 5, _ => rfl
  | 6, _ => rfl
  | 7, _ => rfl
  | 8, _ => rfl
  | 9, _ => rfl
/-- strings.asciiSpace: 1 for the blanks below 128. -/
def spTab : List Int := (List.range 256).map fun i => if i = 9 ∨ i = 10 ∨ i = 11 ∨ i = 12 ∨ i = 13 ∨ i = 32 then 1 else 0
def spG : MF := MF.glob 0 (spTab.map (Rp.int .u8))
def begX (nm : List UInt8) (w : Int) : RA := ⟨Nat × (Value × Value), fun u => Rp.ptr u.1 0, fun u => spG :: bdM u.1 (beginD nm w) u.2⟩
/-- The constant text of the outputs, and how it is cut into fields. -/
def txt : List UInt8 := [105, 114, 100, 121, 32, 111, 118, 32, 111, 116, 32, 111, 97]
def isF (i : Nat) : Int := spTab.getD ((ch txt i)).toNat 0
def cF : Nat → Int × Int × Int
  | 0 => (0, 1, 0)
  | i + 1 => (IntKind.i64.wrap ((cF i).1 + bitsOf .and .i64 (cF i).2.1 (bitsOf .xor .i64 (-1) (IntKind.i64.wrap (isF i)))), IntKind.i64.wrap (isF i), bitsOf .or .u8 (cF i).2.2 (ch txt i))
def fA : Nat → List (List UInt8) × Nat × Nat
  | 0 => (List.replicate 4 [], 0, 0)
  | i + 1 => if isF i = 0 then fA i else ((fA i).1.set (fA i).2.1 (List.take (i - (fA i).2.2) (List.drop (fA i).2.2 txt)), (fA i).2.1 + 1, i + 1)
theorem fA_no {i : Nat} (h : isF i = 0) : fA (i + 1) = fA i := by rw [fA, if_pos h]
theorem fA_yes {i : Nat} (h : ¬ isF i = 0) : fA (i + 1) = ((fA i).1.set (fA i).2.1 (List.take (i - (fA i).2.2) (List.drop (fA i).2.2 txt)), (fA i).2.1 + 1, i + 1) := by rw [fA, if_neg h]
theorem fA_bd : ∀ i, i < 13 → (fA i).2.2 ≤ i ∧ (isF i ≠ 0 → (fA i).2.1 < (fA i).1.length ∧ (i + 1 < 13 → isF (i + 1) = 0)) := by decide
theorem fA_len : ∀ i, (fA i).1.length = 4
  | 0 => rfl
  | i + 1 => by
    by_cases h : isF i = 0
    · rw [fA_no h]; exact fA_len i
    · rw [fA_yes h]; simp [fA_len i]
theorem fA_end : fA 13 = ([sIrdy, sOv, sOt, []], 3, 11) := by decide
theorem cF_end : (cF 13).1 = 4 ∧ (cF 13).2.2 < 128 := ⟨by kernel_rfl, of_decide_eq_true (by kernel_rfl)⟩
def takeX (r : Nat) (s : List UInt8) : RA := ⟨Unit, fun _ => Rp.agg (eX (bothE (refE sGo) (refE s))), fun _ => [MF.box r 9 [Rp.str s]]⟩
end Go.Proofs.YthlfacmpjehjmaaGreatDoor
