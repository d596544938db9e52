/- Lemmas for the claim, part 3: rules for walks, contracts of functions, the data they compute. No conditions. -/
import Derived.Test.YtcabngjnmipflaaDoorP2
import Derived.Laws.IdiomStrings
import Derived.Lib.ConvBytes
import Derived.Lib.LaidTab
import Derived.Sort.Grow
import Derived.Deep.Draws
import Derived.SizedLaws
import Derived.Test.YtcabngjnmipflaaDoorP1
import Derived.Test.YtcabngjnmipflaaDoorProg
import Derived.KernelRfl
/- Lists by their indices: first index with a property, first error, folds over beginnings. -/
namespace Go.Sim
theorem getD_mem' {α : Type} [Inhabited α] {l : List α} {i : Nat} (h : i < l.length) : l.getD i default ∈ l := by
  rw [List.getD, List.getElem?_eq_getElem h]; exact List.getElem_mem h
theorem mem_getD {α : Type} [Inhabited α] {l : List α} {x : α} (h : x ∈ l) : ∃ i, i < l.length ∧ l.getD i default = x := by
  obtain ⟨i, hi, rfl⟩ := List.getElem_of_mem h
  exact ⟨i, hi, by rw [List.getD, List.getElem?_eq_getElem hi]; rfl⟩
theorem take_succ {α : Type} [Inhabited α] {l : List α} {i : Nat} (h : i < l.length) : l.take (i + 1) = l.take i ++ [l.getD i default] := by
  rw [List.take_add_one, List.getElem?_eq_getElem h, List.getD, List.getElem?_eq_getElem h]; rfl
theorem fold_take {α β : Type} [Inhabited α] (f : β → α → β) (b : β) {l : List α} {i : Nat} (h : i < l.length) : (l.take (i + 1)).foldl f b = f ((l.take i).foldl f b) (l.getD i default) := by
  rw [take_succ h, List.foldl_append]; rfl
theorem map_take {α β : Type} [Inhabited α] (f : α → β) {l : List α} {i : Nat} (h : i < l.length) : (l.take (i + 1)).map f = (l.take i).map f ++ [f (l.getD i default)] := by
  rw [take_succ h, List.map_append]; rfl
theorem getD_take {α : Type} [Inhabited α] {l : List α} {i j : Nat} (h : j < i) : (l.take i).getD j default = l.getD j default := by
  rw [List.getD, List.getD, List.getElem?_take, if_pos h]
theorem ext_get {α : Type} [Inhabited α] {a b : List α} (hl : a.length = b.length) (h : ∀ j : Nat, j < a.length → a.getD j default = b.getD j default) : a = b := by
  apply List.ext_getElem hl
  intro j h1 h2
  have := h j h1
  simpa [List.getD, h1, h2] using this

/-- The first index of an element with a property; -1 if there is none. -/
def idxI {α : Type} (p : α → Bool) (l : List α) : Int := match l.findIdx? p with | some i => (i : Int) | none => -1
theorem idx_yes {α : Type} [Inhabited α] {p : α → Bool} {l : List α} {i : Nat} (hi : i < l.length) (h : p (l.getD i default) = true) (hn : ∀ j, j < i → p (l.getD j default) = false) : idxI p l = i := by
  have : l.findIdx? p = some i := by
    rw [List.findIdx?_eq_some_iff_getElem]
    refine ⟨hi, ?_, fun j hj => ?_⟩
    · simpa [List.getD, hi] using h
    · have := hn j hj
      simpa [List.getD, show j < l.length by omega] using this
  simp [idxI, this]
theorem idx_no {α : Type} [Inhabited α] {p : α → Bool} {l : List α} (hn : ∀ j, j < l.length → p (l.getD j default) = false) : idxI p l = -1 := by
  have : l.findIdx? p = none := by
    rw [List.findIdx?_eq_none_iff]
    intro x hx
    obtain ⟨i, hi, rfl⟩ := mem_getD hx
    exact hn i hi
  simp [idxI, this]
theorem idx_cases {α : Type} [Inhabited α] (p : α → Bool) (l : List α) : (∃ i, i < l.length ∧ p (l.getD i default) = true ∧ (∀ j, j < i → p (l.getD j default) = false) ∧ idxI p l = i) ∨ ((∀ j, j < l.length → p (l.getD j default) = false) ∧ idxI p l = -1) := by
  by_cases h : ∀ j, j < l.length → p (l.getD j default) = false
  · exact .inr ⟨h, idx_no h⟩
  · have : ∃ i, i < l.length ∧ p (l.getD i default) = true ∧ ∀ j, j < i → p (l.getD j default) = false := by
      have key : ∀ n, n ≤ l.length → (∀ j, j < n → p (l.getD j default) = false) ∨ ∃ i, i < n ∧ p (l.getD i default) = true ∧ ∀ j, j < i → p (l.getD j default) = false := by
        intro n
        induction n with
        | zero => intro _; exact .inl fun j hj => absurd hj (Nat.not_lt_zero _)
        | succ n ih =>
          intro hn
          rcases ih (by omega) with h1 | ⟨i, h1, h2, h3⟩
          · cases hp : p (l.getD n default) with
            | true => exact .inr ⟨n, by omega, hp, h1⟩
            | false =>
              refine .inl fun j hj => ?_
              rcases Nat.lt_succ_iff_lt_or_eq.1 hj with hj | rfl
              · exact h1 j hj
              · exact hp
          · exact .inr ⟨i, by omega, h2, h3⟩
      rcases key _ (Nat.le_refl _) with h1 | h1
      · exact absurd h1 h
      · exact h1
    obtain ⟨i, h1, h2, h3⟩ := this
    exact .inl ⟨i, h1, h2, h3, idx_yes h1 h2 h3⟩
theorem idx_any {α : Type} [Inhabited α] (p : α → Bool) (l : List α) : decide (0 ≤ idxI p l) = l.any p := by
  rw [Bool.eq_iff_iff, decide_eq_true_eq, List.any_eq_true]
  rcases idx_cases p l with ⟨i, h1, h2, _, h4⟩ | ⟨h1, h2⟩
  · exact ⟨fun _ => ⟨_, getD_mem' h1, h2⟩, fun _ => by omega⟩
  · refine ⟨fun h => by omega, fun ⟨x, hx, hp⟩ => ?_⟩
    obtain ⟨i, hi, rfl⟩ := mem_getD hx
    rw [h1 i hi] at hp; cases hp
theorem idx_ge {α : Type} [Inhabited α] (p : α → Bool) (l : List α) : -1 ≤ idxI p l ∧ idxI p l < l.length := by
  rcases idx_cases p l with ⟨i, h1, _, _, h4⟩ | ⟨_, h2⟩ <;> omega
theorem idx_get {α : Type} [Inhabited α] {p : α → Bool} {l : List α} (h : 0 ≤ idxI p l) : p (l.getD (idxI p l).toNat default) = true := by
  rcases idx_cases p l with ⟨i, _, h2, _, h4⟩ | ⟨_, h2⟩
  · rw [h4]; exact h2
  · omega
theorem any_no {α : Type} [Inhabited α] {p : α → Bool} {l : List α} (hn : ∀ j, j < l.length → p (l.getD j default) = false) : l.any p = false := by
  rw [← idx_any, idx_no hn]; rfl
theorem any_yes {α : Type} [Inhabited α] {p : α → Bool} {l : List α} {i : Nat} (hi : i < l.length) (h : p (l.getD i default) = true) : l.any p = true :=
  List.any_eq_true.2 ⟨_, getD_mem' hi, h⟩

theorem mem_take {α : Type} [Inhabited α] {l : List α} {i k : Nat} (hi : i ≤ l.length) (hk : k < i) : l.getD k default ∈ l.take i := by
  rw [← getD_take hk]; exact getD_mem' (by simp; omega)
theorem any_take_yes {α : Type} [Inhabited α] {p : α → Bool} {l : List α} {i j : Nat} (hi : i ≤ l.length) (hj : j < i) (h : p (l.getD j default) = true) : (l.take i).any p = true :=
  any_yes (i := j) (by simp; omega) (by rw [getD_take hj]; exact h)
theorem any_take_no {α : Type} [Inhabited α] {p : α → Bool} {l : List α} {i : Nat} (h : ∀ j, j < i → p (l.getD j default) = false) : (l.take i).any p = false :=
  any_no fun j hj => by
    have hj' : j < i := by simp at hj; omega
    rw [getD_take hj']; exact h j hj'

/-- The first value that is not 0. -/
def firstI : Nat → (Nat → Int) → Int
  | 0, _ => 0
  | n + 1, e => if firstI n e ≠ 0 then firstI n e else e n
theorem first_no {e : Nat → Int} : ∀ {n : Nat}, (∀ j, j < n → e j = 0) → firstI n e = 0
  | 0, _ => rfl
  | n + 1, h => by
    have h1 := first_no (n := n) fun j hj => h j (by omega)
    simp [firstI, h1, h n (by omega)]
theorem first_yes {e : Nat → Int} {i : Nat} (h0 : e i ≠ 0) (h : ∀ j, j < i → e j = 0) : ∀ {n : Nat}, i < n → firstI n e = e i
  | 0, hi => absurd hi (Nat.not_lt_zero _)
  | n + 1, hi => by
    rcases Nat.lt_succ_iff_lt_or_eq.1 hi with hi | rfl
    · simp [firstI, first_yes h0 h hi, h0]
    · simp [firstI, first_no h]
theorem first_zero {e : Nat → Int} : ∀ {n : Nat}, firstI n e = 0 → ∀ j, j < n → e j = 0
  | 0, _, j, hj => absurd hj (Nat.not_lt_zero _)
  | n + 1, h, j, hj => by
    simp only [firstI] at h
    split at h
    · rename_i h1; exact absurd h h1
    · rename_i h1
      have h1 : firstI n e = 0 := by simpa using h1
      rcases Nat.lt_succ_iff_lt_or_eq.1 hj with hj | rfl
      · exact first_zero h1 j hj
      · exact h
theorem first_congr {e e' : Nat → Int} : ∀ {n : Nat}, (∀ j, j < n → (∀ i, i < j → e i = 0) → e j = e' j) → firstI n e = firstI n e'
  | 0, _ => rfl
  | n + 1, h => by
    have h1 := first_congr (n := n) fun j hj => h j (by omega)
    simp only [firstI, h1]
    split
    · rfl
    · rename_i h2
      have h2 : firstI n e' = 0 := by simpa using h2
      exact h n (by omega) (first_zero (by rw [h1, h2]))

/-! Names: letters, digits, '_', beginning with a small letter; no keyword. -/
def lowB (c : Int) : Bool := decide (97 ≤ c) && decide (c ≤ 122)
def digB (c : Int) : Bool := decide (48 ≤ c) && decide (c ≤ 57)
def folB (c : Int) : Bool := lowB c || digB c || (decide (65 ≤ c) && decide (c ≤ 90)) || decide (c = 95)
def ch (s : List UInt8) (i : Nat) : Int := ((s.getD i 0).toNat : Int)
def wordB (s : List UInt8) : Bool := decide (s ≠ []) && lowB (ch s 0) && decide (∀ j, j < s.length → folB (ch s j) = true)
def keywords : List (List UInt8) := [[99, 108, 97, 115, 115], [101, 120, 116, 101, 110, 100, 115], [114, 97, 110, 100], [114, 97, 110, 100, 99], [115, 116, 97, 116, 101], [99, 111, 110, 115, 116, 114, 97, 105, 110, 116], [115, 111, 102, 116], [100, 105, 115, 116], [105, 102], [101, 108, 115, 101], [101, 97, 99, 104], [105, 110], [115, 111, 108, 118, 101], [98, 101, 102, 111, 114, 101], [105, 110, 115, 105, 100, 101], [112, 114, 111, 112, 101, 114, 116, 121], [115, 101, 113], [97, 110, 100], [111, 114], [110, 111, 116], [115, 101, 116], [104, 111, 108, 100], [112, 108, 97, 105, 110], [114, 101, 112, 101, 97, 116]]
def kwB (s : List UInt8) : Bool := keywords.any fun x => s == x
def nameB (s : List UInt8) : Bool := wordB s && decide (s.length ≤ 16) && !kwB s
theorem folB_lt {c : Int} (h : folB c = true) : 0 ≤ c ∧ c < 128 := by
  simp only [folB, lowB, digB, Bool.or_eq_true, Bool.and_eq_true, decide_eq_true_eq] at h
  omega
theorem low_fol {c : Int} (h : lowB c = true) : folB c = true := by simp [folB, h]
theorem ch_range (s : List UInt8) (i : Nat) : 0 ≤ ch s i ∧ ch s i ≤ 255 := by
  have := (s.getD i 0).toNat_lt
  simp only [ch]; omega
/-- A rune that continues a name is a byte. -/
theorem rune_fol {s : List UInt8} {i : Nat} (h : folB (runeAt s i).1 = true) : ch s i = (runeAt s i).1 ∧ (runeAt s i).2 = 1 := by
  have h1 := folB_lt h
  by_cases h2 : (s.getD i 0).toNat < 128
  · rw [runeAt_ascii h2]; exact ⟨rfl, rfl⟩
  · have := runeAt_high (l := s) (i := i) (by omega)
    omega
theorem rune_not {s : List UInt8} {i : Nat} (h : folB (runeAt s i).1 = false) : folB (ch s i) = false := by
  by_cases h2 : (s.getD i 0).toNat < 128
  · rw [runeAt_ascii h2] at h; exact h
  · cases hc : folB (ch s i) with
    | false => rfl
    | true => have := folB_lt hc; simp only [ch] at this; omega
theorem rune_notlow {s : List UInt8} {i : Nat} (h : lowB (runeAt s i).1 = false) : lowB (ch s i) = false := by
  by_cases h2 : (s.getD i 0).toNat < 128
  · rw [runeAt_ascii h2] at h; exact h
  · cases hc : lowB (ch s i) with
    | false => rfl
    | true => have := folB_lt (low_fol hc); simp only [ch] at this; omega
theorem next_fol {s : List UInt8} {i : Nat} (hi : i < s.length) (h : folB (runeAt s i).1 = true) : nextPos s i = i + 1 := by
  rw [nextPos, if_pos hi, (rune_fol h).2]
theorem name_ne {s : List UInt8} (h : ((s == []) || decide (16 < (s.length : Int))) = false) : 0 < s.length := by
  cases s with
  | nil => simp at h
  | cons a s => simp
theorem name_first {s : List UInt8} (hn : nameB s = true) (h : ((((s == []) || decide (16 < (s.length : Int))) || !lowB (ch s 0)) || kwB s) = true) : False := by
  simp only [nameB, wordB, Bool.and_eq_true, decide_eq_true_eq, Bool.not_eq_true'] at hn
  obtain ⟨⟨⟨⟨h1, h2⟩, h3⟩, h4⟩, h5⟩ := hn
  simp only [Bool.or_eq_true, Bool.not_eq_true', decide_eq_true_eq, beq_iff_eq] at h
  rcases h with ((h | h) | h) | h
  · exact h1 h
  · omega
  · rw [h2] at h; cases h
  · rw [h5] at h; cases h
theorem name_inner {s : List UInt8} (hn : nameB s = true) {i : Nat} (hi : i < s.length) (h : folB (ch s i) = false) : False := by
  simp only [nameB, wordB, Bool.and_eq_true, decide_eq_true_eq, Bool.not_eq_true'] at hn
  obtain ⟨⟨⟨⟨h1, h2⟩, h3⟩, h4⟩, h5⟩ := hn
  rw [h3 i hi] at h; cases h
theorem name_all {s : List UInt8} (h : ((((s == []) || decide (16 < (s.length : Int))) || !lowB (ch s 0)) || kwB s) = false) (hf : ∀ j, j < s.length → folB (ch s j) = true) : nameB s = true := by
  simp only [Bool.or_eq_false_iff, Bool.not_eq_false', decide_eq_false_iff_not] at h
  obtain ⟨⟨⟨h1, h2⟩, h3⟩, h4⟩ := h
  simp only [nameB, wordB, Bool.and_eq_true, decide_eq_true_eq, Bool.not_eq_true']
  exact ⟨⟨⟨⟨by intro e; subst e; simp at h1, h3⟩, hf⟩, by omega⟩, h4⟩
theorem word_no {s : List UInt8} {i : Nat} (hi : i < s.length) (h : ((decide (i = 0) && !lowB (ch s i)) || !folB (ch s i)) = true) : wordB s = false := by
  simp only [wordB, Bool.and_eq_false_iff, decide_eq_false_iff_not]
  simp only [Bool.or_eq_true, Bool.and_eq_true, decide_eq_true_eq, Bool.not_eq_true'] at h
  rcases h with ⟨rfl, h⟩ | h
  · exact .inl (.inr h)
  · exact .inr fun hh => by rw [hh i hi] at h; cases h
theorem word_yes {s : List UInt8} (h : ∀ j, j < s.length → folB (ch s j) = true) (h0 : 0 < s.length → lowB (ch s 0) = true) : wordB s = !(s == []) := by
  cases s with
  | nil => simp [wordB]
  | cons a s =>
    simp only [wordB]
    rw [h0 (by simp), decide_eq_true h]
    rfl
end Go.Sim
/- Conversions between strings and bytes; calls that need a ghost fact of any kind; a library's contract as a contract here. -/
namespace Go.Sim
open Go
theorem get_rp {S : Nat → Option Rp} {x : Operand} {R : Rp} {a : Act} {w : World} {C : Nat → Prop} (hx : Get S x R) (hs : SlotsOk S a w C) : R.p w C (a.eval x) := hx a w C hs
section
variable {P : Program} {M : List MF} {o : Oper} {σ : Nat → Option Rp}
theorem u8_len {E : UInt8 → List Rp} (hE : ∀ b, E b = [Rp.int .u8 (b.toNat : Int)]) : ∀ l : List UInt8, (l.flatMap E).length = l.length
  | [] => rfl
  | b :: l => by rw [List.flatMap_cons, hE, List.length_append, u8_len hE l]; simp; omega
theorem u8_mk {E : UInt8 → List Rp} (hE : ∀ b, E b = [Rp.int .u8 (b.toNat : Int)]) {w : World} {C : Nat → Prop} : ∀ l : List UInt8, AllR (l.flatMap E) w C (l.map fun b => Value.int .u8 (b.toNat : Int))
  | [] => ⟨trivial, by simp⟩
  | b :: l => by
    rw [List.flatMap_cons, hE, List.map_cons]
    refine ⟨⟨⟨rfl, by have := b.toNat_lt; simp only [InR]; omega⟩, (u8_mk hE l).1⟩, fun v hv => ?_⟩
    rcases List.mem_cons.1 hv with rfl | hv
    · rfl
    · exact (u8_mk hE (w := w) (C := C) l).2 v hv
theorem eU8_all {E : UInt8 → List Rp} (hE : ∀ b, E b = [Rp.int .u8 (b.toNat : Int)]) {w : World} {C : Nat → Prop} : ∀ {l : List UInt8} {vs : List Value}, AllP (l.flatMap E) w C vs → vs = l.map fun b => Value.int .u8 (b.toNat : Int)
  | [], [], _ => rfl
  | [], _ :: _, h => h.elim
  | b :: l, vs, h => by
    rw [List.flatMap_cons, hE b] at h
    match vs, h with
    | v :: vs, ⟨h1, h2⟩ =>
      rw [List.map_cons, eU8_all hE h2, h1.1]
    | [], h => exact h.elim
/-- 'string(bytes)'. -/
theorem spec_bytesStr {T T' e : TypeId} {x : Operand} {E : UInt8 → List Rp} {l : List UInt8} (hE : ∀ b, E b = [Rp.int .u8 (b.toNat : Int)]) (h : o.op = .convert T T' x) (hs : P.underlying T = some (.slice e)) (he : P.underlying e = some (.int .u8)) (hd : P.underlying T' = some .string)
    (hx : Get σ x (Rp.slice E l)) : Spec P σ M o (.one (Rp.str l)) :=
  Spec.of_run fun a w C hsl _ => by
    obtain ⟨hl, hv⟩ := get_rp hx hsl
    have hone : ∀ v, v = .slice none 0 0 → (convert T T' v).run P w = .ok (.string ⟨#[]⟩) w := by
      rintro v rfl
      rw [run_convert_bytes_string w T T' e none 0 0 hs he hd]
      simp [Conv.bytesToString]
      rfl
    rcases hv with ⟨hv, rfl⟩ | ⟨ad, cap, hv, _, hrow⟩
    · exact ⟨.string ⟨#[]⟩, by simp [execOp, h, hone _ hv], rfl, by simp⟩
    · refine ⟨.string ⟨l.toArray⟩, ?_, rfl, by simpa using hl⟩
      have := run_convert_bytes_back (P := P) w T T' e ad cap l hs he hd (fun j hj => by
        rcases hrow with rfl | ⟨hsp, hC, cs, T0, fr, hc, hA⟩
        · simp at hj
        · have hvs := eU8_all hE hA.1
          have hfl := u8_len hE l
          rw [hfl] at hvs
          have h2 : ((cs.toList.drop ad.off).take l.length)[j]? = some (.int .u8 (l[j].toNat : Int)) := by rw [hvs]; simp [hj]
          rw [List.getElem?_take, if_pos hj, List.getElem?_drop] at h2
          have e2 : ad.add j = ⟨ad.block, ad.off + j, none⟩ := by unfold Addr.add; cases ad; simp_all
          rw [e2]
          simp only [World.cell?, hc]
          simpa using h2)
      simp [execOp, h, hv, this]
/-- '[]byte(s)', published. -/
theorem spec_strBytes {T T' e : TypeId} {x : Operand} {E : UInt8 → List Rp} {l : List UInt8} {u : TypeDesc} (hE : ∀ b, E b = [Rp.int .u8 (b.toNat : Int)]) (h : o.op = .convert T T' x) (hs : P.underlying T = some u) (he : P.underlying e = some (.int .u8)) (hd : P.underlying T' = some (.slice e))
    (hx : Get σ x (Rp.str l)) : Spec P σ M o (.one (Rp.slice E l)) := by
  intro a w C K Q hsl hm hk
  have hv : a.eval x = .string ⟨l.toArray⟩ := get_str hx hsl
  have hl := (get_rp hx hsl).2
  unfold Oper.wp
  rw [show (execOp a.eval o).run P w = .ok (.value (.slice (some ⟨w.heap.size, 0, none⟩) l.length (grownCap w l.length 0 e))) (Lib.bytesWorld w e ⟨l.toArray⟩) by
    have := Lib.run_convert_string_bytes (P := P) w T T' e ⟨l.toArray⟩ hs hd he
    rw [show (ByteArray.mk l.toArray).size = l.length by simp [ByteArray.size]] at this
    simp [execOp, h, hv, this]]
  have hsz := Lib.bytesWorld_size w e ⟨l.toArray⟩
  have hold : ∀ b, b < w.heap.size → (Lib.bytesWorld w e ⟨l.toArray⟩).heap[b]? = w.heap[b]? := fun b hb => Lib.bytesWorld_at_old w e ⟨l.toArray⟩ b hb
  have hos : (Lib.bytesWorld w e ⟨l.toArray⟩).os = w.os ∧ (Lib.bytesWorld w e ⟨l.toArray⟩).tape = w.tape ∧ (Lib.bytesWorld w e ⟨l.toArray⟩).output = w.output := by
    simp [Lib.bytesWorld, World.freeze, World.alloc, World.drew, -World.alloc_eq, -World.drew_eq]
  refine hk () _ _ (fun b => C b ∨ b = w.heap.size) ⟨by omega, fun b hb _ => hold b hb, fun b hb _ => ⟨fun h => h.resolve_right (by omega), .inl⟩, hos.1, hos.2.1, hos.2.2⟩ (fun b hb => ?_) ⟨hl, .inr ⟨⟨w.heap.size, 0, none⟩, _, rfl, grownCap_ge w _ _ e, .inr ⟨rfl, .inr rfl, _, _, _, Lib.bytesWorld_at_new w e ⟨l.toArray⟩, ?_⟩⟩⟩ MNew.nil
  · rcases hb with hb | hb
    · have := hm.wf b hb; omega
    · omega
  · rw [u8_len hE, List.drop_zero]
    have e1 : ((Lib.bytesCells w e ⟨l.toArray⟩).toList).take l.length = l.map fun b => Value.int .u8 (b.toNat : Int) := by
      unfold Lib.bytesCells
      simp
    rw [e1]
    exact u8_mk hE l
theorem spec_callG0 {f : FuncId} {args : Array Operand} {ts : Array TypeId} {A : List Rp} {X : RA} {k : Nat} {F : MF} (h : o.op = .call ⟨.value (.func f), args, ts⟩) (hc : ∀ args w, (callFunc f args).run P w = .ok (.enter f args) w)
    (hk : M[k]? = some F) (hF : F.foot = []) (hf : CallT P f A [F] X) (ha : ArgsOk σ args.toList A) : Spec P σ M o X := by
  intro a w C K Q hs hm hk'
  have hft : feet [F] = [] := by simp [feet, hF]
  unfold Oper.wp
  rw [show (execOp a.eval o).run P w = .ok (.enter f (args.map a.eval)) w by
    simp [execOp, h, resolve, Deferred.ofValue, Act.eval, invoke, hc]]
  rw [Oper.upon_enter]
  refine (hf w C _ (by simpa using args_run hs ha) ⟨fun G hG => by rw [List.mem_singleton.1 hG]; exact hm.facts _ (List.mem_of_getElem? hk), by rw [hft]; simp, by rw [hft]; simp, hm.wf⟩).mono ?_
  rintro e w' ⟨i, v, C', rfl, he, hR, hM, hb⟩
  rw [hft] at he hb
  exact hk' i v w' C' he hM.wf hR ⟨hM.facts, hM.nodup, fun b hb' => ⟨(hb b hb').resolve_left (by simp), hM.own b hb'⟩⟩
end

/-- A package variable that is an array of numbers, as a ghost fact. -/
def MF.tab (P : Program) (n : String) (g : Nat) (k : IntKind) (zs : List Int) : MF where
  foot := []
  p w C := C g ∧ P.globalNamed n = some g ∧ Lib.TabIs P w n k zs
  loc hp _ h := ⟨(hp _ h.1).1, h.2.1, by
    have e := (hp _ h.1).2
    have := h.2.2
    unfold Lib.TabIs World.var? at this ⊢
    rw [h.2.1, Option.bind_some] at this ⊢
    rw [e]; exact this⟩
/-- A function of the library that leaves all as it was but for new blocks, with a string. -/
theorem call_grow {P : Program} {f : FuncId} {A : List Rp} {G : List MF} {l : List UInt8} (hll : l.length ≤ 9223372036854775807) (h : ∀ w C (args : Array Value), AllP A w C args.toList → MOk G w C → Calls P f args w fun e w' => e = .returned (.string ⟨l.toArray⟩) ∧ ∃ k os, w' = Go.Sort.grow (w.drewN k) os) :
    CallT P f A G (.one (Rp.str l)) := fun w C args hA hm => (h w C args hA hm).mono fun e w' ⟨he, k, os, hw⟩ => by
  subst hw
  have hsz : (Go.Sort.grow (w.drewN k) os).heap.size = w.heap.size + os.size := by simp [Go.Sort.grow, World.drewN]
  refine ⟨(), _, C, he, ⟨by omega, fun b hb _ => ?_, fun _ _ _ => Iff.rfl, rfl, rfl, rfl⟩, ⟨rfl, by simpa using hll⟩, ⟨by simp [RA.one], by simp [RA.one, feet], by simp [RA.one, feet], fun b hb => ?_⟩, by simp [RA.one, feet]⟩
  · exact Go.Sort.heap_grow_old (w.drewN k) os hb
  · have := hm.wf b hb; omega
end Go.Sim
/- Function values that need a ghost fact. -/
namespace Go.Sim
open Go
theorem spec_callFG {P : Program} {M : List MF} {o : Oper} {σ : Nat → Option Rp} {ι : Type} {A : ι → List Rp} {X : ι → RA} {k : Nat} {F : MF} (hk : M[k]? = some F) (hF : F.foot = []) (i : ι) {x : Operand} {args : Array Operand} {ts : Array TypeId} (h : o.op = .call ⟨.value x, args, ts⟩)
    (hx : Get σ x (Rp.fnM P A (fun _ => [F]) X)) (ha : ArgsOk σ args.toList (A i)) : Spec P σ M o (X i) := by
  intro a w C K Q hs hm hk'
  have hft : feet [F] = [] := by simp [feet, hF]
  obtain ⟨f, Rs, ⟨caps, hv, hcaps⟩, hc, hf⟩ := hx a w C hs
  unfold Oper.wp
  rw [run_callV h hv hc, Oper.upon_enter]
  refine (hf i w C _ (by simpa using (args_run hs ha).append hcaps) ⟨fun G hG => by rw [List.mem_singleton.1 hG]; exact hm.facts _ (List.mem_of_getElem? hk), by rw [hft]; simp, by rw [hft]; simp, hm.wf⟩).mono ?_
  rintro e w' ⟨j, v, C', rfl, he, hR, hM, hb⟩
  rw [hft] at he hb
  exact hk' j v w' C' he hM.wf hR ⟨hM.facts, hM.nodup, fun b hb' => ⟨(hb b hb').resolve_left (by simp), hM.own b hb'⟩⟩
end Go.Sim
/- Many owned facts as one: an own slice of own slices. -/
namespace Go.Sim
open Go
def MF.many (Ms : List MF) : MF where
  foot := feet Ms
  p w C := ∀ F ∈ Ms, F.p w C
  loc hp hf h F hF := F.loc hp (fun b hb => hf b (mem_feet.2 ⟨F, hF, hb⟩)) (h F hF)
theorem feet_cons (F : MF) (M : List MF) : feet (F :: M) = F.foot ++ feet M := by simp [feet]
section
variable {P : Program} {B : Base} {n : Nat} {S : List (Nat × Rp)} {M : List MF} {Q : Exit → Act → World → Prop} {ops : Array Oper} {rest : List Oper}
theorem St.swapM {M' : List MF} {a : Act} {w : World} {C : Nat → Prop} (hp : (feet M').Perm (feet M)) (hf : ∀ F ∈ M', F.p w C) (st : St B n S M a w C) : St B n S M' a w C :=
  ⟨st.size, st.defers, st.slots, ⟨hf, hp.nodup_iff.2 st.mem.nodup, fun b hb => st.mem.own b (hp.mem_iff.1 hb), st.mem.wf⟩, st.eff, fun b hb => st.since b (hp.mem_iff.1 hb)⟩
theorem St.focus {Ms R : List MF} {F : MF} {i : Nat} {a : Act} {w : World} {C : Nat → Prop} (hM : Pick M (MF.many Ms :: R)) (hi : Ms[i]? = some F) (st' : St B n S M a w C) : St B n S (F :: MF.many (Ms.eraseIdx i) :: R) a w C := by
  have st := st'.pick hM
  refine st.swapM ?_ fun G hG => ?_
  · rw [feet_cons, feet_cons, feet_cons, ← List.append_assoc]
    refine List.Perm.append_right _ ?_
    have := feet_perm (perm_eraseIdx Ms i F hi)
    rw [feet_cons] at this
    exact this.symm
  · have h0 := st.mem.facts _ (List.mem_cons_self)
    rcases List.mem_cons.1 hG with rfl | hG
    · exact h0 _ (List.mem_of_getElem? hi)
    rcases List.mem_cons.1 hG with rfl | hG
    · exact fun F' hF' => h0 F' (List.mem_of_mem_eraseIdx hF')
    · exact st.mem.facts G (List.mem_cons_of_mem _ hG)
theorem St.unfocus {Ms R : List MF} {F : MF} {i : Nat} {a : Act} {w : World} {C : Nat → Prop} (hM : Pick M (F :: MF.many (Ms.eraseIdx i) :: R)) (hi : i < Ms.length) (st' : St B n S M a w C) : St B n S (MF.many (Ms.set i F) :: R) a w C := by
  have st := st'.pick hM
  have he : (Ms.set i F).eraseIdx i = Ms.eraseIdx i := by
    apply List.ext_getElem?
    intro j
    rw [List.getElem?_eraseIdx, List.getElem?_eraseIdx]
    split
    · rw [List.getElem?_set_ne (by omega)]
    · rw [List.getElem?_set_ne (by omega)]
  have hp := perm_eraseIdx (Ms.set i F) i F (by simp [hi])
  rw [he] at hp
  refine st.swapM ?_ fun G hG => ?_
  · rw [feet_cons, feet_cons, feet_cons, ← List.append_assoc]
    refine List.Perm.append_right _ ?_
    have := feet_perm hp
    rwa [feet_cons] at this
  · rcases List.mem_cons.1 hG with rfl | hG
    · intro F' hF'
      rcases List.mem_cons.1 (hp.mem_iff.1 hF') with rfl | hF'
      · exact st.mem.facts _ (List.mem_cons_self)
      · exact st.mem.facts _ (List.mem_cons_of_mem _ List.mem_cons_self) F' hF'
    · exact st.mem.facts G (List.mem_cons_of_mem _ (List.mem_cons_of_mem _ hG))
theorem W.focus {c : Code} {Ms R : List MF} {F : MF} {i : Nat} (hM : Pick M (MF.many Ms :: R)) (hi : Ms[i]? = some F) (h : W P B n S (F :: MF.many (Ms.eraseIdx i) :: R) c Q) : W P B n S M c Q := fun a w C st => h a w C (st.focus hM hi)
theorem W.unfocus {c : Code} {Ms R : List MF} {F : MF} {i : Nat} (hM : Pick M (F :: MF.many (Ms.eraseIdx i) :: R)) (hi : i < Ms.length) (h : W P B n S (MF.many (Ms.set i F) :: R) c Q) : W P B n S M c Q := fun a w C st => h a w C (st.unfocus hM hi)
/-- Of nothing but nil slices. -/
theorem W.many {c : Code} {Ms : List MF} (hf : feet Ms = []) (h0 : ∀ w C, ∀ F ∈ Ms, F.p w C) (h : W P B n S (MF.many Ms :: M) c Q) : W P B n S M c Q := fun a w C st => h a w C (st.swapM (by rw [feet_cons]; simp [MF.many, hf]) (fun G hG => by
  rcases List.mem_cons.1 hG with rfl | hG
  · exact h0 w C
  · exact st.mem.facts G hG))
end
theorem osl_slice {α : Type} {v : Value} {T sz : Nat} {E : α → List Rp} {xs : List α} (hE : ∀ x, (E x).length = sz) {w : World} {C : Nat → Prop} (h : (MF.osl v T sz E xs).p w C) (hb : ∀ b, v.ownBlock = some b → C b) : (Rp.slice E xs).p w C v := by
  obtain ⟨cs, h1, h2, h3⟩ := h
  refine ⟨by omega, ?_⟩
  rcases h1.2 with ⟨hv0, hn0⟩ | ⟨g, cap, cur, hv1, _, hg, hlc, _, hcs, htk⟩
  · exact .inl ⟨hv0, List.eq_nil_of_length_eq_zero hn0⟩
  · refine .inr ⟨⟨g, 0, none⟩, cap, hv1, hlc, .inr ⟨rfl, hb g (by rw [hv1]; rfl), cur, T, (0, 0), hg, ?_⟩⟩
    simp only [List.drop_zero]
    rw [flatMap_len hE, htk]
    exact h2
def eV (v : Value) : List Rp := [Rp.val v]
def rowsM {α : Type} (T sz : Nat) (E : α → List Rp) (vs : List Value) (rs : List (List α)) : List MF := List.zipWith (fun v r => MF.osl v T sz E r) vs rs
theorem rowsM_set {α : Type} {T sz : Nat} {E : α → List Rp} {vs : List Value} {rs : List (List α)} {i : Nat} {v : Value} {r : List α} : (rowsM T sz E vs rs).set i (MF.osl v T sz E r) = rowsM T sz E (vs.set i v) (rs.set i r) := by
  unfold rowsM
  apply List.ext_getElem?
  intro j
  simp only [List.getElem?_set, List.getElem?_zipWith, List.length_zipWith]
  by_cases e : i = j
  · subst e
    simp only [if_true]
    by_cases h1 : i < vs.length <;> by_cases h2 : i < rs.length <;> simp [h1, h2] <;> omega
  · simp only [if_neg e]
theorem rowsM_get {α : Type} {T sz : Nat} {E : α → List Rp} {vs : List Value} {rs : List (List α)} {i : Nat} {v : Value} {r : List α} (h1 : vs[i]? = some v) (h2 : rs[i]? = some r) : (rowsM T sz E vs rs)[i]? = some (MF.osl v T sz E r) := by
  unfold rowsM; rw [List.getElem?_zipWith, h1, h2]
theorem vals_eq : ∀ {vs cs : List Value} {w : World} {C : Nat → Prop}, AllP (vs.flatMap eV) w C cs → cs = vs
  | [], [], _, _, _ => rfl
  | [], _ :: _, _, _, h => h.elim
  | v :: vs, [], _, _, h => h.elim
  | v :: vs, c :: cs, w, C, h => by
    have h' : (Rp.val v).p w C c ∧ AllP (vs.flatMap eV) w C cs := h
    rw [vals_eq h'.2, show c = v from h'.1]
theorem rows_all {α : Type} {T sz : Nat} {E : α → List Rp} (hE : ∀ x, (E x).length = sz) {w : World} {C : Nat → Prop} : ∀ {vs : List Value} {rs : List (List α)}, vs.length = rs.length → (∀ F ∈ rowsM T sz E vs rs, F.p w C) → (∀ b ∈ feet (rowsM T sz E vs rs), C b) → AllP (rs.flatMap fun r => [Rp.slice E r]) w C vs
  | [], [], _, _, _ => trivial
  | [], _ :: _, h, _, _ => by cases h
  | _ :: _, [], h, _, _ => by cases h
  | v :: vs, r :: rs, h, hf, hb => by
    have e : rowsM T sz E (v :: vs) (r :: rs) = MF.osl v T sz E r :: rowsM T sz E vs rs := rfl
    rw [e] at hf hb
    rw [feet_cons] at hb
    refine ⟨osl_slice hE (hf _ List.mem_cons_self) fun b hv => hb b (List.mem_append_left _ (by simp [MF.osl, hv])), ?_⟩
    exact rows_all hE (by simpa using h) (fun F hF => hf F (List.mem_cons_of_mem _ hF)) (fun b hb' => hb b (List.mem_append_right _ hb'))
/-- An own slice of own slices, published. -/
theorem rows_slice {α : Type} {v : Value} {T T' sz : Nat} {E : α → List Rp} {vs : List Value} {rs : List (List α)} (hE : ∀ x, (E x).length = sz) (hl : vs.length = rs.length) {w : World} {C : Nat → Prop} (hf : ∀ G ∈ [MF.osl v T' 1 eV vs, MF.many (rowsM T sz E vs rs)], G.p w C) (hb : ∀ b ∈ feet [MF.osl v T' 1 eV vs, MF.many (rowsM T sz E vs rs)], C b) : (Rp.slice (fun r => [Rp.slice E r]) rs).p w C v := by
  obtain ⟨cs, h1, h2, h3⟩ := hf _ List.mem_cons_self
  have hm := hf _ (List.mem_cons_of_mem _ List.mem_cons_self)
  obtain rfl := vals_eq h2.1
  have hall := rows_all hE hl hm (fun b hb' => hb b (by rw [feet_cons, feet_cons]; exact List.mem_append_right _ (List.mem_append_left _ hb')))
  have hfl : ∀ rs : List (List α), (rs.flatMap fun r => [Rp.slice E r]).length = rs.length := fun rs => by rw [flatMap_len (n := 1) (fun _ => rfl)]; omega
  have hfv : (cs.flatMap eV).length = cs.length := by rw [flatMap_len (n := 1) (fun _ => rfl)]; omega
  refine ⟨by omega, ?_⟩
  rcases h1.2 with ⟨hv0, hn0⟩ | ⟨g, cap, cur, hv1, _, hg, hlc, _, hcs, htk⟩
  · exact .inl ⟨hv0, List.eq_nil_of_length_eq_zero (by omega)⟩
  · refine .inr ⟨⟨g, 0, none⟩, cap, by rw [← hl]; exact hv1, by omega, .inr ⟨rfl, hb g (by rw [feet_cons]; exact List.mem_append_left _ (by simp [MF.osl, hv1, Value.ownBlock])), cur, T', (0, 0), hg, ?_⟩⟩
    simp only [List.drop_zero]
    rw [hfl, ← hl, show cs.length = cs.length * 1 by omega, htk]
    exact ⟨hall, h2.2⟩
end Go.Sim
namespace Go.Sim
open Go
/-- An element of an array as a value. -/
theorem spec_indexAI {P : Program} {M : List MF} {o : Oper} {σ : Nat → Option Rp} {T e n : Nat} {x ix : Operand} {Rs : List Rp} {R : Rp} {k : IntKind} {i : Int} (h : o.op = .index T x ix) (hu : P.underlying T = some (.array n e)) (hs : ∀ w, (sizeOf e).run P w = .ok 1 w) (ha : ∀ w, (isAgg e).run P w = .ok false w)
    (hx : Get σ x (Rp.agg Rs)) (hi : Get σ ix (Rp.int k i)) (hr : 0 ≤ i ∧ i < n) (hR : Rs[i.toNat]? = some R) : Spec P σ M o (.one R) :=
  Spec.of_run fun a w C hsl _ => by
    obtain ⟨cs, hv, hcs⟩ := get_rp hx hsl
    obtain ⟨v, hv', hR'⟩ := hcs.1.get _ hR
    refine ⟨v, ?_, hR'⟩
    simp [execOp, h, Instr.index, get_int hi hsl, asIntOf, run_underlying hu, hv, hr.1, hr.2, hs, part, ha, hv']
end Go.Sim
/- Calls that read a row of an own slice of own slices, or all of it. -/
namespace Go.Sim
open Go
theorem Lift.row {α : Type} {M Ms : List MF} {v : Value} {T sz : Nat} {E : α → List Rp} {xs : List α} (k i : Nat) (hk : M[k]? = some (MF.many Ms)) (hi : Ms[i]? = some (MF.osl v T sz E xs)) (hE : ∀ x, (E x).length = sz) : Lift M (Rp.val v) (Rp.slice E xs) := fun w C C' u hC hf hm hu => by
  rw [show u = v from hu]
  have hk' := List.mem_of_getElem? hk
  have hi' := List.mem_of_getElem? hi
  exact osl_read hE (fun b hb => ⟨hC b hb, rfl⟩) (fun b hb => hf b (mem_feet.2 ⟨_, hk', mem_feet.2 ⟨_, hi', by simp [MF.osl, hb]⟩⟩)) (hm _ hk' _ hi')
end Go.Sim
/- Values of recursive types; arguments whose sizes are known; slices of one element that are owned. -/
namespace Go.Sim
open Go.ChangeShapes Go.WideShapes Go.ChangeAt Go.RowKit
theorem Rp.ext' {R R' : Rp} (h : R.p = R'.p) : R = R' := by cases R; cases R'; cases h; rfl
/-- A slice of rows that are given one by one. -/
theorem slice_map {α : Type} (E : α → List Rp) (xs : List α) : Rp.slice (fun r : List Rp => r) (xs.map E) = Rp.slice E xs := Rp.ext' (by
  funext w C v
  simp only [Rp.slice, List.length_map, List.map_eq_nil_iff, List.flatMap_map])
theorem Spec.eq {P : Program} {σ : Nat → Option Rp} {M : List MF} {o : Oper} {R R' : Rp} (e : R = R') (h : Spec P σ M o (.one R)) : Spec P σ M o (.one R') := e ▸ h
theorem Get.eq {σ : Nat → Option Rp} {x : Operand} {R R' : Rp} (e : R = R') (h : Get σ x R) : Get σ x R' := e ▸ h
section
variable {P : Program} {σ : Nat → Option Rp} {M : List MF} {o : Oper}
theorem spec_buildSlice1O {α : Type} {T e sz bytes : Nat} {E : α → List Rp} {y : α} {x : Operand} {z : Value} {Zs : List Rp} (h : o.op = .buildSlice T 1 #[(0, x)]) (hu : P.underlying T = some (.slice e)) (hT : TI P e sz bytes z)
    (hz : ∀ w C, AllR Zs w C z.cells.toList) (hb : sz ≤ 16777216 ∧ Zs.length = sz ∧ 0 < sz) (hx : GetC σ x (E y)) (hE : ∀ x, (E x).length = sz) : Spec P σ M o (.own e sz E [y]) :=
  Spec.new (A := .own e sz E [y]) (fun r => .slice (some ⟨r, 0, none⟩) 1 1) fun a w C hs hm => by
    have hc := hx a w C hs
    have hl := hc.1.length
    rw [hE] at hl
    have hsz : (a.eval x).cells.size = sz := by rw [← Array.length_toList]; exact hl
    have hzl : z.cells.size = sz := by rw [← Array.length_toList, (hz w C).1.length, hb.2.1]
    refine ⟨.slice (some ⟨w.heap.size, 0, none⟩) 1 1, .cells (a.eval x).cells e, ?_, rfl, rfl, fun G hG => ?_⟩
    · have hfill : Instr.fill (fun i => some (i * sz, sz)) ((Array.range (1 * sz)).map (z.cells[· % z.cells.size]!)) [(0, a.eval x)] = some (a.eval x).cells := by
        have hf := fold_set 0 (a.eval x).cells.toList 0 ((Array.range (1 * sz)).map (z.cells[· % z.cells.size]!)) (by simp; omega)
        simp only [Instr.fill]
        rw [if_neg]
        · congr 1
          rw [← Array.toList_inj, ← Array.foldl_toList, Array.toList_zipIdx]
          have h0 : 0 * sz = 0 := by simp
          rw [h0, hf]
          simp
          omega
        · simp [hsz]
      have h0 : ¬ (1 * sz > 2 ^ 24) := by omega
      have h1 : ¬ (1 * sz = 0) := by omega
      simp only [execOp, h, Instr.buildSlice, Sem.run_bind, run_underlying hu, Result.andThen_ok, hT.size, h0, if_false, h1, hT.zero, Sem.run_pure]
      simp only [List.map_toArray, List.map_cons, List.map_nil, hfill]
      simp [newRow]
    · have : G = MF.osl (.slice (some ⟨w.heap.size, 0, none⟩) 1 1) e sz E [y] := by simpa [RA.own] using hG
      subst this
      refine ⟨(a.eval x).cells.toList, ⟨by rw [Array.length_toList, hsz]; simp, .inr ⟨w.heap.size, 1, (a.eval x).cells, rfl, Nat.zero_le _, new_at _ _, Nat.le_refl _, by simp [maxLen], by rw [hsz]; simp, ?_⟩⟩, ?_, by simp⟩
      · rw [List.take_of_length_le]; rw [Array.length_toList, hsz]; simp
      · simp only [List.flatMap_cons, List.flatMap_nil, List.append_nil]
        refine AllR.mono (fun b hb => ⟨hb, ?_⟩) hc
        exact (new_eff w C (.cells (a.eval x).cells e)).keep b (hm.wf b hb) (by simp)
end
section
variable {P : Program} {M : List MF} {o : Oper} {σ : Nat → Option Rp}
theorem spec_is {k : IntKind} {e e' : Int} (h : e = e') (hs : Spec P σ M o (.one (Rp.int k e))) : Spec P σ M o (.one (Rp.int k e')) := h ▸ hs
theorem str_is {l l' : List UInt8} (h : l = l') (hs : Spec P σ M o (.one (Rp.str l))) : Spec P σ M o (.one (Rp.str l')) := h ▸ hs
theorem spec_dig {T T' : TypeId} {x : Operand} {e : Int} (m : Nat) (h : o.op = .convert T T' x) (hT : ∃ d, P.underlying T = some d) (hu : P.underlying T' = some (.int .u8)) (hx : Get σ x (Rp.int .i64 e)) (he : e = 48 + m) :
    Spec P σ M o (.one (Rp.int .u8 ((UInt8.ofNat (48 + m)).toNat : Int))) := by
  have := spec_conv (P := P) (M := M) h hu hT hx
  rw [show IntKind.u8.wrap e = ((UInt8.ofNat (48 + m)).toNat : Int) by
    rw [he, UInt8.toNat_ofNat', IntKind.wrap]
    simp only [IntKind.bits, IntKind.signed]
    simp] at this
  exact this
end
/-! Arguments with their sizes. -/
def OpensS (P : Program) (t : TypeId) (N : Nat) {α : Type} (R : α → List Rp) (Q : α → Prop) : Prop :=
  ∀ {H : Type} (enc : TypeId × Value → H) (w : World) (fuel : Nat) (cs : List Value) (x : DataW H × List MemPlace), fuel ≤ N →
    DataW.trod enc P w 0 (fun _ => true) true fuel t cs = some x → (∀ m ∈ x.1.weights P t, m ≤ reachBytes) → ∃ a, AllR (R a) w (old w) cs ∧ Q a
section
variable {P : Program} {t : TypeId} {N : Nat}
theorem OpensS.of {α : Type} {R : α → List Rp} (h : Opens P t R) : OpensS P t N R (fun _ => True) := by
  intro H enc w fuel cs x _ hx _
  obtain ⟨a, ha⟩ := h enc w fuel cs x hx
  exact ⟨a, ha, trivial⟩
theorem weightsAll_in {H : Type} {e : TypeId} {m : Nat} {d : DataW H} : ∀ {l : List (DataW H)}, d ∈ l → m ∈ DataW.weights P e d → m ∈ DataW.weightsAll P e l
  | y :: r, h, hx => by
    simp only [DataW.weightsAll]
    rcases List.mem_cons.1 h with rfl | h
    · exact List.mem_append_left _ hx
    · exact List.mem_append_right _ (weightsAll_in h hx)
theorem OpensS.slice {α : Type} {e : TypeId} {E : α → List Rp} {c b : Nat} {Q : α → Prop} (ht : P.underlying t = some (.slice e)) (hc : P.cellsOf e = c) (hby : P.bytesOf e = b) (hpos : 0 < c) (hE : ∀ x, (E x).length = c) (he : ∀ n, n + 1 ≤ N → OpensS P e n E Q) :
    OpensS P t N (fun l : List α => [Rp.slice E l]) (fun l => l.length * b ≤ reachBytes ∧ ∀ a ∈ l, Q a) := by
  intro H enc w fuel cs x hN h hwt
  rcases DataW.trod_slice ht h with ⟨rfl, _⟩ | ⟨a, len, cap, elems, rest, n, rfl, rfl, rfl, _, hl, hm, hlen, hel, _, _⟩
  · exact ⟨[], ⟨⟨⟨by simp, .inl ⟨rfl, rfl⟩⟩, trivial⟩, by simp [Value.oneCell']⟩, by simp, fun a h => by cases h⟩
  rw [hc] at hel
  have hw1 : (elems.length + rest.length) * b ≤ reachBytes := hwt _ (by
    simp only [DataW.weights, ht, List.length_map, hby]
    exact List.mem_cons_self)
  have hgo : ∀ i, i < len → ∃ y, (∃ cs', w.cells? 0 (a.add (i * c)) c = some cs' ∧ AllR (E y) w (old w) cs') ∧ Q y := fun i hi => by
    have hi' : i < elems.length := by omega
    have key := hel i hi
    rw [List.getElem?_eq_getElem hi'] at key
    obtain ⟨cs', h1, h2⟩ := Option.bind_eq_some_iff.1 key
    obtain ⟨y, hy, hq⟩ := he n (by omega) enc w n cs' _ (Nat.le_refl _) h2 (fun m hm' => hwt m (by
      simp only [DataW.weights, ht]
      exact List.mem_cons_of_mem _ (List.mem_append_left _ (weightsAll_in (List.mem_map.2 ⟨elems[i], List.getElem_mem hi', rfl⟩) hm'))))
    exact ⟨y, ⟨cs', h1, hy⟩, hq⟩
  obtain ⟨l, hll, hp'⟩ := choose_list len hgo
  have hp : ∀ (i : Nat) (a_1 : α), l[i]? = some a_1 → ∃ cs', w.cells? 0 (a.add (i * c)) c = some cs' ∧ AllR (E a_1) w (old w) cs' := fun i y hy => (hp' i y hy).1
  refine ⟨l, ⟨⟨⟨by rw [hll]; simp [maxLen] at hm; omega, .inr ⟨a, cap, by rw [hll], by omega, ?_⟩⟩, trivial⟩, by simp [Value.oneCell']⟩, ?_, fun y hy => ?_⟩
  · rcases l with _ | ⟨y0, l'⟩
    · exact .inl rfl
    refine .inr ?_
    obtain ⟨cs0, h1, h2⟩ := hp 0 y0 rfl
    have hadd0 : a.add (0 * c) = a := by simp [Addr.add]
    rw [hadd0] at h1
    obtain ⟨hsp, hb, cells, T, fr, hh, _, _⟩ := allR_cells h1 h2 hpos
    refine ⟨hsp, hb, cells, T, fr, hh, ?_⟩
    rw [flatMap_len hE]
    have hpiece : ∀ i y, (y0 :: l')[i]? = some y → a.off + i * c + c ≤ cells.size ∧ ∃ cs', (cells.toList.drop (a.off + i * c)).take c = cs' ∧ AllR (E y) w (old w) cs' := fun i y hy => by
      obtain ⟨cs', h3, h4⟩ := hp i y hy
      have hadd : a.add (i * c) = ⟨a.block, a.off + i * c, none⟩ := by unfold Addr.add; split <;> (cases a; simp_all)
      rw [hadd] at h3
      obtain ⟨_, _, cells2, T2, fr2, hh2, hle, htk⟩ := allR_cells h3 h4 hpos
      simp only at hh2 hle htk
      rw [hh] at hh2
      obtain ⟨rfl, rfl, rfl⟩ : cells = cells2 ∧ T = T2 ∧ fr = fr2 := by cases hh2; exact ⟨rfl, rfl, rfl⟩
      exact ⟨hle, cs', htk, h4⟩
    refine allR_pieces hE _ _ ?_ ?_
    · have hlast := (hpiece ((y0 :: l').length - 1) ((y0 :: l')[(y0 :: l').length - 1]'(by simp)) (List.getElem?_eq_getElem _)).1
      have : ((y0 :: l').length - 1) * c + c = (y0 :: l').length * c := by
        rw [← Nat.succ_mul]; simp
      have hcl : cells.toList.length = cells.size := Array.length_toList
      rw [List.length_take, List.length_drop]
      omega
    · intro i y hy
      obtain ⟨_, cs', htk, h4⟩ := hpiece i y hy
      have hi : i < (y0 :: l').length := (List.getElem?_eq_some_iff.1 hy).1
      rw [List.drop_take, List.take_take, List.drop_drop]
      have : min c ((y0 :: l').length * c - i * c) = c := by
        have : (i + 1) * c ≤ (y0 :: l').length * c := Nat.mul_le_mul_right _ hi
        rw [Nat.add_mul] at this
        omega
      rw [this, htk]
      exact h4
  · rw [hll, ← hlen]
    exact Nat.le_trans (Nat.mul_le_mul_right b (Nat.le_add_right _ _)) hw1
  · obtain ⟨i, hi, rfl⟩ := List.getElem_of_mem hy
    exact (hp' i _ (List.getElem?_eq_getElem hi)).2
/-- The fields of a struct, with their sizes. -/
inductive FldsS (P : Program) (N : Nat) : List Field → Nat → {α : Type} → (α → List Rp) → (α → Prop) → Prop
  | nil {k : Nat} : FldsS P N [] k (fun _ : Unit => []) (fun _ => True)
  | cons {f : Field} {fs : List Field} {k c : Nat} {α β : Type} {R : α → List Rp} {Rs : β → List Rp} {Q : α → Prop} {Qs : β → Prop} (ho : f.offset = k) (hc : P.cellsOf f.type = c) (h : OpensS P f.type N R Q) (hs : FldsS P N fs (k + c) Rs Qs) :
      FldsS P N (f :: fs) k (fun g : α × β => R g.1 ++ Rs g.2) (fun g => Q g.1 ∧ Qs g.2)
theorem FldsS.opens {H : Type} {enc : TypeId × Value → H} {w : World} {n : Nat} (hn : n ≤ N) {cs : List Value} {fs : List Field} {k : Nat} {α : Type} {R : α → List Rp} {Q : α → Prop} (h : FldsS P N fs k R Q) :
    (∀ (i : Nat) (f : Field), fs[i]? = some f → ∃ x, DataW.trod enc P w 0 (fun _ => true) true n f.type ((cs.drop f.offset).take (P.cellsOf f.type)) = some x ∧ ∀ m ∈ x.1.weights P f.type, m ≤ reachBytes) → cs.length = k + (fs.map fun f => P.cellsOf f.type).sum →
    ∃ a, AllR (R a) w (old w) (cs.drop k) ∧ Q a := by
  induction h with
  | nil =>
    intro _ hl
    refine ⟨(), ?_, trivial⟩
    rw [List.drop_of_length_le (by simp at hl; omega)]
    exact ⟨trivial, by simp⟩
  | cons ho hc h hs ih =>
    intro hx hl
    obtain ⟨x, h0, hw0⟩ := hx 0 _ rfl
    obtain ⟨a, ha, hq⟩ := h enc w n _ x hn h0 hw0
    obtain ⟨b, hb, hqs⟩ := ih (fun i f' hf => hx (i + 1) f' (by simpa using hf)) (by rw [hl, List.map_cons, List.sum_cons, hc]; omega)
    refine ⟨(a, b), ?_, hq, hqs⟩
    rw [ho, hc] at ha
    have := ha.append hb
    rw [← List.drop_drop, List.take_append_drop] at this
    exact this
theorem OpensS.struct {α : Type} {R : α → List Rp} {Q : α → Prop} {fs : Array Field} {l : List Field} (ht : P.underlying t = some (.struct fs)) (hl : fs.toList = l) (hf : FldsS P N l 0 R Q) (hc : P.cellsOf t = (l.map fun f => P.cellsOf f.type).sum) : OpensS P t N R Q := by
  intro H enc w fuel cs x hN h hwt
  obtain ⟨xs, n, rfl, rfl, hlen, hxl, hx⟩ := DataW.trod_struct ht h
  have := hf.opens (enc := enc) (w := w) (n := n) (by omega) (cs := cs) (fun i f hi => by
    have hfi : fs[i]? = some f := by rw [← hl] at hi; simpa using hi
    have hlt : i < xs.length := by rw [hxl]; exact (Array.getElem?_eq_some_iff.1 hfi).1
    refine ⟨xs[i], by rw [hx i f hfi, List.getElem?_eq_getElem hlt], fun m hm => hwt m ?_⟩
    simp only [DataW.weights, ht]
    exact DataW.weights_mem_each (j := i) (t := f.type) (d := xs[i].1) (by rw [hl]; simp [hi]) (by simp [hlt]) m hm) (by rw [hlen, hc]; omega)
  simpa using this
theorem OpensS.map {α β : Type} {R : α → List Rp} {Q : α → Prop} {T : β → List Rp} {Q' : β → Prop} (h : OpensS P t N R Q) (hg : ∀ a, Q a → ∃ b, T b = R a ∧ Q' b) : OpensS P t N T Q' := by
  intro H enc w fuel cs x hN hx hwt
  obtain ⟨a, ha, hq⟩ := h enc w fuel cs x hN hx hwt
  obtain ⟨b, hb, hq'⟩ := hg a hq
  exact ⟨b, hb ▸ ha, hq'⟩
/-- An argument of the type. -/
def OpensVS (P : Program) (t : TypeId) {α : Type} (R : α → Rp) (Q : α → Prop) : Prop :=
  ∀ {H : Type} (enc : TypeId × Value → H) (w : World) (b : Nat) (v : Value) (d : DataW H) (ps : List MemPlace), Value.okWide P w .any b t v → DataW.Trod enc P w 0 (fun _ => true) true t v d ps → (∀ m ∈ d.weights P t, m ≤ reachBytes) → ∃ a, (R a).p w (old w) v ∧ Q a
theorem OpensVS.one {α : Type} {R : α → Rp} {Q : α → Prop} (h : ∀ N, OpensS P t N (fun a => [R a]) Q) (hv : ∀ w b v, Value.okWide P w .any b t v → v.cells = #[v]) : OpensVS P t R Q := by
  intro H enc w b v d ps hok ⟨n, hn⟩ hwt
  obtain ⟨a, ha, hq⟩ := h n enc w n _ _ (Nat.le_refl _) hn hwt
  rw [hv w b v hok] at ha
  exact ⟨a, ha.1.1, hq⟩
theorem OpensVS.agg {α : Type} {R : α → List Rp} {Q : α → Prop} (h : ∀ N, OpensS P t N R Q) (hv : ∀ w b v, Value.okWide P w .any b t v → ∃ cs, v = .agg cs) : OpensVS P t (fun a => Rp.agg (R a)) Q := by
  intro H enc w b v d ps hok ⟨n, hn⟩ hwt
  obtain ⟨a, ha, hq⟩ := h n enc w n _ _ (Nat.le_refl _) hn hwt
  obtain ⟨cs, rfl⟩ := hv w b v hok
  exact ⟨a, ⟨cs.toList, by simp, by simpa [Value.cells] using ha⟩, hq⟩
def OpensAS (P : Program) (ts : List TypeId) {κ : Type} (A : κ → List Rp) (Q : κ → Prop) : Prop :=
  ∀ {H : Type} (enc : TypeId × Value → H) (w : World) (b : Nat) (vs : List Value) (ds : List (DataW H)) (ps : List MemPlace), (∀ (j : Nat) t v, ts[j]? = some t → vs[j]? = some v → Value.okWide P w .any b t v) → DataW.TrodAll enc P w 0 (fun _ => true) true ts vs ds ps →
    (∀ m ∈ DataW.weightsEach P ts ds, m ≤ reachBytes) → ds.length = ts.length ∧ ∃ k, AllP (A k) w (old w) vs ∧ Q k
theorem OpensAS.nil : OpensAS P [] (fun _ : Unit => []) (fun _ => True) := by
  intro H enc w b vs ds ps _ h _
  obtain ⟨rfl, rfl, rfl⟩ := trodAll_nil h
  exact ⟨rfl, (), trivial, trivial⟩
theorem OpensAS.cons {α κ : Type} {ts : List TypeId} {R : α → Rp} {A : κ → List Rp} {Q : α → Prop} {Qs : κ → Prop} (h : OpensVS P t R Q) (hs : OpensAS P ts A Qs) : OpensAS P (t :: ts) (fun k : α × κ => R k.1 :: A k.2) (fun k => Q k.1 ∧ Qs k.2) := by
  intro H enc w bs vs ds ps hok h0 hwt
  obtain ⟨v, vs, d, ds, a, b, rfl, rfl, rfl, h1, h2⟩ := trodAll_cons h0
  simp only [DataW.weightsEach] at hwt
  obtain ⟨x, hx, hq⟩ := h enc w bs v d a (hok 0 t v rfl rfl) h1 (fun m hm => hwt m (List.mem_append_left _ hm))
  obtain ⟨hl, k, hk, hqs⟩ := hs enc w bs vs ds b (fun j t' v' ht hv => hok (j + 1) t' v' (by simpa using ht) (by simpa using hv)) h2 (fun m hm => hwt m (List.mem_append_right _ hm))
  exact ⟨by simp [hl], ⟨x, k⟩, ⟨hx, hk⟩, hq, hqs⟩
end
theorem weightsEach_left {H : Type} {P : Program} {m : Nat} : ∀ {ts us : List TypeId} {ds gs : List (DataW H)}, ds.length = ts.length → m ∈ DataW.weightsEach P ts ds → m ∈ DataW.weightsEach P (ts ++ us) (ds ++ gs)
  | [], _, [], _, _, h => by simp [DataW.weightsEach] at h
  | t :: ts, us, d :: ds, gs, hl, h => by
    simp only [DataW.weightsEach, List.cons_append] at h ⊢
    rcases List.mem_append.1 h with h | h
    · exact List.mem_append_left _ h
    · exact List.mem_append_right _ (weightsEach_left (by simpa using hl) h)
  | [], _, _ :: _, _, hl, _ => by simp at hl
  | _ :: _, _, [], _, hl, _ => by simp at hl
/-- THE STATEMENT'S OWN END, where the arguments' sizes count. -/
theorem law_postS {P : Program} {G : List MF} {f : FuncId} {fn : Func} {s : ChangeSpec} {us : List TypeId} {tb : TypeId} {κ : Type} {A : κ → List Rp} {Q : κ → Prop} (hlaid : laidOutB P = true) (hts' : (fn.params.toList.all fun t => P.readableRec t && decide (t < P.types.size)) = true)
    (hr : fn.resultTypes = #[tb]) (htb : P.underlying tb = some .bool) (hvars : s.vars = []) (hspec : ∀ (H : Type) (ds : List (DataW H)), ds.length = fn.params.toList.length → s.fn H ds = { results := [.lit (.bool true)], args := ds })
    (hopen : OpensAS P fn.params.toList A Q) (hG0 : feet G = [])
    {H : Type} {enc : TypeId × Value → H} {W : World} {args : Array Value} {ds gs : List (DataW H)} {before : List MemPlace} {base : Nat}
    (hlaw : ∀ k, Q k → CallT P f (A k) G (.one (Rp.bool true))) (hG : ∀ F ∈ G, F.p W (old W))
    (hval : ∀ (j : Nat) t v, fn.params[j]? = some t → args[j]? = some v → Value.okWide P W .any base t v)
    (hz : (DataW.weightsEach P (fn.params.toList ++ us) (ds ++ gs)).all (· ≤ reachBytes) = true)
    (hW : DataW.Whole enc P fn.params.toList s.vars false W args.toList ds gs before) :
    Calls P f args W fun e W' => ∃ v, e = .returned v ∧ s.post enc P fn false true false false W args v W' := by
  have hts : ∀ t ∈ fn.params.toList, P.readableRec t = true ∧ t < P.types.size := fun t ht => by
    have := List.all_eq_true.1 hts' t ht
    simpa using this
  have hW' := hW
  obtain ⟨p, q, hA, hV, rfl, hfz, _⟩ := hW
  rw [hvars] at hV
  obtain ⟨rfl, rfl⟩ := trodVars_none hV
  have hlen : ds.length = fn.params.toList.length := by
    have key : ∀ {ts : List TypeId} {vs : List Value} {ds : List (DataW H)} {ps : List MemPlace}, DataW.TrodAll enc P W 0 (fun _ => true) true ts vs ds ps → ds.length = ts.length := by
      intro ts
      induction ts with
      | nil => intro vs ds ps h; obtain ⟨rfl, rfl, rfl⟩ := trodAll_nil h; rfl
      | cons t ts ih => intro vs ds ps h; obtain ⟨v, vs, d, ds, a, b, rfl, rfl, rfl, h1, h2⟩ := trodAll_cons h; simp [ih h2]
    exact key hA
  obtain ⟨hdl, k, hk, hq⟩ := hopen enc W base args.toList ds p (fun j t v ht hv => hval j t v (by simpa using ht) (by simpa using hv)) hA
    (fun m hm => by simpa using List.all_eq_true.1 hz m (weightsEach_left hlen hm))
  refine (hlaw k hq W (old W) args hk ⟨hG, by rw [hG0]; simp, by rw [hG0]; simp, fun b hb => hb⟩).mono fun e W' ⟨i, v, C', he, heff, hv, _, _⟩ => ?_
  obtain rfl : v = .bool true := hv
  have hb : RowKit.Below W.heap.size W W' := ⟨heff.os, heff.tape, heff.output, heff.size, fun b hb => heff.keep b hb (by rw [hG0]; simp)⟩
  have hlt : ∀ x ∈ p, x.block < W.heap.size := fun x hx => hW'.lt x (by simp [hx])
  simp only [List.append_nil] at hW'
  refine ⟨_, he, ds, [], p, [], p, [], hW', ?_, ?_, ?_, hb.frame _, fun h => by cases h⟩
  · rw [List.append_nil, hspec H ds hdl, hr]
    exact ⟨[], [], ⟨1, by simp [DataW.trod, htb, Value.cells]⟩, rfl, rfl⟩
  · rw [List.append_nil, hspec H ds hdl]
    exact trodAll_grown hlaid (fun x hx => hb.same hx) hts hA hlt (fun x hx => by simpa using hlt x hx)
  · rw [List.append_nil, hspec H ds hdl, hvars]
    exact rfl
end Go.Sim
/- A region whose order is open, with one change of which some operations of the head are free: they may come behind it. -/
namespace Go.Sim

def flags (m : Nat) (l : List Oper) : List Bool := (List.range m).map fun j => !((masks l []).getD m 0).testBit j
def anyB1 (m : Nat) (l : List Oper) : Bool :=
  let ms := masks l []
  let ops := l.toArray
  decide (m < l.length) &&
  l.zipIdx.all (fun x => x.1.after.toList.all fun e => !Region.binds .any e || decide (e.on < x.2)) &&
  (List.range m).all (fun k => (List.range m).all fun j => j == k || pairOk ops ms k j) &&
  (List.range l.length).all (fun t => decide (t ≤ m) || (List.range t).all fun j => (ms.getD t 0).testBit j)

inductive Head1 (P : Program) (n : Nat) (ops : Array Oper) (M Mf : List MF) : List Oper → List (Nat × Rp) → List HE → List Bool → Prop
  | nil {S : List (Nat × Rp)} : Head1 P n ops M Mf [] S [] []
  | one {o : Oper} {rest : List Oper} {S : List (Nat × Rp)} {R : Rp} {d : Nat} {Hs : List HE} {bs : List Bool} (hd : o.dst = some d) (hlt : Nat.blt d n = true) (hs : GSpec P ops (res (names ops o) S) M o (.one R))
      (h : Head1 P n ops M Mf rest ((d, R) :: S) Hs bs) : Head1 P n ops M Mf (o :: rest) S (⟨some d, .one R, R, fun _ _ _ _ h => h⟩ :: Hs) (false :: bs)
  | flo {o : Oper} {rest : List Oper} {S : List (Nat × Rp)} {R : Rp} {d : Nat} {Hs : List HE} {bs : List Bool} (hd : o.dst = some d) (hlt : Nat.blt d n = true) (hs : GSpec P ops (res (names ops o) S) Mf o (.one R))
      (h : Head1 P n ops M Mf rest ((d, R) :: S) Hs bs) : Head1 P n ops M Mf (o :: rest) S (⟨some d, .one R, R, fun _ _ _ _ h => h⟩ :: Hs) (true :: bs)
  | sink {o : Oper} {rest : List Oper} {S : List (Nat × Rp)} {A : RA} {d : Nat} {Hs : List HE} {bs : List Bool} (hd : o.dst = some d) (hlt : Nat.blt d n = true) (hs : GSpec P ops (res (names ops o) S) M o A)
      (h : Head1 P n ops M Mf rest ((d, Rp.any) :: S) Hs bs) : Head1 P n ops M Mf (o :: rest) S (⟨some d, A, Rp.any, fun _ _ _ _ _ => trivial⟩ :: Hs) (false :: bs)

/-- What is known behind the head: the free ones' facts apart. -/
def Fin1 (K : List (Nat × Rp) → List MF → List (Nat × Rp) → Prop) : List HE → List Bool → List (Nat × Rp) → List MF → List (Nat × Rp) → Prop
  | h :: hs, true :: bs, S, M, F => Fin1 K hs bs S M (putS h.dst h.T F)
  | h :: hs, false :: bs, S, M, F => ∀ i, Fin1 K hs bs (putS h.dst (h.A.R i) S) (h.A.F i ++ M) F
  | _, _, S, M, F => K S M F
theorem Fin1.one {K} {S : List (Nat × Rp)} {M : List MF} {F : List (Nat × Rp)} {d : Nat} {R : Rp} {le} {Hs : List HE} {bs : List Bool} (h : Fin1 K Hs bs ((d, R) :: S) M F) : Fin1 K (⟨some d, .one R, R, le⟩ :: Hs) (false :: bs) S M F := fun _ => h
theorem Fin1.flo {K} {S : List (Nat × Rp)} {M : List MF} {F : List (Nat × Rp)} {d : Nat} {R : Rp} {le} {Hs : List HE} {bs : List Bool} (h : Fin1 K Hs bs S M ((d, R) :: F)) : Fin1 K (⟨some d, .one R, R, le⟩ :: Hs) (true :: bs) S M F := h
theorem Fin1.sink {K} {S : List (Nat × Rp)} {M : List MF} {F : List (Nat × Rp)} {d : Nat} {A : RA} {T : Rp} {le} {Hs : List HE} {bs : List Bool} (h : ∀ i, Fin1 K Hs bs ((d, A.R i) :: S) (A.F i ++ M) F) : Fin1 K (⟨some d, A, T, le⟩ :: Hs) (false :: bs) S M F := h
theorem Fin1.nil {K} {S : List (Nat × Rp)} {M : List MF} {F : List (Nat × Rp)} (h : K S M F) : Fin1 K [] [] S M F := h

section
variable {P : Program} {B : Base} {n : Nat} {S : List (Nat × Rp)} {M Mf : List MF} {Q : Exit → Act → World → Prop}

theorem look_append {t : Nat} : ∀ (A C : List (Nat × Rp)), look t (A ++ C) = (look t A).or (look t C)
  | [], C => by simp [look]
  | (d, R) :: A, C => by
    by_cases h : d = t
    · subst h; rw [List.cons_append, look_cons_eq, look_cons_eq]; rfl
    · rw [List.cons_append, look_cons_ne h, look_cons_ne h, look_append A C]

theorem Sub.push {d : Nat} {R : Rp} (h : look d S = none) : Sub ((d, R) :: S) S := fun t R' h' => by
  by_cases e : d = t
  · subst e; rw [h] at h'; cases h'
  · exact ⟨R', by rw [look_cons_ne e]; exact h', fun _ _ _ h => h⟩
/-- Behind the change: the free ones that are left, then the rest. -/
def Aft (P : Program) (B : Base) (n : Nat) (ops : Array Oper) (Mf : List MF) (S₀ F X : List (Nat × Rp)) (rest : List Oper) (Q : Exit → Act → World → Prop) (e : Exit) (a : Act) (w : World) : Prop :=
  e = .normal ∧ ∃ S₁ M₁ C, St B n (S₁ ++ X) M₁ a w C ∧ Sub S₁ S₀ ∧ Pick M₁ Mf ∧ (∀ d R, look d F = some R → look d S₁ = none) ∧ L P B n (S₁ ++ F) M₁ ops rest Q
theorem Aft.next {ops : Array Oper} {S₀ F X : List (Nat × Rp)} {rest : List Oper} (S₁ : List (Nat × Rp)) {M₁ : List MF} (hs : Sub S₁ S₀) (hp : Pick M₁ Mf) (hf : (F.all fun x => (look x.1 S₁).isNone) = true) (h : L P B n (S₁ ++ F) M₁ ops rest Q) :
    N B n (S₁ ++ X) M₁ .normal (Aft P B n ops Mf S₀ F X rest Q) := fun a w C st => ⟨rfl, S₁, M₁, C, st, hs, hp, fun d R hd => by
  have hmem : ∀ (F : List (Nat × Rp)), look d F = some R → ∃ x ∈ F, x.1 = d := by
    intro F
    induction F with
    | nil => intro h; simp [look] at h
    | cons y F ih =>
      intro h
      by_cases hy : y.1 = d
      · exact ⟨y, by simp, hy⟩
      · obtain ⟨d', R'⟩ := y
        rw [look_cons_ne hy] at h
        obtain ⟨x, hx, h2⟩ := ih h
        exact ⟨x, by simp [hx], h2⟩
  obtain ⟨x, hx, rfl⟩ := hmem F hd
  simpa using List.all_eq_true.1 hf x hx, h⟩

/-- The contexts of those that are not free; the facts of the free ones; of those of them that are done. -/
def ctxN (S : List (Nat × Rp)) (H : Nat → HE) (fl : Nat → Bool) (s : Sel H) : Nat → List (Nat × Rp)
  | 0 => S
  | k + 1 => if fl k then ctxN S H fl s k else match s k with
    | some i => putS (H k).dst ((H k).A.R i) (ctxN S H fl s k)
    | none => ctxN S H fl s k
def ctxF (H : Nat → HE) (fl : Nat → Bool) : Nat → List (Nat × Rp)
  | 0 => []
  | k + 1 => if fl k then putS (H k).dst (H k).T (ctxF H fl k) else ctxF H fl k
def ctxX (H : Nat → HE) (fl : Nat → Bool) (s : Sel H) : Nat → List (Nat × Rp)
  | 0 => []
  | k + 1 => if fl k then (match s k with
    | some _ => putS (H k).dst (H k).T (ctxX H fl s k)
    | none => ctxX H fl s k) else ctxX H fl s k

theorem ctxN_congr {H : Nat → HE} {fl : Nat → Bool} {s s' : Sel H} : ∀ m, (∀ j, j < m → fl j = false → s j = s' j) → ctxN S H fl s m = ctxN S H fl s' m
  | 0, _ => rfl
  | m + 1, h => by
    simp only [ctxN]
    cases hf : fl m with
    | true => simp only [if_true]; exact ctxN_congr m fun j hj => h j (by omega)
    | false => simp only [Bool.false_eq_true, if_false]; rw [h m (by omega) hf, ctxN_congr m fun j hj => h j (by omega)]
theorem ctxX_full {H : Nat → HE} {fl : Nat → Bool} {s : Sel H} : ∀ m, (∀ j, j < m → fl j = true → s j ≠ none) → ctxX H fl s m = ctxF H fl m
  | 0, _ => rfl
  | m + 1, h => by
    simp only [ctxX, ctxF]
    cases hf : fl m with
    | true =>
      simp only [if_true]
      cases hs : s m with
      | none => exact absurd hs (h m (by omega) hf)
      | some i => simp only; rw [ctxX_full m fun j hj => h j (by omega)]
    | false => simp only [Bool.false_eq_true, if_false]; exact ctxX_full m fun j hj => h j (by omega)

/-- Nobody else writes what a free one writes. -/
structure Free (S : List (Nat × Rp)) (H : Nat → HE) (fl : Nat → Bool) (m : Nat) : Prop where
  one : ∀ k, k < m → fl k = true → ∀ i, (H k).A.R i = (H k).T ∧ (H k).A.F i = []
  sole : ∀ k j t, k < m → j < m → fl k = true → j ≠ k → (H k).dst = some t → (H j).dst ≠ some t
  fresh : ∀ k t, k < m → fl k = true → (H k).dst = some t → look t S = none

theorem look_ctxN_free {H : Nat → HE} {fl : Nat → Bool} {s : Sel H} {m : Nat} (hf : Free S H fl m) {k t : Nat} (hk : k < m) (hfl : fl k = true) (hd : (H k).dst = some t) : ∀ n, n ≤ m → look t (ctxN S H fl s n) = none
  | 0, _ => hf.fresh k t hk hfl hd
  | n + 1, hn => by
    have ih := look_ctxN_free (s := s) hf hk hfl hd n (by omega)
    simp only [ctxN]
    cases h : fl n with
    | true => simp only [if_true]; exact ih
    | false =>
      simp only [Bool.false_eq_true, if_false]
      cases s n with
      | none => exact ih
      | some i =>
        simp only
        rw [look_putS_ne (hf.sole k n t hk (by omega) hfl (fun e => by subst e; rw [hfl] at h; cases h) hd)]; exact ih
theorem look_ctxX {H : Nat → HE} {fl : Nat → Bool} {s : Sel H} {t : Nat} {R : Rp} : ∀ m, look t (ctxX H fl s m) = some R → ∃ k, k < m ∧ fl k = true ∧ (H k).dst = some t ∧ s k ≠ none ∧ R = (H k).T
  | 0, h => by simp [ctxX, look] at h
  | m + 1, h => by
    simp only [ctxX] at h
    have ih : look t (ctxX H fl s m) = some R → _ := look_ctxX m
    cases hfl : fl m with
    | false => rw [hfl] at h; simp only [Bool.false_eq_true, if_false] at h; obtain ⟨k, h1, h2⟩ := ih h; exact ⟨k, by omega, h2⟩
    | true =>
      rw [hfl] at h; simp only [if_true] at h
      cases hs : s m with
      | none => rw [hs] at h; obtain ⟨k, h1, h2⟩ := ih h; exact ⟨k, by omega, h2⟩
      | some i =>
        rw [hs] at h; simp only at h
        by_cases hd : (H m).dst = some t
        · simp only [hd, putS, look_cons_eq, Option.some.injEq] at h
          exact ⟨m, by omega, hfl, hd, by rw [hs]; simp, h.symm⟩
        · rw [look_putS_ne hd] at h; obtain ⟨k, h1, h2⟩ := ih h; exact ⟨k, by omega, h2⟩
theorem look_ctxX_of {H : Nat → HE} {fl : Nat → Bool} {s : Sel H} {m : Nat} (hf : Free S H fl m) {k t : Nat} (hk : k < m) (hfl : fl k = true) (hd : (H k).dst = some t) (hs : s k ≠ none) : ∀ n, n ≤ m → k < n → look t (ctxX H fl s n) = some (H k).T
  | 0, _, h => by omega
  | n + 1, hn, hkn => by
    simp only [ctxX]
    by_cases e : n = k
    · subst e
      cases hsn : s n with
      | none => exact absurd hsn hs
      | some i => simp only [hfl, if_true, hd, putS, look_cons_eq]
    · have ih := look_ctxX_of hf hk hfl hd hs n (by omega) (by omega)
      cases fl n with
      | false => simp only [Bool.false_eq_true, if_false]; exact ih
      | true =>
        simp only [if_true]
        cases s n with
        | none => exact ih
        | some i => simp only; rw [look_putS_ne (hf.sole k n t hk (by omega) hfl e hd)]; exact ih
/-- A slot that no free one writes. -/
theorem look_ctxS_nf {H : Nat → HE} {fl : Nat → Bool} {s : Sel H} {t : Nat} : ∀ m, (∀ k, k < m → fl k = true → (H k).dst ≠ some t) → look t (ctxS S H s m) = look t (ctxN S H fl s m)
  | 0, _ => rfl
  | m + 1, h => by
    have ih := look_ctxS_nf (s := s) m fun k hk => h k (by omega)
    simp only [ctxS, ctxN]
    cases hfl : fl m with
    | true =>
      simp only [if_true]
      cases s m with
      | none => exact ih
      | some i => simp only; rw [look_putS_ne (h m (by omega) hfl)]; exact ih
    | false =>
      simp only [Bool.false_eq_true, if_false]
      cases s m with
      | none => exact ih
      | some i =>
        simp only
        by_cases hd : (H m).dst = some t
        · simp only [hd, putS, look_cons_eq]
        · rw [look_putS_ne hd, look_putS_ne hd]; exact ih
/-- A slot that a free one writes. -/
theorem look_ctxS_free {H : Nat → HE} {fl : Nat → Bool} {s : Sel H} {m : Nat} (hf : Free S H fl m) {k t : Nat} (hk : k < m) (hfl : fl k = true) (hd : (H k).dst = some t) :
    look t (ctxS S H s m) = if s k = none then none else some (H k).T := by
  cases hs : s k with
  | none =>
    rw [look_ctxS_from (k := 0) m (by omega) (fun j _ hj hdj => by
      by_cases e : j = k
      · subst e; exact hs
      · exact absurd hdj (hf.sole k j t hk hj hfl e hd))]
    simp only [if_true]; exact hf.fresh k t hk hfl hd
  | some i =>
    rw [look_ctxS_from (k := k + 1) m (by omega) (fun j h1 hj hdj => absurd hdj (hf.sole k j t hk hj hfl (by omega) hd))]
    simp only [ctxS, hs, hd, putS, look_cons_eq, (hf.one k hk hfl i).1]
    simp

theorem sub_split {H : Nat → HE} {fl : Nat → Bool} {s : Sel H} {m : Nat} (hf : Free S H fl m) : Sub (ctxS S H s m) (ctxN S H fl s m ++ ctxX H fl s m) := by
  intro t R h
  rw [look_append] at h
  cases hn : look t (ctxN S H fl s m) with
  | some R' =>
    rw [hn] at h; simp at h; subst h
    rw [look_ctxS_nf (fl := fl) m (fun k hk hfl hd => by rw [look_ctxN_free hf hk hfl hd m (Nat.le_refl _)] at hn; cases hn)]
    exact ⟨_, hn, fun _ _ _ h => h⟩
  | none =>
    rw [hn] at h; simp at h
    obtain ⟨k, hk, hfl, hd, hs, rfl⟩ := look_ctxX m h
    refine ⟨(H k).T, ?_, fun _ _ _ h => h⟩
    rw [look_ctxS_free hf hk hfl hd, if_neg hs]

theorem fin1_full {K} {H : Nat → HE} {fl : Nat → Bool} {s : Sel H} {m : Nat} (hf : Free S H fl m) : ∀ (Hs : List HE) (bs : List Bool) (k : Nat) (S' : List (Nat × Rp)) (M' : List MF) (F' : List (Nat × Rp)), Hs.length = bs.length → k + Hs.length = m → (∀ j, j < Hs.length → Hs[j]? = some (H (k + j))) →
    (∀ j, j < bs.length → bs[j]? = some (fl (k + j))) → (∀ j, j < Hs.length → fl (k + j) = false → s (k + j) ≠ none) →
    S' = ctxN S H fl s k → M' = ctxM M H s k → F' = ctxF H fl k → Fin1 K Hs bs S' M' F' → K (ctxN S H fl s m) (ctxM M H s m) (ctxF H fl m) := by
  intro Hs
  induction Hs with
  | nil =>
    intro bs k S' M' F' hl hkm _ _ _ hS hM hF h
    have : bs = [] := List.eq_nil_of_length_eq_zero (by simpa using hl.symm)
    subst this
    have : k = m := by simpa using hkm
    subst this; subst hS; subst hM; subst hF; exact h
  | cons h hs ih =>
    intro bs k S' M' F' hl hkm hH hb hs' hS hM hF h'
    cases bs with
    | nil => simp at hl
    | cons b bs =>
      have h0 := hH 0 (by simp)
      simp only [List.getElem?_cons_zero, Nat.add_zero, Option.some.injEq] at h0
      subst h0
      have hb0 := hb 0 (by simp)
      simp only [List.getElem?_cons_zero, Nat.add_zero, Option.some.injEq] at hb0
      have hstep : ∀ (S₂ : List (Nat × Rp)) (M₂ : List MF) (F₂ : List (Nat × Rp)), S₂ = ctxN S H fl s (k + 1) → M₂ = ctxM M H s (k + 1) → F₂ = ctxF H fl (k + 1) → Fin1 K hs bs S₂ M₂ F₂ → K (ctxN S H fl s m) (ctxM M H s m) (ctxF H fl m) := fun S₂ M₂ F₂ e1 e2 e3 hK =>
        ih bs (k + 1) S₂ M₂ F₂ (by simpa using hl) (by simp only [List.length_cons] at hkm; omega) (fun j hj => by have := hH (j + 1) (by simp; omega); rw [show k + 1 + j = k + (j + 1) by omega]; simpa using this)
          (fun j hj => by have := hb (j + 1) (by simp; omega); rw [show k + 1 + j = k + (j + 1) by omega]; simpa using this)
          (fun j hj => by have := hs' (j + 1) (by simp; omega); rwa [show k + 1 + j = k + (j + 1) by omega]) e1 e2 e3 hK
      have hkm' : k < m := by simp only [List.length_cons] at hkm; omega
      cases b with
      | true =>
        have hfl := hb0.symm
        refine hstep S' M' (putS (H k).dst (H k).T F') ?_ ?_ ?_ h'
        · simp only [ctxN, hfl, if_true]; exact hS
        · simp only [ctxM]
          cases hsk : s k with
          | none => exact hM
          | some i => simp only [(hf.one k hkm' hfl i).2, List.nil_append]; exact hM
        · simp only [ctxF, hfl, if_true]; rw [hF]
      | false =>
        have hfl := hb0.symm
        cases hsk : s k with
        | none => exact absurd hsk (hs' 0 (by simp) hfl)
        | some i =>
          refine hstep _ _ F' ?_ ?_ ?_ (h' i)
          · simp only [ctxN, hfl, Bool.false_eq_true, if_false, hsk, hS]
          · simp only [ctxM, hsk, hM]
          · simp only [ctxF, hfl, Bool.false_eq_true, if_false, hF]

theorem head1_spec {ops : Array Oper} : ∀ (l : List Oper) (S : List (Nat × Rp)) (Hs : List HE) (bs : List Bool), Head1 P n ops M Mf l S Hs bs →
    Hs.length = l.length ∧ bs.length = l.length ∧ ∀ k o, l[k]? = some o → ∃ h b, Hs[k]? = some h ∧ bs[k]? = some b ∧ o.dst = h.dst ∧ (∀ d, h.dst = some d → d < n) ∧ (b = true → ∀ i, h.A.R i = h.T ∧ h.A.F i = []) ∧
      ∀ (H : Nat → HE), (∀ j, j < l.length → Hs[j]? = some (H j)) → GSpec P ops (res (names ops o) (ctxT S H k)) (if b then Mf else M) o h.A := by
  intro l S Hs bs h
  have key : ∀ {o : Oper} {rest : List Oper} {S : List (Nat × Rp)} {d : Nat} {Hs : List HE} {bs : List Bool} {h0 : HE} {b0 : Bool}, o.dst = some d → h0.dst = some d → Nat.blt d n = true → (b0 = true → ∀ i, h0.A.R i = h0.T ∧ h0.A.F i = []) → GSpec P ops (res (names ops o) S) (if b0 then Mf else M) o h0.A →
      (Hs.length = rest.length ∧ bs.length = rest.length ∧ ∀ k o, rest[k]? = some o → ∃ h b, Hs[k]? = some h ∧ bs[k]? = some b ∧ o.dst = h.dst ∧ (∀ d, h.dst = some d → d < n) ∧ (b = true → ∀ i, h.A.R i = h.T ∧ h.A.F i = []) ∧
        ∀ (H : Nat → HE), (∀ j, j < rest.length → Hs[j]? = some (H j)) → GSpec P ops (res (names ops o) (ctxT (putS (some d) h0.T S) H k)) (if b then Mf else M) o h.A) →
      ((h0 :: Hs).length = (o :: rest).length ∧ (b0 :: bs).length = (o :: rest).length ∧ ∀ k o', (o :: rest)[k]? = some o' → ∃ h b, (h0 :: Hs)[k]? = some h ∧ (b0 :: bs)[k]? = some b ∧ o'.dst = h.dst ∧ (∀ d, h.dst = some d → d < n) ∧ (b = true → ∀ i, h.A.R i = h.T ∧ h.A.F i = []) ∧
        ∀ (H : Nat → HE), (∀ j, j < (o :: rest).length → (h0 :: Hs)[j]? = some (H j)) → GSpec P ops (res (names ops o') (ctxT S H k)) (if b then Mf else M) o' h.A) := by
    intro o rest S d Hs bs h0 b0 hd hd0 hlt hone hs ⟨ih1, ih2, ih3⟩
    refine ⟨by simp [ih1], by simp [ih2], fun k o' ho => ?_⟩
    cases k with
    | zero =>
      simp only [List.getElem?_cons_zero, Option.some.injEq] at ho
      subst ho
      exact ⟨h0, b0, rfl, rfl, hd.trans hd0.symm, fun d' hd' => by rw [hd0] at hd'; cases hd'; simpa [Nat.blt_eq] using hlt, hone, fun H hH => hs⟩
    | succ k =>
      obtain ⟨h', b', hh', hb', h1, h2, h3, h4⟩ := ih3 k o' (by simpa using ho)
      refine ⟨h', b', by simpa using hh', by simpa using hb', h1, h2, h3, fun H hH => ?_⟩
      have h00 := hH 0 (by simp)
      simp only [List.getElem?_cons_zero, Option.some.injEq] at h00
      have := h4 (fun j => H (j + 1)) (fun j hj => by have := hH (j + 1) (by simp; omega); simpa using this)
      rw [ctxT_shift, ← h00, hd0]; exact this
  induction h with
  | nil => exact ⟨rfl, rfl, fun k o h => by simp at h⟩
  | one hd hlt hs _ ih => exact key hd rfl hlt (fun h => by cases h) (by simpa using hs) ih
  | flo hd hlt hs _ ih => exact key hd rfl hlt (fun _ i => ⟨rfl, rfl⟩) (by simpa using hs) ih
  | sink hd hlt hs _ ih => exact key hd rfl hlt (fun h => by cases h) (by simpa using hs) ih

/-- What a region's flags say. -/
structure Reg (l : List Oper) (m : Nat) (fl : Nat → Bool) : Prop where
  lt : m < l.length
  back : ∀ k o, l[k]? = some o → ∀ e ∈ o.after, Region.binds .any e = true → e.on < k
  pair : ∀ k j, k < m → j < m → j ≠ k → pairOk l.toArray (masks l []) k j = true
  last : ∀ t, m + 1 ≤ t → t < l.length → ∀ j, j < t → ((masks l []).getD t 0).testBit j = true
  bit : ∀ j, j < m → fl j = !((masks l []).getD m 0).testBit j

theorem reg_of {l : List Oper} {m : Nat} (hB : anyB1 m l = true) {fl : Nat → Bool} (hfl : ∀ j, j < m → fl j = !((masks l []).getD m 0).testBit j) : Reg l m fl where
  lt := by simp only [anyB1, Bool.and_eq_true, decide_eq_true_eq] at hB; exact hB.1.1.1
  back := by
    intro k o ho e he hb
    simp only [anyB1, Bool.and_eq_true, List.all_eq_true, Bool.or_eq_true, Bool.not_eq_true', decide_eq_true_eq] at hB
    have := hB.1.1.2 (o, k) (List.mem_zipIdx_iff_getElem?.2 (by simpa using ho)) e (by simpa using he)
    exact this.resolve_left (by simp [hb])
  pair := by
    intro k j hk hj hjk
    simp only [anyB1, Bool.and_eq_true, List.all_eq_true, List.mem_range, Bool.or_eq_true, beq_iff_eq] at hB
    exact (hB.1.2 k hk j hj).resolve_left hjk
  last := by
    intro t hmt ht j hj
    simp only [anyB1, Bool.and_eq_true, List.all_eq_true, List.mem_range, Bool.or_eq_true, decide_eq_true_eq] at hB
    exact (hB.2 t ht).resolve_left (by omega) j hj
  bit := hfl

/-- What is done is closed under what comes before. -/
def Closed (l : List Oper) (listed : Array Bool) : Prop := ∀ k o, l[k]? = some o → listed.getD k false = true → ∀ e ∈ o.after, Region.binds .any e = true → listed.getD e.on false = true

theorem closed_set {l : List Oper} {listed : Array Bool} {k : Nat} {o : Oper} (h : Closed l listed) (ho : l[k]? = some o) (hall : ∀ e ∈ o.after, Region.binds .any e = true → listed.getD e.on false = true) : Closed l (listed.setIfInBounds k true) := by
  intro k' o' ho'' hl' e he' hb
  by_cases hkk : k' = k
  · subst hkk
    rw [ho] at ho''; cases ho''
    exact getD_set_true (hall e he' hb)
  · rw [getD_set_ne false (Ne.symm hkk)] at hl'
    exact getD_set_true (h k' o' ho'' hl' e he' hb)
theorem count_set {listed : Array Bool} {k N : Nat} (hkls : k < listed.size) (hk1 : listed.getD k true = false) (hk : k < N) :
    (List.range N).countP (fun j => !listed.getD j true) = (List.range N).countP (fun j => !(listed.setIfInBounds k true).getD j true) + 1 := by
  induction N with
  | zero => omega
  | succ N ihN =>
    rw [List.range_succ, List.countP_append, List.countP_append]
    by_cases hNk : N = k
    · subst hNk
      have h2 : (List.range N).countP (fun j => !listed.getD j true) = (List.range N).countP (fun j => !(listed.setIfInBounds N true).getD j true) := by
        apply List.countP_congr
        intro x hx
        have : x ≠ N := by have := List.mem_range.1 hx; omega
        rw [getD_set_ne true (Ne.symm this)]
      have h3 : (listed.setIfInBounds N true).getD N true = true := by simp [hkls]
      rw [h2]
      simp only [List.countP_cons, List.countP_nil, hk1, h3]
      simp
    · rw [ihN (by omega)]
      have : (listed.setIfInBounds k true).getD N true = listed.getD N true := getD_set_ne true (Ne.symm hNk)
      simp only [List.countP_cons, List.countP_nil, this]
      omega

/-- Who writes what an operation of the head names, or writes, is ordered with it. -/
theorem ordered {l : List Oper} {m : Nat} {fl : Nat → Bool} {H : Nat → HE} {s : Sel H} {listed : Array Bool} (hr : Reg l m fl) (hcl : Closed l listed) (hls : ∀ j, j < m → (listed.getD j false = true ↔ s j ≠ none))
    (hdstj : ∀ j, j < m → ∃ oj, l[j]? = some oj ∧ oj.dst = (H j).dst) {k : Nat} {o : Oper} (hkm : k < m) (ho : l[k]? = some o) (hk1 : listed.getD k true = false) (hall : ∀ e ∈ o.after, Region.binds .any e = true → listed.getD e.on false = true) :
    ∀ t, (t ∈ names l.toArray o ∨ o.dst = some t) → ∀ j, j < m → j ≠ k → (H j).dst = some t → (j < k → s j ≠ none) ∧ (k < j → s j = none) := by
  intro t ht j hj hjk hdj
  obtain ⟨oj, hoj, hdoj⟩ := hdstj j hj
  have hp := hr.pair k j hkm hj hjk
  unfold pairOk at hp
  simp only [List.getElem?_toArray, ho, hoj, hdoj, hdj] at hp
  have hnm : ((names l.toArray o).contains t || o.dst == some t) = true := by
    rcases ht with ht | ht
    · simp [ht]
    · simp [ht]
  rw [hnm] at hp
  simp only [Bool.not_true, Bool.false_or] at hp
  constructor
  · intro hlt'
    rw [if_pos hlt'] at hp
    exact (hls j hj).1 (masks_listed (listed := fun k => listed.getD k false) hcl ho (fun e he hb => hall e he hb) hp)
  · intro hlt'
    rw [if_neg (by omega)] at hp
    cases hsj : s j with
    | none => rfl
    | some i =>
      exfalso
      have hlj : listed.getD j false = true := (hls j hj).2 (by rw [hsj]; simp)
      have hk3 : listed.getD k false = true := masks_listed (listed := fun k => listed.getD k false) hcl hoj (fun e he hb => hcl j oj hoj hlj e he hb) hp
      rw [getD_both hk1] at hk3; cases hk3

/-- The facts on what an operation of the head names. -/
theorem named {H : Nat → HE} {s : Sel H} {m k : Nat} {ns : List Nat} (hkm : k < m) (hsk : s k = none) (hord : ∀ t, t ∈ ns → ∀ j, j < m → j ≠ k → (H j).dst = some t → (j < k → s j ≠ none) ∧ (k < j → s j = none))
    {t : Nat} {R : Rp} (ht : res ns (ctxT S H k) t = some R) : t ∈ ns ∧ ∃ R', look t (ctxS S H s m) = some R' ∧ ∀ w C v, R'.p w C v → R.p w C v := by
  unfold res at ht
  cases hc : ns.contains t with
  | false => rw [hc] at ht; simp at ht
  | true =>
    rw [hc] at ht
    simp only [cond_true] at ht
    have htm : t ∈ ns := by simpa using hc
    obtain ⟨R', h1, h2⟩ := look_ctxT (S := S) (H := H) (s := s) (t := t) k (fun j hj hd => (hord t htm j (by omega) (by omega) hd).1 hj) R ht
    refine ⟨htm, R', ?_, h2⟩
    rw [look_ctxS_from (k := k) m (by omega) (fun j h3 h4 hd => ?_)]
    · exact h1
    · by_cases hjk : j = k
      · subst hjk; exact hsk
      · exact (hord t htm j h4 hjk hd).2 (by omega)

theorem count_tail {listed : Array Bool} {t : Nat} (h1 : ∀ j, j < t → listed.getD j true = true) : ∀ N, t ≤ N → (∀ j, t ≤ j → j < N → listed.getD j true = false) → (List.range N).countP (fun j => !listed.getD j true) = N - t := by
  intro N
  induction N with
  | zero => intro _ _; simp
  | succ N ih =>
    intro hN h2
    rcases Nat.lt_or_ge N t with h | h
    · have : t = N + 1 := by omega
      subst this
      rw [Nat.sub_self, List.countP_eq_zero]
      intro j hj
      rw [h1 j (List.mem_range.1 hj)]; simp
    · rw [List.range_succ, List.countP_append, ih h fun j h3 h4 => h2 j h3 (by omega)]
      simp only [List.countP_cons, List.countP_nil, h2 N h (by omega)]
      simp; omega
theorem getD_true {listed : Array Bool} {j : Nat} (h : listed.getD j false = true) : listed.getD j true = true := by
  rcases Nat.lt_or_ge j listed.size with h' | h'
  · simp [h'] at h ⊢; exact h
  · simp [Array.getElem?_eq_none h'] at h
theorem getD_false_of {listed : Array Bool} {j : Nat} (hj : j < listed.size) (h : ¬ (listed.getD j false = true)) : listed.getD j true = false := by
  simp [hj] at h ⊢; exact h
theorem least {p : Nat → Prop} {m : Nat} (h : ¬ ∀ j, j < m → p j) : ∃ k, k < m ∧ ¬ p k ∧ ∀ j, j < k → p j := by
  induction m with
  | zero => exact absurd (fun j hj => by omega) h
  | succ m ih =>
    by_cases hm : ∀ j, j < m → p j
    · refine ⟨m, by omega, fun hp => h fun j hj => ?_, hm⟩
      rcases Nat.lt_or_ge j m with h1 | h1
      · exact hm j h1
      · have : j = m := by omega
        subst this; exact hp
    · obtain ⟨k, h1, h2⟩ := ih hm
      exact ⟨k, by omega, h2⟩

/-- Behind the change: the free ones that are left, in any order, then the tail. -/
theorem any_after {l : List Oper} {m : Nat} {fl : Nat → Bool} {H : Nat → HE} (hr : Reg l m fl) (hf : Free S H fl m)
    (hsp : ∀ k o, k < m → l[k]? = some o → o.dst = (H k).dst ∧ (∀ d, (H k).dst = some d → d < n) ∧ GSpec P l.toArray (res (names l.toArray o) (ctxT S H k)) (if fl k then Mf else M) o (H k).A)
    {S₁ : List (Nat × Rp)} {M₁ : List MF} (hp : Pick M₁ Mf) (hL : L P B n (S₁ ++ ctxF H fl m) M₁ l.toArray (l.drop (m + 1)) Q) (hno : ∀ k t, k < m → fl k = true → (H k).dst = some t → look t S₁ = none) :
    ∀ (f : Nat) (listed : Array Bool) (s : Sel H) (a : Act) (w : World) (C : Nat → Prop), listed.size = l.length →
      (∀ j, j < m → (listed.getD j false = true ↔ s j ≠ none)) → listed.getD m false = true → (∀ j, m + 1 ≤ j → j < l.length → listed.getD j true = false) → Closed l listed →
      ((List.range l.length).countP (fun j => !listed.getD j true) = f) → (∀ j, j < m → fl j = false → s j ≠ none) → Sub S₁ (ctxN S H fl s m) →
      St B n (S₁ ++ ctxX H fl s m) M₁ a w C → wpAny P .any l.toArray Q f listed a w := by
  have hdstj : ∀ j, j < m → ∃ oj, l[j]? = some oj ∧ oj.dst = (H j).dst := by
    intro j hj
    have hjl : j < l.length := by have := hr.lt; omega
    exact ⟨l[j], by simp [hjl], (hsp j l[j] hj (by simp [hjl])).1⟩
  intro f
  induction f with
  | zero =>
    intro listed s a w C hsz hls hlm htail hcl hcount hnf hsub st
    have hall : ∀ j, j < l.length → listed.getD j true = true := by
      intro j hj
      have := List.countP_eq_zero.1 hcount j (List.mem_range.2 hj)
      simpa using this
    have hml : m + 1 = l.length := by
      have := hr.lt
      rcases Nat.lt_or_ge (m + 1) l.length with h | h
      · have h1 := htail (m + 1) (Nat.le_refl _) h
        rw [hall _ h] at h1; cases h1
      · omega
    have hdone : ∀ j, j < m → s j ≠ none := fun j hj => by
      refine (hls j hj).1 ?_
      have := hall j (by omega)
      have hjl : j < listed.size := by omega
      simp [hjl] at this ⊢; exact this
    rw [ctxX_full m fun j hj _ => hdone j hj] at st
    refine any_tail_of (m := m + 1) hr.last hr.back 0 (m + 1) listed a w (by omega) (Nat.le_refl _) hsz (fun j hj => ?_) htail (hL a w C st)
    rcases Nat.lt_or_ge j m with h | h
    · exact (hls j h).2 (hdone j h)
    · have : j = m := by omega
      subst this; exact hlm
  | succ f ih =>
    intro listed s a w C hsz hls hlm htail hcl hcount hnf hsub st
    by_cases hfull : ∀ j, j < m → s j ≠ none
    · have hdn : ∀ j, j < m + 1 → listed.getD j false = true := fun j hj => by
        rcases Nat.lt_or_ge j m with h | h
        · exact (hls j h).2 (hfull j h)
        · have : j = m := by omega
          subst this; exact hlm
      rw [ctxX_full m fun j hj _ => hfull j hj] at st
      refine any_tail_of (m := m + 1) hr.last hr.back (f + 1) (m + 1) listed a w ?_ (Nat.le_refl _) hsz hdn htail (hL a w C st)
      rw [← hcount, count_tail (fun j hj => getD_true (hdn j hj)) _ (by have := hr.lt; omega) htail]
      have := hr.lt; omega
    · obtain ⟨k₀, hk₀m, hk₀n, hk₀l⟩ := least hfull
      have hr₀ : k₀ ∈ Region.ready .any l.toArray listed := by
        have hk₀ll : k₀ < l.length := by have := hr.lt; omega
        refine mem_ready.2 ⟨getD_false_of (by omega) fun h => hk₀n ((hls k₀ hk₀m).1 h), l[k₀], by simp [hk₀ll], fun e he hb => ?_⟩
        have := hr.back k₀ l[k₀] (by simp [hk₀ll]) e he hb
        exact (hls e.on (by omega)).2 (hk₀l _ this)
      refine ⟨fun h0 => (by rw [h0] at hr₀; cases hr₀), fun k hk => ?_⟩
      obtain ⟨hk1, o, ho, hall⟩ := mem_ready.1 hk
      have ho' : l[k]? = some o := by simpa using ho
      have hkl : k < l.length := (List.getElem?_eq_some_iff.1 ho').1
      have hkm : k < m := by
        rcases Nat.lt_trichotomy k m with h | h | h
        · exact h
        · subst h; rw [getD_both hk1] at hlm; cases hlm
        · have := masks_listed (listed := fun k => listed.getD k false) hcl ho' (fun e he hb => hall e he hb) (hr.last k h hkl k₀ (by omega))
          exact absurd ((hls k₀ hk₀m).1 this) hk₀n
      have hsk : s k = none := by
        cases hs : s k with
        | none => rfl
        | some i =>
          have := (hls k hkm).2 (by rw [hs]; simp)
          rw [getD_both hk1] at this; cases this
      have hflk : fl k = true := by
        cases h : fl k with
        | true => rfl
        | false => exact absurd hsk (hnf k hkm h)
      obtain ⟨hdst, hlt, hgs⟩ := hsp k o hkm ho'
      rw [hflk] at hgs; simp only [if_true] at hgs
      have hord := ordered hr hcl hls hdstj hkm ho' hk1 hall
      have hslots : SlotsOk (res (names l.toArray o) (ctxT S H k)) a w C := by
        intro t R ht
        obtain ⟨htm, R', h1, h2⟩ := named (S := S) (s := s) hkm hsk (fun t ht => hord t (.inl ht)) ht
        refine h2 _ _ _ ?_
        by_cases hfree : ∃ g, g < m ∧ fl g = true ∧ (H g).dst = some t
        · obtain ⟨g, hg, hflg, hdg⟩ := hfree
          rw [look_ctxS_free hf hg hflg hdg] at h1
          by_cases hsg : s g = none
          · rw [if_pos hsg] at h1; cases h1
          · rw [if_neg hsg] at h1
            cases h1
            refine st.slots t _ ?_
            show look t (S₁ ++ ctxX H fl s m) = _
            rw [look_append, hno g t hg hflg hdg, look_ctxX_of hf hg hflg hdg hsg m (Nat.le_refl _) hg]; rfl
        · rw [look_ctxS_nf (fl := fl) m fun g hg hflg hdg => hfree ⟨g, hg, hflg, hdg⟩] at h1
          obtain ⟨R₀, h3, h4⟩ := hsub t R' h1
          refine h4 _ _ _ (st.slots t R₀ ?_)
          show look t (S₁ ++ ctxX H fl s m) = _
          rw [look_append, h3]; rfl
      have hmem : MOk Mf w C := st.mem.pick hp
      have hop := hgs a w C (fun a' w' => wpAny P .any l.toArray Q f (listed.setIfInBounds k true) a' w') Q hslots hmem (fun i v w' C' he hwf hv hn => ?_)
      · unfold wpOp
        simp only [ho]
        split
        · rename_i hw; rw [if_pos hw] at hop; exact .inl hop
        · rename_i hw; rw [if_neg hw] at hop; exact hop
      · have hkls : k < listed.size := by omega
        have hFR := hf.one k hkm hflk i
        refine ih (listed.setIfInBounds k true) (s.set k i) _ _ C' (by simp [hsz]) ?_ (getD_set_true hlm) ?_ (closed_set hcl ho' hall) ?_ ?_ ?_ ?_
        · intro j hj
          by_cases hjk : j = k
          · subst hjk; simp [set_self, hkls]
          · rw [set_other s i hjk, getD_set_ne false (Ne.symm hjk)]; exact hls j hj
        · intro j h1 h2; rw [getD_set_ne true (by omega)]; exact htail j h1 h2
        · have := count_set hkls hk1 hkl; omega
        · intro j hj hflj
          rw [set_other s i (fun e => by subst e; rw [hflk] at hflj; cases hflj)]; exact hnf j hj hflj
        · rw [ctxN_congr (s' := s) m fun j hj hflj => set_other s i (fun e => by subst e; rw [hflk] at hflj; cases hflj)]; exact hsub
        · rw [hFR.2] at hn
          rw [hFR.1] at hv
          have hst := st.step (dst := o.dst) (fun d hd => hlt d (by rw [← hdst]; exact hd)) he hwf hv hn
          refine St.sub ?_ hst
          intro t R ht
          rw [look_append] at ht
          cases hd : (H k).dst with
          | none =>
            rw [hdst, hd]
            refine ⟨R, ?_, fun _ _ _ h => h⟩
            show look t (S₁ ++ ctxX H fl s m) = _
            rw [look_append]
            cases h1 : look t S₁ with
            | some R' => rw [h1] at ht; exact ht
            | none =>
              rw [h1] at ht; simp at ht ⊢
              obtain ⟨g, hg, hflg, hdg, hsg, rfl⟩ := look_ctxX m ht
              refine look_ctxX_of hf hg hflg hdg ?_ m (Nat.le_refl _) hg
              rwa [set_other s i (fun e => by subst e; rw [hd] at hdg; cases hdg)] at hsg
          | some d =>
            rw [hdst, hd]
            refine ⟨R, ?_, fun _ _ _ h => h⟩
            show look t ((d, (H k).T) :: (S₁ ++ ctxX H fl s m)) = _
            by_cases hdt : d = t
            · subst hdt
              rw [look_cons_eq]
              rw [hno k d hkm hflk hd, look_ctxX_of hf hkm hflk hd (by rw [set_self]; simp) m (Nat.le_refl _) hkm] at ht
              exact ht
            · rw [look_cons_ne hdt, look_append]
              cases h1 : look t S₁ with
              | some R' => rw [h1] at ht; exact ht
              | none =>
                rw [h1] at ht; simp at ht ⊢
                obtain ⟨g, hg, hflg, hdg, hsg, rfl⟩ := look_ctxX m ht
                refine look_ctxX_of hf hg hflg hdg ?_ m (Nat.le_refl _) hg
                rwa [set_other s i (fun e => by subst e; rw [hd] at hdg; cases hdg; exact hdt rfl)] at hsg

theorem wp_monoQ {o : Oper} {a : Act} {w : World} {K K' : Act → World → Prop} {Q' : Exit → Act → World → Prop} (h : ∀ a w, K a w → K' a w) (hq : ∀ e a w, e ≠ .normal → Q e a w → Q' e a w)
    (hh : o.wp P a w K Q) : o.wp P a w K' Q' := by
  have hout : LetsOut Q → LetsOut Q' := fun ⟨a, w, h⟩ => ⟨a, w, hq _ _ _ (by simp) h⟩
  unfold Oper.wp at *
  generalize (execOp a.eval o).run P w = r at *
  cases r with
  | ok n w' =>
    cases n <;> simp only [Oper.upon] at hh ⊢ <;>
      first
        | exact h _ _ hh
        | exact Calls.mono hh (fun e w'' he => by cases e <;> first | exact h _ _ he | exact hq _ _ _ (by simp) he | exact hout he)
        | exact Rows.mono hh (fun _ _ he => h _ _ he)
  | halt x w' => cases x <;> simp only [Oper.upon] at hh ⊢ <;> exact hq _ _ _ (by simp) hh

/-- The head, in any order, and the change, wherever it stands. -/
theorem any_head1 {l : List Oper} {m : Nat} {o₁ : Oper} {fl : Nat → Bool} {H : Nat → HE} (hr : Reg l m fl) (hf : Free S H fl m) (ho₁ : l[m]? = some o₁) (hpM : Pick M Mf)
    (hsp : ∀ k o, k < m → l[k]? = some o → o.dst = (H k).dst ∧ (∀ d, (H k).dst = some d → d < n) ∧ GSpec P l.toArray (res (names l.toArray o) (ctxT S H k)) (if fl k then Mf else M) o (H k).A)
    (hK : ∀ s : Sel H, (∀ j, j < m → fl j = false → s j ≠ none) → ∀ X, L P B n (ctxN S H fl s m ++ X) (ctxM M H s m) l.toArray [o₁] (Aft P B n l.toArray Mf (ctxN S H fl s m) (ctxF H fl m) X (l.drop (m + 1)) Q)) :
    ∀ (f : Nat) (listed : Array Bool) (s : Sel H) (a : Act) (w : World) (C : Nat → Prop), listed.size = l.length →
      (∀ j, j < m → (listed.getD j false = true ↔ s j ≠ none)) → (∀ j, m ≤ j → j < l.length → listed.getD j true = false) → Closed l listed →
      ((List.range l.length).countP (fun j => !listed.getD j true) = f) →
      St B n (ctxS S H s m) (ctxM M H s m) a w C → wpAny P .any l.toArray Q f listed a w := by
  have hml := hr.lt
  have hdstj : ∀ j, j < m → ∃ oj, l[j]? = some oj ∧ oj.dst = (H j).dst := by
    intro j hj
    have hjl : j < l.length := by omega
    exact ⟨l[j], by simp [hjl], (hsp j l[j] hj (by simp [hjl])).1⟩
  intro f
  induction f with
  | zero =>
    intro listed s a w C hsz hls htail hcl hcount st
    have := List.countP_eq_zero.1 hcount m (List.mem_range.2 hml)
    rw [htail m (Nat.le_refl _) hml] at this
    simp at this
  | succ f ih =>
    intro listed s a w C hsz hls htail hcl hcount st
    -- something is ready
    have hne : Region.ready .any l.toArray listed ≠ [] := by
      intro h0
      by_cases hfull : ∀ j, j < m → s j ≠ none
      · have : m ∈ Region.ready .any l.toArray listed := by
          refine mem_ready.2 ⟨htail m (Nat.le_refl _) hml, o₁, by simpa using ho₁, fun e he hb => ?_⟩
          have := hr.back m o₁ ho₁ e he hb
          exact (hls e.on this).2 (hfull _ this)
        rw [h0] at this; cases this
      · obtain ⟨k₀, hk₀m, hk₀n, hk₀l⟩ := least hfull
        have : k₀ ∈ Region.ready .any l.toArray listed := by
          have hk₀ll : k₀ < l.length := by omega
          refine mem_ready.2 ⟨getD_false_of (by omega) fun h => hk₀n ((hls k₀ hk₀m).1 h), l[k₀], by simp [hk₀ll], fun e he hb => ?_⟩
          have := hr.back k₀ l[k₀] (by simp [hk₀ll]) e he hb
          exact (hls e.on (by omega)).2 (hk₀l _ this)
        rw [h0] at this; cases this
    refine ⟨fun h0 => absurd h0 hne, fun k hk => ?_⟩
    obtain ⟨hk1, o, ho, hall⟩ := mem_ready.1 hk
    have ho' : l[k]? = some o := by simpa using ho
    have hkl : k < l.length := (List.getElem?_eq_some_iff.1 ho').1
    have hkls : k < listed.size := by omega
    rcases Nat.lt_trichotomy k m with hkm | hkm | hkm
    · -- one of the head
      have hsk : s k = none := by
        cases hs : s k with
        | none => rfl
        | some i =>
          have := (hls k hkm).2 (by rw [hs]; simp)
          rw [getD_both hk1] at this; cases this
      obtain ⟨hdst, hlt, hgs⟩ := hsp k o hkm ho'
      have hord := ordered hr hcl hls hdstj hkm ho' hk1 hall
      have hslots : SlotsOk (res (names l.toArray o) (ctxT S H k)) a w C := by
        intro t R ht
        obtain ⟨htm, R', h1, h2⟩ := named (S := S) (s := s) hkm hsk (fun t ht => hord t (.inl ht)) ht
        exact h2 _ _ _ (st.slots t R' h1)
      have hmemM : MOk M w C := by
        obtain ⟨R, hR⟩ := ctxM_pick (M := M) (H := H) (s := s) m
        exact (st.mem.perm hR).left
      have hmem : MOk (if fl k then Mf else M) w C := by
        split
        · exact hmemM.pick hpM
        · exact hmemM
      have hop := hgs a w C (fun a' w' => wpAny P .any l.toArray Q f (listed.setIfInBounds k true) a' w') Q hslots hmem (fun i v w' C' he hwf hv hn => ?_)
      · unfold wpOp
        simp only [ho]
        split
        · rename_i hw; rw [if_pos hw] at hop; exact .inl hop
        · rename_i hw; rw [if_neg hw] at hop; exact hop
      · refine ih (listed.setIfInBounds k true) (s.set k i) _ _ C' (by simp [hsz]) ?_ ?_ (closed_set hcl ho' hall) ?_ ?_
        · intro j hj
          by_cases hjk : j = k
          · subst hjk; simp [set_self, hkls]
          · rw [set_other s i hjk, getD_set_ne false (Ne.symm hjk)]; exact hls j hj
        · intro j h1 h2; rw [getD_set_ne true (by omega)]; exact htail j h1 h2
        · have := count_set hkls hk1 hkl; omega
        · have hst := st.step (dst := o.dst) (fun d hd => hlt d (by rw [← hdst]; exact hd)) he hwf hv hn
          refine ⟨hst.size, hst.defers, ?_, hst.mem.perm (ctxM_set hsk m hkm).symm, hst.eff, ?_⟩
          · intro t R ht
            have hl := look_set (S := S) (H := H) (s := s) (k := k) (m := m) (t := t) (i := i) hkm hsk
            by_cases hd : (H k).dst = some t
            · have h1 := hl.1 hd (fun j h2 h3 h4 => (hord t (.inr (by rw [hdst]; exact hd)) j h3 (by omega) h4).2 h2)
              simp only at ht
              rw [h1] at ht
              have h2 := hst.slots t ((H k).A.R i) (by rw [hdst, hd]; exact look_cons_eq)
              cases ht; exact h2
            · have h1 := hl.2 hd
              simp only at ht
              rw [h1] at ht
              exact hst.slots t R (by
                show look t (putS o.dst _ _) = some R
                rw [look_putS_ne (by rw [hdst]; exact hd)]; exact ht)
          · intro b hb
            exact hst.since b ((feet_perm (ctxM_set hsk m hkm)).mem_iff.1 hb)
    · -- the change
      subst hkm
      rw [ho₁] at ho'; cases ho'
      have hnf : ∀ j, j < k → fl j = false → s j ≠ none := by
        intro j hj hflj
        have hb := hr.bit j hj
        rw [hflj] at hb
        have hb' : ((masks l []).getD k 0).testBit j = true := by simpa using hb.symm
        exact (hls j hj).1 (masks_listed (listed := fun k => listed.getD k false) hcl ho₁ (fun e he hb => hall e he hb) hb')
      have hL := hK s hnf (ctxX H fl s k) a w C (st.sub (sub_split hf))
      have hnext : ∀ a' w', Aft P B n l.toArray Mf (ctxN S H fl s k) (ctxF H fl k) (ctxX H fl s k) (l.drop (k + 1)) Q .normal a' w' → wpAny P .any l.toArray Q f (listed.setIfInBounds k true) a' w' := by
        intro a' w' ⟨_, S₁, M₁, C', st', hsub, hp, hno, hLr⟩
        refine any_after hr hf hsp hp hLr (fun j t hj hflj hdj => ?_) f _ s a' w' C' (by simp [hsz]) ?_ (by simp [hkls]) ?_ (closed_set hcl ho₁ hall) ?_ hnf hsub st'
        · have hFm : ∀ N, j < N → N ≤ k → ∃ R, look t (ctxF H fl N) = some R := by
            intro N
            induction N with
            | zero => intro h; omega
            | succ N ihN =>
              intro h1 h2
              simp only [ctxF]
              by_cases e : N = j
              · subst e; rw [hflj]; simp only [if_true, hdj, putS]; exact ⟨_, look_cons_eq⟩
              · obtain ⟨R, hR⟩ := ihN (by omega) (by omega)
                cases fl N with
                | false => simp only [Bool.false_eq_true, if_false]; exact ⟨R, hR⟩
                | true =>
                  simp only [if_true]
                  by_cases hdN : (H N).dst = some t
                  · rw [hdN]; exact ⟨_, look_cons_eq⟩
                  · rw [look_putS_ne hdN]; exact ⟨R, hR⟩
          obtain ⟨R, hR⟩ := hFm k hj (Nat.le_refl _)
          exact hno t R hR
        · intro j hj; rw [getD_set_ne false (by omega)]; exact hls j hj
        · intro j h1 h2; rw [getD_set_ne true (by omega)]; exact htail j (by omega) h2
        · have := count_set hkls hk1 hkl; omega
      have hq : ∀ (e : Exit) (a : Act) (w : World), e ≠ .normal → Aft P B n l.toArray Mf (ctxN S H fl s k) (ctxF H fl k) (ctxX H fl s k) (l.drop (k + 1)) Q e a w → Q e a w := fun e a w hne h => absurd h.1 hne
      unfold wpOp
      simp only [ho]
      simp only [wpList] at hL
      split
      · rename_i hw
        rw [if_pos hw] at hL
        refine hL.imp (wp_monoQ hnext hq) (fun h => ⟨h.1, ?_⟩)
        obtain ⟨a', w', h'⟩ := h.2
        exact absurd h'.1 (by simp)
      · rename_i hw
        rw [if_neg hw] at hL
        exact hnext _ _ hL
    · -- behind the change
      exfalso
      have h1 := masks_listed (listed := fun k => listed.getD k false) hcl ho' (fun e he hb => hall e he hb) (hr.last k hkm hkl m hkm)
      have h2 := htail m (Nat.le_refl _) hml
      rw [getD_both h2] at h1; cases h1

/-- What a free one writes is written by nobody else and was not known. -/
def freeB (S : List (Nat × Rp)) (Hs : List HE) (bs : List Bool) : Bool :=
  (List.range Hs.length).all fun k => !bs.getD k false || match (Hs[k]?).bind HE.dst with
    | some d => (S.all fun x => x.1 != d) && (List.range Hs.length).all fun j => j == k || (Hs[j]?).bind HE.dst != some d
    | none => true

theorem look_none {t : Nat} : ∀ S : List (Nat × Rp), (S.all fun x => x.1 != t) = true → look t S = none
  | [], _ => rfl
  | (d, R) :: S, h => by
    simp only [List.all_cons, Bool.and_eq_true, bne_iff_ne, ne_eq] at h
    rw [look_cons_ne h.1]; exact look_none S h.2

theorem W.any1 {id : Nat} {l : List Oper} {o₁ : Oper} (m : Nat) {Hs : List HE} {bs : List Bool} (hm : P.follows .mixedOrders = true) (hB : anyB1 m l = true) (hfl : flags m l = bs) (ho₁ : l[m]? = some o₁) (hpM : Pick M Mf)
    (hH : Head1 P n l.toArray M Mf (l.take m) S Hs bs) (hfr : freeB S Hs bs = true)
    (hK : Fin1 (fun S₀ M₀ F => ∀ X, L P B n (S₀ ++ X) M₀ l.toArray [o₁] (Aft P B n l.toArray Mf S₀ F X (l.drop (m + 1)) Q)) Hs bs S M []) : W P B n S M (.region id l.toArray true) Q := by
  intro a w C st
  refine wp_region_any hm ?_
  obtain ⟨hlen, hblen, hspec⟩ := head1_spec _ _ _ _ hH
  let fl : Nat → Bool := fun k => bs.getD k false
  have hbit : ∀ j, j < m → fl j = !((masks l []).getD m 0).testBit j := by
    intro j hj
    show bs.getD j false = _
    rw [← hfl]
    simp [flags, List.getD_eq_getElem?_getD, hj]
  have hr := reg_of hB hbit
  have hml := hr.lt
  have hlen' : Hs.length = m := by rw [hlen]; simp; omega
  have hblen' : bs.length = m := by rw [hblen]; simp; omega
  let H : Nat → HE := fun j => Hs.getD j ⟨none, .one Rp.any, Rp.any, fun _ _ _ _ h => h⟩
  have hHs : ∀ j, j < m → Hs[j]? = some (H j) := fun j hj => by
    have : j < Hs.length := by omega
    simp [H, this]
  have hbs : ∀ j, j < m → bs[j]? = some (fl j) := fun j hj => by
    have : j < bs.length := by omega
    simp [fl, this]
  have hsp : ∀ k o, k < m → l[k]? = some o → o.dst = (H k).dst ∧ (∀ d, (H k).dst = some d → d < n) ∧ (fl k = true → ∀ i, (H k).A.R i = (H k).T ∧ (H k).A.F i = []) ∧ GSpec P l.toArray (res (names l.toArray o) (ctxT S H k)) (if fl k then Mf else M) o (H k).A := by
    intro k o hk ho
    obtain ⟨h, b, hh, hb, h1, h2, h3, h4⟩ := hspec k o (by rw [List.getElem?_take]; simp [hk, ho])
    have e1 : h = H k := by have := hHs k hk; rw [hh] at this; simpa using this
    have e2 : b = fl k := by have := hbs k hk; rw [hb] at this; simpa using this
    subst e1; subst e2
    exact ⟨h1, h2, h3, h4 H (fun j hj => hHs j (by simp at hj; omega))⟩
  have hlk : ∀ k, k < m → ∃ o, l[k]? = some o := fun k hk => ⟨l[k], List.getElem?_eq_getElem (by omega)⟩
  have hfreeB : ∀ k t, k < m → fl k = true → (H k).dst = some t → (S.all fun x => x.1 != t) = true ∧ ∀ j, j < m → j ≠ k → (H j).dst ≠ some t := by
    intro k t hk hflk hd
    have := List.all_eq_true.1 hfr k (List.mem_range.2 (by omega))
    have e1 : bs.getD k false = true := hflk
    rw [e1, hHs k hk] at this
    simp only [Bool.not_true, Bool.false_or, Option.bind_some, hd, Bool.and_eq_true] at this
    refine ⟨this.1, fun j hj hjk hdj => ?_⟩
    have h2 := List.all_eq_true.1 this.2 j (List.mem_range.2 (by omega))
    rw [hHs j hj] at h2
    simp [hjk, hdj] at h2
  have hf : Free S H fl m := ⟨fun k hk hflk i => by
      obtain ⟨o, ho⟩ := hlk k hk
      exact (hsp k o hk ho).2.2.1 hflk i, fun k j t hk hj hflk hjk hd => (hfreeB k t hk hflk hd).2 j hj hjk, fun k t hk hflk hd => look_none S (hfreeB k t hk hflk hd).1⟩
  have hK' : ∀ s : Sel H, (∀ j, j < m → fl j = false → s j ≠ none) → ∀ X, L P B n (ctxN S H fl s m ++ X) (ctxM M H s m) l.toArray [o₁] (Aft P B n l.toArray Mf (ctxN S H fl s m) (ctxF H fl m) X (l.drop (m + 1)) Q) := by
    intro s hnf
    exact fin1_full (K := fun S₀ M₀ F => ∀ X, L P B n (S₀ ++ X) M₀ l.toArray [o₁] (Aft P B n l.toArray Mf S₀ F X (l.drop (m + 1)) Q)) (S := S) (M := M) (s := s) hf Hs bs 0 S M [] (by omega) (by omega) (fun j hj => by rw [Nat.zero_add]; exact hHs j (by omega))
      (fun j hj => by rw [Nat.zero_add]; exact hbs j (by omega)) (fun j hj h => by rw [Nat.zero_add] at h ⊢; exact hnf j (by omega) h) rfl rfl rfl hK
  have hsel : ∀ k, ctxS S H (fun _ => none) k = S := by
    intro k; induction k with
    | zero => rfl
    | succ k ih => simp only [ctxS]; exact ih
  have hselM : ∀ k, ctxM M H (fun _ => none) k = M := by
    intro k; induction k with
    | zero => rfl
    | succ k ih => simp only [ctxM]; exact ih
  have hrep : ∀ j d, j < l.length → (Array.replicate l.toArray.size false).getD j d = false := by
    intro j d hj; simp [hj]
  refine any_head1 hr hf ho₁ hpM (fun k o hk ho => ⟨(hsp k o hk ho).1, (hsp k o hk ho).2.1, (hsp k o hk ho).2.2.2⟩) hK' l.toArray.size _ (fun _ => none) a _ C (by simp) ?_ ?_ ?_ ?_ (by rw [hsel, hselM]; exact st.drew)
  · intro j hj
    rw [hrep j false (by omega)]; simp
  · intro j _ hj; exact hrep j true hj
  · intro k o ho hl
    rw [hrep k false (List.getElem?_eq_some_iff.1 ho).1] at hl; cases hl
  · rw [count_tail (t := 0) (fun j hj => by omega) _ (Nat.zero_le _) fun j _ hj => hrep j true hj]
    simp
end
end Go.Sim
/- The types of chapter 10, as the walk's rules want them. -/
set_option linter.unusedVariables false
namespace Go.Proofs.YtcabngjnmipflaaDoor
open Go.Sim

inductive Ex where
  | mk (op n : Int) (name : List UInt8) (args : List Ex)
def Ex.op : Ex → Int | .mk a _ _ _ => a
def Ex.n : Ex → Int | .mk _ a _ _ => a
def Ex.name : Ex → List UInt8 | .mk _ _ a _ => a
def Ex.args : Ex → List Ex | .mk _ _ _ a => a
instance : Inhabited Ex := ⟨.mk 0 0 [] []⟩
structure Wt where
  lo : Int
  hi : Int
  w : Int
  each : Bool
  deriving DecidableEq, Inhabited
inductive It where
  | mk (kind : Int) (expr : Ex) (name index : List UInt8) (weights : List Wt) (items els : List It) (before after : List (List UInt8))
def It.kind : It → Int | .mk a _ _ _ _ _ _ _ _ => a
def It.expr : It → Ex | .mk _ a _ _ _ _ _ _ _ => a
def It.name : It → List UInt8 | .mk _ _ a _ _ _ _ _ _ => a
def It.index : It → List UInt8 | .mk _ _ _ a _ _ _ _ _ => a
def It.weights : It → List Wt | .mk _ _ _ _ a _ _ _ _ => a
def It.items : It → List It | .mk _ _ _ _ _ a _ _ _ => a
def It.els : It → List It | .mk _ _ _ _ _ _ a _ _ => a
def It.before : It → List (List UInt8) | .mk _ _ _ _ _ _ _ a _ => a
def It.after : It → List (List UInt8) | .mk _ _ _ _ _ _ _ _ a => a
instance : Inhabited It := ⟨.mk 0 default [] [] [] [] [] [] []⟩
structure Bk where
  name : List UInt8
  items : List It
  deriving Inhabited
structure Fd where
  name : List UInt8
  width : Int
  size : Int
  mode : Int
  init : Int
  deriving DecidableEq, Inhabited
structure Cl where
  name : List UInt8
  parent : List UInt8
  fields : List Fd
  blocks : List Bk
  deriving Inhabited
structure Vr where
  name : List UInt8
  width : Int
  mode : Int
  val : Int
  deriving DecidableEq, Inhabited
mutual
def eXc : Ex → List Rp
  | .mk op n nm args => [Rp.int .i64 op, Rp.int .i64 n, Rp.str nm, Rp.slice (fun r : List Rp => r) (eXl args)]
def eXl : List Ex → List (List Rp)
  | [] => []
  | a :: r => eXc a :: eXl r
end
def _root_.Go.Sim.Rp.exs (l : List Ex) : Rp := Rp.slice (fun r : List Rp => r) (eXl l)
def eX (e : Ex) : List Rp := [Rp.int .i64 e.op, Rp.int .i64 e.n, Rp.str e.name, Rp.exs e.args]
theorem eXc_eq (e : Ex) : eXc e = eX e := by cases e; simp only [eXc, eX, Rp.exs, Ex.op, Ex.n, Ex.name, Ex.args]
theorem eXl_eq : ∀ l : List Ex, eXl l = l.map eX
  | [] => by simp only [eXl, List.map_nil]
  | a :: r => by simp only [eXl, List.map_cons, eXc_eq, eXl_eq r]
theorem exs_eq (l : List Ex) : Rp.exs l = Rp.slice eX l := by unfold Rp.exs; rw [eXl_eq, slice_map]
def eW (w : Wt) : List Rp := [Rp.int .i64 w.lo, Rp.int .i64 w.hi, Rp.int .i64 w.w, Rp.bool w.each]
mutual
def eIc : It → List Rp
  | .mk k e nm ix ws is es bf af => [Rp.int .i64 k, Rp.int .i64 e.op, Rp.int .i64 e.n, Rp.str e.name, Rp.exs e.args, Rp.str nm, Rp.str ix, Rp.slice eW ws, Rp.slice (fun r : List Rp => r) (eIl is), Rp.slice (fun r : List Rp => r) (eIl es), Rp.slice eS bf, Rp.slice eS af]
def eIl : List It → List (List Rp)
  | [] => []
  | a :: r => eIc a :: eIl r
end
def _root_.Go.Sim.Rp.its (l : List It) : Rp := Rp.slice (fun r : List Rp => r) (eIl l)
def eIt (x : It) : List Rp := [Rp.int .i64 x.kind, Rp.int .i64 x.expr.op, Rp.int .i64 x.expr.n, Rp.str x.expr.name, Rp.exs x.expr.args, Rp.str x.name, Rp.str x.index, Rp.slice eW x.weights, Rp.its x.items, Rp.its x.els, Rp.slice eS x.before, Rp.slice eS x.after]
theorem eIc_eq (e : It) : eIc e = eIt e := by cases e; simp only [eIc, eIt, Rp.its, It.kind, It.expr, It.name, It.index, It.weights, It.items, It.els, It.before, It.after]
theorem eIl_eq : ∀ l : List It, eIl l = l.map eIt
  | [] => by simp only [eIl, List.map_nil]
  | a :: r => by simp only [eIl, List.map_cons, eIc_eq, eIl_eq r]
theorem its_eq (l : List It) : Rp.its l = Rp.slice eIt l := by unfold Rp.its; rw [eIl_eq, slice_map]
def eBk (b : Bk) : List Rp := [Rp.str b.name, Rp.its b.items]
def eF (f : Fd) : List Rp := [Rp.str f.name, Rp.int .i64 f.width, Rp.int .i64 f.size, Rp.int .i64 f.mode, Rp.int .i64 f.init]
def eC (c : Cl) : List Rp := [Rp.str c.name, Rp.str c.parent, Rp.slice eF c.fields, Rp.slice eBk c.blocks]
def eUb (b : UInt8) : List Rp := [Rp.int .u8 (b.toNat : Int)]
def eVr (v : Vr) : List Rp := [Rp.str v.name, Rp.int .i64 v.width, Rp.int .i64 v.mode, Rp.int .i64 v.val]
theorem Ex.ind {p : Ex → Prop} (h : ∀ e, (∀ a ∈ e.args, p a) → p e) : ∀ e, p e
  | .mk op n nm args => h _ fun a ha => Ex.ind h a
termination_by e => SizeOf.sizeOf e
decreasing_by
  have := List.sizeOf_lt_of_mem ha
  simp only [Ex.args] at this
  simp only [Ex.mk.sizeOf_spec]; omega
theorem It.ind {p : It → Prop} (h : ∀ e, (∀ a ∈ e.items, p a) → (∀ a ∈ e.els, p a) → p e) : ∀ e, p e
  | .mk k e nm ix ws is es bf af => h _ (fun a ha => It.ind h a) (fun a ha => It.ind h a)
termination_by e => SizeOf.sizeOf e
decreasing_by
  all_goals
    have := List.sizeOf_lt_of_mem ha
    simp only [It.items, It.els] at this
    simp only [It.mk.sizeOf_spec]; omega
def kwG : MF := MF.glob 0 [Rp.slice eS keywords]
theorem mixed : Tryd.prog.follows .mixedOrders = true := by kernel_rfl
theorem ti5 : TI Tryd.prog 5 1 1 (.int .u8 0) := ⟨⟨Tryd.t5, by kernel_rfl, by kernel_rfl, by kernel_rfl, by kernel_rfl⟩⟩
theorem z5 (w : World) (C : Nat → Prop) : AllR [Rp.int .u8 0] w C (Value.int .u8 0).cells.toList := allR_of rfl ⟨zint rfl w C, trivial⟩
theorem ti9 : TI Tryd.prog 9 1 16 (.string ⟨#[]⟩) := ⟨⟨Tryd.t9, by kernel_rfl, by kernel_rfl, by kernel_rfl, by kernel_rfl⟩⟩
theorem z9 (w : World) (C : Nat → Prop) : AllR [Rp.str []] w C (Value.string ⟨#[]⟩).cells.toList := allR_of rfl ⟨zstr w C, trivial⟩
theorem ti25 : TI Tryd.prog 25 4 80 (.agg #[.string ⟨#[]⟩, .string ⟨#[]⟩, .slice none 0 0, .slice none 0 0]) := ⟨⟨Tryd.t25, by kernel_rfl, by kernel_rfl, by kernel_rfl, by kernel_rfl⟩⟩
theorem z25 (w : World) (C : Nat → Prop) : AllR [Rp.str [], Rp.str [], Rp.slice eF [], Rp.slice eBk []] w C (Value.agg #[.string ⟨#[]⟩, .string ⟨#[]⟩, .slice none 0 0, .slice none 0 0]).cells.toList := allR_of rfl ⟨zstr w C, zstr w C, zslice w C, zslice w C, trivial⟩
theorem z25v (w : World) (C : Nat → Prop) : AllR [Rp.str [], Rp.str [], Rp.val (.slice none 0 0), Rp.val (.slice none 0 0)] w C (Value.agg #[.string ⟨#[]⟩, .string ⟨#[]⟩, .slice none 0 0, .slice none 0 0]).cells.toList := allR_of rfl ⟨zstr w C, zstr w C, zval w C, zval w C, trivial⟩
theorem ti27 : TI Tryd.prog 27 5 48 (.agg #[.string ⟨#[]⟩, .int .i64 0, .int .i64 0, .int .i64 0, .int .i64 0]) := ⟨⟨Tryd.t27, by kernel_rfl, by kernel_rfl, by kernel_rfl, by kernel_rfl⟩⟩
theorem z27 (w : World) (C : Nat → Prop) : AllR [Rp.str [], Rp.int .i64 0, Rp.int .i64 0, Rp.int .i64 0, Rp.int .i64 0] w C (Value.agg #[.string ⟨#[]⟩, .int .i64 0, .int .i64 0, .int .i64 0, .int .i64 0]).cells.toList := allR_of rfl ⟨zstr w C, zint rfl w C, zint rfl w C, zint rfl w C, zint rfl w C, trivial⟩
theorem ti33 : TI Tryd.prog 33 4 40 (.agg #[.string ⟨#[]⟩, .int .i64 0, .int .i64 0, .int .i64 0]) := ⟨⟨Tryd.t33, by kernel_rfl, by kernel_rfl, by kernel_rfl, by kernel_rfl⟩⟩
theorem z33 (w : World) (C : Nat → Prop) : AllR [Rp.str [], Rp.int .i64 0, Rp.int .i64 0, Rp.int .i64 0] w C (Value.agg #[.string ⟨#[]⟩, .int .i64 0, .int .i64 0, .int .i64 0]).cells.toList := allR_of rfl ⟨zstr w C, zint rfl w C, zint rfl w C, zint rfl w C, trivial⟩
theorem ti54 : TI Tryd.prog 54 2 40 (.agg #[.string ⟨#[]⟩, .slice none 0 0]) := ⟨⟨Tryd.t54, by kernel_rfl, by kernel_rfl, by kernel_rfl, by kernel_rfl⟩⟩
theorem z54 (w : World) (C : Nat → Prop) : AllR [Rp.str [], Rp.its []] w C (Value.agg #[.string ⟨#[]⟩, .slice none 0 0]).cells.toList := allR_of rfl ⟨zstr w C, zslice w C, trivial⟩
theorem z54v (w : World) (C : Nat → Prop) : AllR [Rp.str [], Rp.val (.slice none 0 0)] w C (Value.agg #[.string ⟨#[]⟩, .slice none 0 0]).cells.toList := allR_of rfl ⟨zstr w C, zval w C, trivial⟩
theorem ti72 : TI Tryd.prog 72 5 88 (.agg #[.string ⟨#[]⟩, .string ⟨#[]⟩, .slice none 0 0, .slice none 0 0, .bool false]) := ⟨⟨Tryd.t72, by kernel_rfl, by kernel_rfl, by kernel_rfl, by kernel_rfl⟩⟩
theorem z72 (w : World) (C : Nat → Prop) : AllR [Rp.str [], Rp.str [], Rp.slice eF [], Rp.slice eBk [], Rp.bool false] w C (Value.agg #[.string ⟨#[]⟩, .string ⟨#[]⟩, .slice none 0 0, .slice none 0 0, .bool false]).cells.toList := allR_of rfl ⟨zstr w C, zstr w C, zslice w C, zslice w C, zbool w C, trivial⟩
theorem z72v (w : World) (C : Nat → Prop) : AllR [Rp.str [], Rp.str [], Rp.val (.slice none 0 0), Rp.val (.slice none 0 0), Rp.bool false] w C (Value.agg #[.string ⟨#[]⟩, .string ⟨#[]⟩, .slice none 0 0, .slice none 0 0, .bool false]).cells.toList := allR_of rfl ⟨zstr w C, zstr w C, zval w C, zval w C, zbool w C, trivial⟩
theorem ti73 : TI Tryd.prog 73 1 8 (.pointer none) := ⟨⟨Tryd.t73, by kernel_rfl, by kernel_rfl, by kernel_rfl, by kernel_rfl⟩⟩
theorem z73 (w : World) (C : Nat → Prop) : AllR [Rp.val (.pointer none)] w C (Value.pointer none).cells.toList := allR_of rfl ⟨zval w C, trivial⟩
theorem ti83 : TI Tryd.prog 83 4 56 (.agg #[.int .i64 0, .int .i64 0, .string ⟨#[]⟩, .slice none 0 0]) := ⟨⟨Tryd.t83, by kernel_rfl, by kernel_rfl, by kernel_rfl, by kernel_rfl⟩⟩
theorem z83 (w : World) (C : Nat → Prop) : AllR [Rp.int .i64 0, Rp.int .i64 0, Rp.str [], Rp.exs []] w C (Value.agg #[.int .i64 0, .int .i64 0, .string ⟨#[]⟩, .slice none 0 0]).cells.toList := allR_of rfl ⟨zint rfl w C, zint rfl w C, zstr w C, zslice w C, trivial⟩
theorem z83v (w : World) (C : Nat → Prop) : AllR [Rp.int .i64 0, Rp.int .i64 0, Rp.str [], Rp.val (.slice none 0 0)] w C (Value.agg #[.int .i64 0, .int .i64 0, .string ⟨#[]⟩, .slice none 0 0]).cells.toList := allR_of rfl ⟨zint rfl w C, zint rfl w C, zstr w C, zval w C, trivial⟩
theorem ti86 : TI Tryd.prog 86 12 216 (.agg #[.int .i64 0, .int .i64 0, .int .i64 0, .string ⟨#[]⟩, .slice none 0 0, .string ⟨#[]⟩, .string ⟨#[]⟩, .slice none 0 0, .slice none 0 0, .slice none 0 0, .slice none 0 0, .slice none 0 0]) := ⟨⟨Tryd.t86, by kernel_rfl, by kernel_rfl, by kernel_rfl, by kernel_rfl⟩⟩
theorem z86 (w : World) (C : Nat → Prop) : AllR [Rp.int .i64 0, Rp.int .i64 0, Rp.int .i64 0, Rp.str [], Rp.exs [], Rp.str [], Rp.str [], Rp.slice eW [], Rp.its [], Rp.its [], Rp.slice eS [], Rp.slice eS []] w C (Value.agg #[.int .i64 0, .int .i64 0, .int .i64 0, .string ⟨#[]⟩, .slice none 0 0, .string ⟨#[]⟩, .string ⟨#[]⟩, .slice none 0 0, .slice none 0 0, .slice none 0 0, .slice none 0 0, .slice none 0 0]).cells.toList := allR_of rfl ⟨zint rfl w C, zint rfl w C, zint rfl w C, zstr w C, zslice w C, zstr w C, zstr w C, zslice w C, zslice w C, zslice w C, zslice w C, zslice w C, trivial⟩
theorem z86v (w : World) (C : Nat → Prop) : AllR [Rp.int .i64 0, Rp.int .i64 0, Rp.int .i64 0, Rp.str [], Rp.val (.slice none 0 0), Rp.str [], Rp.str [], Rp.val (.slice none 0 0), Rp.val (.slice none 0 0), Rp.val (.slice none 0 0), Rp.val (.slice none 0 0), Rp.val (.slice none 0 0)] w C (Value.agg #[.int .i64 0, .int .i64 0, .int .i64 0, .string ⟨#[]⟩, .slice none 0 0, .string ⟨#[]⟩, .string ⟨#[]⟩, .slice none 0 0, .slice none 0 0, .slice none 0 0, .slice none 0 0, .slice none 0 0]).cells.toList := allR_of rfl ⟨zint rfl w C, zint rfl w C, zint rfl w C, zstr w C, zval w C, zstr w C, zstr w C, zval w C, zval w C, zval w C, zval w C, zval w C, trivial⟩
theorem ti109 : TI Tryd.prog 109 4 32 (.agg #[.int .i64 0, .int .i64 0, .int .i64 0, .bool false]) := ⟨⟨Tryd.t109, by kernel_rfl, by kernel_rfl, by kernel_rfl, by kernel_rfl⟩⟩
theorem z109 (w : World) (C : Nat → Prop) : AllR [Rp.int .i64 0, Rp.int .i64 0, Rp.int .i64 0, Rp.bool false] w C (Value.agg #[.int .i64 0, .int .i64 0, .int .i64 0, .bool false]).cells.toList := allR_of rfl ⟨zint rfl w C, zint rfl w C, zint rfl w C, zbool w C, trivial⟩
theorem pl25 (w : World) : (#[({ name := "Name", type := 9, offset := 0, embedded := false, tag := "", pkgPath := "", byteOffset := 0 } : Field), { name := "Parent", type := 9, offset := 1, embedded := false, tag := "", pkgPath := "", byteOffset := 16 }, { name := "Fields", type := 22, offset := 2, embedded := false, tag := "", pkgPath := "", byteOffset := 32 }, { name := "Blocks", type := 23, offset := 3, embedded := false, tag := "", pkgPath := "", byteOffset := 56 }].mapM fun f => (do pure (f.offset, ← sizeOf f.type) : Sem (Nat × Nat))).run Tryd.prog w = .ok #[(0, 1), (1, 1), (2, 1), (3, 1)] w := by
  simp [Tryd.sizeOf22, Tryd.sizeOf23, Tryd.sizeOf9]
theorem pl27 (w : World) : (#[({ name := "Name", type := 9, offset := 0, embedded := false, tag := "", pkgPath := "", byteOffset := 0 } : Field), { name := "Width", type := 3, offset := 1, embedded := false, tag := "", pkgPath := "", byteOffset := 16 }, { name := "Size", type := 3, offset := 2, embedded := false, tag := "", pkgPath := "", byteOffset := 24 }, { name := "Mode", type := 3, offset := 3, embedded := false, tag := "", pkgPath := "", byteOffset := 32 }, { name := "Init", type := 3, offset := 4, embedded := false, tag := "", pkgPath := "", byteOffset := 40 }].mapM fun f => (do pure (f.offset, ← sizeOf f.type) : Sem (Nat × Nat))).run Tryd.prog w = .ok #[(0, 1), (1, 1), (2, 1), (3, 1), (4, 1)] w := by
  simp [Tryd.sizeOf3, Tryd.sizeOf9]
theorem pl33 (w : World) : (#[({ name := "Name", type := 9, offset := 0, embedded := false, tag := "", pkgPath := "", byteOffset := 0 } : Field), { name := "Width", type := 3, offset := 1, embedded := false, tag := "", pkgPath := "", byteOffset := 16 }, { name := "Mode", type := 3, offset := 2, embedded := false, tag := "", pkgPath := "", byteOffset := 24 }, { name := "Value", type := 3, offset := 3, embedded := false, tag := "", pkgPath := "", byteOffset := 32 }].mapM fun f => (do pure (f.offset, ← sizeOf f.type) : Sem (Nat × Nat))).run Tryd.prog w = .ok #[(0, 1), (1, 1), (2, 1), (3, 1)] w := by
  simp [Tryd.sizeOf3, Tryd.sizeOf9]
theorem pl54 (w : World) : (#[({ name := "Name", type := 9, offset := 0, embedded := false, tag := "", pkgPath := "", byteOffset := 0 } : Field), { name := "Items", type := 52, offset := 1, embedded := false, tag := "", pkgPath := "", byteOffset := 16 }].mapM fun f => (do pure (f.offset, ← sizeOf f.type) : Sem (Nat × Nat))).run Tryd.prog w = .ok #[(0, 1), (1, 1)] w := by
  simp [Tryd.sizeOf52, Tryd.sizeOf9]
theorem pl72 (w : World) : (#[({ name := "Class", type := 25, offset := 0, embedded := true, tag := "", pkgPath := "", byteOffset := 0 } : Field), { name := "clash", type := 4, offset := 4, embedded := false, tag := "", pkgPath := "testbench/class", byteOffset := 80 }].mapM fun f => (do pure (f.offset, ← sizeOf f.type) : Sem (Nat × Nat))).run Tryd.prog w = .ok #[(0, 4), (4, 1)] w := by
  simp [Tryd.sizeOf25, Tryd.sizeOf4]
theorem pl83 (w : World) : (#[({ name := "Op", type := 3, offset := 0, embedded := false, tag := "", pkgPath := "", byteOffset := 0 } : Field), { name := "N", type := 3, offset := 1, embedded := false, tag := "", pkgPath := "", byteOffset := 8 }, { name := "Name", type := 9, offset := 2, embedded := false, tag := "", pkgPath := "", byteOffset := 16 }, { name := "Args", type := 81, offset := 3, embedded := false, tag := "", pkgPath := "", byteOffset := 32 }].mapM fun f => (do pure (f.offset, ← sizeOf f.type) : Sem (Nat × Nat))).run Tryd.prog w = .ok #[(0, 1), (1, 1), (2, 1), (3, 1)] w := by
  simp [Tryd.sizeOf3, Tryd.sizeOf81, Tryd.sizeOf9]
theorem pl86 (w : World) : (#[({ name := "Kind", type := 3, offset := 0, embedded := false, tag := "", pkgPath := "", byteOffset := 0 } : Field), { name := "Expr", type := 83, offset := 1, embedded := false, tag := "", pkgPath := "", byteOffset := 8 }, { name := "Name", type := 9, offset := 5, embedded := false, tag := "", pkgPath := "", byteOffset := 64 }, { name := "Index", type := 9, offset := 6, embedded := false, tag := "", pkgPath := "", byteOffset := 80 }, { name := "Weights", type := 84, offset := 7, embedded := false, tag := "", pkgPath := "", byteOffset := 96 }, { name := "Items", type := 52, offset := 8, embedded := false, tag := "", pkgPath := "", byteOffset := 120 }, { name := "Else", type := 52, offset := 9, embedded := false, tag := "", pkgPath := "", byteOffset := 144 }, { name := "Before", type := 40, offset := 10, embedded := false, tag := "", pkgPath := "", byteOffset := 168 }, { name := "After", type := 40, offset := 11, embedded := false, tag := "", pkgPath := "", byteOffset := 192 }].mapM fun f => (do pure (f.offset, ← sizeOf f.type) : Sem (Nat × Nat))).run Tryd.prog w = .ok #[(0, 1), (1, 4), (5, 1), (6, 1), (7, 1), (8, 1), (9, 1), (10, 1), (11, 1)] w := by
  simp [Tryd.sizeOf3, Tryd.sizeOf40, Tryd.sizeOf52, Tryd.sizeOf83, Tryd.sizeOf84, Tryd.sizeOf9]
theorem fld27 : FldP Tryd.prog [({ name := "Name", type := 9, offset := 0, embedded := false, tag := "", pkgPath := "", byteOffset := 0 } : Field), { name := "Width", type := 3, offset := 1, embedded := false, tag := "", pkgPath := "", byteOffset := 16 }, { name := "Size", type := 3, offset := 2, embedded := false, tag := "", pkgPath := "", byteOffset := 24 }, { name := "Mode", type := 3, offset := 3, embedded := false, tag := "", pkgPath := "", byteOffset := 32 }, { name := "Init", type := 3, offset := 4, embedded := false, tag := "", pkgPath := "", byteOffset := 40 }] [.str, .int, .int, .int, .int] 0 :=
  .cons (by decide) rfl Tryd.underlying9 trivial Tryd.isAgg9 (.cons (by decide) rfl Tryd.underlying3 trivial Tryd.isAgg3 (.cons (by decide) rfl Tryd.underlying3 trivial Tryd.isAgg3 (.cons (by decide) rfl Tryd.underlying3 trivial Tryd.isAgg3 (.cons (by decide) rfl Tryd.underlying3 trivial Tryd.isAgg3 .nil))))
theorem fld33 : FldP Tryd.prog [({ name := "Name", type := 9, offset := 0, embedded := false, tag := "", pkgPath := "", byteOffset := 0 } : Field), { name := "Width", type := 3, offset := 1, embedded := false, tag := "", pkgPath := "", byteOffset := 16 }, { name := "Mode", type := 3, offset := 2, embedded := false, tag := "", pkgPath := "", byteOffset := 24 }, { name := "Value", type := 3, offset := 3, embedded := false, tag := "", pkgPath := "", byteOffset := 32 }] [.str, .int, .int, .int] 0 :=
  .cons (by decide) rfl Tryd.underlying9 trivial Tryd.isAgg9 (.cons (by decide) rfl Tryd.underlying3 trivial Tryd.isAgg3 (.cons (by decide) rfl Tryd.underlying3 trivial Tryd.isAgg3 (.cons (by decide) rfl Tryd.underlying3 trivial Tryd.isAgg3 .nil)))
theorem fld109 : FldP Tryd.prog [({ name := "Lo", type := 3, offset := 0, embedded := false, tag := "", pkgPath := "", byteOffset := 0 } : Field), { name := "Hi", type := 3, offset := 1, embedded := false, tag := "", pkgPath := "", byteOffset := 8 }, { name := "Weight", type := 3, offset := 2, embedded := false, tag := "", pkgPath := "", byteOffset := 16 }, { name := "Each", type := 4, offset := 3, embedded := false, tag := "", pkgPath := "", byteOffset := 24 }] [.int, .int, .int, .bool] 0 :=
  .cons (by decide) rfl Tryd.underlying3 trivial Tryd.isAgg3 (.cons (by decide) rfl Tryd.underlying3 trivial Tryd.isAgg3 (.cons (by decide) rfl Tryd.underlying3 trivial Tryd.isAgg3 (.cons (by decide) rfl Tryd.underlying4 trivial Tryd.isAgg4 .nil)))
section
variable {M : List MF} {o : Oper} {σ : Nat → Option Rp}
theorem eq27 (n m : Fd) : ([decide (n.name = m.name), decide (n.width = m.width), decide (n.size = m.size), decide (n.mode = m.mode), decide (n.init = m.init)].all id) = decide (n = m) := by
  rw [Bool.eq_iff_iff]; cases n; cases m; simp
theorem neq27 {x y : Operand} {n m : Fd} {T' : TypeId} (h : o.op = .binOp .neq 27 x y T') (hx : Get σ x (Rp.agg (eF n))) (hy : Get σ y (Rp.agg (eF m))) : Go.Sim.Spec Tryd.prog σ M o (.one (Rp.bool (!decide (n = m)))) := by
  rw [← eq27]; exact spec_neqA h Tryd.underlying27 (by kernel_rfl) (by kernel_rfl) fld27 (.str (.int (.int (.int (.int .nil))))) hx hy
theorem eq33 (n m : Vr) : ([decide (n.name = m.name), decide (n.width = m.width), decide (n.mode = m.mode), decide (n.val = m.val)].all id) = decide (n = m) := by
  rw [Bool.eq_iff_iff]; cases n; cases m; simp
theorem neq33 {x y : Operand} {n m : Vr} {T' : TypeId} (h : o.op = .binOp .neq 33 x y T') (hx : Get σ x (Rp.agg (eVr n))) (hy : Get σ y (Rp.agg (eVr m))) : Go.Sim.Spec Tryd.prog σ M o (.one (Rp.bool (!decide (n = m)))) := by
  rw [← eq33]; exact spec_neqA h Tryd.underlying33 (by kernel_rfl) (by kernel_rfl) fld33 (.str (.int (.int (.int .nil)))) hx hy
theorem eql33 {x y : Operand} {n m : Vr} {T' : TypeId} (h : o.op = .binOp .eql 33 x y T') (hx : Get σ x (Rp.agg (eVr n))) (hy : Get σ y (Rp.agg (eVr m))) : Go.Sim.Spec Tryd.prog σ M o (.one (Rp.bool (decide (n = m)))) := by
  rw [← eq33]; exact spec_eqlA h Tryd.underlying33 (by kernel_rfl) (by kernel_rfl) fld33 (.str (.int (.int (.int .nil)))) hx hy
theorem eq109 (n m : Wt) : ([decide (n.lo = m.lo), decide (n.hi = m.hi), decide (n.w = m.w), decide (n.each = m.each)].all id) = decide (n = m) := by
  rw [Bool.eq_iff_iff]; cases n; cases m; simp
theorem neq109 {x y : Operand} {n m : Wt} {T' : TypeId} (h : o.op = .binOp .neq 109 x y T') (hx : Get σ x (Rp.agg (eW n))) (hy : Get σ y (Rp.agg (eW m))) : Go.Sim.Spec Tryd.prog σ M o (.one (Rp.bool (!decide (n = m)))) := by
  rw [← eq109]; exact spec_neqA h Tryd.underlying109 (by kernel_rfl) (by kernel_rfl) fld109 (.int (.int (.int (.bool .nil)))) hx hy
end
instance {l : List Ex} : One (Rp.exs l) := inferInstanceAs (One (Rp.slice (fun r : List Rp => r) (eXl l)))
instance {l : List It} : One (Rp.its l) := inferInstanceAs (One (Rp.slice (fun r : List Rp => r) (eIl l)))
end Go.Proofs.YtcabngjnmipflaaDoor
set_option linter.unusedSimpArgs false
set_option maxRecDepth 8000
set_option linter.unusedVariables false
namespace Go.Proofs.YtcabngjnmipflaaDoor
open Go.Sim
theorem lower_ok (c : Int) : CallT Tryd.prog 70 [Rp.int .i32 c] [] (.one (Rp.bool (lowB c))) := by
  refine W.enter (fn := Tryd.f70) (n := 9) Tryd.func70 rfl Tryd.ntmps70 rfl (fun w₀ C₀ => ?_)
  simp only [argS]
  refine W.seq ?_
  refine W.region ?_
  refine L.op1 rfl rfl (GSpec.plain rfl (spec_assign rfl Get.cbool)) ?_
  refine L.nil ?_
  refine N.thenW ?_
  refine W.seq ?_
  refine W.region ?_
  refine L.op1 rfl rfl (GSpec.plain rfl (spec_move rfl (Get.tmp rfl))) ?_
  refine L.op1 rfl rfl (GSpec.plain rfl (spec_geq rfl (Get.tmp rfl) (Get.cint rfl))) ?_
  refine L.op1 rfl rfl (GSpec.plain rfl (spec_move rfl (Get.tmp rfl))) ?_
  refine L.op1 rfl rfl (GSpec.guard rfl rfl rfl fun hg => (spec_move rfl (Get.tmp rfl))) ?_
  refine L.op1 rfl rfl (GSpec.guard rfl rfl rfl fun hg => (spec_leq rfl (Get.opt rfl hg) (Get.cint rfl))) ?_
  refine L.op1 rfl rfl (GSpec.plain rfl (spec_and rfl (Get.tmp rfl) (fun hb => (Get.opt rfl hb)))) ?_
  refine L.op1 rfl rfl (GSpec.plain rfl (spec_assign rfl (Get.tmp rfl))) ?_
  refine L.nil ?_
  refine N.thenW ?_
  refine W.keep (.cons (t := 2) rfl .nil) .refl ?_
  refine W.ret ?_
  refine N.ret () rfl (.tmp (t := 2) (Get.tmp rfl) .nil) (res1 (eqB ?_)) .nil (fun _ _ h => h)
  rfl

theorem digit_ok (c : Int) : CallT Tryd.prog 89 [Rp.int .i32 c] [] (.one (Rp.bool (digB c))) := by
  refine W.enter (fn := Tryd.f89) (n := 9) Tryd.func89 rfl Tryd.ntmps89 rfl (fun w₀ C₀ => ?_)
  simp only [argS]
  refine W.seq ?_
  refine W.region ?_
  refine L.op1 rfl rfl (GSpec.plain rfl (spec_assign rfl Get.cbool)) ?_
  refine L.nil ?_
  refine N.thenW ?_
  refine W.seq ?_
  refine W.region ?_
  refine L.op1 rfl rfl (GSpec.plain rfl (spec_move rfl (Get.tmp rfl))) ?_
  refine L.op1 rfl rfl (GSpec.plain rfl (spec_geq rfl (Get.tmp rfl) (Get.cint rfl))) ?_
  refine L.op1 rfl rfl (GSpec.plain rfl (spec_move rfl (Get.tmp rfl))) ?_
  refine L.op1 rfl rfl (GSpec.guard rfl rfl rfl fun hg => (spec_move rfl (Get.tmp rfl))) ?_
  refine L.op1 rfl rfl (GSpec.guard rfl rfl rfl fun hg => (spec_leq rfl (Get.opt rfl hg) (Get.cint rfl))) ?_
  refine L.op1 rfl rfl (GSpec.plain rfl (spec_and rfl (Get.tmp rfl) (fun hb => (Get.opt rfl hb)))) ?_
  refine L.op1 rfl rfl (GSpec.plain rfl (spec_assign rfl (Get.tmp rfl))) ?_
  refine L.nil ?_
  refine N.thenW ?_
  refine W.keep (.cons (t := 2) rfl .nil) .refl ?_
  refine W.ret ?_
  refine N.ret () rfl (.tmp (t := 2) (Get.tmp rfl) .nil) (res1 (eqB ?_)) .nil (fun _ _ h => h)
  rfl

theorem follows_ok (c : Int) : CallT Tryd.prog 71 [Rp.int .i32 c] [] (.one (Rp.bool (folB c))) := by
  refine W.enter (fn := Tryd.f71) (n := 21) Tryd.func71 rfl Tryd.ntmps71 rfl (fun w₀ C₀ => ?_)
  simp only [argS]
  refine W.seq ?_
  refine W.region ?_
  refine L.op1 rfl rfl (GSpec.plain rfl (spec_assign rfl Get.cbool)) ?_
  refine L.nil ?_
  refine N.thenW ?_
  refine W.seq ?_
  refine W.region ?_
  refine L.op1 rfl rfl (GSpec.plain rfl (spec_move rfl (Get.tmp rfl))) ?_
  refine L.op1 rfl rfl (GSpec.plain rfl (spec_call rfl Tryd.call70 (lower_ok _) (.cons (Get.tmp rfl) .nil))) ?_
  refine L.op1 rfl rfl (GSpec.plain rfl (spec_move rfl (Get.tmp rfl))) ?_
  refine L.op1 rfl rfl (GSpec.guard rfl rfl rfl fun hg => (spec_move rfl (Get.tmp rfl))) ?_
  refine L.op1 rfl rfl (GSpec.guard rfl rfl rfl fun hg => (spec_call rfl Tryd.call89 (digit_ok _) (.cons (Get.opt rfl hg) .nil))) ?_
  refine L.op1 rfl rfl (GSpec.plain rfl (spec_or rfl (Get.tmp rfl) (fun hb => (Get.opt rfl hb)))) ?_
  refine L.op1 rfl rfl (GSpec.plain rfl (spec_move rfl (Get.tmp rfl))) ?_
  refine L.op1 rfl rfl (GSpec.guard rfl rfl rfl fun hg => (spec_move rfl (Get.tmp rfl))) ?_
  refine L.op1 rfl rfl (GSpec.guard rfl rfl rfl fun hg => (spec_geq rfl (Get.opt rfl hg) (Get.cint rfl))) ?_
  refine L.op1 rfl rfl (GSpec.guard rfl rfl rfl fun hg => (spec_move rfl (Get.opt rfl hg))) ?_
  refine L.op1 rfl rfl (GSpec.guardOpt rfl rfl rfl fun hg => (spec_move rfl (Get.tmp rfl))) ?_
  refine L.op1 rfl rfl (GSpec.guardOpt rfl rfl rfl fun hg => (spec_leq rfl (Get.opt rfl hg) (Get.cint rfl))) ?_
  refine L.op1 rfl rfl (GSpec.guard rfl rfl rfl fun hg => (spec_and rfl (Get.opt rfl hg) (fun hb => (Get.opt rfl ⟨hg, hb⟩)))) ?_
  refine L.op1 rfl rfl (GSpec.plain rfl (spec_or rfl (Get.tmp rfl) (fun hb => (Get.opt rfl hb)))) ?_
  refine L.op1 rfl rfl (GSpec.plain rfl (spec_move rfl (Get.tmp rfl))) ?_
  refine L.op1 rfl rfl (GSpec.guard rfl rfl rfl fun hg => (spec_move rfl (Get.tmp rfl))) ?_
  refine L.op1 rfl rfl (GSpec.guard rfl rfl rfl fun hg => (spec_eql rfl (Get.opt rfl hg) (Get.cint rfl))) ?_
  refine L.op1 rfl rfl (GSpec.plain rfl (spec_or rfl (Get.tmp rfl) (fun hb => (Get.opt rfl hb)))) ?_
  refine L.op1 rfl rfl (GSpec.plain rfl (spec_assign rfl (Get.tmp rfl))) ?_
  refine L.nil ?_
  refine N.thenW ?_
  refine W.keep (.cons (t := 2) rfl .nil) .refl ?_
  refine W.ret ?_
  refine N.ret () rfl (.tmp (t := 2) (Get.tmp rfl) .nil) (res1 (eqB ?_)) .nil (fun _ _ h => h)
  rfl

theorem small_ok (c : Int) : CallT Tryd.prog 58 [Rp.int .u8 c] [] (.one (Rp.bool (lowB c))) := by
  refine W.enter (fn := Tryd.f58) (n := 9) Tryd.func58 rfl Tryd.ntmps58 rfl (fun w₀ C₀ => ?_)
  simp only [argS]
  refine W.seq ?_
  refine W.region ?_
  refine L.op1 rfl rfl (GSpec.plain rfl (spec_assign rfl Get.cbool)) ?_
  refine L.nil ?_
  refine N.thenW ?_
  refine W.seq ?_
  refine W.region ?_
  refine L.op1 rfl rfl (GSpec.plain rfl (spec_move rfl (Get.tmp rfl))) ?_
  refine L.op1 rfl rfl (GSpec.plain rfl (spec_geq rfl (Get.tmp rfl) (Get.cint rfl))) ?_
  refine L.op1 rfl rfl (GSpec.plain rfl (spec_move rfl (Get.tmp rfl))) ?_
  refine L.op1 rfl rfl (GSpec.guard rfl rfl rfl fun hg => (spec_move rfl (Get.tmp rfl))) ?_
  refine L.op1 rfl rfl (GSpec.guard rfl rfl rfl fun hg => (spec_leq rfl (Get.opt rfl hg) (Get.cint rfl))) ?_
  refine L.op1 rfl rfl (GSpec.plain rfl (spec_and rfl (Get.tmp rfl) (fun hb => (Get.opt rfl hb)))) ?_
  refine L.op1 rfl rfl (GSpec.plain rfl (spec_assign rfl (Get.tmp rfl))) ?_
  refine L.nil ?_
  refine N.thenW ?_
  refine W.keep (.cons (t := 2) rfl .nil) .refl ?_
  refine W.ret ?_
  refine N.ret () rfl (.tmp (t := 2) (Get.tmp rfl) .nil) (res1 (eqB ?_)) .nil (fun _ _ h => h)
  rfl

theorem digit2_ok (c : Int) : CallT Tryd.prog 75 [Rp.int .u8 c] [] (.one (Rp.bool (digB c))) := by
  refine W.enter (fn := Tryd.f75) (n := 9) Tryd.func75 rfl Tryd.ntmps75 rfl (fun w₀ C₀ => ?_)
  simp only [argS]
  refine W.seq ?_
  refine W.region ?_
  refine L.op1 rfl rfl (GSpec.plain rfl (spec_assign rfl Get.cbool)) ?_
  refine L.nil ?_
  refine N.thenW ?_
  refine W.seq ?_
  refine W.region ?_
  refine L.op1 rfl rfl (GSpec.plain rfl (spec_move rfl (Get.tmp rfl))) ?_
  refine L.op1 rfl rfl (GSpec.plain rfl (spec_geq rfl (Get.tmp rfl) (Get.cint rfl))) ?_
  refine L.op1 rfl rfl (GSpec.plain rfl (spec_move rfl (Get.tmp rfl))) ?_
  refine L.op1 rfl rfl (GSpec.guard rfl rfl rfl fun hg => (spec_move rfl (Get.tmp rfl))) ?_
  refine L.op1 rfl rfl (GSpec.guard rfl rfl rfl fun hg => (spec_leq rfl (Get.opt rfl hg) (Get.cint rfl))) ?_
  refine L.op1 rfl rfl (GSpec.plain rfl (spec_and rfl (Get.tmp rfl) (fun hb => (Get.opt rfl hb)))) ?_
  refine L.op1 rfl rfl (GSpec.plain rfl (spec_assign rfl (Get.tmp rfl))) ?_
  refine L.nil ?_
  refine N.thenW ?_
  refine W.keep (.cons (t := 2) rfl .nil) .refl ?_
  refine W.ret ?_
  refine N.ret () rfl (.tmp (t := 2) (Get.tmp rfl) .nil) (res1 (eqB ?_)) .nil (fun _ _ h => h)
  rfl

theorem inner_ok (c : Int) : CallT Tryd.prog 60 [Rp.int .u8 c] [] (.one (Rp.bool (folB c))) := by
  refine W.enter (fn := Tryd.f60) (n := 21) Tryd.func60 rfl Tryd.ntmps60 rfl (fun w₀ C₀ => ?_)
  simp only [argS]
  refine W.seq ?_
  refine W.region ?_
  refine L.op1 rfl rfl (GSpec.plain rfl (spec_assign rfl Get.cbool)) ?_
  refine L.nil ?_
  refine N.thenW ?_
  refine W.seq ?_
  refine W.region ?_
  refine L.op1 rfl rfl (GSpec.plain rfl (spec_move rfl (Get.tmp rfl))) ?_
  refine L.op1 rfl rfl (GSpec.plain rfl (spec_call rfl Tryd.call58 (small_ok _) (.cons (Get.tmp rfl) .nil))) ?_
  refine L.op1 rfl rfl (GSpec.plain rfl (spec_move rfl (Get.tmp rfl))) ?_
  refine L.op1 rfl rfl (GSpec.guard rfl rfl rfl fun hg => (spec_move rfl (Get.tmp rfl))) ?_
  refine L.op1 rfl rfl (GSpec.guard rfl rfl rfl fun hg => (spec_call rfl Tryd.call75 (digit2_ok _) (.cons (Get.opt rfl hg) .nil))) ?_
  refine L.op1 rfl rfl (GSpec.plain rfl (spec_or rfl (Get.tmp rfl) (fun hb => (Get.opt rfl hb)))) ?_
  refine L.op1 rfl rfl (GSpec.plain rfl (spec_move rfl (Get.tmp rfl))) ?_
  refine L.op1 rfl rfl (GSpec.guard rfl rfl rfl fun hg => (spec_move rfl (Get.tmp rfl))) ?_
  refine L.op1 rfl rfl (GSpec.guard rfl rfl rfl fun hg => (spec_geq rfl (Get.opt rfl hg) (Get.cint rfl))) ?_
  refine L.op1 rfl rfl (GSpec.guard rfl rfl rfl fun hg => (spec_move rfl (Get.opt rfl hg))) ?_
  refine L.op1 rfl rfl (GSpec.guardOpt rfl rfl rfl fun hg => (spec_move rfl (Get.tmp rfl))) ?_
  refine L.op1 rfl rfl (GSpec.guardOpt rfl rfl rfl fun hg => (spec_leq rfl (Get.opt rfl hg) (Get.cint rfl))) ?_
  refine L.op1 rfl rfl (GSpec.guard rfl rfl rfl fun hg => (spec_and rfl (Get.opt rfl hg) (fun hb => (Get.opt rfl ⟨hg, hb⟩)))) ?_
  refine L.op1 rfl rfl (GSpec.plain rfl (spec_or rfl (Get.tmp rfl) (fun hb => (Get.opt rfl hb)))) ?_
  refine L.op1 rfl rfl (GSpec.plain rfl (spec_move rfl (Get.tmp rfl))) ?_
  refine L.op1 rfl rfl (GSpec.guard rfl rfl rfl fun hg => (spec_move rfl (Get.tmp rfl))) ?_
  refine L.op1 rfl rfl (GSpec.guard rfl rfl rfl fun hg => (spec_eql rfl (Get.opt rfl hg) (Get.cint rfl))) ?_
  refine L.op1 rfl rfl (GSpec.plain rfl (spec_or rfl (Get.tmp rfl) (fun hb => (Get.opt rfl hb)))) ?_
  refine L.op1 rfl rfl (GSpec.plain rfl (spec_assign rfl (Get.tmp rfl))) ?_
  refine L.nil ?_
  refine N.thenW ?_
  refine W.keep (.cons (t := 2) rfl .nil) .refl ?_
  refine W.ret ?_
  refine N.ret () rfl (.tmp (t := 2) (Get.tmp rfl) .nil) (res1 (eqB ?_)) .nil (fun _ _ h => h)
  rfl

theorem word_ok (s : List UInt8) : CallT Tryd.prog 56 [Rp.str s] [] (.one (Rp.bool (wordB s))) := by
  refine W.enter (fn := Tryd.f56) (n := 25) Tryd.func56 rfl Tryd.ntmps56 rfl (fun w₀ C₀ => ?_)
  simp only [argS]
  refine W.fact 0 rfl str_fact fun hs => ?_
  refine W.seq ?_
  refine W.region ?_
  refine L.op1 rfl rfl (GSpec.plain rfl (spec_assign rfl Get.cbool)) ?_
  refine L.nil ?_
  refine N.thenW ?_
  refine W.seq ?_
  refine W.seq ?_
  refine W.region ?_
  refine L.op1 rfl rfl (GSpec.plain rfl (spec_move rfl (Get.tmp rfl))) ?_
  refine L.op rfl rfl (GSpec.plain rfl (spec_rangeS rfl Tryd.underlying9 (Get.tmp rfl))) (fun r6 => ?_)
  refine L.nil ?_
  refine N.thenW ?_
  refine W.block ?_
  -- assigned in the loop, not kept: [2]
  refine W.loopK (σ := Nat) (.cons (t := 0) rfl (.cons (t := 6) rfl .nil)) (fun z => []) (fun z => [MF.iter r6 s z]) (fun z => z ≤ s.length ∧ (∀ j : Nat, j < z → folB (ch s j) = true) ∧ (0 < z → lowB (ch s 0) = true)) (fun z => s.length - z) 0 ⟨Nat.zero_le _, fun j hj => by omega, fun h => by omega⟩ .nil (.cons 0 rfl .nil) ?_
  intro i hI S' M' hS hM
  obtain ⟨hI1, hI2, hI3⟩ := hI
  try dsimp only at hS hM
  simp only [List.cons_append, List.nil_append] at hS hM
  subst hS hM
  try dsimp only
  refine W.seq ?_
  refine W.region ?_
  refine L.nextS (kk := 0) rfl rfl rfl rfl (Get.tmp rfl) rfl ?_
  refine L.op1 rfl rfl (GSpec.plain rfl (spec_nx0 rfl (Get.tmp rfl))) ?_
  refine L.nil ?_
  refine N.thenW ?_
  refine W.seq ?_
  refine W.cond (Get.tmp rfl) (fun h1 => ?_) (fun h1 => ?_)
  · have ph1 := h1; try simp only [decide_eq_true_eq, decide_eq_false_iff_not, Bool.and_eq_true, Bool.or_eq_true, Bool.and_eq_false_iff, Bool.or_eq_false_iff, Bool.not_eq_true', Bool.not_eq_false', Bool.not_true, Bool.not_false, Int.not_lt, Int.not_le] at ph1
    refine W.skip ?_
    refine N.thenW ?_
    refine W.block ?_
    refine W.seq ?_
    refine W.region ?_
    refine L.op1 rfl rfl (GSpec.plain rfl (spec_nx1 rfl (Get.tmp rfl) (by omega))) ?_
    refine L.op1 rfl rfl (GSpec.plain rfl (spec_nx2 rfl (Get.tmp rfl) (by omega))) ?_
    refine L.op1 rfl rfl (GSpec.plain rfl (spec_assign rfl (Get.tmp rfl))) ?_
    refine L.op1 rfl rfl (GSpec.plain rfl (spec_assign rfl (Get.tmp rfl))) ?_
    refine L.nil ?_
    refine N.thenW ?_
    refine W.seq ?_
    refine W.region ?_
    refine L.op1 rfl rfl (GSpec.plain rfl (spec_move rfl (Get.tmp rfl))) ?_
    refine L.op1 rfl rfl (GSpec.plain rfl (spec_eql rfl (Get.tmp rfl) (Get.cint rfl))) ?_
    refine L.op1 rfl rfl (GSpec.plain rfl (spec_move rfl (Get.tmp rfl))) ?_
    refine L.op1 rfl rfl (GSpec.guard rfl rfl rfl fun hg => (spec_move rfl (Get.tmp rfl))) ?_
    refine L.op1 rfl rfl (GSpec.guard rfl rfl rfl fun hg => (spec_call rfl Tryd.call70 (lower_ok _) (.cons (Get.opt rfl hg) .nil))) ?_
    refine L.op1 rfl rfl (GSpec.guard rfl rfl rfl fun hg => (spec_not rfl (Get.opt rfl hg))) ?_
    refine L.op1 rfl rfl (GSpec.plain rfl (spec_and rfl (Get.tmp rfl) (fun hb => (Get.opt rfl hb)))) ?_
    refine L.op1 rfl rfl (GSpec.plain rfl (spec_move rfl (Get.tmp rfl))) ?_
    refine L.op1 rfl rfl (GSpec.guard rfl rfl rfl fun hg => (spec_move rfl (Get.tmp rfl))) ?_
    refine L.op1 rfl rfl (GSpec.guard rfl rfl rfl fun hg => (spec_call rfl Tryd.call71 (follows_ok _) (.cons (Get.opt rfl hg) .nil))) ?_
    refine L.op1 rfl rfl (GSpec.guard rfl rfl rfl fun hg => (spec_not rfl (Get.opt rfl hg))) ?_
    refine L.op1 rfl rfl (GSpec.plain rfl (spec_or rfl (Get.tmp rfl) (fun hb => (Get.opt rfl hb)))) ?_
    refine L.nil ?_
    refine N.thenW ?_
    refine W.cond (Get.tmp rfl) (fun h2 => ?_) (fun h2 => ?_)
    · refine W.seq ?_
      refine W.region ?_
      refine L.op1 rfl rfl (GSpec.plain rfl (spec_assign rfl Get.cbool)) ?_
      refine L.nil ?_
      refine N.thenW ?_
      refine W.ret ?_
      refine N.ret () rfl (.tmp (t := 2) (Get.tmp rfl) .nil) (res1 (eqB ?_)) .nil (fun _ _ h => h)
      symm
      refine word_no (i := i) (by omega) ?_
      simp only [Bool.or_eq_true, Bool.and_eq_true, decide_eq_true_eq, Bool.not_eq_true'] at h2 ⊢
      rcases h2 with ⟨h2, h3⟩ | h2
      · exact .inl ⟨by omega, rune_notlow h3⟩
      · exact .inr (rune_not h2)
    · have h2' := h2
      simp only [Bool.or_eq_false_iff, Bool.and_eq_false_iff, Bool.not_eq_false', decide_eq_false_iff_not, Int.natCast_eq_zero] at h2'
      have h2f : folB (runeAt s i).1 = true := h2'.2
      have h2l : i = 0 → lowB (runeAt s i).1 = true := fun e => h2'.1.resolve_left (fun h => h (by omega))
      have hrf := rune_fol h2f
      have hnx := next_fol (by omega) h2f
      refine W.skip ?_
      refine N.blockNormal ?_
      refine N.roundK (nextPos s i) ?hI1 ?hmu1 ?hs1 ?hk1 ?hp1
      case hs1 => exact .nil
      case hk1 => exact (.cons (t := 0) rfl (.cons (t := 6) rfl .nil))
      case hp1 => exact (.cons 0 rfl .nil)
      case hI1 => rw [hnx]; exact ⟨by omega, upto hI2 (by rw [hrf.1]; exact h2f), fun _ => if h0 : i = 0 then by subst h0; rw [hrf.1]; exact h2l rfl else hI3 (by omega)⟩
      case hmu1 => rw [hnx]; omega
  · have ph1 := h1; try simp only [decide_eq_true_eq, decide_eq_false_iff_not, Bool.and_eq_true, Bool.or_eq_true, Bool.and_eq_false_iff, Bool.or_eq_false_iff, Bool.not_eq_true', Bool.not_eq_false', Bool.not_true, Bool.not_false, Int.not_lt, Int.not_le] at ph1
    refine W.exit ?_
    refine N.thenExit ?_
    refine N.thenExit ?_
    refine N.blockExit ?_
    refine N.thenW ?_
    refine W.seq ?_
    refine W.region ?_
    refine L.op1 rfl rfl (GSpec.plain rfl (spec_move rfl (Get.tmp rfl))) ?_
    refine L.op1 rfl rfl (GSpec.plain rfl (spec_neqS rfl (Get.tmp rfl) (Get.cstr (l := []) rfl rfl))) ?_
    refine L.op1 rfl rfl (GSpec.plain rfl (spec_assign rfl (Get.tmp rfl))) ?_
    refine L.nil ?_
    refine N.thenW ?_
    refine W.keep (.cons (t := 2) rfl .nil) .refl ?_
    refine W.ret ?_
    refine N.ret () rfl (.tmp (t := 2) (Get.tmp rfl) .nil) (res1 (eqB ?_)) .nil (fun _ _ h => h)
    exact (word_yes (fun j hj => hI2 j (by omega)) (fun h => hI3 (by omega))).symm

theorem indexS_ok (l : List (List UInt8)) (s : List UInt8) : CallT Tryd.prog 90 [Rp.slice eS l, Rp.str s] [] (.one (Rp.int .i64 (idxI (fun x => s == x) l))) := by
  refine W.enter (fn := Tryd.f90) (n := 19) Tryd.func90 rfl Tryd.ntmps90 rfl (fun w₀ C₀ => ?_)
  simp only [argS]
  refine W.fact 0 rfl slice_fact fun hl => ?_
  refine W.seq ?_
  refine W.region ?_
  refine L.op1 rfl rfl (GSpec.plain rfl (spec_assign rfl (Get.cint rfl))) ?_
  refine L.nil ?_
  refine N.thenW ?_
  refine W.seq ?_
  refine W.seq ?_
  refine W.region ?_
  refine L.op1 rfl rfl (GSpec.plain rfl (spec_move rfl (Get.tmp rfl))) ?_
  refine L.op1 rfl rfl (GSpec.plain rfl (spec_len rfl Tryd.underlying40 (Get.tmp rfl))) ?_
  refine L.op1 rfl rfl (GSpec.plain rfl (spec_move rfl (Get.cint rfl))) ?_
  refine L.nil ?_
  refine N.thenW ?_
  refine W.block ?_
  -- assigned in the loop, not kept: [4]
  refine W.loopK (σ := Nat) (.cons (t := 0) rfl (.cons (t := 1) rfl (.cons (t := 7) rfl .nil))) (fun z => [(8, Rp.int .i64 (z : Nat))]) (fun z => []) (fun z => z ≤ l.length ∧ ∀ j : Nat, j < z → (s == l.getD j default) = false) (fun z => l.length - z) 0 ⟨Nat.zero_le _, fun j hj => by omega⟩ (.cons (t := 8) rfl .nil) .nil ?_
  intro i hI S' M' hS hM
  obtain ⟨hI1, hI2⟩ := hI
  try dsimp only at hS hM
  simp only [List.cons_append, List.nil_append] at hS hM
  subst hS hM
  try dsimp only
  refine W.seq ?_
  refine W.region ?_
  refine L.op1 rfl rfl (GSpec.plain rfl (spec_lss rfl (Get.tmp rfl) (Get.tmp rfl))) ?_
  refine L.nil ?_
  refine N.thenW ?_
  refine W.seq ?_
  refine W.cond (Get.tmp rfl) (fun h1 => ?_) (fun h1 => ?_)
  · have ph1 := h1; try simp only [decide_eq_true_eq, decide_eq_false_iff_not, Bool.and_eq_true, Bool.or_eq_true, Bool.and_eq_false_iff, Bool.or_eq_false_iff, Bool.not_eq_true', Bool.not_eq_false', Bool.not_true, Bool.not_false, Int.not_lt, Int.not_le] at ph1
    refine W.skip ?_
    refine N.thenW ?_
    refine W.seq ?_
    refine W.block ?_
    refine W.seq ?_
    refine W.region ?_
    refine L.op1 rfl rfl (GSpec.plain rfl (spec_move rfl (Get.tmp rfl))) ?_
    refine L.op1 rfl rfl (GSpec.plain rfl (spec_assign rfl (Get.tmp rfl))) ?_
    refine L.nil ?_
    refine N.thenW ?_
    refine W.seq ?_
    refine W.region ?_
    refine L.op1 rfl rfl (GSpec.plain rfl (spec_move rfl (Get.tmp rfl))) ?_
    refine L.op1 rfl rfl (GSpec.plain rfl (spec_move rfl (Get.tmp rfl))) ?_
    refine L.op1 rfl rfl (GSpec.plain rfl (spec_move rfl (Get.tmp rfl))) ?_
    refine L.op1 rfl rfl (GSpec.plain rfl (spec_indexAddrD (E := eS) rfl Tryd.underlying40 Tryd.sizeOf9 (fun _ => rfl) (Get.tmp rfl) (Get.tmp rfl) (by omega))) ?_
    refine L.op1 rfl rfl (GSpec.plain rfl (spec_loadP1 rfl Tryd.isAgg9 (Get.tmp rfl))) ?_
    refine L.op1 rfl rfl (GSpec.plain rfl (spec_eqlS rfl (Get.tmp rfl) (Get.tmp rfl))) ?_
    refine L.nil ?_
    refine N.thenW ?_
    refine W.cond (Get.tmp rfl) (fun h2 => ?_) (fun h2 => ?_)
    · have ph2 := h2; try simp only [decide_eq_true_eq, decide_eq_false_iff_not, Bool.and_eq_true, Bool.or_eq_true, Bool.and_eq_false_iff, Bool.or_eq_false_iff, Bool.not_eq_true', Bool.not_eq_false', Bool.not_true, Bool.not_false, Int.not_lt, Int.not_le] at ph2
      refine W.seq ?_
      refine W.region ?_
      refine L.op1 rfl rfl (GSpec.plain rfl (spec_move rfl (Get.tmp rfl))) ?_
      refine L.op1 rfl rfl (GSpec.plain rfl (spec_assign rfl (Get.tmp rfl))) ?_
      refine L.nil ?_
      refine N.thenW ?_
      refine W.ret ?_
      refine N.ret () rfl (.tmp (t := 4) (Get.tmp rfl) .nil) (res1 (eqI ?_)) .nil (fun _ _ h => h)
      exact (idx_yes (by omega) (by simpa using h2) hI2).symm
    · have ph2 := h2; try simp only [decide_eq_true_eq, decide_eq_false_iff_not, Bool.and_eq_true, Bool.or_eq_true, Bool.and_eq_false_iff, Bool.or_eq_false_iff, Bool.not_eq_true', Bool.not_eq_false', Bool.not_true, Bool.not_false, Int.not_lt, Int.not_le] at ph2
      refine W.skip ?_
      refine N.blockNormal ?_
      refine N.thenW ?_
      refine W.region ?_
      first | refine L.op1 rfl rfl (GSpec.plain rfl (fit_i64 (by omega) (by omega) (spec_add rfl (Get.tmp rfl) (Get.cint rfl)))) ?_ | refine L.op1 rfl rfl (GSpec.plain rfl (spec_add rfl (Get.tmp rfl) (Get.cint rfl))) ?_
      refine L.op1 rfl rfl (GSpec.plain rfl (spec_move rfl (Get.tmp rfl))) ?_
      refine L.nil ?_
      refine N.roundK (i + 1) ?hI2 ?hmu2 ?hs2 ?hk2 ?hp2
      case hs2 => exact (.cons (t := 8) rfl .nil)
      case hk2 => exact (.cons (t := 0) rfl (.cons (t := 1) rfl (.cons (t := 7) rfl .nil)))
      case hp2 => exact .nil
      case hI2 => exact ⟨by omega, upto hI2 (by simpa using h2)⟩
      case hmu2 => omega
  · have ph1 := h1; try simp only [decide_eq_true_eq, decide_eq_false_iff_not, Bool.and_eq_true, Bool.or_eq_true, Bool.and_eq_false_iff, Bool.or_eq_false_iff, Bool.not_eq_true', Bool.not_eq_false', Bool.not_true, Bool.not_false, Int.not_lt, Int.not_le] at ph1
    refine W.exit ?_
    refine N.thenExit ?_
    refine N.thenExit ?_
    refine N.blockExit ?_
    refine N.thenW ?_
    refine W.seq ?_
    refine W.region ?_
    refine L.op1 rfl rfl (GSpec.plain rfl (spec_assign rfl (Get.cint rfl))) ?_
    refine L.nil ?_
    refine N.thenW ?_
    refine W.ret ?_
    refine N.ret () rfl (.tmp (t := 4) (Get.tmp rfl) .nil) (res1 (eqI ?_)) .nil (fun _ _ h => h)
    exact (idx_no fun j hj => hI2 j (by omega)).symm

theorem containsS_ok (l : List (List UInt8)) (s : List UInt8) : CallT Tryd.prog 72 [Rp.slice eS l, Rp.str s] [] (.one (Rp.bool (l.any fun x => s == x))) := by
  refine W.enter (fn := Tryd.f72) (n := 9) Tryd.func72 rfl Tryd.ntmps72 rfl (fun w₀ C₀ => ?_)
  simp only [argS]
  refine W.seq ?_
  refine W.region ?_
  refine L.op1 rfl rfl (GSpec.plain rfl (spec_assign rfl Get.cbool)) ?_
  refine L.nil ?_
  refine N.thenW ?_
  refine W.seq ?_
  refine W.region ?_
  refine L.op1 rfl rfl (GSpec.plain rfl (spec_move rfl (Get.tmp rfl))) ?_
  refine L.op1 rfl rfl (GSpec.plain rfl (spec_move rfl (Get.tmp rfl))) ?_
  refine L.op1 rfl rfl (GSpec.plain rfl (spec_call rfl Tryd.call90 (indexS_ok _ _) (.cons (Get.tmp rfl) (.cons (Get.tmp rfl) .nil)))) ?_
  refine L.op1 rfl rfl (GSpec.plain rfl (spec_geq rfl (Get.tmp rfl) (Get.cint rfl))) ?_
  refine L.op1 rfl rfl (GSpec.plain rfl (spec_assign rfl (Get.tmp rfl))) ?_
  refine L.nil ?_
  refine N.thenW ?_
  refine W.keep (.cons (t := 4) rfl .nil) .refl ?_
  refine W.ret ?_
  refine N.ret () rfl (.tmp (t := 4) (Get.tmp rfl) .nil) (res1 (eqB ?_)) .nil (fun _ _ h => h)
  exact idx_any _ _

theorem isKeyword_ok (s : List UInt8) : CallT Tryd.prog 57 [Rp.str s] [kwG] (.one (Rp.bool (kwB s))) := by
  refine W.enter (fn := Tryd.f57) (n := 6) Tryd.func57 rfl Tryd.ntmps57 rfl (fun w₀ C₀ => ?_)
  simp only [argS]
  refine W.seq ?_
  refine W.region ?_
  refine L.op1 rfl rfl (GSpec.plain rfl (spec_assign rfl Get.cbool)) ?_
  refine L.nil ?_
  refine N.thenW ?_
  refine W.seq ?_
  refine W.region ?_
  refine L.op1 rfl rfl (GSpec.plain rfl (spec_loadG (k := 0) rfl Tryd.isAgg40 rfl)) ?_
  refine L.op1 rfl rfl (GSpec.plain rfl (spec_move rfl (Get.tmp rfl))) ?_
  refine L.op1 rfl rfl (GSpec.plain rfl (spec_call rfl Tryd.call72 (containsS_ok _ _) (.cons (Get.tmp rfl) (.cons (Get.tmp rfl) .nil)))) ?_
  refine L.op1 rfl rfl (GSpec.plain rfl (spec_assign rfl (Get.tmp rfl))) ?_
  refine L.nil ?_
  refine N.thenW ?_
  refine W.ret ?_
  refine N.ret () rfl (.tmp (t := 2) (Get.tmp rfl) .nil) (res1 (eqB ?_)) .nil (fun _ _ h => h)
  rfl

theorem isName_ok (s : List UInt8) : CallT Tryd.prog 33 [Rp.str s] [kwG] (.one (Rp.bool (nameB s))) := by
  refine W.enter (fn := Tryd.f33) (n := 15) Tryd.func33 rfl Tryd.ntmps33 rfl (fun w₀ C₀ => ?_)
  simp only [argS]
  refine W.seq ?_
  refine W.region ?_
  refine L.op1 rfl rfl (GSpec.plain rfl (spec_assign rfl Get.cbool)) ?_
  refine L.nil ?_
  refine N.thenW ?_
  refine W.seq ?_
  refine W.region ?_
  refine L.op1 rfl rfl (GSpec.plain rfl (spec_move rfl (Get.tmp rfl))) ?_
  refine L.op1 rfl rfl (GSpec.plain rfl (spec_call rfl Tryd.call56 (word_ok _) (.cons (Get.tmp rfl) .nil))) ?_
  refine L.op1 rfl rfl (GSpec.plain rfl (spec_move rfl (Get.tmp rfl))) ?_
  refine L.op1 rfl rfl (GSpec.guard rfl rfl rfl fun hg => (spec_move rfl (Get.tmp rfl))) ?_
  refine L.op1 rfl rfl (GSpec.guard rfl rfl rfl fun hg => (spec_lenS rfl Tryd.underlying9 (Get.opt rfl hg))) ?_
  refine L.op1 rfl rfl (GSpec.guard rfl rfl rfl fun hg => (spec_leq rfl (Get.opt rfl hg) (Get.cint rfl))) ?_
  refine L.op1 rfl rfl (GSpec.plain rfl (spec_and rfl (Get.tmp rfl) (fun hb => (Get.opt rfl hb)))) ?_
  refine L.op1 rfl rfl (GSpec.plain rfl (spec_move rfl (Get.tmp rfl))) ?_
  refine L.op1 rfl rfl (GSpec.guard rfl rfl rfl fun hg => (spec_move rfl (Get.tmp rfl))) ?_
  refine L.op1 rfl rfl (GSpec.guard rfl rfl rfl fun hg => (spec_callG (k := 0) rfl Tryd.call57 rfl (isKeyword_ok _) (.cons (Get.opt rfl hg) .nil))) ?_
  refine L.op1 rfl rfl (GSpec.guard rfl rfl rfl fun hg => (spec_not rfl (Get.opt rfl hg))) ?_
  refine L.op1 rfl rfl (GSpec.plain rfl (spec_and rfl (Get.tmp rfl) (fun hb => (Get.opt rfl hb)))) ?_
  refine L.op1 rfl rfl (GSpec.plain rfl (spec_assign rfl (Get.tmp rfl))) ?_
  refine L.nil ?_
  refine N.thenW ?_
  refine W.keep (.cons (t := 2) rfl .nil) .refl ?_
  refine W.ret ?_
  refine N.ret () rfl (.tmp (t := 2) (Get.tmp rfl) .nil) (res1 (eqB ?_)) .nil (fun _ _ h => h)
  rw [nameB]; congr 2; exact decide_eq_decide.2 (by omega)

theorem has_ok (l : List (List UInt8)) (s : List UInt8) : CallT Tryd.prog 73 [Rp.slice eS l, Rp.str s] [] (.one (Rp.bool (l.any fun x => s == x))) := by
  refine W.enter (fn := Tryd.f73) (n := 18) Tryd.func73 rfl Tryd.ntmps73 rfl (fun w₀ C₀ => ?_)
  simp only [argS]
  refine W.fact 0 rfl slice_fact fun hl => ?_
  refine W.seq ?_
  refine W.region ?_
  refine L.op1 rfl rfl (GSpec.plain rfl (spec_assign rfl Get.cbool)) ?_
  refine L.nil ?_
  refine N.thenW ?_
  refine W.seq ?_
  refine W.seq ?_
  refine W.region ?_
  refine L.op1 rfl rfl (GSpec.plain rfl (spec_assign rfl (Get.cint rfl))) ?_
  refine L.nil ?_
  refine N.thenW ?_
  refine W.block ?_
  -- assigned in the loop, not kept: [4]
  refine W.loopK (σ := Nat) (.cons (t := 0) rfl (.cons (t := 1) rfl .nil)) (fun z => [(5, Rp.int .i64 (z : Nat))]) (fun z => []) (fun z => z ≤ l.length ∧ ∀ j : Nat, j < z → (s == l.getD j default) = false) (fun z => l.length - z) 0 ⟨Nat.zero_le _, fun j hj => by omega⟩ (.cons (t := 5) rfl .nil) .nil ?_
  intro i hI S' M' hS hM
  obtain ⟨hI1, hI2⟩ := hI
  try dsimp only at hS hM
  simp only [List.cons_append, List.nil_append] at hS hM
  subst hS hM
  try dsimp only
  refine W.seq ?_
  refine W.seq ?_
  refine W.region ?_
  refine L.op1 rfl rfl (GSpec.plain rfl (spec_move rfl (Get.tmp rfl))) ?_
  refine L.op1 rfl rfl (GSpec.plain rfl (spec_move rfl (Get.tmp rfl))) ?_
  refine L.op1 rfl rfl (GSpec.plain rfl (spec_len rfl Tryd.underlying40 (Get.tmp rfl))) ?_
  refine L.op1 rfl rfl (GSpec.plain rfl (spec_lss rfl (Get.tmp rfl) (Get.tmp rfl))) ?_
  refine L.nil ?_
  refine N.thenW ?_
  refine W.cond (Get.tmp rfl) (fun h1 => ?_) (fun h1 => ?_)
  · have ph1 := h1; try simp only [decide_eq_true_eq, decide_eq_false_iff_not, Bool.and_eq_true, Bool.or_eq_true, Bool.and_eq_false_iff, Bool.or_eq_false_iff, Bool.not_eq_true', Bool.not_eq_false', Bool.not_true, Bool.not_false, Int.not_lt, Int.not_le] at ph1
    refine W.skip ?_
    refine N.thenW ?_
    refine W.seq ?_
    refine W.block ?_
    refine W.seq ?_
    refine W.region ?_
    refine L.op1 rfl rfl (GSpec.plain rfl (spec_move rfl (Get.tmp rfl))) ?_
    refine L.op1 rfl rfl (GSpec.plain rfl (spec_move rfl (Get.tmp rfl))) ?_
    refine L.op1 rfl rfl (GSpec.plain rfl (spec_indexAddrD (E := eS) rfl Tryd.underlying40 Tryd.sizeOf9 (fun _ => rfl) (Get.tmp rfl) (Get.tmp rfl) (by omega))) ?_
    refine L.op1 rfl rfl (GSpec.plain rfl (spec_loadP1 rfl Tryd.isAgg9 (Get.tmp rfl))) ?_
    refine L.op1 rfl rfl (GSpec.plain rfl (spec_move rfl (Get.tmp rfl))) ?_
    refine L.op1 rfl rfl (GSpec.plain rfl (spec_eqlS rfl (Get.tmp rfl) (Get.tmp rfl))) ?_
    refine L.nil ?_
    refine N.thenW ?_
    refine W.cond (Get.tmp rfl) (fun h2 => ?_) (fun h2 => ?_)
    · have ph2 := h2; try simp only [decide_eq_true_eq, decide_eq_false_iff_not, Bool.and_eq_true, Bool.or_eq_true, Bool.and_eq_false_iff, Bool.or_eq_false_iff, Bool.not_eq_true', Bool.not_eq_false', Bool.not_true, Bool.not_false, Int.not_lt, Int.not_le] at ph2
      refine W.seq ?_
      refine W.region ?_
      refine L.op1 rfl rfl (GSpec.plain rfl (spec_assign rfl Get.cbool)) ?_
      refine L.nil ?_
      refine N.thenW ?_
      refine W.ret ?_
      refine N.ret () rfl (.tmp (t := 4) (Get.tmp rfl) .nil) (res1 (eqB ?_)) .nil (fun _ _ h => h)
      exact (any_yes (i := i) (by omega) (by simpa using (beq_iff_eq.1 h2).symm)).symm
    · have ph2 := h2; try simp only [decide_eq_true_eq, decide_eq_false_iff_not, Bool.and_eq_true, Bool.or_eq_true, Bool.and_eq_false_iff, Bool.or_eq_false_iff, Bool.not_eq_true', Bool.not_eq_false', Bool.not_true, Bool.not_false, Int.not_lt, Int.not_le] at ph2
      refine W.skip ?_
      refine N.blockNormal ?_
      refine N.thenW ?_
      refine W.region ?_
      refine L.op1 rfl rfl (GSpec.plain rfl (spec_move rfl (Get.tmp rfl))) ?_
      first | refine L.op1 rfl rfl (GSpec.plain rfl (fit_i64 (by omega) (by omega) (spec_add rfl (Get.tmp rfl) (Get.cint rfl)))) ?_ | refine L.op1 rfl rfl (GSpec.plain rfl (spec_add rfl (Get.tmp rfl) (Get.cint rfl))) ?_
      refine L.op1 rfl rfl (GSpec.plain rfl (spec_assign rfl (Get.tmp rfl))) ?_
      refine L.nil ?_
      refine N.roundK (i + 1) ?hI3 ?hmu3 ?hs3 ?hk3 ?hp3
      case hs3 => exact (.cons (t := 5) rfl .nil)
      case hk3 => exact (.cons (t := 0) rfl (.cons (t := 1) rfl .nil))
      case hp3 => exact .nil
      case hI3 => exact ⟨by omega, upto hI2 (by rw [Bool.eq_false_iff] at h2 ⊢; intro h; apply h2; simpa using (beq_iff_eq.1 h).symm)⟩
      case hmu3 => omega
  · have ph1 := h1; try simp only [decide_eq_true_eq, decide_eq_false_iff_not, Bool.and_eq_true, Bool.or_eq_true, Bool.and_eq_false_iff, Bool.or_eq_false_iff, Bool.not_eq_true', Bool.not_eq_false', Bool.not_true, Bool.not_false, Int.not_lt, Int.not_le] at ph1
    refine W.exit ?_
    refine N.thenExit ?_
    refine N.thenExit ?_
    refine N.blockExit ?_
    refine N.thenW ?_
    refine W.keep .nil .refl ?_
    refine W.seq ?_
    refine W.region ?_
    refine L.op1 rfl rfl (GSpec.plain rfl (spec_assign rfl Get.cbool)) ?_
    refine L.nil ?_
    refine N.thenW ?_
    refine W.ret ?_
    refine N.ret () rfl (.tmp (t := 4) (Get.tmp rfl) .nil) (res1 (eqB ?_)) .nil (fun _ _ h => h)
    exact (any_no fun j hj => hI2 j (by omega)).symm

theorem keywords_ok  : CallT Tryd.prog 74 [] [] (.one (Rp.slice eS keywords)) := by
  refine W.enter (fn := Tryd.f74) (n := 2) Tryd.func74 rfl Tryd.ntmps74 rfl (fun w₀ C₀ => ?_)
  simp only [argS]
  refine W.seq ?_
  refine W.region ?_
  refine L.op1 rfl rfl (GSpec.plain rfl (spec_assign rfl (Get.cnil (E := eS)))) ?_
  refine L.nil ?_
  refine N.thenW ?_
  refine W.seq ?_
  refine W.region ?_
  refine L.op1 rfl rfl (GSpec.plain rfl (spec_buildSliceN (xs := keywords) (E := eS) rfl Tryd.underlying40 ti9 z9 (by first | decide | simp) rfl (.cons (GetC.one (Get.cstr (l := [99, 108, 97, 115, 115]) rfl rfl)) rfl rfl rfl (.cons (GetC.one (Get.cstr (l := [101, 120, 116, 101, 110, 100, 115]) rfl rfl)) rfl rfl rfl (.cons (GetC.one (Get.cstr (l := [114, 97, 110, 100]) rfl rfl)) rfl rfl rfl (.cons (GetC.one (Get.cstr (l := [114, 97, 110, 100, 99]) rfl rfl)) rfl rfl rfl (.cons (GetC.one (Get.cstr (l := [115, 116, 97, 116, 101]) rfl rfl)) rfl rfl rfl (.cons (GetC.one (Get.cstr (l := [99, 111, 110, 115, 116, 114, 97, 105, 110, 116]) rfl rfl)) rfl rfl rfl (.cons (GetC.one (Get.cstr (l := [115, 111, 102, 116]) rfl rfl)) rfl rfl rfl (.cons (GetC.one (Get.cstr (l := [100, 105, 115, 116]) rfl rfl)) rfl rfl rfl (.cons (GetC.one (Get.cstr (l := [105, 102]) rfl rfl)) rfl rfl rfl (.cons (GetC.one (Get.cstr (l := [101, 108, 115, 101]) rfl rfl)) rfl rfl rfl (.cons (GetC.one (Get.cstr (l := [101, 97, 99, 104]) rfl rfl)) rfl rfl rfl (.cons (GetC.one (Get.cstr (l := [105, 110]) rfl rfl)) rfl rfl rfl (.cons (GetC.one (Get.cstr (l := [115, 111, 108, 118, 101]) rfl rfl)) rfl rfl rfl (.cons (GetC.one (Get.cstr (l := [98, 101, 102, 111, 114, 101]) rfl rfl)) rfl rfl rfl (.cons (GetC.one (Get.cstr (l := [105, 110, 115, 105, 100, 101]) rfl rfl)) rfl rfl rfl (.cons (GetC.one (Get.cstr (l := [112, 114, 111, 112, 101, 114, 116, 121]) rfl rfl)) rfl rfl rfl (.cons (GetC.one (Get.cstr (l := [115, 101, 113]) rfl rfl)) rfl rfl rfl (.cons (GetC.one (Get.cstr (l := [97, 110, 100]) rfl rfl)) rfl rfl rfl (.cons (GetC.one (Get.cstr (l := [111, 114]) rfl rfl)) rfl rfl rfl (.cons (GetC.one (Get.cstr (l := [110, 111, 116]) rfl rfl)) rfl rfl rfl (.cons (GetC.one (Get.cstr (l := [115, 101, 116]) rfl rfl)) rfl rfl rfl (.cons (GetC.one (Get.cstr (l := [104, 111, 108, 100]) rfl rfl)) rfl rfl rfl (.cons (GetC.one (Get.cstr (l := [112, 108, 97, 105, 110]) rfl rfl)) rfl rfl rfl (.cons (GetC.one (Get.cstr (l := [114, 101, 112, 101, 97, 116]) rfl rfl)) rfl rfl rfl .nil)))))))))))))))))))))))) rfl rfl)) ?_
  refine L.op1 rfl rfl (GSpec.plain rfl (spec_assign rfl (Get.tmp rfl))) ?_
  refine L.nil ?_
  refine N.thenW ?_
  refine W.ret ?_
  refine N.ret () rfl (.tmp (t := 0) (Get.tmp rfl) .nil) (res1 (eqSl ?_)) .nil (fun _ _ h => h)
  rfl

theorem isKeyword2_ok (s : List UInt8) : CallT Tryd.prog 59 [Rp.str s] [] (.one (Rp.bool (kwB s))) := by
  refine W.enter (fn := Tryd.f59) (n := 6) Tryd.func59 rfl Tryd.ntmps59 rfl (fun w₀ C₀ => ?_)
  simp only [argS]
  refine W.seq ?_
  refine W.region ?_
  refine L.op1 rfl rfl (GSpec.plain rfl (spec_assign rfl Get.cbool)) ?_
  refine L.nil ?_
  refine N.thenW ?_
  refine W.seq ?_
  refine W.region ?_
  refine L.op1 rfl rfl (GSpec.plain rfl (spec_call rfl Tryd.call74 (keywords_ok ) .nil)) ?_
  refine L.op1 rfl rfl (GSpec.plain rfl (spec_move rfl (Get.tmp rfl))) ?_
  refine L.op1 rfl rfl (GSpec.plain rfl (spec_call rfl Tryd.call73 (has_ok _ _) (.cons (Get.tmp rfl) (.cons (Get.tmp rfl) .nil)))) ?_
  refine L.op1 rfl rfl (GSpec.plain rfl (spec_assign rfl (Get.tmp rfl))) ?_
  refine L.nil ?_
  refine N.thenW ?_
  refine W.keep (.cons (t := 2) rfl .nil) .refl ?_
  refine W.ret ?_
  refine N.ret () rfl (.tmp (t := 2) (Get.tmp rfl) .nil) (res1 (eqB ?_)) .nil (fun _ _ h => h)
  rfl

theorem isName2_ok (s : List UInt8) : CallT Tryd.prog 34 [Rp.str s] [] (.one (Rp.bool (nameB s))) := by
  refine W.enter (fn := Tryd.f34) (n := 32) Tryd.func34 rfl Tryd.ntmps34 rfl (fun w₀ C₀ => ?_)
  simp only [argS]
  refine W.fact 0 rfl str_fact fun hs => ?_
  refine W.seq ?_
  refine W.region ?_
  refine L.op1 rfl rfl (GSpec.plain rfl (spec_assign rfl Get.cbool)) ?_
  refine L.nil ?_
  refine N.thenW ?_
  refine W.seq ?_
  refine W.seq ?_
  refine W.region ?_
  refine L.op1 rfl rfl (GSpec.plain rfl (spec_move rfl (Get.tmp rfl))) ?_
  refine L.op1 rfl rfl (GSpec.plain rfl (spec_eqlS rfl (Get.tmp rfl) (Get.cstr (l := []) rfl rfl))) ?_
  refine L.op1 rfl rfl (GSpec.plain rfl (spec_move rfl (Get.tmp rfl))) ?_
  refine L.op1 rfl rfl (GSpec.guard rfl rfl rfl fun hg => (spec_move rfl (Get.tmp rfl))) ?_
  refine L.op1 rfl rfl (GSpec.guard rfl rfl rfl fun hg => (spec_lenS rfl Tryd.underlying9 (Get.opt rfl hg))) ?_
  refine L.op1 rfl rfl (GSpec.guard rfl rfl rfl fun hg => (spec_gtr rfl (Get.opt rfl hg) (Get.cint rfl))) ?_
  refine L.op1 rfl rfl (GSpec.plain rfl (spec_or rfl (Get.tmp rfl) (fun hb => (Get.opt rfl hb)))) ?_
  refine L.op1 rfl rfl (GSpec.plain rfl (spec_move rfl (Get.tmp rfl))) ?_
  refine L.op1 rfl rfl (GSpec.guard rfl rfl rfl fun hg => (spec_move rfl (Get.tmp rfl))) ?_
  refine L.op1 rfl rfl (GSpec.guard rfl rfl rfl fun hg => (spec_indexS rfl Tryd.underlying9 (Get.opt rfl hg) (Get.cint rfl) (by (have := name_ne hg; omega)))) ?_
  refine L.op1 rfl rfl (GSpec.guard rfl rfl rfl fun hg => (spec_call rfl Tryd.call58 (small_ok _) (.cons (Get.opt rfl hg) .nil))) ?_
  refine L.op1 rfl rfl (GSpec.guard rfl rfl rfl fun hg => (spec_not rfl (Get.opt rfl hg))) ?_
  refine L.op1 rfl rfl (GSpec.plain rfl (spec_or rfl (Get.tmp rfl) (fun hb => (Get.opt rfl hb)))) ?_
  refine L.op1 rfl rfl (GSpec.plain rfl (spec_move rfl (Get.tmp rfl))) ?_
  refine L.op1 rfl rfl (GSpec.guard rfl rfl rfl fun hg => (spec_move rfl (Get.tmp rfl))) ?_
  refine L.op1 rfl rfl (GSpec.guard rfl rfl rfl fun hg => (spec_call rfl Tryd.call59 (isKeyword2_ok _) (.cons (Get.opt rfl hg) .nil))) ?_
  refine L.op1 rfl rfl (GSpec.plain rfl (spec_or rfl (Get.tmp rfl) (fun hb => (Get.opt rfl hb)))) ?_
  refine L.nil ?_
  refine N.thenW ?_
  refine W.keep (.cons (t := 0) rfl (.cons (t := 2) rfl (.cons (t := 20) rfl .nil))) .refl ?_
  refine W.cond (Get.tmp rfl) (fun h1 => ?_) (fun h1 => ?_)
  · have ph1 := h1; try simp only [decide_eq_true_eq, decide_eq_false_iff_not, Bool.and_eq_true, Bool.or_eq_true, Bool.and_eq_false_iff, Bool.or_eq_false_iff, Bool.not_eq_true', Bool.not_eq_false', Bool.not_true, Bool.not_false, Int.not_lt, Int.not_le] at ph1
    refine W.seq ?_
    refine W.region ?_
    refine L.op1 rfl rfl (GSpec.plain rfl (spec_assign rfl Get.cbool)) ?_
    refine L.nil ?_
    refine N.thenW ?_
    refine W.ret ?_
    refine N.ret () rfl (.tmp (t := 2) (Get.tmp rfl) .nil) (res1 (eqB ?_)) .nil (fun _ _ h => h)
    symm; rw [Bool.eq_false_iff]; intro hn
    exact name_first hn h1
  · have ph1 := h1; try simp only [decide_eq_true_eq, decide_eq_false_iff_not, Bool.and_eq_true, Bool.or_eq_true, Bool.and_eq_false_iff, Bool.or_eq_false_iff, Bool.not_eq_true', Bool.not_eq_false', Bool.not_true, Bool.not_false, Int.not_lt, Int.not_le] at ph1
    refine W.skip ?_
    refine N.thenW ?_
    refine W.seq ?_
    refine W.seq ?_
    refine W.region ?_
    refine L.op1 rfl rfl (GSpec.plain rfl (spec_assign rfl (Get.cint rfl))) ?_
    refine L.nil ?_
    refine N.thenW ?_
    refine W.block ?_
    -- assigned in the loop, not kept: [2]
    refine W.loopK (σ := Nat) (.cons (t := 0) rfl .nil) (fun z => [(3, Rp.int .i64 (z : Nat))]) (fun z => []) (fun z => z ≤ s.length ∧ ∀ j : Nat, j < z → folB (ch s j) = true) (fun z => s.length - z) 0 ⟨Nat.zero_le _, fun j hj => by omega⟩ (.cons (t := 3) rfl .nil) .nil ?_
    intro i hI S' M' hS hM
    obtain ⟨hI1, hI2⟩ := hI
    try dsimp only at hS hM
    simp only [List.cons_append, List.nil_append] at hS hM
    subst hS hM
    try dsimp only
    refine W.seq ?_
    refine W.seq ?_
    refine W.region ?_
    refine L.op1 rfl rfl (GSpec.plain rfl (spec_move rfl (Get.tmp rfl))) ?_
    refine L.op1 rfl rfl (GSpec.plain rfl (spec_move rfl (Get.tmp rfl))) ?_
    refine L.op1 rfl rfl (GSpec.plain rfl (spec_lenS rfl Tryd.underlying9 (Get.tmp rfl))) ?_
    refine L.op1 rfl rfl (GSpec.plain rfl (spec_lss rfl (Get.tmp rfl) (Get.tmp rfl))) ?_
    refine L.nil ?_
    refine N.thenW ?_
    refine W.cond (Get.tmp rfl) (fun h2 => ?_) (fun h2 => ?_)
    · have ph2 := h2; try simp only [decide_eq_true_eq, decide_eq_false_iff_not, Bool.and_eq_true, Bool.or_eq_true, Bool.and_eq_false_iff, Bool.or_eq_false_iff, Bool.not_eq_true', Bool.not_eq_false', Bool.not_true, Bool.not_false, Int.not_lt, Int.not_le] at ph2
      refine W.skip ?_
      refine N.thenW ?_
      refine W.seq ?_
      refine W.block ?_
      refine W.seq ?_
      refine W.region ?_
      refine L.op1 rfl rfl (GSpec.plain rfl (spec_move rfl (Get.tmp rfl))) ?_
      refine L.op1 rfl rfl (GSpec.plain rfl (spec_move rfl (Get.tmp rfl))) ?_
      refine L.op1 rfl rfl (GSpec.plain rfl (spec_indexS rfl Tryd.underlying9 (Get.tmp rfl) (Get.tmp rfl) (by omega))) ?_
      refine L.op1 rfl rfl (GSpec.plain rfl (spec_call rfl Tryd.call60 (inner_ok _) (.cons (Get.tmp rfl) .nil))) ?_
      refine L.op1 rfl rfl (GSpec.plain rfl (spec_not rfl (Get.tmp rfl))) ?_
      refine L.nil ?_
      refine N.thenW ?_
      refine W.cond (Get.tmp rfl) (fun h3 => ?_) (fun h3 => ?_)
      · have ph3 := h3; try simp only [decide_eq_true_eq, decide_eq_false_iff_not, Bool.and_eq_true, Bool.or_eq_true, Bool.and_eq_false_iff, Bool.or_eq_false_iff, Bool.not_eq_true', Bool.not_eq_false', Bool.not_true, Bool.not_false, Int.not_lt, Int.not_le] at ph3
        refine W.seq ?_
        refine W.region ?_
        refine L.op1 rfl rfl (GSpec.plain rfl (spec_assign rfl Get.cbool)) ?_
        refine L.nil ?_
        refine N.thenW ?_
        refine W.ret ?_
        refine N.ret () rfl (.tmp (t := 2) (Get.tmp rfl) .nil) (res1 (eqB ?_)) .nil (fun _ _ h => h)
        symm; rw [Bool.eq_false_iff]; intro hn
        exact name_inner hn (i := i) (by omega) (by have h := h3; rw [Bool.not_eq_true'] at h; exact h)
      · have ph3 := h3; try simp only [decide_eq_true_eq, decide_eq_false_iff_not, Bool.and_eq_true, Bool.or_eq_true, Bool.and_eq_false_iff, Bool.or_eq_false_iff, Bool.not_eq_true', Bool.not_eq_false', Bool.not_true, Bool.not_false, Int.not_lt, Int.not_le] at ph3
        refine W.skip ?_
        refine N.blockNormal ?_
        refine N.thenW ?_
        refine W.region ?_
        refine L.op1 rfl rfl (GSpec.plain rfl (spec_move rfl (Get.tmp rfl))) ?_
        first | refine L.op1 rfl rfl (GSpec.plain rfl (fit_i64 (by omega) (by omega) (spec_add rfl (Get.tmp rfl) (Get.cint rfl)))) ?_ | refine L.op1 rfl rfl (GSpec.plain rfl (spec_add rfl (Get.tmp rfl) (Get.cint rfl))) ?_
        refine L.op1 rfl rfl (GSpec.plain rfl (spec_assign rfl (Get.tmp rfl))) ?_
        refine L.nil ?_
        refine N.roundK (i + 1) ?hI4 ?hmu4 ?hs4 ?hk4 ?hp4
        case hs4 => exact (.cons (t := 3) rfl .nil)
        case hk4 => exact (.cons (t := 0) rfl .nil)
        case hp4 => exact .nil
        case hI4 => exact ⟨by omega, upto hI2 (by have h := h3; rw [Bool.not_eq_false'] at h; exact h)⟩
        case hmu4 => omega
    · have ph2 := h2; try simp only [decide_eq_true_eq, decide_eq_false_iff_not, Bool.and_eq_true, Bool.or_eq_true, Bool.and_eq_false_iff, Bool.or_eq_false_iff, Bool.not_eq_true', Bool.not_eq_false', Bool.not_true, Bool.not_false, Int.not_lt, Int.not_le] at ph2
      refine W.exit ?_
      refine N.thenExit ?_
      refine N.thenExit ?_
      refine N.blockExit ?_
      refine N.thenW ?_
      refine W.keep .nil .refl ?_
      refine W.seq ?_
      refine W.region ?_
      refine L.op1 rfl rfl (GSpec.plain rfl (spec_assign rfl Get.cbool)) ?_
      refine L.nil ?_
      refine N.thenW ?_
      refine W.ret ?_
      refine N.ret () rfl (.tmp (t := 2) (Get.tmp rfl) .nil) (res1 (eqB ?_)) .nil (fun _ _ h => h)
      symm; exact name_all h1 fun j hj => hI2 j (by omega)

end Go.Proofs.YtcabngjnmipflaaDoor
/- Classes as data: which fields and classes are valid. -/
namespace Go.Proofs.YtcabngjnmipflaaDoor
open Go.Sim
theorem pow8 {w : Int} (h1 : 1 ≤ w) (h2 : w ≤ 8) : 0 ≤ (1 : Int) * 2 ^ w.toNat ∧ (1 : Int) * 2 ^ w.toNat ≤ 256 := by
  obtain ⟨n, rfl⟩ : ∃ n : Nat, w = n := ⟨w.toNat, by omega⟩
  rw [Int.toNat_natCast]
  match n, (show n ≤ 8 by omega) with
  | 0, _ => decide
  | 1, _ => decide
  | 2, _ => decide
  | 3, _ => decide
  | 4, _ => decide
  | 5, _ => decide
  | 6, _ => decide
  | 7, _ => decide
  | 8, _ => decide
def topF (f : Fd) : Int := if f.mode = 0 then 1 * 2 ^ f.width.toNat - 1 else 0
def rangeF (f : Fd) : Bool := decide (f.width < 1 ∨ 8 < f.width ∨ f.size < 0 ∨ 8 < f.size ∨ f.mode < 0 ∨ 2 < f.mode)
/-- The error of a field. -/
def validF (f : Fd) : Int :=
  if nameB f.name = false then 7 else if rangeF f = true then 1 else if f.size ≠ 0 ∧ f.mode = 2 then 1 else if f.init < 0 ∨ topF f < f.init then 1 else 0
theorem validF_ok {f : Fd} (h : validF f = 0) : nameB f.name = true ∧ 1 ≤ f.width ∧ f.width ≤ 8 ∧ 0 ≤ f.size ∧ f.size ≤ 8 ∧ 0 ≤ f.mode ∧ f.mode ≤ 2 := by
  unfold validF rangeF at h
  split at h
  · cases h
  · split at h
    · cases h
    · rename_i h1 h2
      simp only [decide_eq_true_eq] at h2
      exact ⟨by simpa using h1, by omega, by omega, by omega, by omega, by omega, by omega⟩
theorem small_dig {m : Nat} (h : m ≤ 9) : List.take (((m : Int) + 1).toNat - ((m : Int)).toNat) (List.drop ((m : Int)).toNat [48, 49, 50, 51, 52, 53, 54, 55, 56, 57, 97, 98, 99, 100, 101, 102, 103, 104, 105, 106, 107, 108, 109, 110, 111, 112, 113, 114, 115, 116, 117, 118, 119, 120, 121, 122]) = [UInt8.ofNat (48 + m)] := by
  match m, h with
  | 0, _ => rfl
  | 1, _ => rfl
  | 2, _ => rfl
  | 3, _ => rfl
  | 4, _ => rfl
  | 5, _ => rfl
  | 6, _ => rfl
  | 7, _ => rfl
  | 8, _ => rfl
  | 9, _ => rfl
def digT (m : Nat) : List UInt8 := [UInt8.ofNat (48 + m)]
/-- The first error of a list. -/
def firstE {α : Type} (e : α → Int) : List α → Int
  | [] => 0
  | x :: l => if e x ≠ 0 then e x else firstE e l
theorem firstE_at {α : Type} [Inhabited α] {e : α → Int} {l : List α} {i : Nat} (hi : i < l.length) (h : e (l.getD i default) ≠ 0) (hn : ∀ j, j < i → e (l.getD j default) = 0) : firstE e l = e (l.getD i default) := by
  induction l generalizing i with
  | nil => simp at hi
  | cons x l ih =>
    cases i with
    | zero =>
      have h' : e x ≠ 0 := h
      show (if e x ≠ 0 then _ else _) = _
      rw [if_pos h']; rfl
    | succ i =>
      have h0 : e x = 0 := hn 0 (by omega)
      show (if e x ≠ 0 then _ else _) = _
      rw [if_neg (by rw [h0]; simp), ih (by simpa using hi) h (fun j hj => hn (j + 1) (by omega))]; rfl
theorem firstE_none {α : Type} [Inhabited α] {e : α → Int} {l : List α} (hn : ∀ j, j < l.length → e (l.getD j default) = 0) : firstE e l = 0 := by
  induction l with
  | nil => rfl
  | cons x l ih =>
    have h0 : e x = 0 := hn 0 (by simp)
    show (if e x ≠ 0 then _ else _) = _
    rw [if_neg (by rw [h0]; simp), ih fun j hj => hn (j + 1) (by simpa using hj)]
theorem firstE_ok {α : Type} {e : α → Int} {l : List α} (h : firstE e l = 0) : ∀ x ∈ l, e x = 0 := by
  induction l with
  | nil => intro x hx; cases hx
  | cons y l ih =>
    have h' : (if e y ≠ 0 then e y else firstE e l) = 0 := h
    by_cases h0 : e y = 0
    · rw [if_neg (by rw [h0]; simp)] at h'
      intro x hx
      rcases List.mem_cons.1 hx with rfl | hx
      · exact h0
      · exact ih h' x hx
    · rw [if_pos h0] at h'; exact absurd h' h0
/-- Two elements of the same name. -/
def repB {α : Type} (nm : α → List UInt8) (l : List α) : Bool := decide (∃ i, i < l.length ∧ ∃ k, k < i ∧ (l.map nm).getD i default = (l.map nm).getD k default)
theorem map_getD {α β : Type} [Inhabited α] [Inhabited β] (f : α → β) {l : List α} {i : Nat} (h : i < l.length) : (l.map f).getD i default = f (l.getD i default) := by
  rw [List.getD, List.getD, List.getElem?_map, List.getElem?_eq_getElem h]; rfl
theorem rep_yes {α : Type} [Inhabited α] {nm : α → List UInt8} {l : List α} {i k : Nat} (hi : i < l.length) (hk : k < i) (h : nm (l.getD i default) = nm (l.getD k default)) : repB nm l = true :=
  decide_eq_true ⟨i, hi, k, hk, by rw [map_getD nm hi, map_getD nm (by omega)]; exact h⟩
theorem rep_no {α : Type} [Inhabited α] {nm : α → List UInt8} {l : List α} (h : ∀ i, i < l.length → ∀ k, k < i → nm (l.getD i default) ≠ nm (l.getD k default)) : repB nm l = false :=
  decide_eq_false fun ⟨i, hi, k, hk, e⟩ => h i hi k hk (by rw [map_getD nm hi, map_getD nm (by omega)] at e; exact e)
theorem rep_ne {α : Type} [Inhabited α] {nm : α → List UInt8} {l : List α} (h : repB nm l = false) : ∀ i, i < l.length → ∀ k, k < i → nm (l.getD i default) ≠ nm (l.getD k default) := fun i hi k hk e => by
  rw [rep_yes hi hk e] at h; cases h
def hasF (l : List Fd) (s : List UInt8) : Bool := l.any fun f => f.name == s
def blkI (l : List Bk) (s : List UInt8) : Int := idxI (fun b => b.name == s) l
/-- The error of a class alone. -/
def validC (c : Cl) : Int :=
  if nameB c.name = false ∨ (c.parent ≠ [] ∧ nameB c.parent = false) then 7
  else if 16 < c.fields.length ∨ 16 < c.blocks.length then 2
  else if firstE validF c.fields ≠ 0 then firstE validF c.fields
  else if (c.blocks.any fun b => !nameB b.name) = true then 7
  else if repB Fd.name c.fields = true ∨ repB Bk.name c.blocks = true then 8 else 0
theorem rem_neg {m : Nat} (h : m ≤ 9) : (-(m : Int)).tmod 10 = -(m : Int) := by
  match m, h with
  | 0, _ => rfl
  | 1, _ => rfl
  | 2, _ => rfl
  | 3, _ => rfl
  | 4, _ => rfl
  | 5, _ => rfl
  | 6, _ => rfl
  | 7, _ => rfl
  | 8, _ => rfl
  | 9, _ => rfl
theorem quo_neg {m : Nat} (h : m ≤ 9) : (-(m : Int)).tdiv 10 = 0 := by
  match m, h with
  | 0, _ => rfl
  | 1, _ => rfl
  | 2, _ => rfl
  | 3, _ => rfl
  | 4, _ => rfl
  | 5, _ => rfl
  | 6, _ => rfl
  | 7, _ => rfl
  | 8, _ => rfl
  | 9, _ => rfl
theorem hasF_take {l : List Fd} {i : Nat} (hi : i < l.length) : hasF (l.take i) (l.getD i default).name = true ↔ ∃ k, k < i ∧ (l.getD i default).name = (l.getD k default).name := by
  unfold hasF
  rw [List.any_eq_true]
  constructor
  · rintro ⟨x, hx, e⟩
    obtain ⟨k, hk, rfl⟩ := mem_getD hx
    rw [List.length_take] at hk
    rw [getD_take (by omega)] at e
    exact ⟨k, by omega, (beq_iff_eq.1 e).symm⟩
  · rintro ⟨k, hk, e⟩
    refine ⟨l.getD k default, ?_, by rw [e]; exact beq_self_eq_true _⟩
    rw [← getD_take hk]
    exact getD_mem' (by rw [List.length_take]; omega)
theorem blkI_take {l : List Bk} {i : Nat} (hi : i < l.length) : 0 ≤ blkI (l.take i) (l.getD i default).name ↔ ∃ k, k < i ∧ (l.getD i default).name = (l.getD k default).name := by
  have h := idx_any (fun b : Bk => b.name == (l.getD i default).name) (l.take i)
  have h2 : 0 ≤ blkI (l.take i) (l.getD i default).name ↔ (l.take i).any (fun b : Bk => b.name == (l.getD i default).name) = true := by
    rw [← h, decide_eq_true_eq]; rfl
  rw [h2, List.any_eq_true]
  constructor
  · rintro ⟨x, hx, e⟩
    obtain ⟨k, hk, rfl⟩ := mem_getD hx
    rw [List.length_take] at hk
    rw [getD_take (by omega)] at e
    exact ⟨k, by omega, (beq_iff_eq.1 e).symm⟩
  · rintro ⟨k, hk, e⟩
    refine ⟨l.getD k default, ?_, by rw [e]; exact beq_self_eq_true _⟩
    rw [← getD_take hk]
    exact getD_mem' (by rw [List.length_take]; omega)
end Go.Proofs.YtcabngjnmipflaaDoor
