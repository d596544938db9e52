/- The builder as data: nodes that are appended, functions by a table, functions with a bit replaced. -/
import Derived.Test.YtcpkjpkjahgobaaCtA
namespace Go.Proofs.Ytcpkjpkjahgobaa
open Go.Sim

structure Bs where
  L : List Node
  full : Bool
  deriving DecidableEq, Inhabited

/-- The number of a node, which is appended if it is not there. -/
def nodeD (s : Bs) (n : Node) : Bs × Int :=
  if n.lo = n.hi then (s, n.lo) else if n ∈ s.L then (s, (s.L.idxOf n : Nat)) else if 8192 ≤ s.L.length then (⟨s.L, true⟩, 0) else (⟨s.L ++ [n], s.full⟩, (s.L.length : Nat))
def doneD (r : Bs × Int) : One := if r.1.full then ⟨[], 0, 2⟩ else ⟨r.1.L, r.2, 0⟩
def lev (L : List Node) (f : Int) : Int := (nd L f).level
def half (L : List Node) (f lv : Int) (one : Bool) : Int := if (nd L f).level ≠ lv then f else if one then (nd L f).hi else (nd L f).lo
def half3 (L : List Node) (t : Three) (lv : Int) (one : Bool) : Three := ⟨half L t.f lv one, half L t.g lv one, half L t.h lv one⟩
def lv3 (L : List Node) (t : Three) : Int := min (min (lev L t.f) (lev L t.g)) (lev L t.h)
def ok3 (L : List Node) (t : Three) : Prop := okNode L t.f ∧ okNode L t.g ∧ okNode L t.h
abbrev Val := Bool → Bool → Bool → Bool
def leafI (val : Val) (t : Three) : Int := if val (decide (t.f = 1)) (decide (t.g = 1)) (decide (t.h = 1)) then 1 else 0
def tab (val : Val) : Nat → Bs → Three → Bs × Int
  | 0, s, _ => (s, 0)
  | k + 1, s, t => if s.full then (s, 0) else if lv3 s.L t = 20 then (s, leafI val t) else
    let a := tab val k s (half3 s.L t (lv3 s.L t) false)
    let b := tab val k a.1 (half3 a.1.L t (lv3 s.L t) true)
    nodeD b.1 ⟨lv3 s.L t, a.2, b.2⟩
/-- Nodes of a level replaced. -/
def repl (leaf : Bs → Int → Bs × Int) (lv : Int) : Nat → Bs → Int → Bs × Int
  | 0, s, f => (s, f)
  | k + 1, s, f => if s.full = true ∨ lv < lev s.L f then (s, f) else if lev s.L f = lv then leaf s f else
    let a := repl leaf lv k s (nd s.L f).lo
    let b := repl leaf lv k a.1 (nd a.1.L f).hi
    nodeD b.1 ⟨lev s.L f, a.2, b.2⟩

/-- The map of nodes. -/
def AtOk (L : List Node) (A : List (Node × Int)) : Prop := ∀ n, mget A n = if n ∈ L then some ((L.idxOf n : Nat) : Int) else none
theorem at_nil : AtOk [] [] := fun n => by simp [mget_nil]
theorem at_snoc {L : List Node} {A : List (Node × Int)} {n : Node} (h : AtOk L A) (hn : n ∉ L) : AtOk (L ++ [n]) (mset A n (L.length : Nat)) := fun k => by
  rw [mget_set, h k]
  by_cases e : k = n
  · subst e; simp [hn, List.idxOf_append]
  · by_cases hk : k ∈ L
    · simp [e, hk, List.idxOf_append]
    · simp [e, hk]
theorem at_in {L : List Node} {A : List (Node × Int)} (h : AtOk L A) (hl : L.length ≤ 8192) (n : Node) : InR .i64 ((mget A n).getD 0) := by
  rw [h n]
  split
  · rename_i hm
    have := List.idxOf_lt_length_of_mem hm
    simp only [Option.getD_some, InR]; omega
  · simp only [Option.getD_none, InR]; omega
theorem at_none {L : List Node} {A : List (Node × Int)} (h : AtOk L A) {n : Node} (hn : (mget A n).isSome = false) : n ∉ L := fun hm => by
  rw [h n, if_pos hm] at hn; cases hn
theorem at_some {L : List Node} {A : List (Node × Int)} (h : AtOk L A) {n : Node} (hn : (mget A n).isSome = true) : n ∈ L ∧ (mget A n).getD 0 = ((L.idxOf n : Nat) : Int) := by
  rw [h n] at hn ⊢
  by_cases hm : n ∈ L
  · simp [hm]
  · simp [hm] at hn
def iv (n : Int) : Value := .int .i64 n
def begX (l : List Node) : RA := ⟨{x : (Nat × Value × Nat) × List (Node × Int) // AtOk l x.2}, fun x => Rp.ptr x.1.1.1 0, fun x => [MF.box x.1.1.1 105 [Rp.val x.1.1.2.1, Rp.val (.map (some x.1.1.2.2)), Rp.bool false], MF.osl x.1.1.2.1 50 3 eN l, MF.map x.1.1.2.2 nv iv x.1.2]⟩
def dnX (q : Bs × Int) (r m : Nat) : RA := ⟨{x : Value × List (Node × Int) // AtOk q.1.L x.2}, fun _ => Rp.int .i64 q.2, fun x => [MF.box r 105 [Rp.val x.1.1, Rp.val (.map (some m)), Rp.bool q.1.full], MF.osl x.1.1 50 3 eN q.1.L, MF.map m nv iv x.1.2]⟩
def rnX (q : Bs × Int) (r : Nat) : RA := ⟨Value, fun _ => Rp.int .i64 q.2, fun v => [MF.box r 90096 [Rp.val v, Rp.bool q.1.full], MF.osl v 50 3 eN q.1.L]⟩
def rbX (l : List Node) : RA := ⟨Nat × Value, fun x => Rp.ptr x.1 0, fun x => [MF.box x.1 90096 [Rp.val x.2, Rp.bool false], MF.osl x.2 50 3 eN l]⟩
def outR (o : One) : Rp := Rp.tuple [Rp.agg (dagR o.d), Rp.int .i64 o.f, Rp.int .i64 o.e]
theorem node_eq {s : Bs} {n : Node} (h : n.lo = n.hi) : nodeD s n = (s, n.lo) := by simp [nodeD, h]
theorem node_old {s : Bs} {n : Node} (h : n.lo ≠ n.hi) (hm : n ∈ s.L) : nodeD s n = (s, ((s.L.idxOf n : Nat) : Int)) := by simp [nodeD, h, hm]
theorem node_no {s : Bs} {n : Node} (h : n.lo ≠ n.hi) (hm : n ∉ s.L) (hl : 8192 ≤ s.L.length) : nodeD s n = (⟨s.L, true⟩, 0) := by simp [nodeD, h, hm, hl]
theorem node_new {s : Bs} {n : Node} (h : n.lo ≠ n.hi) (hm : n ∉ s.L) (hl : ¬ 8192 ≤ s.L.length) : nodeD s n = (⟨s.L ++ [n], s.full⟩, ((s.L.length : Nat) : Int)) := by simp [nodeD, h, hm, hl]

/-! Prefixes. -/
theorem nd_prefix {L L' : List Node} (h : L <+: L') {f : Int} (hf : okNode L f) : nd L' f = nd L f := by
  obtain ⟨R, rfl⟩ := h
  have : f.toNat < L.length := by have := hf.2; have := hf.1; omega
  simp [nd, List.getD_eq_getElem?_getD, List.getElem?_append_left this]
theorem ok_prefix {L L' : List Node} (h : L <+: L') {f : Int} (hf : okNode L f) : okNode L' f := by
  have := h.length_le
  exact ⟨hf.1, by have := hf.2; omega⟩
theorem ok3_prefix {L L' : List Node} (h : L <+: L') {t : Three} (ht : ok3 L t) : ok3 L' t := ⟨ok_prefix h ht.1, ok_prefix h ht.2.1, ok_prefix h ht.2.2⟩
theorem lev_prefix {L L' : List Node} (h : L <+: L') {f : Int} (hf : okNode L f) : lev L' f = lev L f := by unfold lev; rw [nd_prefix h hf]
theorem half_prefix {L L' : List Node} (h : L <+: L') {f : Int} (hf : okNode L f) (lv : Int) (one : Bool) : half L' f lv one = half L f lv one := by unfold half; rw [nd_prefix h hf]
theorem half3_prefix {L L' : List Node} (h : L <+: L') {t : Three} (ht : ok3 L t) (lv : Int) (one : Bool) : half3 L' t lv one = half3 L t lv one := by
  unfold half3; rw [half_prefix h ht.1, half_prefix h ht.2.1, half_prefix h ht.2.2]
theorem lv3_prefix {L L' : List Node} (h : L <+: L') {t : Three} (ht : ok3 L t) : lv3 L' t = lv3 L t := by
  unfold lv3; rw [lev_prefix h ht.1, lev_prefix h ht.2.1, lev_prefix h ht.2.2]
theorem idx_prefix {L L' : List Node} (h : L <+: L') {n : Node} (hn : n ∈ L) : L'.idxOf n = L.idxOf n := by
  obtain ⟨R, rfl⟩ := h
  rw [List.idxOf_append, if_pos hn]

/-! What validity says of a node. -/
theorem Good.two {L : List Node} (h : Good L) : 2 ≤ L.length := h.1.1
theorem Good.small {L : List Node} (h : Good L) : L.length ≤ 8192 := h.1.2.1
theorem Good.zero {L : List Node} (h : Good L) : nd L 0 = ⟨20, 0, 0⟩ := h.1.2.2.1
theorem Good.one {L : List Node} (h : Good L) : nd L 1 = ⟨20, 1, 1⟩ := h.1.2.2.2
theorem Good.ok0 {L : List Node} (h : Good L) : okNode L 0 := ⟨by omega, by have := h.two; omega⟩
theorem Good.ok1 {L : List Node} (h : Good L) : okNode L 1 := ⟨by omega, by have := h.two; omega⟩
theorem Good.placed {L : List Node} (h : Good L) {f : Int} (hf : okNode L f) (h1 : 1 < f) : placedP L f := by
  have := (h.2 f.toNat (by have := hf.2; omega) (by omega)).1
  rwa [Int.toNat_of_nonneg hf.1] at this
theorem Good.level {L : List Node} (h : Good L) {f : Int} (hf : okNode L f) : 0 ≤ lev L f ∧ lev L f ≤ 20 ∧ (lev L f = 20 ↔ f = 0 ∨ f = 1) := by
  by_cases h1 : 1 < f
  · have hp := h.placed hf h1
    unfold placedP at hp; unfold lev
    refine ⟨hp.1, by omega, ?_⟩
    constructor <;> intro <;> omega
  · have h0 := hf.1
    rcases (by omega : f = 0 ∨ f = 1) with rfl | rfl
    · unfold lev; rw [h.zero]; simp
    · unfold lev; rw [h.one]; simp
theorem Good.inner {L : List Node} (h : Good L) {f : Int} (hf : okNode L f) (hl : lev L f ≠ 20) : 1 < f ∧ placedP L f := by
  have := (h.level hf).2.2
  have h0 := hf.1
  have h1 : 1 < f := by
    rcases Int.lt_or_le 1 f with h1 | h1
    · exact h1
    · exact absurd (this.2 (by omega)) hl
  exact ⟨h1, h.placed hf h1⟩
theorem Good.kids {L : List Node} (h : Good L) {f : Int} (hf : okNode L f) (hl : lev L f ≠ 20) :
    okNode L (nd L f).lo ∧ okNode L (nd L f).hi ∧ (nd L f).lo < f ∧ (nd L f).hi < f ∧ (nd L f).lo ≠ (nd L f).hi ∧ lev L f < lev L (nd L f).lo ∧ lev L f < lev L (nd L f).hi := by
  obtain ⟨h1, hp⟩ := h.inner hf hl
  unfold placedP at hp
  have := hf.2
  refine ⟨⟨hp.2.2.1, by omega⟩, ⟨hp.2.2.2.2.1, by omega⟩, hp.2.2.2.1, hp.2.2.2.2.2.1, hp.2.2.2.2.2.2.1, hp.2.2.2.2.2.2.2.1, hp.2.2.2.2.2.2.2.2⟩
theorem Good.half {L : List Node} (h : Good L) {f : Int} (hf : okNode L f) {lv : Int} (hlv : lv ≤ lev L f) (h20 : lv < 20) (one : Bool) : okNode L (half L f lv one) ∧ lv < lev L (half L f lv one) := by
  unfold Ytcpkjpkjahgobaa.half
  split
  · rename_i hne
    refine ⟨hf, ?_⟩
    unfold lev at hlv ⊢; omega
  · rename_i he
    have he : lev L f = lv := by unfold lev; simpa using he
    have hk := h.kids hf (by omega)
    split
    · exact ⟨hk.2.1, by omega⟩
    · exact ⟨hk.1, by omega⟩
theorem Good.half3 {L : List Node} (h : Good L) {t : Three} (ht : ok3 L t) (hne : lv3 L t ≠ 20) (one : Bool) : ok3 L (half3 L t (lv3 L t) one) ∧ lv3 L t < lv3 L (half3 L t (lv3 L t) one) := by
  have h1 := (h.level ht.1).2.1
  have hm : lv3 L t ≤ lev L t.f ∧ lv3 L t ≤ lev L t.g ∧ lv3 L t ≤ lev L t.h ∧ lv3 L t < 20 := by unfold lv3 at hne ⊢; omega
  have a := h.half ht.1 hm.1 hm.2.2.2 one
  have b := h.half ht.2.1 hm.2.1 hm.2.2.2 one
  have c := h.half ht.2.2 hm.2.2.1 hm.2.2.2 one
  refine ⟨⟨a.1, b.1, c.1⟩, ?_⟩
  have e : ∀ x : Int, x < lev L (Ytcpkjpkjahgobaa.half L t.f (lv3 L t) one) → x < lev L (Ytcpkjpkjahgobaa.half L t.g (lv3 L t) one) → x < lev L (Ytcpkjpkjahgobaa.half L t.h (lv3 L t) one) → x < lv3 L (Ytcpkjpkjahgobaa.half3 L t (lv3 L t) one) := by
    intro x h1 h2 h3; unfold lv3 Ytcpkjpkjahgobaa.half3; dsimp only; unfold lv3 at h1 h2 h3; omega
  exact e _ a.2 b.2 c.2
theorem Good.lv3 {L : List Node} (h : Good L) {t : Three} (ht : ok3 L t) : 0 ≤ lv3 L t ∧ lv3 L t ≤ 20 := by
  have a := h.level ht.1; have b := h.level ht.2.1; have c := h.level ht.2.2
  unfold Ytcpkjpkjahgobaa.lv3; omega

theorem Good.fresh {L : List Node} (h : Good L) {i : Nat} (hi : i < L.length) : nd L (i : Nat) ∉ L.take i := by
  rcases i with _ | _ | i
  · simp
  · intro hm
    rw [take_snoc (by omega)] at hm
    simp only [List.take_zero, List.nil_append, List.mem_singleton] at hm
    have h1 := h.one; have h0 := h.zero
    have e1 : (((0 + 1 : Nat) : Int)) = 1 := rfl
    have e0 : (((0 : Nat) : Int)) = 0 := rfl
    rw [e1, e0, h1, h0] at hm; cases hm
  · have := (h.2 (i + 2) hi (by omega)).2
    rwa [Int.toNat_natCast] at this
theorem at_step {l : List Node} {A : List (Node × Int)} (hg : Good l) {i : Nat} (hi : i < l.length) (h : AtOk (l.take i) A) : AtOk (l.take (i + 1)) (mset A (nd l (i : Nat)) (i : Nat)) := by
  have := at_snoc h (hg.fresh hi)
  rw [List.length_take, Nat.min_eq_left (by omega), ← take_snoc hi] at this
  exact this

/-- A node that fits. -/
def fits (L : List Node) (n : Node) : Prop := 0 ≤ n.level ∧ n.level < 20 ∧ okNode L n.lo ∧ okNode L n.hi ∧ n.level < lev L n.lo ∧ n.level < lev L n.hi
theorem Good.snoc {L : List Node} (h : Good L) {n : Node} (hf : fits L n) (hne : n.lo ≠ n.hi) (hn : n ∉ L) (hl : L.length < 8192) : Good (L ++ [n]) := by
  have hp : L <+: L ++ [n] := List.prefix_append _ _
  have h2 := h.two
  refine ⟨⟨by simp; omega, by simp; omega, by rw [nd_prefix hp h.ok0, h.zero], by rw [nd_prefix hp h.ok1, h.one]⟩, fun i hi hi2 => ?_⟩
  rcases Nat.lt_or_ge i L.length with hlt | hge
  · have hok : okNode L (i : Nat) := ⟨by omega, by omega⟩
    have hr := h.2 i hlt hi2
    obtain ⟨hpl, hnt⟩ := hr
    have hk := h.placed hok (by omega)
    unfold rightP placedP at *
    rw [nd_prefix hp hok]
    have o1 : okNode L (nd L (i : Nat)).lo := ⟨by omega, by omega⟩
    have o2 : okNode L (nd L (i : Nat)).hi := ⟨by omega, by omega⟩
    rw [nd_prefix hp o1, nd_prefix hp o2]
    refine ⟨hpl, ?_⟩
    rw [Int.toNat_natCast, List.take_append_of_le_length (by omega)]
    rwa [Int.toNat_natCast] at hnt
  · have hi' : i = L.length := by simp at hi; omega
    subst hi'
    have hnd : nd (L ++ [n]) ((L.length : Nat) : Int) = n := by simp [nd, List.getD_eq_getElem?_getD]
    unfold rightP placedP
    rw [hnd, nd_prefix hp hf.2.2.1, nd_prefix hp hf.2.2.2.1]
    obtain ⟨f1, f2, f3, f4, f5, f6⟩ := hf
    refine ⟨⟨f1, f2, f3.1, by have := f3.2; omega, f4.1, by have := f4.2; omega, hne, f5, f6⟩, ?_⟩
    rw [Int.toNat_natCast, List.take_left']
    · exact hn
    · rfl

/-! Results: what was there is a prefix; if nothing is full, all is valid. -/
structure Ext (L : List Node) (r : Bs × Int) (lv : Int) : Prop where
  pre : L <+: r.1.L
  good : r.1.full = false → Good r.1.L ∧ okNode r.1.L r.2 ∧ lv ≤ lev r.1.L r.2
theorem node_full {s : Bs} {n : Node} (h : s.full = true) : (nodeD s n).1.full = true := by
  unfold nodeD; split; · exact h
  split; · exact h
  split
  · rfl
  · exact h
theorem node_len {s : Bs} {n : Node} (h : s.L.length ≤ 8192) : (nodeD s n).1.L.length ≤ 8192 := by
  unfold nodeD; split; · exact h
  split; · exact h
  split
  · exact h
  · simp; omega
theorem node_pre (s : Bs) (n : Node) : s.L <+: (nodeD s n).1.L := by
  unfold nodeD; split; · exact List.prefix_refl _
  split; · exact List.prefix_refl _
  split
  · exact List.prefix_refl _
  · exact List.prefix_append _ _
/-- The node that results: the one that was asked for, or its branch. -/
theorem node_is {s : Bs} {n : Node} (hf : (nodeD s n).1.full = false) : if n.lo = n.hi then (nodeD s n).2 = n.lo else okNode (nodeD s n).1.L (nodeD s n).2 ∧ nd (nodeD s n).1.L (nodeD s n).2 = n := by
  unfold nodeD at *
  split
  · rename_i h; simp [h]
  · rename_i h
    simp only [h, if_false] at hf ⊢
    split
    · rename_i hm
      have := List.idxOf_lt_length_of_mem hm
      refine ⟨⟨by simp, by simp; omega⟩, ?_⟩
      simp [nd, List.getD_eq_getElem?_getD, this]
    · rename_i hm
      simp only [hm, if_false] at hf
      split
      · rename_i hl; simp [hl] at hf
      · refine ⟨⟨by simp, by simp; omega⟩, ?_⟩
        simp [nd, List.getD_eq_getElem?_getD]
theorem node_ext {s : Bs} {n : Node} (hg : Good s.L) (hn : fits s.L n) : Ext s.L (nodeD s n) n.level := by
  refine ⟨node_pre s n, fun hf => ?_⟩
  have hi := node_is hf
  have hG : Good (nodeD s n).1.L := by
    unfold nodeD at *
    split; · exact hg
    rename_i h1
    split; · exact hg
    rename_i h2
    split
    · exact hg
    · exact hg.snoc hn h1 h2 (by omega)
  refine ⟨hG, ?_⟩
  split at hi
  · rename_i he
    rw [hi]
    have hp := node_pre s n
    exact ⟨ok_prefix hp hn.2.2.1, by rw [lev_prefix hp hn.2.2.1]; have := hn.2.2.2.2.1; omega⟩
  · exact ⟨hi.1, by unfold lev; rw [hi.2]; omega⟩
/-- Once made, a node is found again. -/
theorem node_stable {s : Bs} {n : Node} (hf : (nodeD s n).1.full = false) {L' : List Node} (hp : (nodeD s n).1.L <+: L') : nodeD ⟨L', false⟩ n = (⟨L', false⟩, (nodeD s n).2) := by
  unfold nodeD at *
  split
  · rename_i h; simp [h]
  · rename_i h
    simp only [h, if_false] at hf hp ⊢
    by_cases hm : n ∈ s.L
    · simp only [hm, if_true] at hp ⊢
      have hm' : n ∈ L' := hp.subset hm
      simp [hm', idx_prefix hp hm]
    · simp only [hm, if_false] at hf hp ⊢
      by_cases hl : 8192 ≤ s.L.length
      · simp [hl] at hf
      · simp only [hl, if_false] at hp ⊢
        have hm1 : n ∈ s.L ++ [n] := by simp
        have hm' : n ∈ L' := hp.subset hm1
        have : (s.L ++ [n]).idxOf n = s.L.length := by rw [List.idxOf_append, if_neg hm]; simp
        simp [hm', idx_prefix hp hm1, this]

instance (L n) : Decidable (fits L n) := by unfold fits; infer_instance
/-! A node that is asked for. -/
def makeD (l : List Node) (n : Node) : One := if Good l ∧ fits l n then doneD (nodeD ⟨l, false⟩ n) else ⟨[], 0, 1⟩
theorem makeD_yes {l : List Node} {n : Node} (h : Good l) (hf : fits l n) : makeD l n = doneD (nodeD ⟨l, false⟩ n) := by simp [makeD, h, hf]
theorem makeD_no {l : List Node} {n : Node} (h : ¬ (Good l ∧ fits l n)) : makeD l n = ⟨[], 0, 1⟩ := by simp [makeD, h]
theorem has2 {l : List Node} {a b : Int} : hasB l [a, b] = true ↔ Good l ∧ okNode l a ∧ okNode l b := by
  simp [hasB, validB]
theorem ins2 {l : List Node} {a b : Int} : insB l [a, b] = true ↔ okNode l a ∧ okNode l b := by
  simp [insB]
abbrev lv (l : List Node) (i : Int) : Int := (l.getD i.toNat default).level
theorem dmk {l : List Node} {n : Node} {P : Bool} (h : (!hasB l [n.lo, n.hi] || P) = false) : (0 ≤ n.lo ∧ n.lo < l.length) ∧ (0 ≤ n.hi ∧ n.hi < l.length) := by
  simp only [Bool.or_eq_false_iff, Bool.not_eq_false'] at h
  exact (has2.1 h.1).2
theorem dmk_iff {l : List Node} {n : Node} : ((!hasB l [n.lo, n.hi] || !decide (0 ≤ n.level ∧ n.level < 20)) || decide (min (lv l n.lo) (lv l n.hi) ≤ n.level)) = false ↔ Good l ∧ fits l n := by
  simp only [Bool.or_eq_false_iff, Bool.not_eq_false', has2, decide_eq_true_eq, decide_eq_false_iff_not]
  unfold fits lev nd lv
  constructor
  · rintro ⟨⟨⟨h1, h2, h3⟩, h4, h5⟩, h6⟩; exact ⟨h1, h4, h5, h2, h3, by omega, by omega⟩
  · rintro ⟨h1, h4, h5, h2, h3, h6, h7⟩; exact ⟨⟨⟨h1, h2, h3⟩, h4, h5⟩, by omega⟩
theorem dmk2 {l : List Node} {n : Node} (h : ((!hasB l [n.lo, n.hi] || !decide (0 ≤ n.level ∧ n.level < 20)) || decide (min (lv l n.lo) (lv l n.hi) ≤ n.level)) = false) : Good l ∧ fits l n := dmk_iff.1 h
theorem dmk0 {l : List Node} {n : Node} (h : ((!hasB l [n.lo, n.hi] || !decide (0 ≤ n.level ∧ n.level < 20)) || decide (min (lv l n.lo) (lv l n.hi) ≤ n.level)) = true) : ¬ (Good l ∧ fits l n) := fun hg => by
  rw [dmk_iff.2 hg] at h; cases h
theorem rmk {l : List Node} {n : Node} {P : Bool} (h : (P || !insB l [n.lo, n.hi]) = false) : (0 ≤ n.lo ∧ n.lo < l.length) ∧ (0 ≤ n.hi ∧ n.hi < l.length) := by
  simp only [Bool.or_eq_false_iff, Bool.not_eq_false'] at h
  exact ins2.1 h.2
theorem rmk9 {l : List Node} {n : Node} {P R : Bool} (h : ((P || !insB l [n.lo, n.hi]) || R) = false) : (0 ≤ n.lo ∧ n.lo < l.length) ∧ (0 ≤ n.hi ∧ n.hi < l.length) :=
  rmk (Bool.or_eq_false_iff.1 h).1
theorem rmk_iff {l : List Node} {n : Node} : (((((!validB l || decide (n.level < 0)) || decide (20 ≤ n.level)) || !insB l [n.lo, n.hi]) || decide (lv l n.lo ≤ n.level)) || decide (lv l n.hi ≤ n.level)) = false ↔ Good l ∧ fits l n := by
  simp only [Bool.or_eq_false_iff, Bool.not_eq_false', ins2, decide_eq_true_eq, decide_eq_false_iff_not, validB]
  unfold fits lev nd lv
  constructor
  · rintro ⟨⟨⟨⟨⟨h1, h2⟩, h3⟩, h4, h5⟩, h6⟩, h7⟩; exact ⟨h1, by omega, by omega, h4, h5, by omega, by omega⟩
  · rintro ⟨h1, h4, h5, h2, h3, h6, h7⟩; exact ⟨⟨⟨⟨⟨h1, by omega⟩, by omega⟩, h2, h3⟩, by omega⟩, by omega⟩
theorem rmk2 {l : List Node} {n : Node} (h : (((((!validB l || decide (n.level < 0)) || decide (20 ≤ n.level)) || !insB l [n.lo, n.hi]) || decide (lv l n.lo ≤ n.level)) || decide (lv l n.hi ≤ n.level)) = false) : Good l ∧ fits l n := rmk_iff.1 h
theorem rmk0 {l : List Node} {n : Node} (h : (((((!validB l || decide (n.level < 0)) || decide (20 ≤ n.level)) || !insB l [n.lo, n.hi]) || decide (lv l n.lo ≤ n.level)) || decide (lv l n.hi ≤ n.level)) = true) : ¬ (Good l ∧ fits l n) := fun hg => by
  rw [rmk_iff.2 hg] at h; cases h
theorem tab_len (val : Val) : ∀ (k : Nat) (s : Bs) (t : Three), s.L.length ≤ 8192 → (tab val k s t).1.L.length ≤ 8192
  | 0, _, _, h => h
  | k + 1, s, t, h => by
    unfold tab
    split; · exact h
    split; · exact h
    exact node_len (tab_len val k _ _ (tab_len val k _ _ h))
theorem tab_full (val : Val) (k : Nat) (s : Bs) (t : Three) (h : s.full = true) : tab val k s t = (s, 0) := by
  cases k with
  | zero => rfl
  | succ k => simp [tab, h]
theorem tab_pre (val : Val) : ∀ (k : Nat) (s : Bs) (t : Three), s.L <+: (tab val k s t).1.L
  | 0, _, _ => List.prefix_refl _
  | k + 1, s, t => by
    unfold tab
    split; · exact List.prefix_refl _
    split; · exact List.prefix_refl _
    exact ((tab_pre val k _ _).trans (tab_pre val k _ _)).trans (node_pre _ _)

theorem tab_ext (val : Val) : ∀ (k : Nat) (s : Bs) (t : Three), Good s.L → s.full = false → ok3 s.L t → 20 - lv3 s.L t < k → Ext s.L (tab val k s t) (lv3 s.L t)
  | 0, s, t, hg, _, ht, hk => by have := (hg.lv3 ht).2; omega
  | k + 1, s, t, hg, hs, ht, hk => by
    unfold tab
    simp only [hs, Bool.false_eq_true, if_false]
    split
    · rename_i h20
      refine ⟨List.prefix_refl _, fun _ => ⟨hg, ?_⟩⟩
      unfold leafI
      split
      · exact ⟨hg.ok1, by rw [(hg.level hg.ok1).2.2.2 (.inr rfl)]; omega⟩
      · exact ⟨hg.ok0, by rw [(hg.level hg.ok0).2.2.2 (.inl rfl)]; omega⟩
    · rename_i h20
      have hh0 := hg.half3 ht h20 false
      have iha := tab_ext val k s _ hg hs hh0.1 (by omega)
      generalize ha : tab val k s (half3 s.L t (lv3 s.L t) false) = a at iha ⊢
      try dsimp only
      cases haf : a.1.full with
      | true =>
        rw [tab_full val k a.1 _ haf]
        exact ⟨iha.pre.trans (node_pre _ _), fun h => by rw [node_full haf] at h; cases h⟩
      | false =>
        obtain ⟨ga, oa, la⟩ := iha.good haf
        have hta := ok3_prefix iha.pre ht
        have hlv := lv3_prefix iha.pre ht
        have hh1 := ga.half3 hta (by rw [hlv]; exact h20) true
        rw [hlv] at hh1
        have ihb := tab_ext val k a.1 _ ga haf hh1.1 (by omega)
        generalize hb : tab val k a.1 (half3 a.1.L t (lv3 s.L t) true) = b at ihb ⊢
        cases hbf : b.1.full with
        | true => exact ⟨(iha.pre.trans ihb.pre).trans (node_pre _ _), fun h => by rw [node_full hbf] at h; cases h⟩
        | false =>
          obtain ⟨gb, ob, lb⟩ := ihb.good hbf
          have hb0 := hg.lv3 ht
          have := node_ext (n := ⟨lv3 s.L t, a.2, b.2⟩) gb ⟨hb0.1, by dsimp only; omega, ok_prefix ihb.pre oa, ob, by dsimp only; rw [lev_prefix ihb.pre oa]; omega, by dsimp only; omega⟩
          exact ⟨(iha.pre.trans ihb.pre).trans this.pre, this.good⟩

/-- Once made, a function is found again. -/
theorem tab_stable (val : Val) : ∀ (k : Nat) (s : Bs) (t : Three), Good s.L → s.full = false → ok3 s.L t → 20 - lv3 s.L t < k → (tab val k s t).1.full = false →
    ∀ (j : Nat) (L' : List Node), 20 - lv3 s.L t < j → (tab val k s t).1.L <+: L' → tab val j ⟨L', false⟩ t = (⟨L', false⟩, (tab val k s t).2)
  | 0, s, t, hg, _, ht, hk, _ => by have := (hg.lv3 ht).2; omega
  | k + 1, s, t, hg, hs, ht, hk, hf => by
    intro j L' hj hp
    have hsL : s.L <+: L' := (tab_pre val (k + 1) s t).trans hp
    obtain ⟨j, rfl⟩ : ∃ i, j = i + 1 := ⟨j - 1, by have := (hg.lv3 ht).2; omega⟩
    unfold tab at hf hp ⊢
    simp only [hs, Bool.false_eq_true, if_false, lv3_prefix hsL ht] at hf hp ⊢
    by_cases h20 : lv3 s.L t = 20
    · simp [h20]
    · simp only [h20, if_false] at hf hp ⊢
      have hh0 := hg.half3 ht h20 false
      have iha := tab_ext val k s _ hg hs hh0.1 (by omega)
      have sta := tab_stable val k s _ hg hs hh0.1 (by omega)
      rw [half3_prefix hsL ht]
      generalize ha : tab val k s (half3 s.L t (lv3 s.L t) false) = a at iha sta hf hp ⊢
      cases haf : a.1.full with
      | true => rw [tab_full val k a.1 _ haf] at hf; rw [node_full haf] at hf; cases hf
      | false =>
        obtain ⟨ga, oa, la⟩ := iha.good haf
        have hta := ok3_prefix iha.pre ht
        have hlv := lv3_prefix iha.pre ht
        have hh1 := ga.half3 hta (by rw [hlv]; exact h20) true
        rw [hlv] at hh1
        have ihb := tab_ext val k a.1 _ ga haf hh1.1 (by omega)
        have stb := tab_stable val k a.1 _ ga haf hh1.1 (by omega)
        generalize hb : tab val k a.1 (half3 a.1.L t (lv3 s.L t) true) = b at ihb stb hf hp ⊢
        cases hbf : b.1.full with
        | true => rw [node_full hbf] at hf; cases hf
        | false =>
          have hbL : b.1.L <+: L' := (node_pre _ _).trans hp
          have haL : a.1.L <+: L' := ihb.pre.trans hbL
          rw [sta haf j L' (by omega) haL]
          dsimp only
          rw [half3_prefix hsL ht, ← half3_prefix iha.pre ht, stb hbf j L' (by omega) hbL]
          exact node_stable hf hp
end Go.Proofs.Ytcpkjpkjahgobaa
