/- Values of functions, and what a memory of known results may hold. -/
import Derived.Test.YtcpkjpkjahgobaaCtB
namespace Go.Proofs.Ytcpkjpkjahgobaa
open Go.Sim

def bitAt (bits : List Bool) (i : Int) : Bool := decide (i < bits.length) && bits.getD i.toNat default
def stepE (L : List Node) (bits : List Bool) (f : Int) : Int := if bitAt bits (lev L f) then (nd L f).hi else (nd L f).lo
def ev (L : List Node) (bits : List Bool) : Nat → Int → Int
  | 0, f => f
  | k + 1, f => if 1 < f then ev L bits k (stepE L bits f) else f
def evF (L : List Node) (bits : List Bool) (f : Int) : Int := ev L bits f.toNat f
def evalD (l : List Node) (f : Int) (bits : List Bool) : Bool := hasB l [f] && decide (evF l bits f = 1)

theorem has1 {l : List Node} {f : Int} : hasB l [f] = true ↔ Good l ∧ okNode l f := by simp [hasB, validB]
theorem Good.step {L : List Node} (h : Good L) {f : Int} (hf : okNode L f) (h1 : 1 < f) (bits : List Bool) : okNode L (stepE L bits f) ∧ stepE L bits f < f := by
  have h20 : lev L f ≠ 20 := fun e => by have := (h.level hf).2.2.1 e; omega
  have hk := h.kids hf h20
  unfold stepE; split
  · exact ⟨hk.2.1, hk.2.2.2.1⟩
  · exact ⟨hk.1, hk.2.2.1⟩
theorem ev_fuel {L : List Node} (h : Good L) (bits : List Bool) : ∀ (j k : Nat) (f : Int), okNode L f → f.toNat ≤ j → f.toNat ≤ k → ev L bits j f = ev L bits k f
  | 0, 0, _, _, _, _ => rfl
  | 0, k + 1, f, hf, h1, _ => by have := hf.1; simp only [ev]; rw [if_neg (by omega)]
  | j + 1, 0, f, hf, _, h2 => by have := hf.1; simp only [ev]; rw [if_neg (by omega)]
  | j + 1, k + 1, f, hf, h1, h2 => by
    simp only [ev]
    by_cases hf1 : 1 < f
    · rw [if_pos hf1, if_pos hf1]
      obtain ⟨ho, hl⟩ := h.step hf hf1 bits
      exact ev_fuel h bits j k _ ho (by have := ho.1; omega) (by have := ho.1; omega)
    · rw [if_neg hf1, if_neg hf1]
theorem evF_step {L : List Node} (h : Good L) {f : Int} (hf : okNode L f) (h1 : 1 < f) (bits : List Bool) : evF L bits (stepE L bits f) = evF L bits f := by
  obtain ⟨ho, hl⟩ := h.step hf h1 bits
  unfold evF
  obtain ⟨k, hk⟩ : ∃ k, f.toNat = k + 1 := ⟨f.toNat - 1, by omega⟩
  conv => rhs; rw [hk]; simp only [ev]; rw [if_pos h1]
  exact ev_fuel h bits _ _ _ ho (Nat.le_refl _) (by have := ho.1; omega)
theorem evF_leaf {L : List Node} {f : Int} (h1 : ¬ 1 < f) (bits : List Bool) : evF L bits f = f := by
  unfold evF
  cases f.toNat with
  | zero => rfl
  | succ k => simp only [ev]; rw [if_neg h1]
theorem evF_01 {L : List Node} (h : Good L) (bits : List Bool) : ∀ (k : Nat) (f : Int), okNode L f → f.toNat ≤ k → evF L bits f = 0 ∨ evF L bits f = 1
  | k, f, hf, hk => by
    by_cases h1 : 1 < f
    · obtain ⟨ho, hl⟩ := h.step hf h1 bits
      rw [← evF_step h hf h1]
      match k, hk with
      | 0, hk => omega
      | k + 1, hk => exact evF_01 h bits k _ ho (by have := ho.1; omega)
    · rw [evF_leaf h1]; have := hf.1; omega
/-- A round of the search. -/
theorem ev_hi {L : List Node} {bits : List Bool} {f g : Int} (h : Good L) (hI : okNode L g ∧ evF L bits g = evF L bits f) (h1 : decide (1 < g) = true) (hb : bitAt bits (nd L g).level = true) :
    (okNode L (nd L g).hi ∧ evF L bits (nd L g).hi = evF L bits f) ∧ (nd L g).hi.toNat < g.toNat := by
  have h1 := of_decide_eq_true h1
  have hs := h.step hI.1 h1 bits
  have he := evF_step h hI.1 h1 bits
  have e : stepE L bits g = (nd L g).hi := by unfold stepE lev; rw [hb]; rfl
  rw [e] at hs he
  exact ⟨⟨hs.1, he.trans hI.2⟩, by have := hs.1.1; omega⟩
theorem ev_lo {L : List Node} {bits : List Bool} {f g : Int} (h : Good L) (hI : okNode L g ∧ evF L bits g = evF L bits f) (h1 : decide (1 < g) = true) (hb : bitAt bits (nd L g).level = false) :
    (okNode L (nd L g).lo ∧ evF L bits (nd L g).lo = evF L bits f) ∧ (nd L g).lo.toNat < g.toNat := by
  have h1 := of_decide_eq_true h1
  have hs := h.step hI.1 h1 bits
  have he := evF_step h hI.1 h1 bits
  have e : stepE L bits g = (nd L g).lo := by unfold stepE lev; rw [hb]; rfl
  rw [e] at hs he
  exact ⟨⟨hs.1, he.trans hI.2⟩, by have := hs.1.1; omega⟩
theorem eval_end {L : List Node} {bits : List Bool} {f g : Int} (h : Good L) (hO : okNode L f) (hI : okNode L g ∧ evF L bits g = evF L bits f) (h1 : decide (1 < g) = false) : evalD L f bits = decide (g = 1) := by
  have h1 := of_decide_eq_false h1
  unfold evalD
  rw [has1.2 ⟨h, hO⟩, ← hI.2, evF_leaf h1]; rfl
theorem ev_lvl {L : List Node} {f : Int} (h : Good L) (hf : okNode L f) (h1 : decide (1 < f) = true) : 0 ≤ (nd L f).level := by
  have h1 := of_decide_eq_true h1
  exact (h.placed hf h1).1

/-! Functions by a table, whatever the fuel. -/
def fuel : Nat := 21
theorem fuel_lt {x : Int} (h : 0 ≤ x) : 20 - x < (fuel : Nat) := by show 20 - x < ((21 : Nat) : Int); omega
def T (val : Val) (s : Bs) (t : Three) : Bs × Int := tab val fuel s t
theorem tab_fuel (val : Val) : ∀ (k j : Nat) (s : Bs) (t : Three), (s.full = true ∨ Good s.L ∧ ok3 s.L t ∧ 20 - lv3 s.L t < k ∧ 20 - lv3 s.L t < j) → tab val k s t = tab val j s t := by
  intro k
  induction k with
  | zero => intro j s t h; rcases h with h | ⟨hg, ht, h1, _⟩
            · rw [tab_full val _ s t h, tab_full val _ s t h]
            · have := (hg.lv3 ht).2; omega
  | succ k ih =>
    intro j s t h
    cases j with
    | zero => rcases h with h | ⟨hg, ht, _, h1⟩
              · rw [tab_full val _ s t h, tab_full val _ s t h]
              · have := (hg.lv3 ht).2; omega
    | succ j =>
      rcases h with h | ⟨hg, ht, h1, h2⟩
      · rw [tab_full val _ s t h, tab_full val _ s t h]
      unfold tab
      cases hs : s.full with
      | true => rfl
      | false =>
        simp only [Bool.false_eq_true, if_false]
        by_cases h20 : lv3 s.L t = 20
        · simp [h20]
        · simp only [h20, if_false]
          have hh0 := hg.half3 ht h20 false
          rw [ih j s _ (.inr ⟨hg, hh0.1, by omega, by omega⟩)]
          have iha := tab_ext val j s _ hg hs hh0.1 (by omega)
          generalize tab val j s (half3 s.L t (lv3 s.L t) false) = a at iha ⊢
          congr 1
          · rw [ih j a.1 _ ?_]
            cases haf : a.1.full with
            | true => exact .inl rfl
            | false =>
              obtain ⟨ga, oa, la⟩ := iha.good haf
              have hta := ok3_prefix iha.pre ht
              have hlv := lv3_prefix iha.pre ht
              have hh1 := ga.half3 hta (by rw [hlv]; exact h20) true
              rw [hlv] at hh1
              exact .inr ⟨ga, hh1.1, by omega, by omega⟩
          · rw [ih j a.1 _ ?_]
            cases haf : a.1.full with
            | true => exact .inl rfl
            | false =>
              obtain ⟨ga, oa, la⟩ := iha.good haf
              have hta := ok3_prefix iha.pre ht
              have hlv := lv3_prefix iha.pre ht
              have hh1 := ga.half3 hta (by rw [hlv]; exact h20) true
              rw [hlv] at hh1
              exact .inr ⟨ga, hh1.1, by omega, by omega⟩
theorem T_full {val : Val} {s : Bs} {t : Three} (h : s.full = true) : T val s t = (s, 0) := tab_full val fuel s t h
theorem T_leaf {val : Val} {s : Bs} {t : Three} (hs : s.full = false) (h20 : lv3 s.L t = 20) : T val s t = (s, leafI val t) := by
  have : ∀ k, tab val (k + 1) s t = (s, leafI val t) := fun k => by simp [tab, hs, h20]
  exact this 20
theorem T_ext {val : Val} {s : Bs} {t : Three} (hg : Good s.L) (hs : s.full = false) (ht : ok3 s.L t) : Ext s.L (T val s t) (lv3 s.L t) := tab_ext val fuel s t hg hs ht (fuel_lt (hg.lv3 ht).1)
theorem T_len {val : Val} {s : Bs} {t : Three} (h : s.L.length ≤ 8192) : (T val s t).1.L.length ≤ 8192 := tab_len val fuel s t h
theorem T_pre {val : Val} {s : Bs} {t : Three} : s.L <+: (T val s t).1.L := tab_pre val fuel s t
theorem T_node {val : Val} {s : Bs} {t : Three} (hg : Good s.L) (hs : s.full = false) (ht : ok3 s.L t) (h20 : lv3 s.L t ≠ 20) :
    T val s t = nodeD (T val (T val s (half3 s.L t (lv3 s.L t) false)).1 (half3 (T val s (half3 s.L t (lv3 s.L t) false)).1.L t (lv3 s.L t) true)).1
      ⟨lv3 s.L t, (T val s (half3 s.L t (lv3 s.L t) false)).2, (T val (T val s (half3 s.L t (lv3 s.L t) false)).1 (half3 (T val s (half3 s.L t (lv3 s.L t) false)).1.L t (lv3 s.L t) true)).2⟩ := by
  have h0 := (hg.lv3 ht).1
  have hh0 := hg.half3 ht h20 false
  have iha := T_ext (val := val) hg hs hh0.1
  have key : ∀ k : Nat, 20 ≤ k → tab val (k + 1) s t = nodeD (T val (T val s (half3 s.L t (lv3 s.L t) false)).1 (half3 (T val s (half3 s.L t (lv3 s.L t) false)).1.L t (lv3 s.L t) true)).1
      ⟨lv3 s.L t, (T val s (half3 s.L t (lv3 s.L t) false)).2, (T val (T val s (half3 s.L t (lv3 s.L t) false)).1 (half3 (T val s (half3 s.L t (lv3 s.L t) false)).1.L t (lv3 s.L t) true)).2⟩ := by
    intro k hk
    have e1 : tab val k s (half3 s.L t (lv3 s.L t) false) = T val s (half3 s.L t (lv3 s.L t) false) := tab_fuel val _ _ _ _ (.inr ⟨hg, hh0.1, by omega, fuel_lt (by omega)⟩)
    rw [tab]
    simp only [hs, Bool.false_eq_true, if_false, h20, e1]
    generalize T val s (half3 s.L t (lv3 s.L t) false) = a at iha ⊢
    have e2 : tab val k a.1 (half3 a.1.L t (lv3 s.L t) true) = T val a.1 (half3 a.1.L t (lv3 s.L t) true) := by
      refine tab_fuel val _ _ _ _ ?_
      cases haf : a.1.full with
      | true => exact .inl rfl
      | false =>
        obtain ⟨ga, oa, la⟩ := iha.good haf
        have hta := ok3_prefix iha.pre ht
        have hlv := lv3_prefix iha.pre ht
        have hh1 := ga.half3 hta (by rw [hlv]; exact h20) true
        rw [hlv] at hh1
        exact .inr ⟨ga, hh1.1, by omega, fuel_lt (by omega)⟩
    rw [e2]
  exact key 20 (Nat.le_refl _)
theorem T_stable {val : Val} {s : Bs} {t : Three} (hg : Good s.L) (hs : s.full = false) (ht : ok3 s.L t) (hf : (T val s t).1.full = false) {L' : List Node} (hp : (T val s t).1.L <+: L') : T val ⟨L', false⟩ t = (⟨L', false⟩, (T val s t).2) :=
  tab_stable val fuel s t hg hs ht (fuel_lt (hg.lv3 ht).1) hf fuel L' (fuel_lt (hg.lv3 ht).1) hp

/-! Known results. -/
def KOk (val : Val) (L : List Node) (K : List (Three × Int)) : Prop := ∀ t i, mget K t = some i → ok3 L t ∧ lv3 L t ≠ 20 ∧ T val ⟨L, false⟩ t = (⟨L, false⟩, i)
def KR {κ : Type} [DecidableEq κ] (K : List (κ × Int)) : Prop := ∀ t, InR .i64 ((mget K t).getD 0)
theorem kr_nil {κ : Type} [DecidableEq κ] : KR (κ := κ) [] := fun t => by simp [mget_nil, InR]
theorem kr_set {κ : Type} [DecidableEq κ] {K : List (κ × Int)} (h : KR K) {t : κ} {i : Int} (hi : InR .i64 i) : KR (mset K t i) := fun u => by
  rw [mget_set]; split
  · exact hi
  · exact h u
theorem kok_nil {val : Val} {L : List Node} : KOk val L [] := fun t i h => by simp [mget_nil] at h
theorem KOk.grow {val : Val} {L L' : List Node} {K : List (Three × Int)} (hg : Good L) (h : KOk val L K) (hp : L <+: L') : KOk val L' K := fun t i hi => by
  obtain ⟨h1, h2, h3⟩ := h t i hi
  have h4 := T_stable (val := val) (s := ⟨L, false⟩) hg rfl h1 (by rw [h3]) (L' := L') (by rw [h3]; exact hp)
  rw [h3] at h4
  exact ⟨ok3_prefix hp h1, by rw [lv3_prefix hp h1]; exact h2, h4⟩
theorem KOk.set {val : Val} {L : List Node} {K : List (Three × Int)} (h : KOk val L K) {t : Three} {i : Int} (h1 : ok3 L t) (h2 : lv3 L t ≠ 20) (h3 : T val ⟨L, false⟩ t = (⟨L, false⟩, i)) : KOk val L (mset K t i) := fun u j hu => by
  rw [mget_set] at hu
  split at hu
  · rename_i e; cases hu; subst e; exact ⟨h1, h2, h3⟩
  · exact h u j hu
/-- What a step with a memory of known results yields. -/
structure ApOk (val : Val) (L₀ : List Node) (q : Bs × Int) (x : (Value × Bs × List (Node × Int)) × (List (Three × Int) × Int)) : Prop where
  pre : L₀ <+: x.1.2.1.L
  len : x.1.2.1.L.length ≤ 8192
  at_ : AtOk x.1.2.1.L x.1.2.2
  kr : KR x.2.1
  full : x.1.2.1.full = q.1.full
  eq : x.1.2.1.full = false → x.1.2.1 = q.1 ∧ x.2.2 = q.2 ∧ KOk val x.1.2.1.L x.2.1
def apX (val : Val) (L₀ : List Node) (q : Bs × Int) (r m mk : Nat) : RA := ⟨{x : (Value × Bs × List (Node × Int)) × (List (Three × Int) × Int) // ApOk val L₀ q x}, fun x => Rp.int .i64 x.1.2.2,
  fun x => [MF.box r 105 [Rp.val x.1.1.1, Rp.val (.map (some m)), Rp.bool x.1.1.2.1.full], MF.osl x.1.1.1 50 3 eN x.1.1.2.1.L, MF.map m nv iv x.1.1.2.2, MF.map mk tv iv x.1.2.1]⟩
abbrev fnA (b : Bool × Bool × Bool) : List Rp := [Rp.bool b.1, Rp.bool b.2.1, Rp.bool b.2.2]
abbrev fnX (val : Val) (b : Bool × Bool × Bool) : RA := .one (Rp.bool (val b.1 b.2.1 b.2.2))
abbrev fnR (val : Val) : Rp := Rp.fn Try.prog fnA (fnX val)
def opR (val : Val) (r mk : Nat) : List Rp := [Rp.ptr r 0, fnR val, Rp.val (.map (some mk))]
end Go.Proofs.Ytcpkjpkjahgobaa
