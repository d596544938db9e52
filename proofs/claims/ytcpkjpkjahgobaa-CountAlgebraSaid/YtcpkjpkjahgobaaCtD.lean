/- Functions by a table: steps of both programs. -/
import Derived.Test.YtcpkjpkjahgobaaCtC
namespace Go.Proofs.Ytcpkjpkjahgobaa
open Go.Sim

def valT (tb : Int) : Val := fun a b c => decide (tb / 2 ^ ((if a then 4 else 0) + (if b then 2 else 0) + (if c then 1 else 0)) % 2 = 1)
theorem leaf_01 {L : List Node} {t : Three} (hG : Good L) (ht : ok3 L t) (h : lv3 L t = 20) : (t.f = 0 ∨ t.f = 1) ∧ (t.g = 0 ∨ t.g = 1) ∧ (t.h = 0 ∨ t.h = 1) := by
  have a := hG.level ht.1; have b := hG.level ht.2.1; have c := hG.level ht.2.2
  unfold lv3 at h
  exact ⟨a.2.2.1 (by omega), b.2.2.1 (by omega), c.2.2.1 (by omega)⟩
theorem table_leaf {tb : Int} (htb : 0 ≤ tb) {t : Three} (h1 : t.f = 0 ∨ t.f = 1) (h2 : t.g = 0 ∨ t.g = 1) (h3 : t.h = 0 ∨ t.h = 1) :
    (tb.fdiv (2 ^ min (4 * t.f + 2 * t.g + t.h).toNat IntKind.i64.bits)).tmod 2 = leafI (valT tb) t := by
  have hp : ∀ j : Nat, tb.fdiv (2 ^ j) = tb / 2 ^ j := fun j => Int.fdiv_eq_ediv_of_nonneg _ (Int.le_of_lt (Int.pow_pos (by decide)))
  have hn : ∀ j : Nat, 0 ≤ tb / 2 ^ j := fun j => Int.ediv_nonneg htb (Int.le_of_lt (Int.pow_pos (by decide)))
  have key : ∀ j : Nat, (tb.fdiv (2 ^ j)).tmod 2 = if decide (tb / 2 ^ j % 2 = 1) then 1 else 0 := fun j => by
    rw [hp, Int.tmod_eq_emod_of_nonneg (hn j)]
    split <;> rename_i h <;> simp at h <;> omega
  rw [key]
  unfold leafI valT
  rcases h1 with h1 | h1 <;> rcases h2 with h2 | h2 <;> rcases h3 with h3 | h3 <;> rw [h1, h2, h3] <;> rfl
theorem T_next {val : Val} {s : Bs} {t : Three} (hG : Good s.L) (hs : s.full = false) (ht : ok3 s.L t) (h20 : lv3 s.L t ≠ 20) {k : Nat} (hk : 20 - lv3 s.L t < k) :
    (T val s (half3 s.L t (lv3 s.L t) false)).1.full = true ∨ Good (T val s (half3 s.L t (lv3 s.L t) false)).1.L ∧ ok3 (T val s (half3 s.L t (lv3 s.L t) false)).1.L (half3 (T val s (half3 s.L t (lv3 s.L t) false)).1.L t (lv3 s.L t) true) ∧
      20 - lv3 (T val s (half3 s.L t (lv3 s.L t) false)).1.L (half3 (T val s (half3 s.L t (lv3 s.L t) false)).1.L t (lv3 s.L t) true) < (k - 1 : Nat) := by
  have hh0 := hG.half3 ht h20 false
  have ih := T_ext (val := val) hG hs hh0.1
  generalize T val s (half3 s.L t (lv3 s.L t) false) = a at ih ⊢
  cases haf : a.1.full with
  | true => exact .inl rfl
  | false =>
    obtain ⟨ga, oa, la⟩ := ih.good haf
    have hta := ok3_prefix ih.pre ht
    have hlv := lv3_prefix ih.pre ht
    have hh1 := ga.half3 hta (by rw [hlv]; exact h20) true
    rw [hlv] at hh1
    have := (hG.lv3 ht).2
    exact .inr ⟨ga, hh1.1, by omega⟩
theorem half_step {L : List Node} {t : Three} (hG : Good L) (ht : ok3 L t) (h20 : lv3 L t ≠ 20) {k : Nat} (hk : 20 - lv3 L t < k) (one : Bool) : Good L ∧ ok3 L (half3 L t (lv3 L t) one) ∧ 20 - lv3 L (half3 L t (lv3 L t) one) < (k - 1 : Nat) := by
  have hh0 := hG.half3 ht h20 one
  have := (hG.lv3 ht).2
  exact ⟨hG, hh0.1, by omega⟩

theorem bs_eta (s : Bs) (h : s.full = false) : (⟨s.L, false⟩ : Bs) = s := by cases s; simp at h; simp [h]
theorem ap_full {val : Val} {s : Bs} {t : Three} {A : List (Node × Int)} {K : List (Three × Int)} (v : Value) (h : s.full = true) (hl : s.L.length ≤ 8192) (hA : AtOk s.L A) (hK : KR K) : ApOk val s.L (T val s t) ((v, s, A), (K, 0)) :=
  ⟨List.prefix_refl _, hl, hA, hK, by rw [T_full h], fun h' => by dsimp only at h'; rw [h] at h'; cases h'⟩
theorem ap_same {val : Val} {s : Bs} {t : Three} {A : List (Node × Int)} {K : List (Three × Int)} {i : Int} (v : Value) (hT : T val s t = (s, i)) (hl : s.L.length ≤ 8192) (hA : AtOk s.L A) (hK : KR K) (hk : s.full = false → KOk val s.L K) : ApOk val s.L (T val s t) ((v, s, A), (K, i)) :=
  ⟨List.prefix_refl _, hl, hA, hK, by rw [hT], fun h' => ⟨by rw [hT], by rw [hT], hk h'⟩⟩
theorem ap_hit {val : Val} {s : Bs} {t : Three} {K : List (Three × Int)} (hs : s.full = false) (hk : KOk val s.L K) (h : (mget K t).isSome = true) : T val s t = (s, (mget K t).getD 0) := by
  cases hm : mget K t with
  | none => rw [hm] at h; cases h
  | some i =>
    have := (hk t i hm).2.2
    rw [bs_eta s hs] at this
    rw [this]; rfl
theorem ap_next {val : Val} {s s₁ : Bs} {t : Three} {v : Value} {A : List (Node × Int)} {K : List (Three × Int)} {i : Int} (hG : Good s.L) (hs : s.full = false) (ht : ok3 s.L t) (h20 : lv3 s.L t ≠ 20) {k : Nat} (hk : 20 - lv3 s.L t < k)
    (p : ApOk val s.L (T val s (half3 s.L t (lv3 s.L t) false)) ((v, s₁, A), (K, i))) : s₁.full = true ∨ Good s₁.L ∧ ok3 s₁.L (half3 s₁.L t (lv3 s.L t) true) ∧ 20 - lv3 s₁.L (half3 s₁.L t (lv3 s.L t) true) < (k - 1 : Nat) := by
  cases h1 : s₁.full with
  | true => exact .inl rfl
  | false =>
    have e := (p.eq h1).1
    dsimp only at e
    have hf := p.full
    dsimp only at hf
    have := T_next (val := val) hG hs ht h20 hk
    rw [← e] at this
    exact .inr (this.resolve_left (by rw [h1]; simp))
theorem ap_done {val : Val} {s s₁ s₂ : Bs} {t : Three} {v₁ v₂ v₃ : Value} {A₁ A₂ A₃ : List (Node × Int)} {K₁ K₂ : List (Three × Int)} {i₁ i₂ : Int} (hG : Good s.L) (hs : s.full = false) (ht : ok3 s.L t) (h20 : lv3 s.L t ≠ 20)
    (p₁ : ApOk val s.L (T val s (half3 s.L t (lv3 s.L t) false)) ((v₁, s₁, A₁), (K₁, i₁))) (p₂ : ApOk val s₁.L (T val s₁ (half3 s₁.L t (lv3 s.L t) true)) ((v₂, s₂, A₂), (K₂, i₂)))
    (hA : AtOk (nodeD s₂ ⟨lv3 s.L t, i₁, i₂⟩).1.L A₃) (hi : InR .i64 (nodeD s₂ ⟨lv3 s.L t, i₁, i₂⟩).2) :
    ApOk val s.L (T val s t) ((v₃, (nodeD s₂ ⟨lv3 s.L t, i₁, i₂⟩).1, A₃), (mset K₂ t (nodeD s₂ ⟨lv3 s.L t, i₁, i₂⟩).2, (nodeD s₂ ⟨lv3 s.L t, i₁, i₂⟩).2)) := by
  have hT := T_node (val := val) hG hs ht h20
  have hpre : s.L <+: (nodeD s₂ ⟨lv3 s.L t, i₁, i₂⟩).1.L := (p₁.pre.trans p₂.pre).trans (node_pre _ _)
  have h1 := p₁.full; have h2 := p₂.full
  have e1 := p₁.eq; have e2 := p₂.eq
  dsimp only at h1 h2 e1 e2
  have hmain : (nodeD s₂ ⟨lv3 s.L t, i₁, i₂⟩).1.full = (T val s t).1.full ∧ ((nodeD s₂ ⟨lv3 s.L t, i₁, i₂⟩).1.full = false → nodeD s₂ ⟨lv3 s.L t, i₁, i₂⟩ = T val s t ∧ KOk val s₂.L K₂) := by
    cases f1 : s₁.full with
    | true =>
      rw [T_full f1] at h2
      dsimp only at h2
      rw [f1] at h1 h2
      have : (T val s t).1.full = true := by rw [hT, T_full h1.symm]; exact node_full h1.symm
      rw [node_full h2, this]
      exact ⟨rfl, fun h => by cases h⟩
    | false =>
      obtain ⟨a1, a2, _⟩ := e1 f1
      subst a1 a2
      cases f2 : s₂.full with
      | true =>
        rw [f2] at h2
        have : (T val s t).1.full = true := by rw [hT]; exact node_full h2.symm
        rw [node_full f2, this]
        exact ⟨rfl, fun h => by cases h⟩
      | false =>
        obtain ⟨b1, b2, b3⟩ := e2 f2
        subst b1 b2
        rw [hT]
        exact ⟨rfl, fun _ => ⟨rfl, b3⟩⟩
  refine ⟨hpre, node_len p₂.len, hA, kr_set p₂.kr hi, hmain.1, fun hf => ?_⟩
  dsimp only at hf ⊢
  obtain ⟨h3, h4⟩ := hmain.2 hf
  refine ⟨by rw [h3], by rw [h3], ?_⟩
  have hg2 : Good s₂.L := by
    have f2 : s₂.full = false := by
      cases f2 : s₂.full with
      | false => rfl
      | true => rw [node_full f2] at hf; cases hf
    have f1 : s₁.full = false := by
      cases f1 : s₁.full with
      | false => rfl
      | true => rw [T_full f1] at h2; dsimp only at h2; rw [f1, f2] at h2; cases h2
    obtain ⟨a1, _, _⟩ := e1 f1
    obtain ⟨b1, _, _⟩ := e2 f2
    have hx := ap_next hG hs ht h20 (k := 30) (by have := (hG.lv3 ht).1; omega) p₁
    obtain ⟨g1, o1, _⟩ := hx.resolve_left (by rw [f1]; simp)
    rw [b1]
    rw [b1] at f2
    exact ((T_ext g1 f1 o1).good f2).1
  refine (h4.grow hg2 (node_pre _ _)).set (ok3_prefix hpre ht) (by rw [lv3_prefix hpre ht]; exact h20) ?_
  rw [h3]
  exact T_stable hG hs ht (by rw [← h3]; exact hf) (List.prefix_refl _)

def applyD (val : Val) (l : List Node) (t : Three) : One := if validB l = true ∧ insB l [t.f, t.g, t.h] = true then doneD (T val ⟨l, false⟩ t) else ⟨[], 0, 1⟩
theorem has3 {l : List Node} {a b c : Int} : hasB l [a, b, c] = (validB l && insB l [a, b, c]) := rfl
theorem ins3 {l : List Node} {t : Three} : insB l [t.f, t.g, t.h] = true ↔ ok3 l t := by simp [insB, ok3]
theorem valid_good {l : List Node} : validB l = true ↔ Good l := by simp [validB]
theorem apply_yes {val : Val} {l : List Node} {t : Three} (h : Good l) (ht : ok3 l t) : applyD val l t = doneD (T val ⟨l, false⟩ t) := by simp [applyD, valid_good.2 h, ins3.2 ht]
theorem apply_no {val : Val} {l : List Node} {t : Three} (h : (validB l && insB l [t.f, t.g, t.h]) = false) : applyD val l t = ⟨[], 0, 1⟩ := by
  unfold applyD; rw [if_neg]; rintro ⟨h1, h2⟩; rw [h1, h2] at h; cases h
theorem done_eq {val : Val} {l : List Node} {q : Bs × Int} {v : Value} {s : Bs} {A : List (Node × Int)} {K : List (Three × Int)} {i : Int} (p : ApOk val l q ((v, s, A), (K, i))) : doneD (s, i) = doneD q := by
  have h1 := p.full
  dsimp only at h1
  unfold doneD
  rw [← h1]
  cases hs : s.full with
  | true => simp
  | false =>
    obtain ⟨a, b, _⟩ := p.eq hs
    dsimp only at a b
    simp only [Bool.false_eq_true, if_false, a, b]

/-- Tables that agree where it matters. -/
theorem tab_congr {val val' : Val} {D : Three → Prop} (hD : ∀ L t lv one, D t → D (half3 L t lv one)) (hv : ∀ t, D t → leafI val t = leafI val' t) : ∀ (k : Nat) (s : Bs) (t : Three), D t → tab val k s t = tab val' k s t
  | 0, _, _, _ => rfl
  | k + 1, s, t, h => by
    unfold tab
    dsimp only
    rw [hv t h, tab_congr hD hv k s _ (hD _ _ _ _ h), tab_congr hD hv k _ _ (hD _ _ _ _ h)]
theorem apply_congr {val val' : Val} {D : Three → Prop} (hD : ∀ L t lv one, D t → D (half3 L t lv one)) (hv : ∀ t, D t → leafI val t = leafI val' t) {l : List Node} {t : Three} (h : D t) : applyD val l t = applyD val' l t := by
  unfold applyD T; rw [tab_congr hD hv fuel _ _ h]
def notV : Val := fun a _ _ => !a
def andV : Val := fun a b _ => a && b
def orV : Val := fun a b _ => a || b
def xorV : Val := fun a b _ => !(a == b)
def chooseV : Val := fun a b c => (a && b) || (!a && c)
theorem not_tab {l : List Node} {f : Int} : applyD (valT 1) l ⟨f, f, f⟩ = applyD notV l ⟨f, f, f⟩ :=
  apply_congr (D := fun t => t.g = t.f ∧ t.h = t.f) (fun L t lv one ⟨h1, h2⟩ => by simp [half3, h1, h2])
    (fun t ⟨h1, h2⟩ => by unfold leafI; rw [h1, h2]; cases decide (t.f = 1) <;> rfl) ⟨rfl, rfl⟩
theorem two_tab {val : Val} {tb : Int} (h : ∀ a b, valT tb a b b = val a b b) {l : List Node} {f g : Int} : applyD (valT tb) l ⟨f, g, g⟩ = applyD val l ⟨f, g, g⟩ :=
  apply_congr (D := fun t => t.h = t.g) (fun L t lv one h1 => by simp only [half3, h1])
    (fun t h1 => by unfold leafI; rw [h1, h]) rfl
theorem and_tab {l : List Node} {f g : Int} : applyD (valT 128) l ⟨f, g, g⟩ = applyD andV l ⟨f, g, g⟩ := two_tab fun a b => by cases a <;> cases b <;> rfl
theorem or_tab {l : List Node} {f g : Int} : applyD (valT 254) l ⟨f, g, g⟩ = applyD orV l ⟨f, g, g⟩ := two_tab fun a b => by cases a <;> cases b <;> rfl
theorem xor_tab {l : List Node} {f g : Int} : applyD (valT 24) l ⟨f, g, g⟩ = applyD xorV l ⟨f, g, g⟩ := two_tab fun a b => by cases a <;> cases b <;> rfl
theorem choose_tab {l : List Node} {t : Three} : applyD (valT 202) l t = applyD chooseV l t :=
  apply_congr (D := fun _ => True) (fun _ _ _ _ _ => trivial) (fun t _ => by unfold leafI; cases decide (t.f = 1) <;> cases decide (t.g = 1) <;> cases decide (t.h = 1) <;> rfl) trivial
end Go.Proofs.Ytcpkjpkjahgobaa
