/- Functions of nodes: different nodes have different functions; a table's result has the function that it says; a function that is there is found. -/
import Derived.Test.YtcpkjpkjahgobaaCtD
namespace Go.Proofs.Ytcpkjpkjahgobaa
open Go.Sim

def stepB (L : List Node) (β : Int → Bool) (f : Int) : Int := if β (lev L f) then (nd L f).hi else (nd L f).lo
def evB (L : List Node) (β : Int → Bool) : Nat → Int → Int
  | 0, f => f
  | k + 1, f => if 1 < f then evB L β k (stepB L β f) else f
def eb (L : List Node) (β : Int → Bool) (f : Int) : Bool := decide (evB L β f.toNat f = 1)
theorem ev_is {L : List Node} {bits : List Bool} : ∀ (k : Nat) (f : Int), ev L bits k f = evB L (bitAt bits) k f
  | 0, _ => rfl
  | k + 1, f => by simp only [ev, evB]; rw [ev_is k]; rfl
theorem eval_eb {L : List Node} {bits : List Bool} {f : Int} (hg : Good L) (hf : okNode L f) : evalD L f bits = eb L (bitAt bits) f := by
  unfold evalD eb evF
  rw [has1.2 ⟨hg, hf⟩, ev_is]; rfl

section
variable {L : List Node} {β β' : Int → Bool}
theorem evB_fuel (h : Good L) : ∀ (j k : Nat) (f : Int), okNode L f → f.toNat ≤ j → f.toNat ≤ k → evB L β j f = evB L β k f
  | 0, 0, _, _, _, _ => rfl
  | 0, k + 1, f, hf, h1, _ => by have := hf.1; simp only [evB]; rw [if_neg (by omega)]
  | j + 1, 0, f, hf, _, h2 => by have := hf.1; simp only [evB]; rw [if_neg (by omega)]
  | j + 1, k + 1, f, hf, h1, h2 => by
    simp only [evB]
    by_cases hf1 : 1 < f
    · rw [if_pos hf1, if_pos hf1]
      have hk := h.kids hf (fun e => by have := (h.level hf).2.2.1 e; omega)
      have hs : okNode L (stepB L β f) ∧ stepB L β f < f := by
        unfold stepB; split
        · exact ⟨hk.2.1, hk.2.2.2.1⟩
        · exact ⟨hk.1, hk.2.2.1⟩
      exact evB_fuel h j k _ hs.1 (by have := hs.1.1; omega) (by have := hs.1.1; omega)
    · rw [if_neg hf1, if_neg hf1]
theorem eb_node (h : Good L) {f : Int} (hf : okNode L f) (h20 : lev L f ≠ 20) : eb L β f = if β (lev L f) then eb L β (nd L f).hi else eb L β (nd L f).lo := by
  have hf1 := (h.inner hf h20).1
  have hk := h.kids hf h20
  unfold eb
  obtain ⟨k, hk'⟩ : ∃ k, f.toNat = k + 1 := ⟨f.toNat - 1, by omega⟩
  rw [hk', evB, if_pos hf1]
  unfold stepB
  split
  · rw [evB_fuel h k _ _ hk.2.1 (by have := hk.2.1.1; omega) (Nat.le_refl _)]
  · rw [evB_fuel h k _ _ hk.1 (by have := hk.1.1; omega) (Nat.le_refl _)]
theorem eb_0 : eb L β 0 = false := by simp [eb, evB]
theorem eb_1 : eb L β 1 = true := by simp [eb, evB]
/-- Bits above a node's level do not matter. -/
theorem eb_dep (h : Good L) : ∀ (n : Nat) (f : Int), f.toNat ≤ n → okNode L f → (∀ i, lev L f ≤ i → β i = β' i) → eb L β f = eb L β' f := by
  intro n
  induction n with
  | zero => intro f hn hf _; have := hf.1; have : f = 0 := by omega
            subst this; rw [eb_0, eb_0]
  | succ n ih =>
    intro f hn hf hb
    by_cases h20 : lev L f = 20
    · rcases (h.level hf).2.2.1 h20 with rfl | rfl
      · rw [eb_0, eb_0]
      · rw [eb_1, eb_1]
    · have hk := h.kids hf h20
      rw [eb_node h hf h20, eb_node h hf h20, hb _ (Int.le_refl _), ih _ (by have := hk.2.1.1; omega) hk.2.1 (fun i hi => hb i (by omega)), ih _ (by have := hk.1.1; omega) hk.1 (fun i hi => hb i (by omega))]
theorem eb_prefix {L' : List Node} (h : Good L) (h' : Good L') (hp : L <+: L') : ∀ (n : Nat) (f : Int), f.toNat ≤ n → okNode L f → eb L' β f = eb L β f := by
  intro n
  induction n with
  | zero => intro f hn hf; have := hf.1; have : f = 0 := by omega
            subst this; rw [eb_0, eb_0]
  | succ n ih =>
    intro f hn hf
    by_cases h20 : lev L f = 20
    · rcases (h.level hf).2.2.1 h20 with rfl | rfl
      · rw [eb_0, eb_0]
      · rw [eb_1, eb_1]
    · have hk := h.kids hf h20
      rw [eb_node h hf h20, eb_node h' (ok_prefix hp hf) (by rw [lev_prefix hp hf]; exact h20), lev_prefix hp hf, nd_prefix hp hf, ih _ (by have := hk.2.1.1; omega) hk.2.1, ih _ (by have := hk.1.1; omega) hk.1]
theorem eb_pre {L' : List Node} (h : Good L) (h' : Good L') (hp : L <+: L') {f : Int} (hf : okNode L f) : eb L' β f = eb L β f := eb_prefix h h' hp _ f (Nat.le_refl _) hf
theorem eb_half (h : Good L) {f lv : Int} (hf : okNode L f) (_hl : lv ≤ lev L f) (h20 : lv < 20) : eb L β f = eb L β (half L f lv (β lv)) := by
  unfold half
  split
  · rfl
  · rename_i he
    have he : lev L f = lv := by unfold lev; simpa using he
    rw [eb_node h hf (by omega), he]
    cases β lv <;> rfl
def setB (β : Int → Bool) (i : Int) (b : Bool) : Int → Bool := fun j => if j = i then b else β j
theorem eb_set (h : Good L) {f i : Int} (hf : okNode L f) (hl : i < lev L f) (b : Bool) : eb L (setB β i b) f = eb L β f :=
  eb_dep h _ f (Nat.le_refl _) hf fun j hj => by unfold setB; rw [if_neg (by omega)]
theorem eb_lo (h : Good L) {f : Int} (hf : okNode L f) (h20 : lev L f ≠ 20) : eb L (setB β (lev L f) false) f = eb L β (nd L f).lo := by
  have hk := h.kids hf h20
  rw [eb_node h hf h20]
  simp only [setB, if_true, Bool.false_eq_true, if_false]
  exact eb_set h hk.1 hk.2.2.2.2.2.1 false
theorem eb_hi (h : Good L) {f : Int} (hf : okNode L f) (h20 : lev L f ≠ 20) : eb L (setB β (lev L f) true) f = eb L β (nd L f).hi := by
  have hk := h.kids hf h20
  rw [eb_node h hf h20]
  simp only [setB, if_true]
  exact eb_set h hk.2.1 hk.2.2.2.2.2.2 true
theorem nd_inj (h : Good L) {f g : Int} (hf : okNode L f) (hg : okNode L g) (he : nd L f = nd L g) : f = g := by
  have key : ∀ f g : Int, okNode L f → okNode L g → nd L f = nd L g → ¬ f < g := by
    intro f g hf hg he hlt
    have h1 := h.fresh (i := g.toNat) (by have := hg.2; have := hg.1; omega)
    rw [Int.toNat_of_nonneg hg.1, ← he] at h1
    apply h1
    have hfl : f.toNat < L.length := by have := hf.2; have := hf.1; omega
    have : L[f.toNat]? = some (nd L f) := by have := nd_get (l := L) hfl; rwa [Int.toNat_of_nonneg hf.1] at this
    have h2 : (L.take g.toNat)[f.toNat]? = some (nd L f) := by rw [List.getElem?_take, if_pos (by have := hf.1; have := hg.1; omega)]; exact this
    exact List.mem_of_getElem? h2
  have h1 := key f g hf hg he
  have h2 := key g f hg hf he.symm
  omega
/-- Different nodes have different functions. -/
theorem canon (h : Good L) : ∀ (n : Nat) (f g : Int), f.toNat ≤ n → g.toNat ≤ n → okNode L f → okNode L g → (∀ β, eb L β f = eb L β g) → f = g := by
  intro n
  induction n with
  | zero => intro f g hn hn' hf hg _; have := hf.1; have := hg.1; omega
  | succ n ih =>
    intro f g hn hn' hf hg he
    have low : ∀ f g : Int, f.toNat ≤ n + 1 → g.toNat ≤ n + 1 → okNode L f → okNode L g → (∀ β, eb L β f = eb L β g) → ¬ lev L f < lev L g := by
      intro f g hn hn' hf hg he hlt
      have h20 : lev L f ≠ 20 := by have := (h.level hg).2.1; omega
      have hk := h.kids hf h20
      have b1 := hk.1.1; have b2 := hk.2.1.1; have b3 := hk.2.2.1; have b4 := hk.2.2.2.1
      refine hk.2.2.2.2.1 (ih _ _ (by omega) (by omega) hk.1 hk.2.1 fun β => ?_)
      rw [← eb_lo h hf h20, ← eb_hi h hf h20, he, he, eb_set h hg hlt, eb_set h hg hlt]
    have h1 := low f g hn hn' hf hg he
    have h2 := low g f hn' hn hg hf fun β => (he β).symm
    have hl : lev L f = lev L g := by omega
    by_cases h20 : lev L f = 20
    · have e := he fun _ => false
      rcases (h.level hf).2.2.1 h20 with rfl | rfl <;> rcases (h.level hg).2.2.1 (hl ▸ h20) with rfl | rfl
      · rfl
      · rw [eb_0, eb_1] at e; cases e
      · rw [eb_0, eb_1] at e; cases e
      · rfl
    · have h20' : lev L g ≠ 20 := hl ▸ h20
      have hk := h.kids hf h20; have hk' := h.kids hg h20'
      have b1 := hk.1.1; have b2 := hk.2.1.1; have b3 := hk'.1.1; have b4 := hk'.2.1.1
      have c1 := hk.2.2.1; have c2 := hk.2.2.2.1; have c3 := hk'.2.2.1; have c4 := hk'.2.2.2.1
      refine nd_inj h hf hg ?_
      have elo := ih _ _ (by omega) (by omega) hk.1 hk'.1 fun β => by rw [← eb_lo h hf h20, ← eb_lo h hg h20', hl, he]
      have ehi := ih _ _ (by omega) (by omega) hk.2.1 hk'.2.1 fun β => by rw [← eb_hi h hf h20, ← eb_hi h hg h20', hl, he]
      unfold lev at hl
      cases hnf : nd L f with
      | mk a b c =>
        cases hng : nd L g with
        | mk a' b' c' =>
          rw [hnf, hng] at hl elo ehi
          simp only at hl elo ehi
          rw [hl, elo, ehi]
theorem canon' (h : Good L) {f g : Int} (hf : okNode L f) (hg : okNode L g) (he : ∀ β, eb L β f = eb L β g) : f = g := canon h (max f.toNat g.toNat) f g (Nat.le_max_left _ _) (Nat.le_max_right _ _) hf hg he
end

/-! The results of tables. -/
def val3 (val : Val) (L : List Node) (β : Int → Bool) (t : Three) : Bool := val (eb L β t.f) (eb L β t.g) (eb L β t.h)
theorem val3_pre {val : Val} {L L' : List Node} {β : Int → Bool} (h : Good L) (h' : Good L') (hp : L <+: L') {t : Three} (ht : ok3 L t) : val3 val L' β t = val3 val L β t := by
  unfold val3; rw [eb_pre h h' hp ht.1, eb_pre h h' hp ht.2.1, eb_pre h h' hp ht.2.2]
theorem val3_half {val : Val} {L : List Node} {β : Int → Bool} (h : Good L) {t : Three} (ht : ok3 L t) (h20 : lv3 L t ≠ 20) : val3 val L β t = val3 val L β (half3 L t (lv3 L t) (β (lv3 L t))) := by
  have h1 := (h.level ht.1).2.1
  have hm : lv3 L t ≤ lev L t.f ∧ lv3 L t ≤ lev L t.g ∧ lv3 L t ≤ lev L t.h ∧ lv3 L t < 20 := by unfold lv3 at h20 ⊢; omega
  unfold val3 half3
  dsimp only
  rw [← eb_half h ht.1 hm.1 hm.2.2.2, ← eb_half h ht.2.1 hm.2.1 hm.2.2.2, ← eb_half h ht.2.2 hm.2.2.1 hm.2.2.2]
theorem val3_leaf {val : Val} {L : List Node} {β : Int → Bool} (h : Good L) {t : Three} (ht : ok3 L t) (h20 : lv3 L t = 20) : eb L β (leafI val t) = val3 val L β t := by
  obtain ⟨l1, l2, l3⟩ := leaf_01 h ht h20
  have e : ∀ x : Int, (x = 0 ∨ x = 1) → eb L β x = decide (x = 1) := by
    rintro x (rfl | rfl)
    · rw [eb_0]; rfl
    · rw [eb_1]; rfl
  unfold leafI val3
  rw [e _ l1, e _ l2, e _ l3]
  split
  · rename_i hv; rw [eb_1, hv]
  · rename_i hv; rw [eb_0]; simpa using hv
/-- A node that is made has the function that it says. -/
theorem eb_made {s : Bs} {n : Node} {β : Int → Bool} (hg : Good s.L) (hn : fits s.L n) (hf : (nodeD s n).1.full = false) : eb (nodeD s n).1.L β (nodeD s n).2 = if β n.level then eb s.L β n.hi else eb s.L β n.lo := by
  have hx := node_ext hg hn
  obtain ⟨hG, hok, hl⟩ := hx.good hf
  have hi := node_is hf
  have e1 := eb_pre (β := β) hg hG hx.pre hn.2.2.1
  have e2 := eb_pre (β := β) hg hG hx.pre hn.2.2.2.1
  split at hi
  · rename_i he
    rw [hi, e1, ← he]; simp
  · have hlv : lev (nodeD s n).1.L (nodeD s n).2 = n.level := by unfold lev; rw [hi.2]
    rw [eb_node hG hok (by rw [hlv]; have := hn.2.1; omega), hlv, hi.2, e1, e2]
theorem T_eval {val : Val} {β : Int → Bool} : ∀ (k : Nat) (s : Bs) (t : Three), Good s.L → s.full = false → ok3 s.L t → 20 - lv3 s.L t < k → (T val s t).1.full = false → eb (T val s t).1.L β (T val s t).2 = val3 val s.L β t := by
  intro k
  induction k with
  | zero => intro s t hg _ ht hk; have := (hg.lv3 ht).2; omega
  | succ k ih =>
    intro s t hg hs ht hk hf
    by_cases h20 : lv3 s.L t = 20
    · rw [T_leaf hs h20]; exact val3_leaf hg ht h20
    · have hx := T_node (val := val) hg hs ht h20
      have hh0 := hg.half3 ht h20 false
      have hxa := T_ext (val := val) hg hs hh0.1
      have iha := ih s _ hg hs hh0.1 (by omega)
      rw [hx] at hf ⊢
      generalize T val s (half3 s.L t (lv3 s.L t) false) = a at hxa iha hf ⊢
      cases haf : a.1.full with
      | true => rw [T_full haf] at hf; rw [node_full haf] at hf; cases hf
      | false =>
        obtain ⟨ga, oa, la⟩ := hxa.good haf
        have hta := ok3_prefix hxa.pre ht
        have hlv := lv3_prefix hxa.pre ht
        have hh1 := ga.half3 hta (by rw [hlv]; exact h20) true
        rw [hlv] at hh1
        have hxb := T_ext (val := val) ga haf hh1.1
        have ihb := ih a.1 _ ga haf hh1.1 (by omega)
        generalize T val a.1 (half3 a.1.L t (lv3 s.L t) true) = b at hxb ihb hf ⊢
        cases hbf : b.1.full with
        | true => rw [node_full hbf] at hf; cases hf
        | false =>
          obtain ⟨gb, ob, lb⟩ := hxb.good hbf
          have hb0 := hg.lv3 ht
          rw [eb_made gb ⟨hb0.1, by dsimp only; omega, ok_prefix hxb.pre oa, ob, by dsimp only; rw [lev_prefix hxb.pre oa]; omega, by dsimp only; omega⟩ hf]
          dsimp only
          rw [val3_half hg ht h20]
          cases hβ : β (lv3 s.L t) with
          | true =>
            simp only [if_true]
            rw [ihb hbf, half3_prefix hxa.pre ht]
            exact val3_pre hg ga hxa.pre (hg.half3 ht h20 true).1
          | false =>
            simp only [Bool.false_eq_true, if_false]
            rw [eb_pre ga gb hxb.pre oa, iha haf]
theorem T_sem {val : Val} {β : Int → Bool} {s : Bs} {t : Three} (hg : Good s.L) (hs : s.full = false) (ht : ok3 s.L t) (hf : (T val s t).1.full = false) : eb (T val s t).1.L β (T val s t).2 = val3 val s.L β t :=
  T_eval fuel s t hg hs ht (fuel_lt (hg.lv3 ht).1) hf

/-- A function that is there is found. -/
theorem lev_of_dep {L : List Node} (h : Good L) {r lv : Int} (hr : okNode L r) (hd : ∀ β i b, i < lv → eb L (setB β i b) r = eb L β r) : lv ≤ lev L r ∨ lev L r = 20 := by
  by_cases h20 : lev L r = 20
  · exact .inr h20
  · refine .inl (Int.not_lt.1 fun hlt => ?_)
    have hk := h.kids hr h20
    refine hk.2.2.2.2.1 (canon' h hk.1 hk.2.1 fun β => ?_)
    rw [← eb_lo h hr h20, ← eb_hi h hr h20, hd β _ false hlt, hd β _ true hlt]
theorem val3_dep {val : Val} {L : List Node} (h : Good L) {t : Three} (ht : ok3 L t) (β : Int → Bool) (i : Int) (b : Bool) (hi : i < lv3 L t) : val3 val L (setB β i b) t = val3 val L β t := by
  have hm : lv3 L t ≤ lev L t.f ∧ lv3 L t ≤ lev L t.g ∧ lv3 L t ≤ lev L t.h := by unfold lv3; omega
  unfold val3
  rw [eb_set h ht.1 (by omega), eb_set h ht.2.1 (by omega), eb_set h ht.2.2 (by omega)]
theorem node_self {L : List Node} (h : Good L) {r : Int} (hr : okNode L r) : L.idxOf (nd L r) = r.toNat := by
  have hrl : r.toNat < L.length := by have := hr.2; have := hr.1; omega
  have hg := nd_get (l := L) hrl
  rw [Int.toNat_of_nonneg hr.1] at hg
  have hm : nd L r ∈ L := List.mem_of_getElem? hg
  have hlt := List.idxOf_lt_length_of_mem hm
  have h2 : nd L ((L.idxOf (nd L r) : Nat) : Int) = nd L r := by have := findD_in hm; simp only [findD, if_pos hm] at this; exact this.2.2
  have := nd_inj h ⟨by omega, by omega⟩ hr h2
  omega
theorem T_repr {val : Val} : ∀ (k : Nat) (L : List Node) (t : Three) (r : Int), Good L → ok3 L t → 20 - lv3 L t < k → okNode L r → (∀ β, eb L β r = val3 val L β t) → T val ⟨L, false⟩ t = (⟨L, false⟩, r) := by
  intro k
  induction k with
  | zero => intro L t r hg ht hk; have := (hg.lv3 ht).2; omega
  | succ k ih =>
    intro L t r hg ht hk hr he
    have hlr : lv3 L t ≤ lev L r := by
      rcases lev_of_dep hg hr (lv := lv3 L t) (fun β i b hi => by rw [he, he, val3_dep hg ht β i b hi]) with h | h
      · exact h
      · have := (hg.lv3 ht).2; omega
    by_cases h20 : lv3 L t = 20
    · rw [T_leaf rfl h20]
      congr 1
      refine canon' hg ?_ hr fun β => by rw [val3_leaf hg ht h20, he]
      unfold leafI; split
      · exact hg.ok1
      · exact hg.ok0
    · have h20' : lv3 L t < 20 := by have := (hg.lv3 ht).2; omega
      have hh := fun one => hg.half3 ht h20 one
      have hb := fun one => hg.half hr hlr h20' one
      have key : ∀ one, T val ⟨L, false⟩ (half3 L t (lv3 L t) one) = (⟨L, false⟩, half L r (lv3 L t) one) := fun one =>
        ih L _ _ hg (hh one).1 (by have := (hh one).2; omega) (hb one).1 fun β => by
          have h1 := eb_half (β := setB β (lv3 L t) one) hg hr hlr h20'
          have h2 := val3_half (val := val) (β := setB β (lv3 L t) one) hg ht h20
          have e0 : setB β (lv3 L t) one (lv3 L t) = one := by simp [setB]
          rw [e0] at h1 h2
          rw [eb_set hg (hb one).1 (hb one).2] at h1
          rw [val3_dep hg (hh one).1 β _ one (hh one).2] at h2
          rw [← h1, ← h2, he]
      rw [T_node (s := ⟨L, false⟩) hg rfl ht h20]
      dsimp only
      rw [key false]
      dsimp only
      rw [key true]
      dsimp only
      unfold half
      by_cases hel : (nd L r).level ≠ lv3 L t
      · rw [if_pos hel, if_pos hel]; exact node_eq rfl
      · rw [if_neg hel, if_neg hel]
        have hel : (nd L r).level = lv3 L t := by simpa using hel
        have hne20 : lev L r ≠ 20 := by unfold lev; omega
        have hk := hg.kids hr hne20
        simp only [Bool.false_eq_true, if_false, if_true]
        have en : (⟨lv3 L t, (nd L r).lo, (nd L r).hi⟩ : Node) = nd L r := by rw [← hel]
        have hrl : r.toNat < L.length := by have := hr.2; have := hr.1; omega
        have hmem : nd L r ∈ L := by
          have := nd_get (l := L) hrl
          rw [Int.toNat_of_nonneg hr.1] at this
          exact List.mem_of_getElem? this
        rw [en, node_old (s := ⟨L, false⟩) hk.2.2.2.2.1 hmem, node_self hg hr, Int.toNat_of_nonneg hr.1]
theorem T_found {val : Val} {L : List Node} {t : Three} {r : Int} (hg : Good L) (ht : ok3 L t) (hr : okNode L r) (he : ∀ β, eb L β r = val3 val L β t) : T val ⟨L, false⟩ t = (⟨L, false⟩, r) :=
  T_repr fuel L t r hg ht (fuel_lt (hg.lv3 ht).1) hr he
end Go.Proofs.Ytcpkjpkjahgobaa
