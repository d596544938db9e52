/- How many nodes operations may add: as many as there are functions that they may need and that are not there yet. -/
import Derived.Test.YtdcmldlnhikbcaaDgH
import Derived.Test.YtdcmldlnhikbcaaDgI
namespace Go.Proofs.Ytdcmldlnhikbcaa
open Go.Sim

abbrev Fn := (Int → Bool) → Bool
def rep (L : List Node) (F : Fn) : Prop := ∃ r, okNode L r ∧ ∀ β, eb L β r = F β
theorem rep_pre {L L' : List Node} (h : Good L) (h' : Good L') (hp : L <+: L') {F : Fn} (hr : rep L F) : rep L' F := by
  obtain ⟨r, h1, h2⟩ := hr
  exact ⟨r, ok_prefix hp h1, fun β => by rw [eb_pre h h' hp h1, h2]⟩
open Classical in
noncomputable def cntF (U : List Fn) (L : List Node) : Nat := U.countP fun F => decide (¬ rep L F)
theorem cntF_le (U : List Fn) (L : List Node) : cntF U L ≤ U.length := List.countP_le_length
theorem cntF_mono {L L' : List Node} (h : ∀ F, rep L F → rep L' F) (U : List Fn) : cntF U L' ≤ cntF U L := by
  unfold cntF
  exact List.countP_mono_left fun F _ hF => by
    simp only [decide_eq_true_eq] at hF ⊢
    exact fun hr => hF (h F hr)
theorem cntF_new {L : List Node} {F : Fn} (U : List Fn) (h : ¬ rep L F) : cntF (F :: U) L = cntF U L + 1 := List.countP_cons_of_pos (by simp [h])
theorem cntF_has {L : List Node} {F : Fn} (U : List Fn) (h : rep L F) : cntF (F :: U) L = cntF U L := List.countP_cons_of_neg (by simp [h])
theorem cntF_drop {L L' : List Node} (h : ∀ F, rep L F → rep L' F) {F : Fn} (h1 : ¬ rep L F) (h2 : rep L' F) : ∀ U : List Fn, F ∈ U → cntF U L' + 1 ≤ cntF U L
  | [], hm => by cases hm
  | G :: U, hm => by
    rcases List.mem_cons.1 hm with rfl | hm
    · have := cntF_mono h U
      rw [cntF_new U h1, cntF_has U h2]; omega
    · have ih := cntF_drop h h1 h2 U hm
      by_cases hG : rep L G
      · rw [cntF_has U hG, cntF_has U (h G hG)]; exact ih
      · rw [cntF_new U hG]
        by_cases hG' : rep L' G
        · rw [cntF_has U hG']; omega
        · rw [cntF_new U hG']; omega

/-- A node whose function is there is found. -/
theorem made_found {L : List Node} (hg : Good L) {n : Node} (hn : fits L n) {r : Int} (hr : okNode L r) (he : ∀ β, eb L β r = if β n.level then eb L β n.hi else eb L β n.lo) : nodeD ⟨L, false⟩ n = (⟨L, false⟩, r) := by
  obtain ⟨n0, n20, okl, okh, ll, lh⟩ := hn
  have elo : ∀ β, eb L (setB β n.level false) r = eb L β n.lo := fun β => by
    rw [he]; simp only [setB, if_true, Bool.false_eq_true, if_false]; exact eb_set hg okl ll false
  have ehi : ∀ β, eb L (setB β n.level true) r = eb L β n.hi := fun β => by
    rw [he]; simp only [setB, if_true]; exact eb_set hg okh lh true
  by_cases hlh : n.lo = n.hi
  · rw [node_eq hlh]
    congr 1
    refine canon' hg okl hr fun β => ?_
    rw [he, hlh]; split <;> rfl
  · have hlev : lev L r = n.level := by
      rcases lev_of_dep hg hr (lv := n.level) (fun β i b hi => by
        rw [he, he, eb_set hg okl (by omega), eb_set hg okh (by omega)]; have e : setB β i b n.level = β n.level := by { unfold setB; rw [if_neg (by omega)] }; rw [e]) with h | h
      · refine Int.le_antisymm (Int.not_lt.1 fun hlt => hlh ?_) h
        exact canon' hg okl okh fun β => by rw [← elo, ← ehi, eb_set hg hr hlt, eb_set hg hr hlt]
      · exact absurd (canon' hg okl okh fun β => by rw [← elo, ← ehi, eb_set hg hr (by omega), eb_set hg hr (by omega)]) hlh
    have h20 : lev L r ≠ 20 := by omega
    have hk := hg.kids hr h20
    have e1 : (nd L r).lo = n.lo := canon' hg hk.1 okl fun β => by rw [← eb_lo hg hr h20, hlev, elo]
    have e2 : (nd L r).hi = n.hi := canon' hg hk.2.1 okh fun β => by rw [← eb_hi hg hr h20, hlev, ehi]
    have en : n = nd L r := by
      unfold lev at hlev
      cases n with
      | mk a b c =>
        simp only at hlev e1 e2
        cases hx : nd L r with
        | mk a' b' c' => rw [hx] at hlev e1 e2; simp only at hlev e1 e2; rw [hlev, e1, e2]
    have hmem : nd L r ∈ L := by
      have := nd_get (l := L) (i := r.toNat) (by have := hr.2; have := hr.1; omega)
      rw [Int.toNat_of_nonneg hr.1] at this
      exact List.mem_of_getElem? this
    subst en
    rw [node_old (s := ⟨L, false⟩) hlh hmem, node_self hg hr, Int.toNat_of_nonneg hr.1]

/-- What is added is paid for by functions that were not there. -/
structure Grow (U : List Fn) (L : List Node) (q : Bs × Int) : Prop where
  full : q.1.full = false
  len : q.1.L.length + cntF U q.1.L ≤ L.length + cntF U L
theorem Grow.id {U : List Fn} {L : List Node} {r : Int} : Grow U L (⟨L, false⟩, r) := ⟨rfl, Nat.le_refl _⟩
theorem bs_eq {s : Bs} (h : s.full = false) : s = ⟨s.L, false⟩ := by cases s; simp at h; subst h; rfl
theorem node_count {U : List Fn} {L : List Node} (hg : Good L) {n : Node} (hn : fits L n) {F : Fn} (hF : F ∈ U) (he : ∀ β, F β = if β n.level then eb L β n.hi else eb L β n.lo) (hc : L.length + cntF U L ≤ 8192) : Grow U L (nodeD ⟨L, false⟩ n) := by
  by_cases hr : rep L F
  · obtain ⟨r, h1, h2⟩ := hr
    rw [made_found hg hn h1 fun β => by rw [h2, he]]
    exact .id
  · have hpos : 1 ≤ cntF U L := by
      unfold cntF
      exact List.countP_pos_iff.2 ⟨F, hF, by simp [hr]⟩
    have hlh : n.lo ≠ n.hi := fun e => hr ⟨n.lo, hn.2.2.1, fun β => by rw [he, e]; split <;> rfl⟩
    by_cases hm : n ∈ L
    · rw [node_old (s := ⟨L, false⟩) hlh hm]; exact .id
    · have hx := node_ext (s := ⟨L, false⟩) hg hn
      have hx2 := fun β h => eb_made (s := ⟨L, false⟩) (β := β) hg hn h
      rw [node_new (s := ⟨L, false⟩) hlh hm (by dsimp only; omega)] at hx hx2 ⊢
      obtain ⟨g2, o2, _⟩ := hx.good rfl
      have hd := cntF_drop (fun F => rep_pre hg g2 hx.pre) hr ⟨_, o2, fun β => by rw [hx2 β rfl, he]⟩ U hF
      refine ⟨rfl, ?_⟩
      dsimp only at hd ⊢
      rw [List.length_append, List.length_singleton]
      omega

theorem T_count {val : Val} {U : List Fn} {L₀ : List Node} (hg0 : Good L₀) {S : Three → Prop} (h1 : ∀ t, S t → ok3 L₀ t) (h2 : ∀ t one, S t → lv3 L₀ t ≠ 20 → S (half3 L₀ t (lv3 L₀ t) one))
    (h3 : ∀ t, S t → ∃ F ∈ U, ∀ β, F β = val3 val L₀ β t) : ∀ (k : Nat) (L : List Node) (t : Three), Good L → L₀ <+: L → S t → 20 - lv3 L₀ t < k → L.length + cntF U L ≤ 8192 → Grow U L (T val ⟨L, false⟩ t) := by
  intro k
  induction k with
  | zero => intro L t _ _ hS hk _; have := (hg0.lv3 (h1 t hS)).2; omega
  | succ k ih =>
    intro L t hg hp hS hk hc
    have ht0 := h1 t hS
    have ht := ok3_prefix hp ht0
    have hlv := lv3_prefix hp ht0
    by_cases h20 : lv3 L t = 20
    · rw [T_leaf rfl h20]; exact .id
    · have h200 : lv3 L₀ t ≠ 20 := by omega
      have hx := T_node (val := val) (s := ⟨L, false⟩) hg rfl ht h20
      dsimp only at hx
      have hh0 := hg.half3 ht h20 false
      have e0 := half3_prefix hp ht0 (lv3 L t) false
      have s0 := h2 t false hS h200
      rw [← hlv, ← e0] at s0
      have hxa := T_ext (val := val) (s := ⟨L, false⟩) hg rfl hh0.1
      have l0 : lv3 L₀ (half3 L t (lv3 L t) false) = lv3 L (half3 L t (lv3 L t) false) := (lv3_prefix hp (h1 _ s0)).symm
      have iha := ih L _ hg hp s0 (by rw [l0]; have := hh0.2; omega) hc
      have sema := fun β hf => T_sem (val := val) (β := β) (s := ⟨L, false⟩) hg rfl hh0.1 hf
      rw [hx]
      generalize T val ⟨L, false⟩ (half3 L t (lv3 L t) false) = a at hxa iha sema ⊢
      obtain ⟨⟨La, fa⟩, ra⟩ := a
      have fae := iha.full
      dsimp only at fae hxa iha sema ⊢
      subst fae
      obtain ⟨ga, oa, la⟩ := hxa.good rfl
      have hpa : L <+: La := hxa.pre
      have hta := ok3_prefix hpa ht
      have hlva := lv3_prefix hpa ht
      have hh1 := ga.half3 hta (by rw [hlva]; exact h20) true
      rw [hlva] at hh1
      dsimp only at hh1 la oa
      have e1 : half3 La t (lv3 L t) true = half3 L₀ t (lv3 L₀ t) true := by rw [half3_prefix (hp.trans hpa) ht0, hlv]
      have s1 := h2 t true hS h200
      rw [← e1] at s1
      have l1 : lv3 L₀ (half3 La t (lv3 L t) true) = lv3 La (half3 La t (lv3 L t) true) := (lv3_prefix (hp.trans hpa) (h1 _ s1)).symm
      have hca := iha.len
      dsimp only at hca
      have hxb := T_ext (val := val) (s := ⟨La, false⟩) ga rfl hh1.1
      have ihb := ih La _ ga (hp.trans hpa) s1 (by rw [l1]; have := hh1.2; omega) (by omega)
      have semb := fun β hf => T_sem (val := val) (β := β) (s := ⟨La, false⟩) ga rfl hh1.1 hf
      generalize T val ⟨La, false⟩ (half3 La t (lv3 L t) true) = b at hxb ihb semb ⊢
      obtain ⟨⟨Lb, fb⟩, rb⟩ := b
      have fbe := ihb.full
      dsimp only at fbe hxb ihb semb la hh1 hh0 ⊢
      subst fbe
      obtain ⟨gb, ob, lb⟩ := hxb.good rfl
      have hpb : La <+: Lb := hxb.pre
      dsimp only at lb oa ob sema semb ga gb
      have hb0 := hg.lv3 ht
      obtain ⟨F, hF, hFe⟩ := h3 t hS
      have hcb := ihb.len
      dsimp only at hcb hca
      have gr := node_count (U := U) gb (n := ⟨lv3 L t, ra, rb⟩) ⟨hb0.1, by dsimp only; omega, ok_prefix hpb oa, ob, by dsimp only; rw [lev_prefix hpb oa]; omega, by dsimp only; omega⟩ hF (fun β => by
        rw [hFe, ← val3_pre hg0 hg hp ht0, val3_half hg ht h20]
        dsimp only
        cases hβ : β (lv3 L t) with
        | true =>
          simp only [if_true]
          rw [semb β rfl, half3_prefix hpa ht]
          exact (val3_pre hg ga hpa (hg.half3 ht h20 true).1).symm
        | false =>
          simp only [Bool.false_eq_true, if_false]
          rw [eb_pre ga gb hpb oa, sema β rfl]) (by omega)
      exact ⟨gr.full, by have := gr.len; omega⟩
theorem half_fun {L : List Node} (hg : Good L) {β : Int → Bool} {f lv : Int} (hf : okNode L f) (hl : lv ≤ lev L f) (h20 : lv < 20) (one : Bool) : eb L β (half L f lv one) = eb L (setB β lv one) f := by
  have h1 := eb_half (β := setB β lv one) hg hf hl h20
  have e0 : setB β lv one lv = one := by simp [setB]
  rw [e0] at h1
  have hb := hg.half hf hl h20 one
  rw [h1, eb_set hg hb.1 hb.2]
theorem set_set {β : Int → Bool} {i j : Int} {b c : Bool} (h : i ≠ j) : setB (setB β i b) j c = setB (setB β j c) i b := by
  funext x; unfold setB; by_cases hx : x = j <;> by_cases hy : x = i <;> simp [hx, hy] <;> omega
/-- A node with a bit fixed. -/
theorem fix_sem {lv : Int} (h20 : lv < 20) {one : Bool} : ∀ (k : Nat) (s : Bs) (f : Int), Good s.L → s.full = false → okNode s.L f → 20 - lev s.L f < k → (RP (fixL lv one) lv s f).1.full = false → ∀ β, eb (RP (fixL lv one) lv s f).1.L β (RP (fixL lv one) lv s f).2 = eb s.L (setB β lv one) f := by
  intro k
  induction k with
  | zero => intro s f hg _ hf hk; have := (hg.level hf).2.1; omega
  | succ k ih =>
    intro s f hg hs hf hk hfull β
    have hl := fix_ok lv h20 one
    by_cases hh : lv < lev s.L f
    · rw [RP_high hh, eb_set hg hf hh]
    by_cases he : lev s.L f = lv
    · rw [RP_leaf hs he]; exact half_fun hg hf (by omega) h20 one
    have hlt : lev s.L f < lv := by omega
    have hkd := hg.kids hf (by omega)
    have hlv := hg.level hf
    have hxa := RP_ext hl h20 hg hs hkd.1
    have sema := ih s (nd s.L f).lo hg hs hkd.1 (by omega)
    rw [RP_node hl h20 hg hs hf hlt] at hfull ⊢
    generalize RP (fixL lv one) lv s (nd s.L f).lo = a at hxa sema hfull ⊢
    cases haf : a.1.full with
    | true => rw [RP_full haf] at hfull; rw [node_full haf] at hfull; cases hfull
    | false =>
      obtain ⟨ga, oa, la⟩ := hxa.good haf
      have hxb := RP_ext hl h20 ga haf (ok_prefix hxa.pre hkd.2.1)
      have hlh := lev_prefix hxa.pre hkd.2.1
      have semb := ih a.1 (nd s.L f).hi ga haf (ok_prefix hxa.pre hkd.2.1) (by omega)
      generalize RP (fixL lv one) lv a.1 (nd s.L f).hi = b at hxb semb hfull ⊢
      cases hbf : b.1.full with
      | true => rw [node_full hbf] at hfull; cases hfull
      | false =>
        obtain ⟨gb, ob, lb⟩ := hxb.good hbf
        rw [eb_made (n := ⟨lev s.L f, a.2, b.2⟩) gb ⟨hlv.1, by dsimp only; omega, ok_prefix hxb.pre oa, ob, by dsimp only; rw [lev_prefix hxb.pre oa]; omega, by dsimp only; omega⟩ hfull]
        dsimp only
        rw [semb hbf, eb_pre ga gb hxb.pre oa, sema haf, eb_pre hg ga hxa.pre hkd.2.1, eb_node hg hf (by omega)]
        have : setB β lv one (lev s.L f) = β (lev s.L f) := by unfold setB; rw [if_neg (by omega)]
        rw [this]
theorem fix_count {U : List Fn} {L₀ : List Node} (hg0 : Good L₀) {lv : Int} (h20 : lv < 20) {one : Bool} (h3 : ∀ f, okNode L₀ f → ∃ F ∈ U, ∀ β, F β = eb L₀ (setB β lv one) f) :
    ∀ (k : Nat) (L : List Node) (f : Int), Good L → L₀ <+: L → okNode L₀ f → 20 - lev L₀ f < k → L.length + cntF U L ≤ 8192 → Grow U L (RP (fixL lv one) lv ⟨L, false⟩ f) := by
  intro k
  induction k with
  | zero => intro L f _ _ hf hk; have := (hg0.level hf).2.1; omega
  | succ k ih =>
    intro L f hg hp hf0 hk hc
    have hl := fix_ok lv h20 one
    have hf := ok_prefix hp hf0
    have hlv0 := lev_prefix hp hf0
    by_cases hh : lv < lev L f
    · rw [RP_high (s := ⟨L, false⟩) hh]; exact .id
    by_cases he : lev L f = lv
    · rw [RP_leaf (s := ⟨L, false⟩) rfl he]; exact .id
    have hlt : lev L f < lv := by omega
    have hkd := hg.kids hf (by omega)
    have hkd0 := hg0.kids hf0 (by omega)
    have en := nd_prefix hp hf0
    have hlv := hg.level hf
    have hxa := RP_ext hl h20 (s := ⟨L, false⟩) hg rfl hkd.1
    have hx := RP_node hl h20 (s := ⟨L, false⟩) hg rfl hf hlt
    have iha := ih L (nd L f).lo hg hp (by rw [en]; exact hkd0.1) (by rw [en]; have := hkd0.2.2.2.2.2.1; omega) hc
    have sema := fix_sem h20 (one := one) 21 ⟨L, false⟩ (nd L f).lo hg rfl hkd.1 (by have := (hg.level hkd.1).1; dsimp only; omega)
    dsimp only at hx sema
    rw [hx]
    generalize RP (fixL lv one) lv ⟨L, false⟩ (nd L f).lo = a at hxa iha sema ⊢
    obtain ⟨⟨La, fa⟩, ra⟩ := a
    have fae := iha.full
    dsimp only at fae hxa iha sema ⊢
    subst fae
    obtain ⟨ga, oa, la⟩ := hxa.good rfl
    have hpa : L <+: La := hxa.pre
    have okh := ok_prefix hpa hkd.2.1
    have hxb := RP_ext hl h20 (s := ⟨La, false⟩) ga rfl okh
    have hlh := lev_prefix hpa hkd.2.1
    have hca := iha.len
    dsimp only at hca
    have ihb := ih La (nd L f).hi ga (hp.trans hpa) (by rw [en]; exact hkd0.2.1) (by rw [en]; have := hkd0.2.2.2.2.2.2; omega) (by omega)
    have semb := fix_sem h20 (one := one) 21 ⟨La, false⟩ (nd L f).hi ga rfl okh (by have := (ga.level okh).1; dsimp only; omega)
    dsimp only at semb
    generalize RP (fixL lv one) lv ⟨La, false⟩ (nd L f).hi = b at hxb ihb semb ⊢
    obtain ⟨⟨Lb, fb⟩, rb⟩ := b
    have fbe := ihb.full
    dsimp only at fbe hxb ihb semb la ⊢
    subst fbe
    obtain ⟨gb, ob, lb⟩ := hxb.good rfl
    have hpb : La <+: Lb := hxb.pre
    dsimp only at lb oa ob sema semb ga gb
    obtain ⟨F, hF, hFe⟩ := h3 f hf0
    have hcb := ihb.len
    dsimp only at hcb
    have gr := node_count (U := U) gb (n := ⟨lev L f, ra, rb⟩) ⟨hlv.1, by dsimp only; omega, ok_prefix hpb oa, ob, by dsimp only; rw [lev_prefix hpb oa]; omega, by dsimp only; omega⟩ hF (fun β => by
      dsimp only
      rw [semb rfl, eb_pre ga gb hpb oa, sema rfl, eb_pre hg ga hpa hkd.2.1, hFe, ← eb_pre hg0 hg hp hf0, eb_node hg hf (by omega)]
      have : setB β lv one (lev L f) = β (lev L f) := by unfold setB; rw [if_neg (by omega)]
      rw [this]) (by omega)
    exact ⟨gr.full, by have := gr.len; omega⟩
end Go.Proofs.Ytdcmldlnhikbcaa
