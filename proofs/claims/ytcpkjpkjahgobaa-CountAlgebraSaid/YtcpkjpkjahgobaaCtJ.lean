/- How many nodes operations may add; results that are never full, with their functions. -/
import Derived.Test.YtcpkjpkjahgobaaCtY
namespace Go.Proofs.Ytcpkjpkjahgobaa
open Go.Sim

abbrev Fn := (Int → Bool) → Bool
def rep (L : List Node) (F : Fn) : Prop := ∃ r, okNode L r ∧ ∀ β, eb L β r = F β
theorem rep_pre {L L' : List Node} (h : Good L) (h' : Good L') (hp : L <+: L') {F : Fn} (hr : rep L F) : rep L' F := by
  obtain ⟨r, h1, h2⟩ := hr
  exact ⟨r, ok_prefix hp h1, fun β => by rw [eb_pre h h' hp h1, h2]⟩
open Classical in
noncomputable def cntF (U : List Fn) (L : List Node) : Nat := U.countP fun F => decide (¬ rep L F)
theorem cntF_le (U : List Fn) (L : List Node) : cntF U L ≤ U.length := List.countP_le_length
theorem cntF_mono {L L' : List Node} (h : ∀ F, rep L F → rep L' F) (U : List Fn) : cntF U L' ≤ cntF U L := by
  unfold cntF
  exact List.countP_mono_left fun F _ hF => by
    simp only [decide_eq_true_eq] at hF ⊢
    exact fun hr => hF (h F hr)
theorem cntF_new {L : List Node} {F : Fn} (U : List Fn) (h : ¬ rep L F) : cntF (F :: U) L = cntF U L + 1 := List.countP_cons_of_pos (by simp [h])
theorem cntF_has {L : List Node} {F : Fn} (U : List Fn) (h : rep L F) : cntF (F :: U) L = cntF U L := List.countP_cons_of_neg (by simp [h])
theorem cntF_drop {L L' : List Node} (h : ∀ F, rep L F → rep L' F) {F : Fn} (h1 : ¬ rep L F) (h2 : rep L' F) : ∀ U : List Fn, F ∈ U → cntF U L' + 1 ≤ cntF U L
  | [], hm => by cases hm
  | G :: U, hm => by
    rcases List.mem_cons.1 hm with rfl | hm
    · have := cntF_mono h U
      rw [cntF_new U h1, cntF_has U h2]; omega
    · have ih := cntF_drop h h1 h2 U hm
      by_cases hG : rep L G
      · rw [cntF_has U hG, cntF_has U (h G hG)]; exact ih
      · rw [cntF_new U hG]
        by_cases hG' : rep L' G
        · rw [cntF_has U hG']; omega
        · rw [cntF_new U hG']; omega

/-- A node whose function is there is found. -/
theorem made_found {L : List Node} (hg : Good L) {n : Node} (hn : fits L n) {r : Int} (hr : okNode L r) (he : ∀ β, eb L β r = if β n.level then eb L β n.hi else eb L β n.lo) : nodeD ⟨L, false⟩ n = (⟨L, false⟩, r) := by
  obtain ⟨n0, n20, okl, okh, ll, lh⟩ := hn
  have elo : ∀ β, eb L (setB β n.level false) r = eb L β n.lo := fun β => by
    rw [he]; simp only [setB, if_true, Bool.false_eq_true, if_false]; exact eb_set hg okl ll false
  have ehi : ∀ β, eb L (setB β n.level true) r = eb L β n.hi := fun β => by
    rw [he]; simp only [setB, if_true]; exact eb_set hg okh lh true
  by_cases hlh : n.lo = n.hi
  · rw [node_eq hlh]
    congr 1
    refine canon' hg okl hr fun β => ?_
    rw [he, hlh]; split <;> rfl
  · have hlev : lev L r = n.level := by
      rcases lev_of_dep hg hr (lv := n.level) (fun β i b hi => by
        rw [he, he, eb_set hg okl (by omega), eb_set hg okh (by omega)]; have e : setB β i b n.level = β n.level := by { unfold setB; rw [if_neg (by omega)] }; rw [e]) with h | h
      · refine Int.le_antisymm (Int.not_lt.1 fun hlt => hlh ?_) h
        exact canon' hg okl okh fun β => by rw [← elo, ← ehi, eb_set hg hr hlt, eb_set hg hr hlt]
      · exact absurd (canon' hg okl okh fun β => by rw [← elo, ← ehi, eb_set hg hr (by omega), eb_set hg hr (by omega)]) hlh
    have h20 : lev L r ≠ 20 := by omega
    have hk := hg.kids hr h20
    have e1 : (nd L r).lo = n.lo := canon' hg hk.1 okl fun β => by rw [← eb_lo hg hr h20, hlev, elo]
    have e2 : (nd L r).hi = n.hi := canon' hg hk.2.1 okh fun β => by rw [← eb_hi hg hr h20, hlev, ehi]
    have en : n = nd L r := by
      unfold lev at hlev
      cases n with
      | mk a b c =>
        simp only at hlev e1 e2
        cases hx : nd L r with
        | mk a' b' c' => rw [hx] at hlev e1 e2; simp only at hlev e1 e2; rw [hlev, e1, e2]
    have hmem : nd L r ∈ L := by
      have := nd_get (l := L) (i := r.toNat) (by have := hr.2; have := hr.1; omega)
      rw [Int.toNat_of_nonneg hr.1] at this
      exact List.mem_of_getElem? this
    subst en
    rw [node_old (s := ⟨L, false⟩) hlh hmem, node_self hg hr, Int.toNat_of_nonneg hr.1]

/-- What is added is paid for by functions that were not there. -/
structure Grow (U : List Fn) (L : List Node) (q : Bs × Int) : Prop where
  full : q.1.full = false
  len : q.1.L.length + cntF U q.1.L ≤ L.length + cntF U L
theorem Grow.id {U : List Fn} {L : List Node} {r : Int} : Grow U L (⟨L, false⟩, r) := ⟨rfl, Nat.le_refl _⟩
theorem bs_eq {s : Bs} (h : s.full = false) : s = ⟨s.L, false⟩ := by cases s; simp at h; subst h; rfl
theorem node_count {U : List Fn} {L : List Node} (hg : Good L) {n : Node} (hn : fits L n) {F : Fn} (hF : F ∈ U) (he : ∀ β, F β = if β n.level then eb L β n.hi else eb L β n.lo) (hc : L.length + cntF U L ≤ 8192) : Grow U L (nodeD ⟨L, false⟩ n) := by
  by_cases hr : rep L F
  · obtain ⟨r, h1, h2⟩ := hr
    rw [made_found hg hn h1 fun β => by rw [h2, he]]
    exact .id
  · have hpos : 1 ≤ cntF U L := by
      unfold cntF
      exact List.countP_pos_iff.2 ⟨F, hF, by simp [hr]⟩
    have hlh : n.lo ≠ n.hi := fun e => hr ⟨n.lo, hn.2.2.1, fun β => by rw [he, e]; split <;> rfl⟩
    by_cases hm : n ∈ L
    · rw [node_old (s := ⟨L, false⟩) hlh hm]; exact .id
    · have hx := node_ext (s := ⟨L, false⟩) hg hn
      have hx2 := fun β h => eb_made (s := ⟨L, false⟩) (β := β) hg hn h
      rw [node_new (s := ⟨L, false⟩) hlh hm (by dsimp only; omega)] at hx hx2 ⊢
      obtain ⟨g2, o2, _⟩ := hx.good rfl
      have hd := cntF_drop (fun F => rep_pre hg g2 hx.pre) hr ⟨_, o2, fun β => by rw [hx2 β rfl, he]⟩ U hF
      refine ⟨rfl, ?_⟩
      dsimp only at hd ⊢
      rw [List.length_append, List.length_singleton]
      omega

theorem T_count {val : Val} {U : List Fn} {L₀ : List Node} (hg0 : Good L₀) {S : Three → Prop} (h1 : ∀ t, S t → ok3 L₀ t) (h2 : ∀ t one, S t → lv3 L₀ t ≠ 20 → S (half3 L₀ t (lv3 L₀ t) one))
    (h3 : ∀ t, S t → ∃ F ∈ U, ∀ β, F β = val3 val L₀ β t) : ∀ (k : Nat) (L : List Node) (t : Three), Good L → L₀ <+: L → S t → 20 - lv3 L₀ t < k → L.length + cntF U L ≤ 8192 → Grow U L (T val ⟨L, false⟩ t) := by
  intro k
  induction k with
  | zero => intro L t _ _ hS hk _; have := (hg0.lv3 (h1 t hS)).2; omega
  | succ k ih =>
    intro L t hg hp hS hk hc
    have ht0 := h1 t hS
    have ht := ok3_prefix hp ht0
    have hlv := lv3_prefix hp ht0
    by_cases h20 : lv3 L t = 20
    · rw [T_leaf rfl h20]; exact .id
    · have h200 : lv3 L₀ t ≠ 20 := by omega
      have hx := T_node (val := val) (s := ⟨L, false⟩) hg rfl ht h20
      dsimp only at hx
      have hh0 := hg.half3 ht h20 false
      have e0 := half3_prefix hp ht0 (lv3 L t) false
      have s0 := h2 t false hS h200
      rw [← hlv, ← e0] at s0
      have hxa := T_ext (val := val) (s := ⟨L, false⟩) hg rfl hh0.1
      have l0 : lv3 L₀ (half3 L t (lv3 L t) false) = lv3 L (half3 L t (lv3 L t) false) := (lv3_prefix hp (h1 _ s0)).symm
      have iha := ih L _ hg hp s0 (by rw [l0]; have := hh0.2; omega) hc
      have sema := fun β hf => T_sem (val := val) (β := β) (s := ⟨L, false⟩) hg rfl hh0.1 hf
      rw [hx]
      generalize T val ⟨L, false⟩ (half3 L t (lv3 L t) false) = a at hxa iha sema ⊢
      obtain ⟨⟨La, fa⟩, ra⟩ := a
      have fae := iha.full
      dsimp only at fae hxa iha sema ⊢
      subst fae
      obtain ⟨ga, oa, la⟩ := hxa.good rfl
      have hpa : L <+: La := hxa.pre
      have hta := ok3_prefix hpa ht
      have hlva := lv3_prefix hpa ht
      have hh1 := ga.half3 hta (by rw [hlva]; exact h20) true
      rw [hlva] at hh1
      dsimp only at hh1 la oa
      have e1 : half3 La t (lv3 L t) true = half3 L₀ t (lv3 L₀ t) true := by rw [half3_prefix (hp.trans hpa) ht0, hlv]
      have s1 := h2 t true hS h200
      rw [← e1] at s1
      have l1 : lv3 L₀ (half3 La t (lv3 L t) true) = lv3 La (half3 La t (lv3 L t) true) := (lv3_prefix (hp.trans hpa) (h1 _ s1)).symm
      have hca := iha.len
      dsimp only at hca
      have hxb := T_ext (val := val) (s := ⟨La, false⟩) ga rfl hh1.1
      have ihb := ih La _ ga (hp.trans hpa) s1 (by rw [l1]; have := hh1.2; omega) (by omega)
      have semb := fun β hf => T_sem (val := val) (β := β) (s := ⟨La, false⟩) ga rfl hh1.1 hf
      generalize T val ⟨La, false⟩ (half3 La t (lv3 L t) true) = b at hxb ihb semb ⊢
      obtain ⟨⟨Lb, fb⟩, rb⟩ := b
      have fbe := ihb.full
      dsimp only at fbe hxb ihb semb la hh1 hh0 ⊢
      subst fbe
      obtain ⟨gb, ob, lb⟩ := hxb.good rfl
      have hpb : La <+: Lb := hxb.pre
      dsimp only at lb oa ob sema semb ga gb
      have hb0 := hg.lv3 ht
      obtain ⟨F, hF, hFe⟩ := h3 t hS
      have hcb := ihb.len
      dsimp only at hcb hca
      have gr := node_count (U := U) gb (n := ⟨lv3 L t, ra, rb⟩) ⟨hb0.1, by dsimp only; omega, ok_prefix hpb oa, ob, by dsimp only; rw [lev_prefix hpb oa]; omega, by dsimp only; omega⟩ hF (fun β => by
        rw [hFe, ← val3_pre hg0 hg hp ht0, val3_half hg ht h20]
        dsimp only
        cases hβ : β (lv3 L t) with
        | true =>
          simp only [if_true]
          rw [semb β rfl, half3_prefix hpa ht]
          exact (val3_pre hg ga hpa (hg.half3 ht h20 true).1).symm
        | false =>
          simp only [Bool.false_eq_true, if_false]
          rw [eb_pre ga gb hpb oa, sema β rfl]) (by omega)
      exact ⟨gr.full, by have := gr.len; omega⟩
structure Is (L : List Node) (F : Fn) (m : Nat) (d : List Node) (f : Int) : Prop where
  good : Good d
  pre : L <+: d
  ok : okNode d f
  sem : ∀ β, eb d β f = F β
  len : d.length ≤ L.length + m
def Res (L : List Node) (F : Fn) (m : Nat) (o : One) : Prop := ∃ d f, o = ⟨d, f, 0⟩ ∧ Is L F m d f
theorem Is.eval {L : List Node} {F : Fn} {m : Nat} {d : List Node} {f : Int} (h : Is L F m d f) (bits : List Bool) : evalD d f bits = F (bitAt bits) := by rw [eval_eb h.good h.ok, h.sem]
theorem Is.old {L : List Node} {F : Fn} {m : Nat} {d : List Node} {f a : Int} (h : Is L F m d f) (hg : Good L) (ha : okNode L a) (bits : List Bool) : evalD d a bits = evalD L a bits := by
  rw [eval_eb h.good (ok_prefix h.pre ha), eval_eb hg ha, eb_pre hg h.good h.pre ha]
theorem done_res {L : List Node} {U : List Fn} {F : Fn} {lv : Int} {q : Bs × Int} (hx : Ext L q lv) (hg : Grow U L q) (hs : ∀ β, eb q.1.L β q.2 = F β) : Res L F U.length (doneD q) := by
  obtain ⟨⟨L', f'⟩, r⟩ := q
  have hf := hg.full
  dsimp only at hf
  subst hf
  have h1 := hx.good rfl
  have h2 := hg.len
  have h3 := cntF_le U L
  dsimp only at h2
  exact ⟨L', r, rfl, h1.1, hx.pre, h1.2.1, hs, by omega⟩
theorem apply_res {val : Val} {U : List Fn} {L : List Node} {t : Three} (hg : Good L) (ht : ok3 L t) (hgr : Grow U L (T val ⟨L, false⟩ t)) : Res L (fun β => val3 val L β t) U.length (applyD val L t) := by
  rw [apply_yes hg ht]
  exact done_res (T_ext (s := ⟨L, false⟩) hg rfl ht) hgr fun β => T_sem (s := ⟨L, false⟩) hg rfl ht hgr.full
theorem found_res {val : Val} {L : List Node} {t : Three} {r : Int} (hg : Good L) (ht : ok3 L t) (hr : okNode L r) (he : ∀ β, eb L β r = val3 val L β t) : applyD val L t = ⟨L, r, 0⟩ := by
  rw [apply_yes hg ht, T_found hg ht hr he]; rfl
theorem Res.fn {L : List Node} {F F' : Fn} {m m' : Nat} {o : One} (h : Res L F m o) (hF : ∀ β, F β = F' β) (hm : m ≤ m') : Res L F' m' o := by
  obtain ⟨d, f, e, i⟩ := h
  exact ⟨d, f, e, i.good, i.pre, i.ok, fun β => by rw [i.sem, hF], by have := i.len; omega⟩

def singles (G : (Int → Bool) → Int → Bool) : List Fn := (List.range 70).map fun a β => G β (a : Nat)
theorem singles_len (G : (Int → Bool) → Int → Bool) : (singles G).length = 70 := by simp [singles]
theorem single_mem (G : (Int → Bool) → Int → Bool) {a : Int} (h0 : 0 ≤ a) (h : a < 70) : ∃ F ∈ singles G, ∀ β, F β = G β a :=
  ⟨fun β => G β a, by
    unfold singles
    refine List.mem_map.2 ⟨a.toNat, List.mem_range.2 (by omega), ?_⟩
    rw [Int.toNat_of_nonneg h0], fun _ => rfl⟩
def pairs (G : (Int → Bool) → Int → Int → Bool) : List Fn := (List.range 70).flatMap fun b => (List.range (b + 1)).map fun a β => G β (a : Nat) (b : Nat)
theorem pairs_len (G : (Int → Bool) → Int → Int → Bool) : (pairs G).length = 2485 := by
  unfold pairs
  rw [List.length_flatMap]
  simp only [List.length_map, List.length_range]
  decide +kernel
theorem pair_mem (G : (Int → Bool) → Int → Int → Bool) (hs : ∀ β a b, G β a b = G β b a) {a b : Int} (h0 : 0 ≤ a) (h : a < 70) (h0' : 0 ≤ b) (h' : b < 70) : ∃ F ∈ pairs G, ∀ β, F β = G β a b := by
  have key : ∀ a b : Int, 0 ≤ a → a ≤ b → b < 70 → (fun β => G β a b) ∈ pairs G := fun a b h0 hab hb => by
    unfold pairs
    refine List.mem_flatMap.2 ⟨b.toNat, List.mem_range.2 (by omega), List.mem_map.2 ⟨a.toNat, List.mem_range.2 (by omega), ?_⟩⟩
    rw [Int.toNat_of_nonneg h0, Int.toNat_of_nonneg (by omega)]
  rcases Int.le_total a b with hab | hab
  · exact ⟨_, key a b h0 hab h', fun _ => rfl⟩
  · exact ⟨_, key b a h0' hab h, fun β => hs β b a⟩

section
variable {l L : List Node} (hg0 : Good l) (h70 : l.length ≤ 70) (hg : Good L) (hp : l <+: L)
include hg0 h70 hg hp
theorem not_res {a : Int} (ha : okNode l a) (hc : L.length ≤ 8000) : Res L (fun β => !eb l β a) 70 (applyD notV L ⟨a, a, a⟩) := by
  have haL := ok_prefix hp ha
  have hgr := T_count (val := notV) (U := singles fun β a => !eb l β a) hg0 (S := fun t => ∃ a, okNode l a ∧ t = ⟨a, a, a⟩) (fun t ⟨a, h, e⟩ => by subst e; exact ⟨h, h, h⟩)
    (fun t one ⟨a, h, e⟩ h20 => by subst e; exact ⟨_, (hg0.half3 ⟨h, h, h⟩ h20 one).1.1, rfl⟩)
    (fun t ⟨a, h, e⟩ => by
      subst e
      obtain ⟨F, h1, h2⟩ := single_mem (fun β a => !eb l β a) h.1 (by have := h.2; omega)
      exact ⟨F, h1, fun β => by rw [h2]; rfl⟩) 21 L ⟨a, a, a⟩ hg hp ⟨a, ha, rfl⟩ (by have := (hg0.lv3 (t := ⟨a, a, a⟩) ⟨ha, ha, ha⟩).1; omega)
    (by have := cntF_le (singles fun β a => !eb l β a) L; rw [singles_len] at this; omega)
  refine (apply_res hg ⟨haL, haL, haL⟩ hgr).fn (fun β => ?_) (Nat.le_of_eq (singles_len _))
  show (!eb L β a) = !eb l β a
  rw [eb_pre hg0 hg hp ha]
theorem bin_res {val : Val} (hv : ∀ x y, val x y y = val y x x) {a b : Int} (ha : okNode l a) (hb : okNode l b) (hc : L.length ≤ 5700) : Res L (fun β => val (eb l β a) (eb l β b) (eb l β b)) 2485 (applyD val L ⟨a, b, b⟩) := by
  have haL := ok_prefix hp ha
  have hbL := ok_prefix hp hb
  have hgr := T_count (val := val) (U := pairs fun β a b => val (eb l β a) (eb l β b) (eb l β b)) hg0 (S := fun t => ∃ a b, okNode l a ∧ okNode l b ∧ t = ⟨a, b, b⟩) (fun t ⟨a, b, h, h', e⟩ => by subst e; exact ⟨h, h', h'⟩)
    (fun t one ⟨a, b, h, h', e⟩ h20 => by subst e; have := (hg0.half3 (t := ⟨a, b, b⟩) ⟨h, h', h'⟩ h20 one).1; exact ⟨_, _, this.1, this.2.1, rfl⟩)
    (fun t ⟨a, b, h, h', e⟩ => by
      subst e
      obtain ⟨F, h1, h2⟩ := pair_mem (fun β a b => val (eb l β a) (eb l β b) (eb l β b)) (fun β a b => hv _ _) h.1 (by have := h.2; omega) h'.1 (by have := h'.2; omega)
      exact ⟨F, h1, fun β => by rw [h2]; rfl⟩) 21 L ⟨a, b, b⟩ hg hp ⟨a, b, ha, hb, rfl⟩ (by have := (hg0.lv3 (t := ⟨a, b, b⟩) ⟨ha, hb, hb⟩).1; omega)
    (by have := cntF_le (pairs fun β a b => val (eb l β a) (eb l β b) (eb l β b)) L; rw [pairs_len] at this; omega)
  refine (apply_res hg ⟨haL, hbL, hbL⟩ hgr).fn (fun β => ?_) (Nat.le_of_eq (pairs_len _))
  show val (eb L β a) (eb L β b) (eb L β b) = val (eb l β a) (eb l β b) (eb l β b)
  rw [eb_pre hg0 hg hp ha, eb_pre hg0 hg hp hb]
end
/-! Negations, conjunctions and disjunctions counted. -/
theorem few_le {l : List Node} (h : fewB l = true) : l.length ≤ 60 := by unfold fewB at h; simp only [Bool.and_eq_true, decide_eq_true_eq] at h; exact h.2
theorem low_of {L : List Node} (h : Good L) {n : Int} : ∀ (m : Nat) (r : Int), r.toNat ≤ m → okNode L r → (∀ β β' : Int → Bool, (∀ i, i < n → β i = β' i) → eb L β r = eb L β' r) → Low L r n := by
  intro m
  induction m with
  | zero => intro r hm hr _ k hk h1; have := (hk.ok h hr).2; have := hr.1; omega
  | succ m ih =>
    intro r hm hr hi
    by_cases h1 : 1 < r
    · have hk := h.lohi hr h1
      have b1 := hk.1.1; have b2 := hk.2.1.1
      have h20 : lev L r ≠ 20 := fun e => by have := (h.level hr).2.2.1 e; omega
      have hlt : lev L r < n := by
        refine Int.not_le.1 fun hle => hk.2.2.2.2.1 (canon' h hk.1 hk.2.1 fun β => ?_)
        rw [← eb_lo h hr h20, ← eb_hi h hr h20]
        exact hi _ _ fun i hn => by unfold setB; rw [if_neg (by omega), if_neg (by omega)]
      have key : ∀ (b : Bool) (β β' : Int → Bool), (∀ i, i < n → β i = β' i) → ∀ i, i < n → setB β (lev L r) b i = setB β' (lev L r) b i := fun b β β' he i hn => by unfold setB; rw [he i hn]
      have i1 := ih (nd L r).lo (by omega) hk.1 fun β β' he => by rw [← eb_lo h hr h20, ← eb_lo h hr h20]; exact hi _ _ (key false β β' he)
      have i2 := ih (nd L r).hi (by omega) hk.2.1 fun β β' he => by rw [← eb_hi h hr h20, ← eb_hi h hr h20]; exact hi _ _ (key true β β' he)
      intro k hkr hk1
      rcases hkr.cases_on with rfl | ⟨_, hx | hx⟩
      · exact hlt
      · exact i1 k hx hk1
      · exact i2 k hx hk1
    · intro k hk h2; have := (hk.ok h hr).2; omega
theorem eb_fit {l : List Node} {a n : Int} (h : FitP l a n) (β β' : Int → Bool) (he : ∀ i, i < n → β i = β' i) : eb l β a = eb l β' a := eb_at _ a 0 (Nat.le_refl _) (.start h) fun i _ hn => he i hn
theorem Is.fit {L : List Node} {F : Fn} {m : Nat} {d : List Node} {r n : Int} (h : Is L F m d r) (h0 : 0 ≤ n) (h20 : n ≤ 20) (hF : ∀ β β' : Int → Bool, (∀ i, i < n → β i = β' i) → F β = F β') : FitP d r n :=
  ⟨h.good, h.ok, h0, h20, low_of h.good _ r (Nat.le_refl _) h.ok fun β β' he => by rw [h.sem, h.sem]; exact hF β β' he⟩
theorem rank_not {l d : List Node} {N : Nat} {a r : Int} (h : ∀ β, eb d β r = !eb l β a) : ∀ m, rank l N a m + rank d N r m = m
  | 0 => rfl
  | m + 1 => by
    have ih := rank_not (N := N) h m
    rw [rank_succ, rank_succ]
    have e : ev2 d N m r = !ev2 l N m a := h _
    rw [e]
    cases ev2 l N m a <;> simp <;> omega
theorem rank_pair {l d1 d2 : List Node} {N : Nat} {a b r1 r2 : Int} (h1 : ∀ β, eb d1 β r1 = (eb l β a && eb l β b)) (h2 : ∀ β, eb d2 β r2 = (eb l β a || eb l β b)) : ∀ m, rank d1 N r1 m + rank d2 N r2 m = rank l N a m + rank l N b m
  | 0 => rfl
  | m + 1 => by
    have ih := rank_pair (N := N) h1 h2 m
    rw [rank_succ, rank_succ, rank_succ, rank_succ]
    have e1 : ev2 d1 N m r1 = (ev2 l N m a && ev2 l N m b) := h1 _
    have e2 : ev2 d2 N m r2 = (ev2 l N m a || ev2 l N m b) := h2 _
    rw [e1, e2]
    cases ev2 l N m a <;> cases ev2 l N m b <;> simp <;> omega
theorem bet_next {N q i : Nat} {b : Nat} (hb : b < 2) (hi : i < N) : bet (N + 1) (2 * q + b) (i : Nat) = bet N q (i : Nat) := by
  unfold bet
  rw [Int.toNat_natCast, show N + 1 - 1 - i = (N - 1 - i) + 1 by omega, Nat.pow_succ, Nat.mul_comm _ 2, ← Nat.div_div_eq_div_mul, show (2 * q + b) / 2 = q by omega]
theorem FitP.next {l : List Node} {f n : Int} (h : FitP l f n) (h20 : n < 20) : FitP l f (n + 1) := ⟨h.good, h.ok, by have := h.n0; omega, by omega, fun k hk h1 => by have := h.low k hk h1; omega⟩
theorem ev_next {l : List Node} {f n : Int} (h : FitP l f n) {q b : Nat} (hb : b < 2) : ev2 l (n.toNat + 1) (2 * q + b) f = ev2 l n.toNat q f :=
  eb_at _ f 0 (Nat.le_refl _) (.start h) fun i hi hn => by
    obtain ⟨j, rfl⟩ : ∃ j : Nat, i = j := ⟨i.toNat, by omega⟩
    exact bet_next hb (by omega)
theorem rank_next {l : List Node} {f n : Int} (h : FitP l f n) : ∀ m, rank l (n.toNat + 1) f (2 * m) = 2 * rank l n.toNat f m
  | 0 => rfl
  | m + 1 => by
    have ih := rank_next h m
    have e0 := ev_next h (q := m) (b := 0) (by decide)
    have e1 := ev_next h (q := m) (b := 1) (by decide)
    rw [show 2 * (m + 1) = 2 * m + 1 + 1 by omega, rank_succ, rank_succ, ih, e1, show 2 * m = 2 * m + 0 by omega, e0, rank_succ]
    split <;> omega
theorem count_next {l : List Node} {f n : Int} (h : FitP l f n) (h20 : n < 20) : fromD l (n + 1) f 0 = 2 * fromD l n f 0 := by
  rw [count_is (h.next h20), count_is h]
  have := h.n0
  have e : (n + 1).toNat = n.toNat + 1 := by omega
  rw [e, Nat.pow_succ, Nat.mul_comm _ 2, rank_next h]
  push_cast; rfl
theorem count_not {l d : List Node} {N : Nat} {a r n : Int} (ha : FitP l a n) (hr : FitP d r n) (h : ∀ β, eb d β r = !eb l β a) (hN : N = n.toNat) : fromD l n a 0 + fromD d n r 0 = ((2 ^ N : Nat) : Int) := by
  rw [count_is ha, count_is hr, hN]
  have := rank_not (N := n.toNat) h (2 ^ n.toNat)
  omega
theorem count_pair {l d1 d2 : List Node} {a b r1 r2 n : Int} (ha : FitP l a n) (hb : FitP l b n) (h1 : FitP d1 r1 n) (h2 : FitP d2 r2 n) (e1 : ∀ β, eb d1 β r1 = (eb l β a && eb l β b)) (e2 : ∀ β, eb d2 β r2 = (eb l β a || eb l β b)) : fromD d1 n r1 0 + fromD d2 n r2 0 = fromD l n a 0 + fromD l n b 0 := by
  rw [count_is ha, count_is hb, count_is h1, count_is h2]
  have := rank_pair (N := n.toNat) e1 e2 (2 ^ n.toNat)
  omega
end Go.Proofs.Ytcpkjpkjahgobaa
