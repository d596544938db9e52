/- Functions with a bit replaced: as data, and the memory of known results. -/
import Derived.Test.YtdcmldlnhikbcaaDgD
namespace Go.Proofs.Ytdcmldlnhikbcaa
open Go.Sim

/-- What a leaf's replacement must be like. -/
structure LeafOk (leaf : Bs → Int → Bs × Int) (lv : Int) : Prop where
  ext : ∀ s f, Good s.L → s.full = false → okNode s.L f → lev s.L f = lv → Ext s.L (leaf s f) lv
  stable : ∀ s f, Good s.L → s.full = false → okNode s.L f → lev s.L f = lv → (leaf s f).1.full = false → ∀ L', (leaf s f).1.L <+: L' → leaf ⟨L', false⟩ f = (⟨L', false⟩, (leaf s f).2)

section
variable {leaf : Bs → Int → Bs × Int} {lv : Int}
theorem repl_full (k : Nat) (s : Bs) (f : Int) (h : s.full = true) : repl leaf lv k s f = (s, f) := by
  cases k with
  | zero => rfl
  | succ k => simp [repl, h]
theorem repl_high (k : Nat) (s : Bs) (f : Int) (h : lv < lev s.L f) : repl leaf lv k s f = (s, f) := by
  cases k with
  | zero => rfl
  | succ k => simp [repl, h]
theorem repl_ext (hl : LeafOk leaf lv) (h20 : lv < 20) : ∀ (k : Nat) (s : Bs) (f : Int), Good s.L → s.full = false → okNode s.L f → lv - lev s.L f < k → Ext s.L (repl leaf lv k s f) (lev s.L f)
  | 0, s, f, hg, _, hf, hk => by
    rw [repl_high 0 s f (by omega)]
    exact ⟨List.prefix_refl _, fun _ => ⟨hg, hf, Int.le_refl _⟩⟩
  | k + 1, s, f, hg, hs, hf, hk => by
    unfold repl
    rw [hs]
    by_cases hh : lv < lev s.L f
    · rw [if_pos (.inr hh)]; exact ⟨List.prefix_refl _, fun _ => ⟨hg, hf, Int.le_refl _⟩⟩
    · rw [if_neg (by simp [hh])]
      by_cases he : lev s.L f = lv
      · rw [if_pos he, he]; exact hl.ext s f hg hs hf he
      · rw [if_neg he]
        have hkd := hg.kids hf (by omega)
        have hlv := hg.level hf
        have iha := repl_ext hl h20 k s _ hg hs hkd.1 (by omega)
        generalize repl leaf lv k s (nd s.L f).lo = a at iha ⊢
        dsimp only
        cases haf : a.1.full with
        | true =>
          rw [repl_full k a.1 _ haf]
          exact ⟨iha.pre.trans (node_pre _ _), fun h => by rw [node_full haf] at h; cases h⟩
        | false =>
          obtain ⟨ga, oa, la⟩ := iha.good haf
          have hn : nd a.1.L f = nd s.L f := nd_prefix iha.pre hf
          rw [hn]
          have hlh := lev_prefix iha.pre hkd.2.1
          have ihb := repl_ext hl h20 k a.1 (nd s.L f).hi ga haf (ok_prefix iha.pre hkd.2.1) (by omega)
          rw [hlh] at ihb
          generalize repl leaf lv k a.1 (nd s.L f).hi = b at ihb ⊢
          cases hbf : b.1.full with
          | true => exact ⟨(iha.pre.trans ihb.pre).trans (node_pre _ _), fun h => by rw [node_full hbf] at h; cases h⟩
          | false =>
            obtain ⟨gb, ob, lb⟩ := ihb.good hbf
            have := node_ext (n := ⟨lev s.L f, a.2, b.2⟩) gb ⟨hlv.1, by dsimp only; omega, ok_prefix ihb.pre oa, ob, by dsimp only; rw [lev_prefix ihb.pre oa]; omega, by dsimp only; omega⟩
            exact ⟨(iha.pre.trans ihb.pre).trans this.pre, this.good⟩
theorem repl_pre (hl : ∀ s f, s.L <+: (leaf s f).1.L) : ∀ (k : Nat) (s : Bs) (f : Int), s.L <+: (repl leaf lv k s f).1.L
  | 0, _, _ => List.prefix_refl _
  | k + 1, s, f => by
    unfold repl
    split; · exact List.prefix_refl _
    split; · exact hl s f
    exact ((repl_pre hl k _ _).trans (repl_pre hl k _ _)).trans (node_pre _ _)
theorem repl_len (hl : ∀ s f, s.L.length ≤ 8192 → (leaf s f).1.L.length ≤ 8192) : ∀ (k : Nat) (s : Bs) (f : Int), s.L.length ≤ 8192 → (repl leaf lv k s f).1.L.length ≤ 8192
  | 0, _, _, h => h
  | k + 1, s, f, h => by
    unfold repl
    split; · exact h
    split; · exact hl s f h
    exact node_len (repl_len hl k _ _ (repl_len hl k _ _ h))

theorem repl_stable (hl : LeafOk leaf lv) (h20 : lv < 20) : ∀ (k : Nat) (s : Bs) (f : Int), Good s.L → s.full = false → okNode s.L f → lv - lev s.L f < k → (repl leaf lv k s f).1.full = false →
    ∀ (j : Nat) (L' : List Node), lv - lev s.L f < j → (repl leaf lv k s f).1.L <+: L' → s.L <+: L' → repl leaf lv j ⟨L', false⟩ f = (⟨L', false⟩, (repl leaf lv k s f).2)
  | 0, s, f, hg, _, hf, hk, _ => by
    intro j L' _ hp hsL
    rw [repl_high 0 s f (by omega)]
    exact repl_high j _ _ (by rw [lev_prefix hsL hf]; omega)
  | k + 1, s, f, hg, hs, hf, hk, hfull => by
    intro j L' hj hp hsL
    by_cases hh : lv < lev s.L f
    · rw [repl_high (k + 1) s f hh]
      exact repl_high j _ _ (by rw [lev_prefix hsL hf]; exact hh)
    obtain ⟨j, rfl⟩ : ∃ i, j = i + 1 := ⟨j - 1, by omega⟩
    unfold repl at hfull hp ⊢
    simp only [hs, lev_prefix hsL hf, hh, or_false, Bool.false_eq_true, if_false] at hfull hp ⊢
    by_cases he : lev s.L f = lv
    · simp only [he, if_true] at hfull hp ⊢
      exact hl.stable s f hg hs hf he hfull L' hp
    · simp only [he, if_false] at hfull hp ⊢
      have hkd := hg.kids hf (by omega)
      have iha := repl_ext hl h20 k s _ hg hs hkd.1 (by omega)
      have sta := repl_stable hl h20 k s _ hg hs hkd.1 (by omega)
      rw [nd_prefix hsL hf]
      generalize repl leaf lv k s (nd s.L f).lo = a at iha sta hfull hp ⊢
      cases haf : a.1.full with
      | true => rw [repl_full k a.1 _ haf] at hfull; rw [node_full haf] at hfull; cases hfull
      | false =>
        obtain ⟨ga, oa, la⟩ := iha.good haf
        have hn : nd a.1.L f = nd s.L f := nd_prefix iha.pre hf
        rw [hn] at hfull hp ⊢
        have hlh := lev_prefix iha.pre hkd.2.1
        have oh := ok_prefix iha.pre hkd.2.1
        have ihb := repl_ext hl h20 k a.1 (nd s.L f).hi ga haf oh (by omega)
        have stb := repl_stable hl h20 k a.1 (nd s.L f).hi ga haf oh (by omega)
        generalize repl leaf lv k a.1 (nd s.L f).hi = b at ihb stb hfull hp ⊢
        cases hbf : b.1.full with
        | true => rw [node_full hbf] at hfull; cases hfull
        | false =>
          have hbL : b.1.L <+: L' := (node_pre _ _).trans hp
          have haL : a.1.L <+: L' := ihb.pre.trans hbL
          rw [sta haf j L' (by omega) haL hsL]
          dsimp only
          rw [nd_prefix hsL hf, stb hbf j L' (by omega) hbL haL]
          exact node_stable hfull hp
theorem repl_fuel (hl : LeafOk leaf lv) (h20 : lv < 20) : ∀ (k j : Nat) (s : Bs) (f : Int), (s.full = true ∨ Good s.L ∧ okNode s.L f ∧ lv - lev s.L f < k ∧ lv - lev s.L f < j) → repl leaf lv k s f = repl leaf lv j s f := by
  intro k
  induction k with
  | zero => intro j s f h; rcases h with h | ⟨_, _, h1, _⟩
            · rw [repl_full _ s f h, repl_full _ s f h]
            · rw [repl_high _ s f (by omega), repl_high _ s f (by omega)]
  | succ k ih =>
    intro j s f h
    rcases h with h | ⟨hg, hf, h1, h2⟩
    · rw [repl_full _ s f h, repl_full _ s f h]
    cases j with
    | zero => rw [repl_high _ s f (by omega), repl_high _ s f (by omega)]
    | succ j =>
      unfold repl
      by_cases hc : s.full = true ∨ lv < lev s.L f
      · rw [if_pos hc, if_pos hc]
      · rw [if_neg hc, if_neg hc]
        have hs : s.full = false := by simpa using fun h => hc (.inl h)
        have hh : ¬ lv < lev s.L f := fun h => hc (.inr h)
        by_cases he : lev s.L f = lv
        · rw [if_pos he, if_pos he]
        · rw [if_neg he, if_neg he]
          have hkd := hg.kids hf (by omega)
          rw [ih j s _ (.inr ⟨hg, hkd.1, by omega, by omega⟩)]
          have iha := repl_ext hl h20 j s _ hg hs hkd.1 (by omega)
          generalize repl leaf lv j s (nd s.L f).lo = a at iha ⊢
          dsimp only
          have : repl leaf lv k a.1 (nd a.1.L f).hi = repl leaf lv j a.1 (nd a.1.L f).hi := by
            refine ih j a.1 _ ?_
            cases haf : a.1.full with
            | true => exact .inl rfl
            | false =>
              obtain ⟨ga, oa, la⟩ := iha.good haf
              have hlh := lev_prefix iha.pre hkd.2.1
              rw [nd_prefix iha.pre hf]
              exact .inr ⟨ga, ok_prefix iha.pre hkd.2.1, by omega, by omega⟩
          rw [this]

def RP (leaf : Bs → Int → Bs × Int) (lv : Int) (s : Bs) (f : Int) : Bs × Int := repl leaf lv fuel s f
theorem fuel_lt' {x lv : Int} (h : 0 ≤ x) (h20 : lv < 20) : lv - x < (fuel : Nat) := by show lv - x < ((21 : Nat) : Int); omega
theorem RP_full {s : Bs} {f : Int} (h : s.full = true) : RP leaf lv s f = (s, f) := repl_full fuel s f h
theorem RP_high {s : Bs} {f : Int} (h : lv < lev s.L f) : RP leaf lv s f = (s, f) := repl_high fuel s f h
theorem RP_leaf {s : Bs} {f : Int} (hs : s.full = false) (h : lev s.L f = lv) : RP leaf lv s f = leaf s f := by
  have : ∀ k, repl leaf lv (k + 1) s f = leaf s f := fun k => by simp [repl, hs, h]
  exact this 20
theorem RP_ext (hl : LeafOk leaf lv) (h20 : lv < 20) {s : Bs} {f : Int} (hg : Good s.L) (hs : s.full = false) (hf : okNode s.L f) : Ext s.L (RP leaf lv s f) (lev s.L f) := repl_ext hl h20 fuel s f hg hs hf (fuel_lt' (hg.level hf).1 h20)
theorem RP_stable (hl : LeafOk leaf lv) (h20 : lv < 20) {s : Bs} {f : Int} (hg : Good s.L) (hs : s.full = false) (hf : okNode s.L f) (hfull : (RP leaf lv s f).1.full = false) {L' : List Node} (hp : (RP leaf lv s f).1.L <+: L') : RP leaf lv ⟨L', false⟩ f = (⟨L', false⟩, (RP leaf lv s f).2) :=
  repl_stable hl h20 fuel s f hg hs hf (fuel_lt' (hg.level hf).1 h20) hfull fuel L' (fuel_lt' (hg.level hf).1 h20) hp ((RP_ext hl h20 hg hs hf).pre.trans hp)
theorem RP_node (hl : LeafOk leaf lv) (h20 : lv < 20) {s : Bs} {f : Int} (hg : Good s.L) (hs : s.full = false) (hf : okNode s.L f) (hlt : lev s.L f < lv) :
    RP leaf lv s f = nodeD (RP leaf lv (RP leaf lv s (nd s.L f).lo).1 (nd s.L f).hi).1 ⟨lev s.L f, (RP leaf lv s (nd s.L f).lo).2, (RP leaf lv (RP leaf lv s (nd s.L f).lo).1 (nd s.L f).hi).2⟩ := by
  have hkd := hg.kids hf (by omega)
  have h0 := (hg.level hf).1
  have key : ∀ k : Nat, 20 ≤ k → repl leaf lv (k + 1) s f = nodeD (RP leaf lv (RP leaf lv s (nd s.L f).lo).1 (nd s.L f).hi).1 ⟨lev s.L f, (RP leaf lv s (nd s.L f).lo).2, (RP leaf lv (RP leaf lv s (nd s.L f).lo).1 (nd s.L f).hi).2⟩ := by
    intro k hk
    have e1 : repl leaf lv k s (nd s.L f).lo = RP leaf lv s (nd s.L f).lo := repl_fuel hl h20 _ _ _ _ (.inr ⟨hg, hkd.1, by omega, fuel_lt' (by omega) h20⟩)
    rw [repl]
    rw [if_neg (by rw [hs]; simp; omega), if_neg (by omega), e1]
    have iha := RP_ext hl h20 hg hs hkd.1
    generalize RP leaf lv s (nd s.L f).lo = a at iha ⊢
    dsimp only
    rw [nd_prefix iha.pre hf]
    have e2 : repl leaf lv k a.1 (nd s.L f).hi = RP leaf lv a.1 (nd s.L f).hi := by
      refine repl_fuel hl h20 _ _ _ _ ?_
      cases haf : a.1.full with
      | true => exact .inl rfl
      | false =>
        obtain ⟨ga, oa, la⟩ := iha.good haf
        have hlh := lev_prefix iha.pre hkd.2.1
        exact .inr ⟨ga, ok_prefix iha.pre hkd.2.1, by omega, fuel_lt' (by omega) h20⟩
    rw [e2]
  exact key 20 (Nat.le_refl _)

/-! The memory of a replacement. -/
def DOk (leaf : Bs → Int → Bs × Int) (lv : Int) (L : List Node) (D : List (Int × Int)) : Prop := ∀ f i, mget D f = some i → okNode L f ∧ lev L f < lv ∧ RP leaf lv ⟨L, false⟩ f = (⟨L, false⟩, i)
theorem dok_nil {L : List Node} : DOk leaf lv L [] := fun t i h => by simp [mget_nil] at h
theorem DOk.grow (hl : LeafOk leaf lv) (h20 : lv < 20) {L L' : List Node} {D : List (Int × Int)} (hg : Good L) (h : DOk leaf lv L D) (hp : L <+: L') : DOk leaf lv L' D := fun t i hi => by
  obtain ⟨h1, h2, h3⟩ := h t i hi
  have h4 := RP_stable (s := ⟨L, false⟩) hl h20 hg rfl h1 (by rw [h3]) (L' := L') (by rw [h3]; exact hp)
  rw [h3] at h4
  exact ⟨ok_prefix hp h1, by rw [lev_prefix hp h1]; exact h2, h4⟩
theorem DOk.set {L : List Node} {D : List (Int × Int)} (h : DOk leaf lv L D) {t i : Int} (h1 : okNode L t) (h2 : lev L t < lv) (h3 : RP leaf lv ⟨L, false⟩ t = (⟨L, false⟩, i)) : DOk leaf lv L (mset D t i) := fun u j hu => by
  rw [mget_set] at hu
  split at hu
  · rename_i e; cases hu; subst e; exact ⟨h1, h2, h3⟩
  · exact h u j hu
/-- What a step of a replacement yields. -/
structure RpOk (val : Val) (leaf : Bs → Int → Bs × Int) (lv : Int) (L₀ : List Node) (q : Bs × Int) (x : (Value × Bs × List (Node × Int)) × (List (Three × Int) × List (Int × Int) × Int)) : Prop where
  pre : L₀ <+: x.1.2.1.L
  len : x.1.2.1.L.length ≤ 8192
  at_ : AtOk x.1.2.1.L x.1.2.2
  kr : KR x.2.1
  kd : KR x.2.2.1
  full : x.1.2.1.full = q.1.full
  eq : x.1.2.1.full = false → x.1.2.1 = q.1 ∧ x.2.2.2 = q.2 ∧ KOk val x.1.2.1.L x.2.1 ∧ DOk leaf lv x.1.2.1.L x.2.2.1
def rpX (val : Val) (leaf : Bs → Int → Bs × Int) (lv : Int) (L₀ : List Node) (q : Bs × Int) (r m mk md : Nat) : RA := ⟨{x : (Value × Bs × List (Node × Int)) × (List (Three × Int) × List (Int × Int) × Int) // RpOk val leaf lv L₀ q x}, fun x => Rp.int .i64 x.1.2.2.2,
  fun x => [MF.box r 90 [Rp.val x.1.1.1, Rp.val (.map (some m)), Rp.bool x.1.1.2.1.full], MF.osl x.1.1.1 26 3 eN x.1.1.2.1.L, MF.map m nv iv x.1.1.2.2, MF.map mk tv iv x.1.2.1, MF.map md iv iv x.1.2.2.1]⟩

theorem rp_same {val : Val} {s : Bs} {f : Int} {A : List (Node × Int)} {K : List (Three × Int)} {D : List (Int × Int)} {i : Int} (v : Value) (hT : RP leaf lv s f = (s, i)) (hl : s.L.length ≤ 8192) (hA : AtOk s.L A) (hK : KR K) (hD : KR D)
    (hk : s.full = false → KOk val s.L K) (hd : s.full = false → DOk leaf lv s.L D) : RpOk val leaf lv s.L (RP leaf lv s f) ((v, s, A), (K, D, i)) :=
  ⟨List.prefix_refl _, hl, hA, hK, hD, by rw [hT], fun h' => ⟨by rw [hT], by rw [hT], hk h', hd h'⟩⟩
theorem rp_hit {s : Bs} {f : Int} {D : List (Int × Int)} (hs : s.full = false) (hk : DOk leaf lv s.L D) (h : (mget D f).isSome = true) : RP leaf lv s f = (s, (mget D f).getD 0) := by
  cases hm : mget D f with
  | none => rw [hm] at h; cases h
  | some i =>
    have := (hk f i hm).2.2
    rw [bs_eta s hs] at this
    rw [this]; rfl
theorem rp_leaf {val : Val} (hl : LeafOk leaf lv) (h20 : lv < 20) {s : Bs} {f : Int} {D : List (Int × Int)} {x : (Value × Bs × List (Node × Int)) × (List (Three × Int) × Int)} (hg : Good s.L) (hs : s.full = false) (he : lev s.L f = lv) (hD : KR D) (hd : DOk leaf lv s.L D)
    (p : ApOk val s.L (leaf s f) x) : RpOk val leaf lv s.L (RP leaf lv s f) (x.1, (x.2.1, D, x.2.2)) := by
  rw [RP_leaf hs he]
  exact ⟨p.pre, p.len, p.at_, p.kr, hD, p.full, fun h => ⟨(p.eq h).1, (p.eq h).2.1, (p.eq h).2.2, hd.grow hl h20 hg p.pre⟩⟩
theorem rp_next (hl : LeafOk leaf lv) (h20 : lv < 20) {val : Val} {s s₁ : Bs} {f : Int} {v : Value} {A : List (Node × Int)} {K : List (Three × Int)} {D : List (Int × Int)} {i : Int} (hg : Good s.L) (hs : s.full = false) (hf : okNode s.L f) (hlt : lev s.L f < lv) {k : Nat} (hk : lv - lev s.L f < k)
    (p : RpOk val leaf lv s.L (RP leaf lv s (nd s.L f).lo) ((v, s₁, A), (K, D, i))) : s₁.full = true ∨ Good s₁.L ∧ lv - lev s₁.L (nd s.L f).hi < (k - 1 : Nat) := by
  cases h1 : s₁.full with
  | true => exact .inl rfl
  | false =>
    have e := (p.eq h1).1
    dsimp only at e
    have hkd := hg.kids hf (by omega)
    have hx := RP_ext hl h20 hg hs hkd.1
    have hp := p.pre
    dsimp only at hp
    rw [lev_prefix hp hkd.2.1]
    have hg1 := (hx.good (by rw [← e]; exact h1)).1
    rw [← e] at hg1
    exact .inr ⟨hg1, by omega⟩
theorem rp_done (hl : LeafOk leaf lv) (h20 : lv < 20) {val : Val} {s s₁ s₂ : Bs} {f : Int} {v₁ v₂ v₃ : Value} {A₁ A₂ A₃ : List (Node × Int)} {K₁ K₂ : List (Three × Int)} {D₁ D₂ : List (Int × Int)} {i₁ i₂ : Int} (hg : Good s.L) (hs : s.full = false) (hf : okNode s.L f) (hlt : lev s.L f < lv)
    (p₁ : RpOk val leaf lv s.L (RP leaf lv s (nd s.L f).lo) ((v₁, s₁, A₁), (K₁, D₁, i₁))) (p₂ : RpOk val leaf lv s₁.L (RP leaf lv s₁ (nd s.L f).hi) ((v₂, s₂, A₂), (K₂, D₂, i₂)))
    (hA : AtOk (nodeD s₂ ⟨lev s.L f, i₁, i₂⟩).1.L A₃) (hi : InR .i64 (nodeD s₂ ⟨lev s.L f, i₁, i₂⟩).2) :
    RpOk val leaf lv s.L (RP leaf lv s f) ((v₃, (nodeD s₂ ⟨lev s.L f, i₁, i₂⟩).1, A₃), (K₂, mset D₂ f (nodeD s₂ ⟨lev s.L f, i₁, i₂⟩).2, (nodeD s₂ ⟨lev s.L f, i₁, i₂⟩).2)) := by
  have hT := RP_node hl h20 hg hs hf hlt
  have hkd := hg.kids hf (by omega)
  have hpre : s.L <+: (nodeD s₂ ⟨lev s.L f, i₁, i₂⟩).1.L := (p₁.pre.trans p₂.pre).trans (node_pre _ _)
  have h1 := p₁.full; have h2 := p₂.full
  have e1 := p₁.eq; have e2 := p₂.eq
  dsimp only at h1 h2 e1 e2
  have hmain : (nodeD s₂ ⟨lev s.L f, i₁, i₂⟩).1.full = (RP leaf lv s f).1.full ∧ ((nodeD s₂ ⟨lev s.L f, i₁, i₂⟩).1.full = false → nodeD s₂ ⟨lev s.L f, i₁, i₂⟩ = RP leaf lv s f ∧ KOk val s₂.L K₂ ∧ DOk leaf lv s₂.L D₂) := by
    cases f1 : s₁.full with
    | true =>
      rw [RP_full f1] at h2
      dsimp only at h2
      rw [f1] at h1 h2
      have : (RP leaf lv s f).1.full = true := by rw [hT, RP_full h1.symm]; exact node_full h1.symm
      rw [node_full h2, this]
      exact ⟨rfl, fun h => by cases h⟩
    | false =>
      obtain ⟨a1, a2, _⟩ := e1 f1
      subst a1 a2
      cases f2 : s₂.full with
      | true =>
        rw [f2] at h2
        have : (RP leaf lv s f).1.full = true := by rw [hT]; exact node_full h2.symm
        rw [node_full f2, this]
        exact ⟨rfl, fun h => by cases h⟩
      | false =>
        obtain ⟨b1, b2, b3⟩ := e2 f2
        subst b1 b2
        rw [hT]
        exact ⟨rfl, fun _ => ⟨rfl, b3⟩⟩
  refine ⟨hpre, node_len p₂.len, hA, p₂.kr, kr_set p₂.kd hi, hmain.1, fun hff => ?_⟩
  dsimp only at hff ⊢
  obtain ⟨h3, h4, h5⟩ := hmain.2 hff
  have hg2 : Good s₂.L := by
    have f2 : s₂.full = false := by
      cases f2 : s₂.full with
      | false => rfl
      | true => rw [node_full f2] at hff; cases hff
    have f1 : s₁.full = false := by
      cases f1 : s₁.full with
      | false => rfl
      | true => rw [RP_full f1] at h2; dsimp only at h2; rw [f1, f2] at h2; cases h2
    obtain ⟨b1, _, _⟩ := e2 f2
    have hx := rp_next hl h20 hg hs hf hlt (k := 30) (by have := (hg.level hf).1; omega) p₁
    obtain ⟨g1, _⟩ := hx.resolve_left (by rw [f1]; simp)
    have hp := p₁.pre
    dsimp only at hp
    rw [b1]
    rw [b1] at f2
    exact ((RP_ext hl h20 g1 f1 (ok_prefix hp hkd.2.1)).good f2).1
  refine ⟨by rw [h3], by rw [h3], h4.grow hg2 (node_pre _ _), ?_⟩
  refine (h5.grow hl h20 hg2 (node_pre _ _)).set (ok_prefix hpre hf) (by rw [lev_prefix hpre hf]; exact hlt) ?_
  rw [h3]
  exact RP_stable hl h20 hg hs hf (by rw [← h3]; exact hff) (List.prefix_refl _)
end

/-! The two replacements. -/
def fixL (lv : Int) (one : Bool) (s : Bs) (f : Int) : Bs × Int := (s, half s.L f lv one)
def kids3 (L : List Node) (f : Int) : Three := ⟨(nd L f).lo, (nd L f).hi, (nd L f).hi⟩
def someL (s : Bs) (f : Int) : Bs × Int := T orV s (kids3 s.L f)
theorem fix_ok (lv : Int) (h20 : lv < 20) (one : Bool) : LeafOk (fixL lv one) lv where
  ext s f hg hs hf he := ⟨List.prefix_refl _, fun _ => ⟨hg, (hg.half hf (by omega) h20 one).1, by have := (hg.half hf (Int.le_of_eq he.symm) h20 one).2; simp only [fixL]; omega⟩⟩
  stable s f hg hs hf he _ L' hp := by
    have : s.L <+: L' := hp
    simp only [fixL, half_prefix this hf]
theorem kids_ok {L : List Node} (hg : Good L) {f : Int} (hf : okNode L f) (hl : lev L f < 20) : ok3 L (kids3 L f) ∧ lev L f < lv3 L (kids3 L f) := by
  have hk := hg.kids hf (by omega)
  exact ⟨⟨hk.1, hk.2.1, hk.2.1⟩, by unfold lv3 kids3; dsimp only; omega⟩
theorem some_ok (lv : Int) (h20 : lv < 20) : LeafOk someL lv where
  ext s f hg hs hf he := by
    have hk := kids_ok hg hf (by omega)
    have := T_ext (val := orV) hg hs hk.1
    exact ⟨this.pre, fun h => ⟨(this.good h).1, (this.good h).2.1, by have := (this.good h).2.2; unfold someL; omega⟩⟩
  stable s f hg hs hf he hfull L' hp := by
    have hk := kids_ok hg hf (by omega)
    have hsL : s.L <+: L' := T_pre.trans hp
    unfold someL at hfull hp ⊢
    have e : kids3 L' f = kids3 s.L f := by unfold kids3; rw [nd_prefix hsL hf]
    rw [e]
    exact T_stable hg hs hk.1 hfull hp
def fixedD (l : List Node) (f lv : Int) (one : Bool) : One := if (hasB l [f] && decide (0 ≤ lv ∧ lv < 20)) = true then doneD (RP (fixL lv one) lv ⟨l, false⟩ f) else ⟨[], 0, 1⟩
def someD (l : List Node) (f lv : Int) : One := if (hasB l [f] && decide (0 ≤ lv ∧ lv < 20)) = true then doneD (RP someL lv ⟨l, false⟩ f) else ⟨[], 0, 1⟩

theorem fix_pre (lv : Int) (one : Bool) (s : Bs) (f : Int) : s.L <+: (fixL lv one s f).1.L := List.prefix_refl _
theorem some_pre (s : Bs) (f : Int) : s.L <+: (someL s f).1.L := T_pre
theorem fix_len (lv : Int) (one : Bool) (s : Bs) (f : Int) (h : s.L.length ≤ 8192) : (fixL lv one s f).1.L.length ≤ 8192 := h
theorem some_len (s : Bs) (f : Int) (h : s.L.length ≤ 8192) : (someL s f).1.L.length ≤ 8192 := T_len h
theorem T254 (s : Bs) (L : List Node) (f : Int) : T (valT 254) s (kids3 L f) = T orV s (kids3 L f) :=
  tab_congr (D := fun t => t.h = t.g) (fun L t lv one h1 => by simp only [half3, h1]) (fun t h1 => by
    unfold leafI; rw [h1]; cases decide (t.f = 1) <;> cases decide (t.g = 1) <;> rfl) fuel s _ rfl
/-- A node's parts, found again in a longer diagram. -/
theorem rp_eq {leaf : Bs → Int → Bs × Int} {lv : Int} (hl : LeafOk leaf lv) (h20 : lv < 20) (hpre : ∀ s f, s.L <+: (leaf s f).1.L) {s : Bs} {f : Int} {q : Bs × Int} (hQ : q = RP leaf lv s f) (hg : Good s.L) (hs : s.full = false) (hf : okNode s.L f) (hlt : lev s.L f < lv) :
    q = nodeD (RP leaf lv (RP leaf lv s (nd s.L f).lo).1 (nd (RP leaf lv s (nd s.L f).lo).1.L f).hi).1 ⟨(nd (RP leaf lv (RP leaf lv s (nd s.L f).lo).1 (nd (RP leaf lv s (nd s.L f).lo).1.L f).hi).1.L f).level, (RP leaf lv s (nd s.L f).lo).2, (RP leaf lv (RP leaf lv s (nd s.L f).lo).1 (nd (RP leaf lv s (nd s.L f).lo).1.L f).hi).2⟩ := by
  have hp1 : s.L <+: (RP leaf lv s (nd s.L f).lo).1.L := repl_pre hpre _ _ _
  have hp2 : (RP leaf lv s (nd s.L f).lo).1.L <+: (RP leaf lv (RP leaf lv s (nd s.L f).lo).1 (nd s.L f).hi).1.L := repl_pre hpre _ _ _
  rw [hQ, RP_node hl h20 hg hs hf hlt, nd_prefix hp1 hf, nd_prefix (hp1.trans hp2) hf]; rfl
theorem rp_next' {leaf : Bs → Int → Bs × Int} {lv : Int} (hl : LeafOk leaf lv) (h20 : lv < 20) (hpre : ∀ s f, s.L <+: (leaf s f).1.L) {s : Bs} {f : Int} (hg : Good s.L) (hs : s.full = false) (hf : okNode s.L f) (hlt : lev s.L f < lv) {k : Nat} (hk : lv - lev s.L f < k) :
    okNode (RP leaf lv s (nd s.L f).lo).1.L f ∧ okNode (RP leaf lv s (nd s.L f).lo).1.L (nd (RP leaf lv s (nd s.L f).lo).1.L f).hi ∧ ((RP leaf lv s (nd s.L f).lo).1.full = true ∨ Good (RP leaf lv s (nd s.L f).lo).1.L ∧ lv - lev (RP leaf lv s (nd s.L f).lo).1.L (nd (RP leaf lv s (nd s.L f).lo).1.L f).hi < (k - 1 : Nat)) := by
  have hp1 : s.L <+: (RP leaf lv s (nd s.L f).lo).1.L := repl_pre hpre _ _ _
  have hkd := hg.kids hf (by omega)
  rw [nd_prefix hp1 hf]
  refine ⟨ok_prefix hp1 hf, ok_prefix hp1 hkd.2.1, ?_⟩
  cases h1 : (RP leaf lv s (nd s.L f).lo).1.full with
  | true => exact .inl rfl
  | false =>
    rw [lev_prefix hp1 hkd.2.1]
    exact .inr ⟨((RP_ext hl h20 hg hs hkd.1).good h1).1, by omega⟩
theorem rp_low {s : Bs} {lv f : Int} (h1 : (s.full || decide (lv < (s.L.getD f.toNat default).level)) = false) (h2 : decide ((s.L.getD f.toNat default).level = lv) = false) : lev s.L f < lv := by
  simp only [Bool.or_eq_false_iff, decide_eq_false_iff_not] at h1 h2
  unfold lev nd; omega

/-! The program's function values. -/
structure AtJ where
  r : Nat
  m : Nat
  kn : Nat
  md : Nat
  s : Bs
  f : Int
  v : Value
  A : List (Node × Int)
  K : List (Three × Int)
structure AtC (lv : Int) (s : Bs) (f : Int) (A : List (Node × Int)) (K : List (Three × Int)) : Prop where
  len : s.L.length ≤ 8192
  at_ : AtOk s.L A
  kr : KR K
  kok : KOk orV s.L K
  good : Good s.L
  full : s.full = false
  ok : okNode s.L f
  lev : lev s.L f = lv
  lt : lv < 20
def AtI (lv : Int) : Type := {j : AtJ // AtC lv j.s j.f j.A j.K}
def bw0 (lv : Int) (r mk md : Nat) : List Rp := [Rp.at (opR orV r mk), Rp.int .i64 lv, Rp.any, Rp.val (.map (some md))]
def atM (s : Bs) (v : Value) (r m mk : Nat) (A : List (Node × Int)) (K : List (Three × Int)) : List MF := [MF.box r 90 [Rp.val v, Rp.val (.map (some m)), Rp.bool s.full], MF.osl v 26 3 eN s.L, MF.map m nv iv A, MF.map mk tv iv K]
def atR (leaf : Bs → Int → Bs × Int) (lv : Int) : Rp := Rp.fnM Try.prog (fun i : AtI lv => [Rp.at (bw0 lv i.1.r i.1.kn i.1.md), Rp.int .i64 i.1.f]) (fun i => atM i.1.s i.1.v i.1.r i.1.m i.1.kn i.1.A i.1.K) (fun i => apX orV i.1.s.L (leaf i.1.s i.1.f) i.1.r i.1.m i.1.kn)
instance {leaf lv} : Sim.One (atR leaf lv) := by unfold atR; infer_instance
def bwR (leaf : Bs → Int → Bs × Int) (lv : Int) (r mk md : Nat) : List Rp := [Rp.at (opR orV r mk), Rp.int .i64 lv, Rp.clo 76 [Rp.at [atR leaf lv], Rp.at [Rp.at (bw0 lv r mk md)]], Rp.val (.map (some md))]
theorem ap_id {val : Val} {s : Bs} {A : List (Node × Int)} {K : List (Three × Int)} {i : Int} (v : Value) (hl : s.L.length ≤ 8192) (hA : AtOk s.L A) (hK : KR K) (hk : KOk val s.L K) : ApOk val s.L (s, i) ((v, s, A), (K, i)) :=
  ⟨List.prefix_refl _, hl, hA, hK, rfl, fun _ => ⟨rfl, rfl, hk⟩⟩
theorem done_eq' {val : Val} {leaf : Bs → Int → Bs × Int} {lv : Int} {l : List Node} {q : Bs × Int} {v : Value} {s : Bs} {A : List (Node × Int)} {K : List (Three × Int)} {D : List (Int × Int)} {i : Int} (p : RpOk val leaf lv l q ((v, s, A), (K, D, i))) : doneD (s, i) = doneD q := by
  have h1 := p.full
  dsimp only at h1
  unfold doneD
  rw [← h1]
  cases hs : s.full with
  | true => simp
  | false =>
    obtain ⟨a, b, _⟩ := p.eq hs
    dsimp only at a b
    simp only [Bool.false_eq_true, if_false, a, b]
theorem leveled_iff {l : List Node} {f lv : Int} : (hasB l [f] && decide (0 ≤ lv ∧ lv < 20)) = true ↔ Good l ∧ okNode l f ∧ 0 ≤ lv ∧ lv < 20 := by
  rw [Bool.and_eq_true, has1, decide_eq_true_eq]
  exact ⟨fun ⟨⟨a, b⟩, c⟩ => ⟨a, b, c⟩, fun ⟨a, b, c⟩ => ⟨⟨a, b⟩, c⟩⟩
/-- A result that the laws accept. -/
def OutOk' (l : List Node) (o : One) : Prop := if o.e = 0 then Good o.d ∧ l <+: o.d else o.d = [] ∧ o.f = 0
theorem done_out' {l : List Node} {q : Bs × Int} {lv : Int} (h : Ext l q lv) : OutOk' l (doneD q) := by
  unfold OutOk' doneD
  cases hf : q.1.full with
  | true => simp
  | false => simp only [Bool.false_eq_true, if_false, if_true]; exact ⟨(h.good hf).1, h.pre⟩
theorem fixed_out (l : List Node) (f lv : Int) (one : Bool) : OutOk' l (fixedD l f lv one) := by
  unfold fixedD; split
  · rename_i h
    obtain ⟨hg, hf, _, h20⟩ := leveled_iff.1 h
    exact done_out' (RP_ext (s := ⟨l, false⟩) (fix_ok lv h20 one) h20 hg rfl hf)
  · simp [OutOk']
theorem some_out (l : List Node) (f lv : Int) : OutOk' l (someD l f lv) := by
  unfold someD; split
  · rename_i h
    obtain ⟨hg, hf, _, h20⟩ := leveled_iff.1 h
    exact done_out' (RP_ext (s := ⟨l, false⟩) (some_ok lv h20) h20 hg rfl hf)
  · simp [OutOk']

theorem row_of {r T : Nat} {Rs As : List Rp} {w : World} {C : Nat → Prop} (h : (MF.box r T Rs).p w C) (hC : C r) (hw : ∀ vs, AllP Rs w C vs → AllP As w C vs) (hl : As.length = Rs.length) : RowAt As w C ⟨r, 0, none⟩ := by
  obtain ⟨cs, h1, h2, h3⟩ := h
  refine ⟨rfl, hC, cs, T, _, h1, ?_⟩
  rw [hl, List.drop_zero]
  exact ⟨hw _ h3.1, h3.2⟩
theorem pub_bw {leaf : Bs → Int → Bs × Int} {lv : Int} {r mk md r7 r12 r33 : Nat} (w : World) (C : Nat → Prop) (v : Value)
    (hF : ∀ G ∈ [MF.box r7 87 [atR leaf lv], MF.box r12 77 [Rp.ptr r33 0], MF.box r33 83 [Rp.at (opR orV r mk), Rp.int .i64 lv, Rp.clo 76 [Rp.ptr r7 0, Rp.ptr r12 0], Rp.val (.map (some md))]], G.p w C)
    (hC : ∀ b ∈ feet [MF.box r7 87 [atR leaf lv], MF.box r12 77 [Rp.ptr r33 0], MF.box r33 83 [Rp.at (opR orV r mk), Rp.int .i64 lv, Rp.clo 76 [Rp.ptr r7 0, Rp.ptr r12 0], Rp.val (.map (some md))]], C b)
    (hv : (Rp.ptr r12 0).p w C v) : (Rp.at [Rp.at (bwR leaf lv r mk md)]).p w C v := by
  have c7 : C r7 := hC r7 (by simp [feet, MF.box, MF.row])
  have c12 : C r12 := hC r12 (by simp [feet, MF.box, MF.row])
  have c33 : C r33 := hC r33 (by simp [feet, MF.box, MF.row])
  have h7 := hF _ (by simp : MF.box r7 87 [atR leaf lv] ∈ _)
  have h12 := hF (MF.box r12 77 [Rp.ptr r33 0]) (by simp)
  have h33 := hF (MF.box r33 83 [Rp.at (opR orV r mk), Rp.int .i64 lv, Rp.clo 76 [Rp.ptr r7 0, Rp.ptr r12 0], Rp.val (.map (some md))]) (by simp)
  have row7 : RowAt [atR leaf lv] w C ⟨r7, 0, none⟩ := row_of h7 c7 (fun _ h => h) rfl
  have weak33 : RowAt (bw0 lv r mk md) w C ⟨r33, 0, none⟩ := row_of h33 c33 (fun vs h => by
    match vs, h with
    | [a, b, c, d], ⟨h1, h2, _, h4, h5⟩ => exact ⟨h1, h2, trivial, h4, h5⟩) rfl
  have row12 : RowAt [Rp.at (bw0 lv r mk md)] w C ⟨r12, 0, none⟩ := row_of h12 c12 (fun vs h => by
    match vs, h with
    | [a], ⟨h1, h2⟩ => exact ⟨⟨_, h1, weak33⟩, h2⟩) rfl
  have row33 : RowAt (bwR leaf lv r mk md) w C ⟨r33, 0, none⟩ := row_of h33 c33 (fun vs h => by
    match vs, h with
    | [a, b, c, d], ⟨h1, h2, ⟨caps, h3, h3'⟩, h4, h5⟩ =>
      refine ⟨h1, h2, ⟨caps, h3, ?_⟩, h4, h5⟩
      match caps, h3' with
      | [x, y], ⟨hx, hy, hz⟩ => exact ⟨⟨_, hx, row7⟩, ⟨_, hy, row12⟩, hz⟩) rfl
  have row12' : RowAt [Rp.at (bwR leaf lv r mk md)] w C ⟨r12, 0, none⟩ := row_of h12 c12 (fun vs h => by
    match vs, h with
    | [a], ⟨h1, h2⟩ => exact ⟨⟨_, h1, row33⟩, h2⟩) rfl
  exact ⟨_, hv, row12'⟩
end Go.Proofs.Ytdcmldlnhikbcaa
