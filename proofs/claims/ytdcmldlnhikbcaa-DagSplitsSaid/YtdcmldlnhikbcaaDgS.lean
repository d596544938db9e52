/- Which nodes are reached, and how many. -/
import Derived.Test.YtdcmldlnhikbcaaDgC
namespace Go.Proofs.Ytdcmldlnhikbcaa
open Go.Sim

/-- The inner nodes that are reached from a node. -/
inductive Rch (l : List Node) (f : Int) : Int → Prop
  | refl : 1 < f → Rch l f f
  | lo {p : Int} : Rch l f p → 1 < (nd l p).lo → Rch l f (nd l p).lo
  | hi {p : Int} : Rch l f p → 1 < (nd l p).hi → Rch l f (nd l p).hi
open Classical in
noncomputable def sizeD (l : List Node) (f : Int) : Int := if hasB l [f] = true then ((List.range l.length).countP (fun j => decide (Rch l f (j : Nat))) : Nat) else 0

def In (S : List (Int × Bool)) (g : Int) : Prop := (mget S g).getD false = true
structure SOk (l : List Node) (S : List (Int × Bool)) : Prop where
  tru : ∀ g b, mget S g = some b → b = true
  cnt : S.length = (List.range l.length).countP (fun j => (mget S ((j : Nat) : Int)).getD false)
structure RchOk (l : List Node) (S : List (Int × Bool)) (f : Int) (S' : List (Int × Bool)) : Prop where
  ok : SOk l S'
  mono : ∀ g, In S g → In S' g
  from_ : ∀ g, In S' g → In S g ∨ Rch l f g
  self : 1 < f → In S' f
  closed : ∀ g, In S' g → ¬ In S g → (1 < (nd l g).lo → In S' (nd l g).lo) ∧ (1 < (nd l g).hi → In S' (nd l g).hi)
def rchX (l : List Node) (S : List (Int × Bool)) (f : Int) (r5 r6 r2 m : Nat) : RA := ⟨{S' : List (Int × Bool) // RchOk l S f S'}, fun _ => Rp.tuple [],
  fun S' => [MF.box r5 74 [Rp.val (.map (some m))], MF.box r6 75 [Rp.clo 62 [Rp.ptr r5 0, Rp.ptr r6 0, Rp.ptr r2 0]], MF.box r2 24 [Rp.slice eN l], MF.map m (fun n : Int => Value.int .i64 n) (fun b => Value.bool b) S'.1]⟩

theorem in_set {S : List (Int × Bool)} {f g : Int} : In (mset S f true) g ↔ g = f ∨ In S g := by
  unfold In; rw [mget_set]
  by_cases h : g = f <;> simp [h]
theorem countP_one {p q : Nat → Bool} {k n : Nat} (hk : k < n) (hp : p k = false) (hq : q k = true) (h : ∀ j, j ≠ k → q j = p j) : (List.range n).countP q = (List.range n).countP p + 1 := by
  induction n with
  | zero => omega
  | succ n ih =>
    rw [List.range_succ, List.countP_append, List.countP_append]
    by_cases e : n = k
    · subst e
      have : (List.range n).countP q = (List.range n).countP p := by
        apply List.countP_congr
        intro x hx
        have := List.mem_range.1 hx
        rw [h x (by omega)]
      rw [this]; simp [hp, hq]
    · rw [ih (by omega)]
      have := h n e
      simp only [List.countP_cons, List.countP_nil, this]; omega
theorem sok_nil {l : List Node} : SOk l [] := ⟨fun g b h => by simp [mget_nil] at h, by simp [mget_nil]⟩
theorem sok_set {l : List Node} {S : List (Int × Bool)} (h : SOk l S) {f : Int} (hf : okNode l f) (hn : ¬ In S f) : SOk l (mset S f true) := by
  have hnone : mget S f = none := by
    cases hm : mget S f with
    | none => rfl
    | some b => exact absurd (show In S f by unfold In; rw [hm, h.tru f b hm]; rfl) hn
  refine ⟨fun g b hg => ?_, ?_⟩
  · rw [mget_set] at hg; split at hg
    · cases hg; rfl
    · exact h.tru g b hg
  · rw [mset_length, hnone]
    have hfn : ((f.toNat : Nat) : Int) = f := Int.toNat_of_nonneg hf.1
    have := countP_one (p := fun j => (mget S ((j : Nat) : Int)).getD false) (q := fun j => (mget (mset S f true) ((j : Nat) : Int)).getD false) (k := f.toNat) (n := l.length) (by have := hf.2; omega) (by simp [hfn, hnone]) (by simp [hfn, mget_set])
      (fun j hj => by simp only [mget_set]; rw [if_neg (by omega)])
    rw [this, ← h.cnt]; simp
theorem rch_none {l : List Node} {S : List (Int × Bool)} {f : Int} (h : SOk l S) (hc : ¬ (1 < f ∧ ¬ In S f)) : RchOk l S f S :=
  ⟨h, fun _ h => h, fun _ h => .inl h, fun h1 => Classical.byContradiction fun h2 => hc ⟨h1, h2⟩, fun _ h h' => absurd h h'⟩
theorem rch_trans {l : List Node} {f a : Int} (ha : Rch l f a) {g : Int} (h : Rch l a g) : Rch l f g := by
  induction h with
  | refl _ => exact ha
  | lo _ h1 ih => exact .lo ih h1
  | hi _ h1 ih => exact .hi ih h1
theorem rch_low {l : List Node} {a g : Int} (h : ¬ 1 < a) : ¬ Rch l a g := fun hr => by
  induction hr with
  | refl h1 => exact h h1
  | lo _ _ ih => exact ih
  | hi _ _ ih => exact ih
theorem rch_step {l : List Node} {S S₁ S₂ : List (Int × Bool)} {f : Int} (h1 : 1 < f) (p : RchOk l (mset S f true) (nd l f).lo S₁) (q : RchOk l S₁ (nd l f).hi S₂) : RchOk l S f S₂ := by
  have hf1 : In S₁ f := p.mono f (in_set.2 (.inl rfl))
  refine ⟨q.ok, fun g hg => q.mono g (p.mono g (in_set.2 (.inr hg))), fun g hg => ?_, fun _ => q.mono f hf1, fun g hg hn => ?_⟩
  · rcases q.from_ g hg with h | h
    · rcases p.from_ g h with h | h
      · rcases in_set.1 h with rfl | h
        · exact .inr (.refl h1)
        · exact .inl h
      · refine .inr ?_
        by_cases hl : 1 < (nd l f).lo
        · exact rch_trans (.lo (.refl h1) hl) h
        · exact absurd h (rch_low hl)
    · refine .inr ?_
      by_cases hl : 1 < (nd l f).hi
      · exact rch_trans (.hi (.refl h1) hl) h
      · exact absurd h (rch_low hl)
  · by_cases h2 : In S₁ g
    · by_cases h3 : In (mset S f true) g
      · have : g = f := (in_set.1 h3).resolve_right hn
        subst this
        exact ⟨fun hl => q.mono _ (p.self hl), fun hl => q.self hl⟩
      · have := p.closed g h2 h3
        exact ⟨fun hl => q.mono _ (this.1 hl), fun hl => q.mono _ (this.2 hl)⟩
    · exact q.closed g hg h2
theorem rch_all {l : List Node} {f : Int} {S : List (Int × Bool)} (p : RchOk l [] f S) (g : Int) : In S g ↔ Rch l f g := by
  have hnil : ∀ g, ¬ In [] g := fun g h => by simp [In, mget_nil] at h
  constructor
  · intro h; exact (p.from_ g h).resolve_left (hnil g)
  · intro h
    induction h with
    | refl h1 => exact p.self h1
    | lo _ h1 ih => exact (p.closed _ ih (hnil _)).1 h1
    | hi _ h1 ih => exact (p.closed _ ih (hnil _)).2 h1
theorem size_dfs {l : List Node} {f : Int} {S : List (Int × Bool)} (hg : Good l) (hf : okNode l f) (p : RchOk l [] f S) : (S.length : Int) = sizeD l f := by
  unfold sizeD
  rw [if_pos (has1.2 ⟨hg, hf⟩), p.ok.cnt]
  congr 1
  apply List.countP_congr
  intro j _
  have := rch_all p ((j : Nat) : Int)
  unfold In at this
  rw [this]; exact (@decide_eq_true_iff _ (Classical.propDecidable _)).symm
theorem cnt_le {l : List Node} {S : List (Int × Bool)} (h : SOk l S) : S.length ≤ l.length := by
  rw [h.cnt]
  have := List.countP_le_length (p := fun j => (mget S ((j : Nat) : Int)).getD false) (l := List.range l.length)
  simpa using this

/-! The other way: from the last node down. -/
theorem Rch.ok {l : List Node} {f g : Int} (hg : Good l) (hf : okNode l f) (h : Rch l f g) : okNode l g ∧ 1 < g := by
  induction h with
  | refl h1 => exact ⟨hf, h1⟩
  | @lo p _ h1 ih =>
    have := hg.kids ih.1 (fun e => by have := (hg.level ih.1).2.2.1 e; omega)
    exact ⟨this.1, h1⟩
  | @hi p _ h1 ih =>
    have := hg.kids ih.1 (fun e => by have := (hg.level ih.1).2.2.1 e; omega)
    exact ⟨this.2.1, h1⟩
theorem Rch.kids {l : List Node} {f g : Int} (hg : Good l) (hf : okNode l f) (h : Rch l f g) : (nd l g).lo < g ∧ (nd l g).hi < g := by
  obtain ⟨h1, h2⟩ := h.ok hg hf
  have := hg.kids h1 (fun e => by have := (hg.level h1).2.2.1 e; omega)
  exact ⟨this.2.2.1, this.2.2.2.1⟩
/-- What is marked when the nodes above i are done. -/
structure SwOk (l : List Node) (f : Int) (i : Int) (sn : List Bool) (n : Int) : Prop where
  len : sn.length = l.length
  mark : ∀ j : Nat, j < l.length → (sn.getD j default = true ↔ (j : Int) = f ∨ ∃ p, i < p ∧ Rch l f p ∧ ((j : Int) = (nd l p).lo ∨ (j : Int) = (nd l p).hi))
  cnt : n = ((List.range l.length).countP (fun j => decide (i < (j : Nat)) && @decide (Rch l f (j : Nat)) (Classical.propDecidable _)) : Nat)
theorem sw_mark {l : List Node} {f i : Int} {sn : List Bool} {n : Int} (hg : Good l) (hf : okNode l f) (h : SwOk l f i sn n) (hi : 1 < i) (hl : i < l.length) : sn.getD i.toNat default = true ↔ Rch l f i := by
  have hin : ((i.toNat : Nat) : Int) = i := Int.toNat_of_nonneg (by omega)
  rw [h.mark i.toNat (by omega), hin]
  constructor
  · rintro (rfl | ⟨p, _, hr, he | he⟩)
    · exact .refl hi
    · rw [he]; exact .lo hr (by rw [← he]; exact hi)
    · rw [he]; exact .hi hr (by rw [← he]; exact hi)
  · intro hr
    cases hr with
    | refl _ => exact .inl rfl
    | @lo p hr _ => exact .inr ⟨p, (hr.kids hg hf).1, hr, .inl rfl⟩
    | @hi p hr _ => exact .inr ⟨p, (hr.kids hg hf).2, hr, .inr rfl⟩
theorem sw_cnt {l : List Node} {f i : Int} (hi : 1 < i) (hl : i < l.length) : (List.range l.length).countP (fun j => decide (i - 1 < (j : Nat)) && @decide (Rch l f (j : Nat)) (Classical.propDecidable _)) =
    (List.range l.length).countP (fun j => decide (i < (j : Nat)) && @decide (Rch l f (j : Nat)) (Classical.propDecidable _)) + (if @decide (Rch l f i) (Classical.propDecidable _) then 1 else 0) := by
  have hin : ((i.toNat : Nat) : Int) = i := Int.toNat_of_nonneg (by omega)
  by_cases hr : Rch l f i
  · simp only [hr, decide_true, if_true]
    refine countP_one (k := i.toNat) (by omega) (by simp [hin]) (by simp [hin, hr]; omega) fun j hj => ?_
    have : decide (i - 1 < (j : Nat)) = decide (i < (j : Nat)) := by rw [Bool.eq_iff_iff]; simp; omega
    rw [this]
  · simp only [hr, decide_false, Bool.false_eq_true, if_false, Nat.add_zero]
    apply List.countP_congr
    intro j _
    by_cases e : (j : Int) = i
    · rw [e]; simp [hr]
    · have : decide (i - 1 < (j : Nat)) = decide (i < (j : Nat)) := by rw [Bool.eq_iff_iff]; simp; omega
      rw [this]
theorem sw_no {l : List Node} {f i : Int} {sn : List Bool} {n : Int} (hg : Good l) (hf : okNode l f) (h : SwOk l f i sn n) (hi : 1 < i) (hl : i < l.length) (hm : sn.getD i.toNat default = false) : SwOk l f (i - 1) sn n := by
  have hr : ¬ Rch l f i := fun hr => by rw [(sw_mark hg hf h hi hl).2 hr] at hm; cases hm
  refine ⟨h.len, fun j hj => ?_, ?_⟩
  · rw [h.mark j hj]
    refine or_congr Iff.rfl ⟨fun ⟨p, h1, h2⟩ => ⟨p, by omega, h2⟩, fun ⟨p, h1, h2⟩ => ⟨p, ?_, h2⟩⟩
    by_cases e : p = i
    · subst e; exact absurd h2.1 hr
    · omega
  · rw [h.cnt, sw_cnt hi hl]; simp [hr]
theorem getD_set {l : List Bool} {i j : Nat} (b : Bool) (hi : i < l.length) : (l.set i b).getD j default = if i = j then b else l.getD j default := by
  simp only [List.getD_eq_getElem?_getD, List.getElem?_set]
  by_cases e : i = j
  · subst e; simp [hi]
  · simp [e]
theorem sw_yes {l : List Node} {f i : Int} {sn : List Bool} {n : Int} (hg : Good l) (hf : okNode l f) (h : SwOk l f i sn n) (hi : 1 < i) (hl : i < l.length) (hm : sn.getD i.toNat default = true) :
    SwOk l f (i - 1) ((sn.set (nd l i).lo.toNat true).set (nd l i).hi.toNat true) (n + 1) := by
  have hr := (sw_mark hg hf h hi hl).1 hm
  have ho := (hr.ok hg hf).1
  have hk := hg.kids ho (fun e => by have := (hg.level ho).2.2.1 e; omega)
  have o1 := hk.1; have o2 := hk.2.1
  unfold okNode at o1 o2
  refine ⟨by simp [h.len], fun j hj => ?_, ?_⟩
  · rw [getD_set _ (by simp [h.len]; omega), getD_set _ (by rw [h.len]; omega)]
    have hm := h.mark j hj
    constructor
    · intro hh
      split at hh
      · rename_i e; exact .inr ⟨i, by omega, hr, .inr (by omega)⟩
      · split at hh
        · rename_i e; exact .inr ⟨i, by omega, hr, .inl (by omega)⟩
        · exact (hm.1 hh).imp id fun ⟨p, h1, h2⟩ => ⟨p, by omega, h2⟩
    · intro hh
      split
      · rfl
      · split
        · rfl
        · rename_i n1 n2
          refine hm.2 (hh.imp id fun ⟨p, h1, h2, h3⟩ => ⟨p, ?_, h2, h3⟩)
          by_cases e : p = i
          · subst e
            rcases h3 with h3 | h3
            · exact absurd (show (nd l p).lo.toNat = j by omega) n2
            · exact absurd (show (nd l p).hi.toNat = j by omega) n1
          · omega
  · rw [h.cnt, sw_cnt hi hl]; simp [hr]
theorem sw_begin {l : List Node} {f : Int} (hg : Good l) (hf : okNode l f) : SwOk l f ((l.length : Int) - 1) ((List.replicate l.length false).set f.toNat true) 0 := by
  have h1 := hf.1; have h2 := hf.2
  refine ⟨by simp, fun j hj => ?_, ?_⟩
  · rw [getD_set _ (by simp; omega)]
    constructor
    · intro h
      split at h
      · exact .inl (by omega)
      · simp [List.getD_eq_getElem?_getD, hj] at h
    · rintro (h | ⟨p, h3, h4, _⟩)
      · rw [if_pos (by omega)]
      · have := (h4.ok hg hf).1.2; omega
  · have : (List.range l.length).countP (fun j => decide ((l.length : Int) - 1 < (j : Nat)) && @decide (Rch l f (j : Nat)) (Classical.propDecidable _)) = 0 := by
      rw [List.countP_eq_zero]
      intro j hj
      have := List.mem_range.1 hj
      simp; omega
    rw [this]; rfl
theorem sw_n {l : List Node} {f i : Int} {sn : List Bool} {n : Int} (h : SwOk l f i sn n) : 0 ≤ n ∧ n ≤ l.length := by
  have h1 := h.cnt
  have h2 := List.countP_le_length (p := fun j => (decide (i < ((j : Nat) : Int)) && @decide (Rch l f (j : Nat)) (Classical.propDecidable _))) (l := List.range l.length)
  simp only [List.length_range] at h2
  omega
theorem sw_end {l : List Node} {f i : Int} {sn : List Bool} {n : Int} (hg : Good l) (hf : okNode l f) (h : SwOk l f i sn n) (hi : ¬ 1 < i) : n = sizeD l f := by
  unfold sizeD
  rw [if_pos (has1.2 ⟨hg, hf⟩), h.cnt]
  congr 1
  apply List.countP_congr
  intro j _
  simp only [Bool.and_eq_true, decide_eq_true_eq]
  exact ⟨fun h => h.2, fun hr => ⟨by have := (hr.ok hg hf).2; omega, hr⟩⟩
end Go.Proofs.Ytdcmldlnhikbcaa
