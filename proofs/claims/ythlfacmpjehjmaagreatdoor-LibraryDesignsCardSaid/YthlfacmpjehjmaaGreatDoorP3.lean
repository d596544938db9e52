/- Lemmas for the claim, part 3: rules for walks, contracts of functions, the data they compute. No conditions. -/
import Derived.Test.YthlfacmpjehjmaaGreatDoorP1
import Derived.Test.YthlfacmpjehjmaaGreatDoorP2
import Derived.Test.YthlfacmpjehjmaaGreatDoorProg
import Derived.KernelRfl
/- A region whose order is open, with one change of which some operations of the head are free: they may come behind it. -/
namespace Go.Sim

def flags (m : Nat) (l : List Oper) : List Bool := (List.range m).map fun j => !((masks l []).getD m 0).testBit j
def anyB1 (m : Nat) (l : List Oper) : Bool :=
  let ms := masks l []
  let ops := l.toArray
  decide (m < l.length) &&
  l.zipIdx.all (fun x => x.1.after.toList.all fun e => !Region.binds .any e || decide (e.on < x.2)) &&
  (List.range m).all (fun k => (List.range m).all fun j => j == k || pairOk ops ms k j) &&
  (List.range l.length).all (fun t => decide (t ≤ m) || (List.range t).all fun j => (ms.getD t 0).testBit j)

inductive Head1 (P : Program) (n : Nat) (ops : Array Oper) (M Mf : List MF) : List Oper → List (Nat × Rp) → List HE → List Bool → Prop
  | nil {S : List (Nat × Rp)} : Head1 P n ops M Mf [] S [] []
  | one {o : Oper} {rest : List Oper} {S : List (Nat × Rp)} {R : Rp} {d : Nat} {Hs : List HE} {bs : List Bool} (hd : o.dst = some d) (hlt : Nat.blt d n = true) (hs : GSpec P ops (res (names ops o) S) M o (.one R))
      (h : Head1 P n ops M Mf rest ((d, R) :: S) Hs bs) : Head1 P n ops M Mf (o :: rest) S (⟨some d, .one R, R, fun _ _ _ _ h => h⟩ :: Hs) (false :: bs)
  | flo {o : Oper} {rest : List Oper} {S : List (Nat × Rp)} {R : Rp} {d : Nat} {Hs : List HE} {bs : List Bool} (hd : o.dst = some d) (hlt : Nat.blt d n = true) (hs : GSpec P ops (res (names ops o) S) Mf o (.one R))
      (h : Head1 P n ops M Mf rest ((d, R) :: S) Hs bs) : Head1 P n ops M Mf (o :: rest) S (⟨some d, .one R, R, fun _ _ _ _ h => h⟩ :: Hs) (true :: bs)
  | sink {o : Oper} {rest : List Oper} {S : List (Nat × Rp)} {A : RA} {d : Nat} {Hs : List HE} {bs : List Bool} (hd : o.dst = some d) (hlt : Nat.blt d n = true) (hs : GSpec P ops (res (names ops o) S) M o A)
      (h : Head1 P n ops M Mf rest ((d, Rp.any) :: S) Hs bs) : Head1 P n ops M Mf (o :: rest) S (⟨some d, A, Rp.any, fun _ _ _ _ _ => trivial⟩ :: Hs) (false :: bs)

/-- What is known behind the head: the free ones' facts apart. -/
def Fin1 (K : List (Nat × Rp) → List MF → List (Nat × Rp) → Prop) : List HE → List Bool → List (Nat × Rp) → List MF → List (Nat × Rp) → Prop
  | h :: hs, true :: bs, S, M, F => Fin1 K hs bs S M (putS h.dst h.T F)
  | h :: hs, false :: bs, S, M, F => ∀ i, Fin1 K hs bs (putS h.dst (h.A.R i) S) (h.A.F i ++ M) F
  | _, _, S, M, F => K S M F
theorem Fin1.one {K} {S : List (Nat × Rp)} {M : List MF} {F : List (Nat × Rp)} {d : Nat} {R : Rp} {le} {Hs : List HE} {bs : List Bool} (h : Fin1 K Hs bs ((d, R) :: S) M F) : Fin1 K (⟨some d, .one R, R, le⟩ :: Hs) (false :: bs) S M F := fun _ => h
theorem Fin1.flo {K} {S : List (Nat × Rp)} {M : List MF} {F : List (Nat × Rp)} {d : Nat} {R : Rp} {le} {Hs : List HE} {bs : List Bool} (h : Fin1 K Hs bs S M ((d, R) :: F)) : Fin1 K (⟨some d, .one R, R, le⟩ :: Hs) (true :: bs) S M F := h
theorem Fin1.sink {K} {S : List (Nat × Rp)} {M : List MF} {F : List (Nat × Rp)} {d : Nat} {A : RA} {T : Rp} {le} {Hs : List HE} {bs : List Bool} (h : ∀ i, Fin1 K Hs bs ((d, A.R i) :: S) (A.F i ++ M) F) : Fin1 K (⟨some d, A, T, le⟩ :: Hs) (false :: bs) S M F := h
theorem Fin1.nil {K} {S : List (Nat × Rp)} {M : List MF} {F : List (Nat × Rp)} (h : K S M F) : Fin1 K [] [] S M F := h

section
variable {P : Program} {B : Base} {n : Nat} {S : List (Nat × Rp)} {M Mf : List MF} {Q : Exit → Act → World → Prop}

theorem look_append {t : Nat} : ∀ (A C : List (Nat × Rp)), look t (A ++ C) = (look t A).or (look t C)
  | [], C => by simp [look]
  | (d, R) :: A, C => by
    by_cases h : d = t
    · subst h; rw [List.cons_append, look_cons_eq, look_cons_eq]; rfl
    · rw [List.cons_append, look_cons_ne h, look_cons_ne h, look_append A C]

theorem Sub.push {d : Nat} {R : Rp} (h : look d S = none) : Sub ((d, R) :: S) S := fun t R' h' => by
  by_cases e : d = t
  · subst e; rw [h] at h'; cases h'
  · exact ⟨R', by rw [look_cons_ne e]; exact h', fun _ _ _ h => h⟩
/-- Behind the change: the free ones that are left, then the rest. -/
def Aft (P : Program) (B : Base) (n : Nat) (ops : Array Oper) (Mf : List MF) (S₀ F X : List (Nat × Rp)) (rest : List Oper) (Q : Exit → Act → World → Prop) (e : Exit) (a : Act) (w : World) : Prop :=
  e = .normal ∧ ∃ S₁ M₁ C, St B n (S₁ ++ X) M₁ a w C ∧ Sub S₁ S₀ ∧ Pick M₁ Mf ∧ (∀ d R, look d F = some R → look d S₁ = none) ∧ L P B n (S₁ ++ F) M₁ ops rest Q
theorem Aft.next {ops : Array Oper} {S₀ F X : List (Nat × Rp)} {rest : List Oper} (S₁ : List (Nat × Rp)) {M₁ : List MF} (hs : Sub S₁ S₀) (hp : Pick M₁ Mf) (hf : (F.all fun x => (look x.1 S₁).isNone) = true) (h : L P B n (S₁ ++ F) M₁ ops rest Q) :
    N B n (S₁ ++ X) M₁ .normal (Aft P B n ops Mf S₀ F X rest Q) := fun a w C st => ⟨rfl, S₁, M₁, C, st, hs, hp, fun d R hd => by
  have hmem : ∀ (F : List (Nat × Rp)), look d F = some R → ∃ x ∈ F, x.1 = d := by
    intro F
    induction F with
    | nil => intro h; simp [look] at h
    | cons y F ih =>
      intro h
      by_cases hy : y.1 = d
      · exact ⟨y, by simp, hy⟩
      · obtain ⟨d', R'⟩ := y
        rw [look_cons_ne hy] at h
        obtain ⟨x, hx, h2⟩ := ih h
        exact ⟨x, by simp [hx], h2⟩
  obtain ⟨x, hx, rfl⟩ := hmem F hd
  simpa using List.all_eq_true.1 hf x hx, h⟩

/-- The contexts of those that are not free; the facts of the free ones; of those of them that are done. -/
def ctxN (S : List (Nat × Rp)) (H : Nat → HE) (fl : Nat → Bool) (s : Sel H) : Nat → List (Nat × Rp)
  | 0 => S
  | k + 1 => if fl k then ctxN S H fl s k else match s k with
    | some i => putS (H k).dst ((H k).A.R i) (ctxN S H fl s k)
    | none => ctxN S H fl s k
def ctxF (H : Nat → HE) (fl : Nat → Bool) : Nat → List (Nat × Rp)
  | 0 => []
  | k + 1 => if fl k then putS (H k).dst (H k).T (ctxF H fl k) else ctxF H fl k
def ctxX (H : Nat → HE) (fl : Nat → Bool) (s : Sel H) : Nat → List (Nat × Rp)
  | 0 => []
  | k + 1 => if fl k then (match s k with
    | some _ => putS (H k).dst (H k).T (ctxX H fl s k)
    | none => ctxX H fl s k) else ctxX H fl s k

theorem ctxN_congr {H : Nat → HE} {fl : Nat → Bool} {s s' : Sel H} : ∀ m, (∀ j, j < m → fl j = false → s j = s' j) → ctxN S H fl s m = ctxN S H fl s' m
  | 0, _ => rfl
  | m + 1, h => by
    simp only [ctxN]
    cases hf : fl m with
    | true => simp only [if_true]; exact ctxN_congr m fun j hj => h j (by omega)
    | false => simp only [Bool.false_eq_true, if_false]; rw [h m (by omega) hf, ctxN_congr m fun j hj => h j (by omega)]
theorem ctxX_full {H : Nat → HE} {fl : Nat → Bool} {s : Sel H} : ∀ m, (∀ j, j < m → fl j = true → s j ≠ none) → ctxX H fl s m = ctxF H fl m
  | 0, _ => rfl
  | m + 1, h => by
    simp only [ctxX, ctxF]
    cases hf : fl m with
    | true =>
      simp only [if_true]
      cases hs : s m with
      | none => exact absurd hs (h m (by omega) hf)
      | some i => simp only; rw [ctxX_full m fun j hj => h j (by omega)]
    | false => simp only [Bool.false_eq_true, if_false]; exact ctxX_full m fun j hj => h j (by omega)

/-- Nobody else writes what a free one writes. -/
structure Free (S : List (Nat × Rp)) (H : Nat → HE) (fl : Nat → Bool) (m : Nat) : Prop where
  one : ∀ k, k < m → fl k = true → ∀ i, (H k).A.R i = (H k).T ∧ (H k).A.F i = []
  sole : ∀ k j t, k < m → j < m → fl k = true → j ≠ k → (H k).dst = some t → (H j).dst ≠ some t
  fresh : ∀ k t, k < m → fl k = true → (H k).dst = some t → look t S = none

theorem look_ctxN_free {H : Nat → HE} {fl : Nat → Bool} {s : Sel H} {m : Nat} (hf : Free S H fl m) {k t : Nat} (hk : k < m) (hfl : fl k = true) (hd : (H k).dst = some t) : ∀ n, n ≤ m → look t (ctxN S H fl s n) = none
  | 0, _ => hf.fresh k t hk hfl hd
  | n + 1, hn => by
    have ih := look_ctxN_free (s := s) hf hk hfl hd n (by omega)
    simp only [ctxN]
    cases h : fl n with
    | true => simp only [if_true]; exact ih
    | false =>
      simp only [Bool.false_eq_true, if_false]
      cases s n with
      | none => exact ih
      | some i =>
        simp only
        rw [look_putS_ne (hf.sole k n t hk (by omega) hfl (fun e => by subst e; rw [hfl] at h; cases h) hd)]; exact ih
theorem look_ctxX {H : Nat → HE} {fl : Nat → Bool} {s : Sel H} {t : Nat} {R : Rp} : ∀ m, look t (ctxX H fl s m) = some R → ∃ k, k < m ∧ fl k = true ∧ (H k).dst = some t ∧ s k ≠ none ∧ R = (H k).T
  | 0, h => by simp [ctxX, look] at h
  | m + 1, h => by
    simp only [ctxX] at h
    have ih : look t (ctxX H fl s m) = some R → _ := look_ctxX m
    cases hfl : fl m with
    | false => rw [hfl] at h; simp only [Bool.false_eq_true, if_false] at h; obtain ⟨k, h1, h2⟩ := ih h; exact ⟨k, by omega, h2⟩
    | true =>
      rw [hfl] at h; simp only [if_true] at h
      cases hs : s m with
      | none => rw [hs] at h; obtain ⟨k, h1, h2⟩ := ih h; exact ⟨k, by omega, h2⟩
      | some i =>
        rw [hs] at h; simp only at h
        by_cases hd : (H m).dst = some t
        · simp only [hd, putS, look_cons_eq, Option.some.injEq] at h
          exact ⟨m, by omega, hfl, hd, by rw [hs]; simp, h.symm⟩
        · rw [look_putS_ne hd] at h; obtain ⟨k, h1, h2⟩ := ih h; exact ⟨k, by omega, h2⟩
theorem look_ctxX_of {H : Nat → HE} {fl : Nat → Bool} {s : Sel H} {m : Nat} (hf : Free S H fl m) {k t : Nat} (hk : k < m) (hfl : fl k = true) (hd : (H k).dst = some t) (hs : s k ≠ none) : ∀ n, n ≤ m → k < n → look t (ctxX H fl s n) = some (H k).T
  | 0, _, h => by omega
  | n + 1, hn, hkn => by
    simp only [ctxX]
    by_cases e : n = k
    · subst e
      cases hsn : s n with
      | none => exact absurd hsn hs
      | some i => simp only [hfl, if_true, hd, putS, look_cons_eq]
    · have ih := look_ctxX_of hf hk hfl hd hs n (by omega) (by omega)
      cases fl n with
      | false => simp only [Bool.false_eq_true, if_false]; exact ih
      | true =>
        simp only [if_true]
        cases s n with
        | none => exact ih
        | some i => simp only; rw [look_putS_ne (hf.sole k n t hk (by omega) hfl e hd)]; exact ih
/-- A slot that no free one writes. -/
theorem look_ctxS_nf {H : Nat → HE} {fl : Nat → Bool} {s : Sel H} {t : Nat} : ∀ m, (∀ k, k < m → fl k = true → (H k).dst ≠ some t) → look t (ctxS S H s m) = look t (ctxN S H fl s m)
  | 0, _ => rfl
  | m + 1, h => by
    have ih := look_ctxS_nf (s := s) m fun k hk => h k (by omega)
    simp only [ctxS, ctxN]
    cases hfl : fl m with
    | true =>
      simp only [if_true]
      cases s m with
      | none => exact ih
      | some i => simp only; rw [look_putS_ne (h m (by omega) hfl)]; exact ih
    | false =>
      simp only [Bool.false_eq_true, if_false]
      cases s m with
      | none => exact ih
      | some i =>
        simp only
        by_cases hd : (H m).dst = some t
        · simp only [hd, putS, look_cons_eq]
        · rw [look_putS_ne hd, look_putS_ne hd]; exact ih
/-- A slot that a free one writes. -/
theorem look_ctxS_free {H : Nat → HE} {fl : Nat → Bool} {s : Sel H} {m : Nat} (hf : Free S H fl m) {k t : Nat} (hk : k < m) (hfl : fl k = true) (hd : (H k).dst = some t) :
    look t (ctxS S H s m) = if s k = none then none else some (H k).T := by
  cases hs : s k with
  | none =>
    rw [look_ctxS_from (k := 0) m (by omega) (fun j _ hj hdj => by
      by_cases e : j = k
      · subst e; exact hs
      · exact absurd hdj (hf.sole k j t hk hj hfl e hd))]
    simp only [if_true]; exact hf.fresh k t hk hfl hd
  | some i =>
    rw [look_ctxS_from (k := k + 1) m (by omega) (fun j h1 hj hdj => absurd hdj (hf.sole k j t hk hj hfl (by omega) hd))]
    simp only [ctxS, hs, hd, putS, look_cons_eq, (hf.one k hk hfl i).1]
    simp

theorem sub_split {H : Nat → HE} {fl : Nat → Bool} {s : Sel H} {m : Nat} (hf : Free S H fl m) : Sub (ctxS S H s m) (ctxN S H fl s m ++ ctxX H fl s m) := by
  intro t R h
  rw [look_append] at h
  cases hn : look t (ctxN S H fl s m) with
  | some R' =>
    rw [hn] at h; simp at h; subst h
    rw [look_ctxS_nf (fl := fl) m (fun k hk hfl hd => by rw [look_ctxN_free hf hk hfl hd m (Nat.le_refl _)] at hn; cases hn)]
    exact ⟨_, hn, fun _ _ _ h => h⟩
  | none =>
    rw [hn] at h; simp at h
    obtain ⟨k, hk, hfl, hd, hs, rfl⟩ := look_ctxX m h
    refine ⟨(H k).T, ?_, fun _ _ _ h => h⟩
    rw [look_ctxS_free hf hk hfl hd, if_neg hs]

theorem fin1_full {K} {H : Nat → HE} {fl : Nat → Bool} {s : Sel H} {m : Nat} (hf : Free S H fl m) : ∀ (Hs : List HE) (bs : List Bool) (k : Nat) (S' : List (Nat × Rp)) (M' : List MF) (F' : List (Nat × Rp)), Hs.length = bs.length → k + Hs.length = m → (∀ j, j < Hs.length → Hs[j]? = some (H (k + j))) →
    (∀ j, j < bs.length → bs[j]? = some (fl (k + j))) → (∀ j, j < Hs.length → fl (k + j) = false → s (k + j) ≠ none) →
    S' = ctxN S H fl s k → M' = ctxM M H s k → F' = ctxF H fl k → Fin1 K Hs bs S' M' F' → K (ctxN S H fl s m) (ctxM M H s m) (ctxF H fl m) := by
  intro Hs
  induction Hs with
  | nil =>
    intro bs k S' M' F' hl hkm _ _ _ hS hM hF h
    have : bs = [] := List.eq_nil_of_length_eq_zero (by simpa using hl.symm)
    subst this
    have : k = m := by simpa using hkm
    subst this; subst hS; subst hM; subst hF; exact h
  | cons h hs ih =>
    intro bs k S' M' F' hl hkm hH hb hs' hS hM hF h'
    cases bs with
    | nil => simp at hl
    | cons b bs =>
      have h0 := hH 0 (by simp)
      simp only [List.getElem?_cons_zero, Nat.add_zero, Option.some.injEq] at h0
      subst h0
      have hb0 := hb 0 (by simp)
      simp only [List.getElem?_cons_zero, Nat.add_zero, Option.some.injEq] at hb0
      have hstep : ∀ (S₂ : List (Nat × Rp)) (M₂ : List MF) (F₂ : List (Nat × Rp)), S₂ = ctxN S H fl s (k + 1) → M₂ = ctxM M H s (k + 1) → F₂ = ctxF H fl (k + 1) → Fin1 K hs bs S₂ M₂ F₂ → K (ctxN S H fl s m) (ctxM M H s m) (ctxF H fl m) := fun S₂ M₂ F₂ e1 e2 e3 hK =>
        ih bs (k + 1) S₂ M₂ F₂ (by simpa using hl) (by simp only [List.length_cons] at hkm; omega) (fun j hj => by have := hH (j + 1) (by simp; omega); rw [show k + 1 + j = k + (j + 1) by omega]; simpa using this)
          (fun j hj => by have := hb (j + 1) (by simp; omega); rw [show k + 1 + j = k + (j + 1) by omega]; simpa using this)
          (fun j hj => by have := hs' (j + 1) (by simp; omega); rwa [show k + 1 + j = k + (j + 1) by omega]) e1 e2 e3 hK
      have hkm' : k < m := by simp only [List.length_cons] at hkm; omega
      cases b with
      | true =>
        have hfl := hb0.symm
        refine hstep S' M' (putS (H k).dst (H k).T F') ?_ ?_ ?_ h'
        · simp only [ctxN, hfl, if_true]; exact hS
        · simp only [ctxM]
          cases hsk : s k with
          | none => exact hM
          | some i => simp only [(hf.one k hkm' hfl i).2, List.nil_append]; exact hM
        · simp only [ctxF, hfl, if_true]; rw [hF]
      | false =>
        have hfl := hb0.symm
        cases hsk : s k with
        | none => exact absurd hsk (hs' 0 (by simp) hfl)
        | some i =>
          refine hstep _ _ F' ?_ ?_ ?_ (h' i)
          · simp only [ctxN, hfl, Bool.false_eq_true, if_false, hsk, hS]
          · simp only [ctxM, hsk, hM]
          · simp only [ctxF, hfl, Bool.false_eq_true, if_false, hF]

theorem head1_spec {ops : Array Oper} : ∀ (l : List Oper) (S : List (Nat × Rp)) (Hs : List HE) (bs : List Bool), Head1 P n ops M Mf l S Hs bs →
    Hs.length = l.length ∧ bs.length = l.length ∧ ∀ k o, l[k]? = some o → ∃ h b, Hs[k]? = some h ∧ bs[k]? = some b ∧ o.dst = h.dst ∧ (∀ d, h.dst = some d → d < n) ∧ (b = true → ∀ i, h.A.R i = h.T ∧ h.A.F i = []) ∧
      ∀ (H : Nat → HE), (∀ j, j < l.length → Hs[j]? = some (H j)) → GSpec P ops (res (names ops o) (ctxT S H k)) (if b then Mf else M) o h.A := by
  intro l S Hs bs h
  have key : ∀ {o : Oper} {rest : List Oper} {S : List (Nat × Rp)} {d : Nat} {Hs : List HE} {bs : List Bool} {h0 : HE} {b0 : Bool}, o.dst = some d → h0.dst = some d → Nat.blt d n = true → (b0 = true → ∀ i, h0.A.R i = h0.T ∧ h0.A.F i = []) → GSpec P ops (res (names ops o) S) (if b0 then Mf else M) o h0.A →
      (Hs.length = rest.length ∧ bs.length = rest.length ∧ ∀ k o, rest[k]? = some o → ∃ h b, Hs[k]? = some h ∧ bs[k]? = some b ∧ o.dst = h.dst ∧ (∀ d, h.dst = some d → d < n) ∧ (b = true → ∀ i, h.A.R i = h.T ∧ h.A.F i = []) ∧
        ∀ (H : Nat → HE), (∀ j, j < rest.length → Hs[j]? = some (H j)) → GSpec P ops (res (names ops o) (ctxT (putS (some d) h0.T S) H k)) (if b then Mf else M) o h.A) →
      ((h0 :: Hs).length = (o :: rest).length ∧ (b0 :: bs).length = (o :: rest).length ∧ ∀ k o', (o :: rest)[k]? = some o' → ∃ h b, (h0 :: Hs)[k]? = some h ∧ (b0 :: bs)[k]? = some b ∧ o'.dst = h.dst ∧ (∀ d, h.dst = some d → d < n) ∧ (b = true → ∀ i, h.A.R i = h.T ∧ h.A.F i = []) ∧
        ∀ (H : Nat → HE), (∀ j, j < (o :: rest).length → (h0 :: Hs)[j]? = some (H j)) → GSpec P ops (res (names ops o') (ctxT S H k)) (if b then Mf else M) o' h.A) := by
    intro o rest S d Hs bs h0 b0 hd hd0 hlt hone hs ⟨ih1, ih2, ih3⟩
    refine ⟨by simp [ih1], by simp [ih2], fun k o' ho => ?_⟩
    cases k with
    | zero =>
      simp only [List.getElem?_cons_zero, Option.some.injEq] at ho
      subst ho
      exact ⟨h0, b0, rfl, rfl, hd.trans hd0.symm, fun d' hd' => by rw [hd0] at hd'; cases hd'; simpa [Nat.blt_eq] using hlt, hone, fun H hH => hs⟩
    | succ k =>
      obtain ⟨h', b', hh', hb', h1, h2, h3, h4⟩ := ih3 k o' (by simpa using ho)
      refine ⟨h', b', by simpa using hh', by simpa using hb', h1, h2, h3, fun H hH => ?_⟩
      have h00 := hH 0 (by simp)
      simp only [List.getElem?_cons_zero, Option.some.injEq] at h00
      have := h4 (fun j => H (j + 1)) (fun j hj => by have := hH (j + 1) (by simp; omega); simpa using this)
      rw [ctxT_shift, ← h00, hd0]; exact this
  induction h with
  | nil => exact ⟨rfl, rfl, fun k o h => by simp at h⟩
  | one hd hlt hs _ ih => exact key hd rfl hlt (fun h => by cases h) (by simpa using hs) ih
  | flo hd hlt hs _ ih => exact key hd rfl hlt (fun _ i => ⟨rfl, rfl⟩) (by simpa using hs) ih
  | sink hd hlt hs _ ih => exact key hd rfl hlt (fun h => by cases h) (by simpa using hs) ih

/-- What a region's flags say. -/
structure Reg (l : List Oper) (m : Nat) (fl : Nat → Bool) : Prop where
  lt : m < l.length
  back : ∀ k o, l[k]? = some o → ∀ e ∈ o.after, Region.binds .any e = true → e.on < k
  pair : ∀ k j, k < m → j < m → j ≠ k → pairOk l.toArray (masks l []) k j = true
  last : ∀ t, m + 1 ≤ t → t < l.length → ∀ j, j < t → ((masks l []).getD t 0).testBit j = true
  bit : ∀ j, j < m → fl j = !((masks l []).getD m 0).testBit j

theorem reg_of {l : List Oper} {m : Nat} (hB : anyB1 m l = true) {fl : Nat → Bool} (hfl : ∀ j, j < m → fl j = !((masks l []).getD m 0).testBit j) : Reg l m fl where
  lt := by simp only [anyB1, Bool.and_eq_true, decide_eq_true_eq] at hB; exact hB.1.1.1
  back := by
    intro k o ho e he hb
    simp only [anyB1, Bool.and_eq_true, List.all_eq_true, Bool.or_eq_true, Bool.not_eq_true', decide_eq_true_eq] at hB
    have := hB.1.1.2 (o, k) (List.mem_zipIdx_iff_getElem?.2 (by simpa using ho)) e (by simpa using he)
    exact this.resolve_left (by simp [hb])
  pair := by
    intro k j hk hj hjk
    simp only [anyB1, Bool.and_eq_true, List.all_eq_true, List.mem_range, Bool.or_eq_true, beq_iff_eq] at hB
    exact (hB.1.2 k hk j hj).resolve_left hjk
  last := by
    intro t hmt ht j hj
    simp only [anyB1, Bool.and_eq_true, List.all_eq_true, List.mem_range, Bool.or_eq_true, decide_eq_true_eq] at hB
    exact (hB.2 t ht).resolve_left (by omega) j hj
  bit := hfl

/-- What is done is closed under what comes before. -/
def Closed (l : List Oper) (listed : Array Bool) : Prop := ∀ k o, l[k]? = some o → listed.getD k false = true → ∀ e ∈ o.after, Region.binds .any e = true → listed.getD e.on false = true

theorem closed_set {l : List Oper} {listed : Array Bool} {k : Nat} {o : Oper} (h : Closed l listed) (ho : l[k]? = some o) (hall : ∀ e ∈ o.after, Region.binds .any e = true → listed.getD e.on false = true) : Closed l (listed.setIfInBounds k true) := by
  intro k' o' ho'' hl' e he' hb
  by_cases hkk : k' = k
  · subst hkk
    rw [ho] at ho''; cases ho''
    exact getD_set_true (hall e he' hb)
  · rw [getD_set_ne false (Ne.symm hkk)] at hl'
    exact getD_set_true (h k' o' ho'' hl' e he' hb)
theorem count_set {listed : Array Bool} {k N : Nat} (hkls : k < listed.size) (hk1 : listed.getD k true = false) (hk : k < N) :
    (List.range N).countP (fun j => !listed.getD j true) = (List.range N).countP (fun j => !(listed.setIfInBounds k true).getD j true) + 1 := by
  induction N with
  | zero => omega
  | succ N ihN =>
    rw [List.range_succ, List.countP_append, List.countP_append]
    by_cases hNk : N = k
    · subst hNk
      have h2 : (List.range N).countP (fun j => !listed.getD j true) = (List.range N).countP (fun j => !(listed.setIfInBounds N true).getD j true) := by
        apply List.countP_congr
        intro x hx
        have : x ≠ N := by have := List.mem_range.1 hx; omega
        rw [getD_set_ne true (Ne.symm this)]
      have h3 : (listed.setIfInBounds N true).getD N true = true := by simp [hkls]
      rw [h2]
      simp only [List.countP_cons, List.countP_nil, hk1, h3]
      simp
    · rw [ihN (by omega)]
      have : (listed.setIfInBounds k true).getD N true = listed.getD N true := getD_set_ne true (Ne.symm hNk)
      simp only [List.countP_cons, List.countP_nil, this]
      omega

/-- Who writes what an operation of the head names, or writes, is ordered with it. -/
theorem ordered {l : List Oper} {m : Nat} {fl : Nat → Bool} {H : Nat → HE} {s : Sel H} {listed : Array Bool} (hr : Reg l m fl) (hcl : Closed l listed) (hls : ∀ j, j < m → (listed.getD j false = true ↔ s j ≠ none))
    (hdstj : ∀ j, j < m → ∃ oj, l[j]? = some oj ∧ oj.dst = (H j).dst) {k : Nat} {o : Oper} (hkm : k < m) (ho : l[k]? = some o) (hk1 : listed.getD k true = false) (hall : ∀ e ∈ o.after, Region.binds .any e = true → listed.getD e.on false = true) :
    ∀ t, (t ∈ names l.toArray o ∨ o.dst = some t) → ∀ j, j < m → j ≠ k → (H j).dst = some t → (j < k → s j ≠ none) ∧ (k < j → s j = none) := by
  intro t ht j hj hjk hdj
  obtain ⟨oj, hoj, hdoj⟩ := hdstj j hj
  have hp := hr.pair k j hkm hj hjk
  unfold pairOk at hp
  simp only [List.getElem?_toArray, ho, hoj, hdoj, hdj] at hp
  have hnm : ((names l.toArray o).contains t || o.dst == some t) = true := by
    rcases ht with ht | ht
    · simp [ht]
    · simp [ht]
  rw [hnm] at hp
  simp only [Bool.not_true, Bool.false_or] at hp
  constructor
  · intro hlt'
    rw [if_pos hlt'] at hp
    exact (hls j hj).1 (masks_listed (listed := fun k => listed.getD k false) hcl ho (fun e he hb => hall e he hb) hp)
  · intro hlt'
    rw [if_neg (by omega)] at hp
    cases hsj : s j with
    | none => rfl
    | some i =>
      exfalso
      have hlj : listed.getD j false = true := (hls j hj).2 (by rw [hsj]; simp)
      have hk3 : listed.getD k false = true := masks_listed (listed := fun k => listed.getD k false) hcl hoj (fun e he hb => hcl j oj hoj hlj e he hb) hp
      rw [getD_both hk1] at hk3; cases hk3

/-- The facts on what an operation of the head names. -/
theorem named {H : Nat → HE} {s : Sel H} {m k : Nat} {ns : List Nat} (hkm : k < m) (hsk : s k = none) (hord : ∀ t, t ∈ ns → ∀ j, j < m → j ≠ k → (H j).dst = some t → (j < k → s j ≠ none) ∧ (k < j → s j = none))
    {t : Nat} {R : Rp} (ht : res ns (ctxT S H k) t = some R) : t ∈ ns ∧ ∃ R', look t (ctxS S H s m) = some R' ∧ ∀ w C v, R'.p w C v → R.p w C v := by
  unfold res at ht
  cases hc : ns.contains t with
  | false => rw [hc] at ht; simp at ht
  | true =>
    rw [hc] at ht
    simp only [cond_true] at ht
    have htm : t ∈ ns := by simpa using hc
    obtain ⟨R', h1, h2⟩ := look_ctxT (S := S) (H := H) (s := s) (t := t) k (fun j hj hd => (hord t htm j (by omega) (by omega) hd).1 hj) R ht
    refine ⟨htm, R', ?_, h2⟩
    rw [look_ctxS_from (k := k) m (by omega) (fun j h3 h4 hd => ?_)]
    · exact h1
    · by_cases hjk : j = k
      · subst hjk; exact hsk
      · exact (hord t htm j h4 hjk hd).2 (by omega)

theorem count_tail {listed : Array Bool} {t : Nat} (h1 : ∀ j, j < t → listed.getD j true = true) : ∀ N, t ≤ N → (∀ j, t ≤ j → j < N → listed.getD j true = false) → (List.range N).countP (fun j => !listed.getD j true) = N - t := by
  intro N
  induction N with
  | zero => intro _ _; simp
  | succ N ih =>
    intro hN h2
    rcases Nat.lt_or_ge N t with h | h
    · have : t = N + 1 := by omega
      subst this
      rw [Nat.sub_self, List.countP_eq_zero]
      intro j hj
      rw [h1 j (List.mem_range.1 hj)]; simp
    · rw [List.range_succ, List.countP_append, ih h fun j h3 h4 => h2 j h3 (by omega)]
      simp only [List.countP_cons, List.countP_nil, h2 N h (by omega)]
      simp; omega
theorem getD_true {listed : Array Bool} {j : Nat} (h : listed.getD j false = true) : listed.getD j true = true := by
  rcases Nat.lt_or_ge j listed.size with h' | h'
  · simp [h'] at h ⊢; exact h
  · simp [Array.getElem?_eq_none h'] at h
theorem getD_false_of {listed : Array Bool} {j : Nat} (hj : j < listed.size) (h : ¬ (listed.getD j false = true)) : listed.getD j true = false := by
  simp [hj] at h ⊢; exact h
theorem least {p : Nat → Prop} {m : Nat} (h : ¬ ∀ j, j < m → p j) : ∃ k, k < m ∧ ¬ p k ∧ ∀ j, j < k → p j := by
  induction m with
  | zero => exact absurd (fun j hj => by omega) h
  | succ m ih =>
    by_cases hm : ∀ j, j < m → p j
    · refine ⟨m, by omega, fun hp => h fun j hj => ?_, hm⟩
      rcases Nat.lt_or_ge j m with h1 | h1
      · exact hm j h1
      · have : j = m := by omega
        subst this; exact hp
    · obtain ⟨k, h1, h2⟩ := ih hm
      exact ⟨k, by omega, h2⟩

/-- Behind the change: the free ones that are left, in any order, then the tail. -/
theorem any_after {l : List Oper} {m : Nat} {fl : Nat → Bool} {H : Nat → HE} (hr : Reg l m fl) (hf : Free S H fl m)
    (hsp : ∀ k o, k < m → l[k]? = some o → o.dst = (H k).dst ∧ (∀ d, (H k).dst = some d → d < n) ∧ GSpec P l.toArray (res (names l.toArray o) (ctxT S H k)) (if fl k then Mf else M) o (H k).A)
    {S₁ : List (Nat × Rp)} {M₁ : List MF} (hp : Pick M₁ Mf) (hL : L P B n (S₁ ++ ctxF H fl m) M₁ l.toArray (l.drop (m + 1)) Q) (hno : ∀ k t, k < m → fl k = true → (H k).dst = some t → look t S₁ = none) :
    ∀ (f : Nat) (listed : Array Bool) (s : Sel H) (a : Act) (w : World) (C : Nat → Prop), listed.size = l.length →
      (∀ j, j < m → (listed.getD j false = true ↔ s j ≠ none)) → listed.getD m false = true → (∀ j, m + 1 ≤ j → j < l.length → listed.getD j true = false) → Closed l listed →
      ((List.range l.length).countP (fun j => !listed.getD j true) = f) → (∀ j, j < m → fl j = false → s j ≠ none) → Sub S₁ (ctxN S H fl s m) →
      St B n (S₁ ++ ctxX H fl s m) M₁ a w C → wpAny P .any l.toArray Q f listed a w := by
  have hdstj : ∀ j, j < m → ∃ oj, l[j]? = some oj ∧ oj.dst = (H j).dst := by
    intro j hj
    have hjl : j < l.length := by have := hr.lt; omega
    exact ⟨l[j], by simp [hjl], (hsp j l[j] hj (by simp [hjl])).1⟩
  intro f
  induction f with
  | zero =>
    intro listed s a w C hsz hls hlm htail hcl hcount hnf hsub st
    have hall : ∀ j, j < l.length → listed.getD j true = true := by
      intro j hj
      have := List.countP_eq_zero.1 hcount j (List.mem_range.2 hj)
      simpa using this
    have hml : m + 1 = l.length := by
      have := hr.lt
      rcases Nat.lt_or_ge (m + 1) l.length with h | h
      · have h1 := htail (m + 1) (Nat.le_refl _) h
        rw [hall _ h] at h1; cases h1
      · omega
    have hdone : ∀ j, j < m → s j ≠ none := fun j hj => by
      refine (hls j hj).1 ?_
      have := hall j (by omega)
      have hjl : j < listed.size := by omega
      simp [hjl] at this ⊢; exact this
    rw [ctxX_full m fun j hj _ => hdone j hj] at st
    refine any_tail_of (m := m + 1) hr.last hr.back 0 (m + 1) listed a w (by omega) (Nat.le_refl _) hsz (fun j hj => ?_) htail (hL a w C st)
    rcases Nat.lt_or_ge j m with h | h
    · exact (hls j h).2 (hdone j h)
    · have : j = m := by omega
      subst this; exact hlm
  | succ f ih =>
    intro listed s a w C hsz hls hlm htail hcl hcount hnf hsub st
    by_cases hfull : ∀ j, j < m → s j ≠ none
    · have hdn : ∀ j, j < m + 1 → listed.getD j false = true := fun j hj => by
        rcases Nat.lt_or_ge j m with h | h
        · exact (hls j h).2 (hfull j h)
        · have : j = m := by omega
          subst this; exact hlm
      rw [ctxX_full m fun j hj _ => hfull j hj] at st
      refine any_tail_of (m := m + 1) hr.last hr.back (f + 1) (m + 1) listed a w ?_ (Nat.le_refl _) hsz hdn htail (hL a w C st)
      rw [← hcount, count_tail (fun j hj => getD_true (hdn j hj)) _ (by have := hr.lt; omega) htail]
      have := hr.lt; omega
    · obtain ⟨k₀, hk₀m, hk₀n, hk₀l⟩ := least hfull
      have hr₀ : k₀ ∈ Region.ready .any l.toArray listed := by
        have hk₀ll : k₀ < l.length := by have := hr.lt; omega
        refine mem_ready.2 ⟨getD_false_of (by omega) fun h => hk₀n ((hls k₀ hk₀m).1 h), l[k₀], by simp [hk₀ll], fun e he hb => ?_⟩
        have := hr.back k₀ l[k₀] (by simp [hk₀ll]) e he hb
        exact (hls e.on (by omega)).2 (hk₀l _ this)
      refine ⟨fun h0 => (by rw [h0] at hr₀; cases hr₀), fun k hk => ?_⟩
      obtain ⟨hk1, o, ho, hall⟩ := mem_ready.1 hk
      have ho' : l[k]? = some o := by simpa using ho
      have hkl : k < l.length := (List.getElem?_eq_some_iff.1 ho').1
      have hkm : k < m := by
        rcases Nat.lt_trichotomy k m with h | h | h
        · exact h
        · subst h; rw [getD_both hk1] at hlm; cases hlm
        · have := masks_listed (listed := fun k => listed.getD k false) hcl ho' (fun e he hb => hall e he hb) (hr.last k h hkl k₀ (by omega))
          exact absurd ((hls k₀ hk₀m).1 this) hk₀n
      have hsk : s k = none := by
        cases hs : s k with
        | none => rfl
        | some i =>
          have := (hls k hkm).2 (by rw [hs]; simp)
          rw [getD_both hk1] at this; cases this
      have hflk : fl k = true := by
        cases h : fl k with
        | true => rfl
        | false => exact absurd hsk (hnf k hkm h)
      obtain ⟨hdst, hlt, hgs⟩ := hsp k o hkm ho'
      rw [hflk] at hgs; simp only [if_true] at hgs
      have hord := ordered hr hcl hls hdstj hkm ho' hk1 hall
      have hslots : SlotsOk (res (names l.toArray o) (ctxT S H k)) a w C := by
        intro t R ht
        obtain ⟨htm, R', h1, h2⟩ := named (S := S) (s := s) hkm hsk (fun t ht => hord t (.inl ht)) ht
        refine h2 _ _ _ ?_
        by_cases hfree : ∃ g, g < m ∧ fl g = true ∧ (H g).dst = some t
        · obtain ⟨g, hg, hflg, hdg⟩ := hfree
          rw [look_ctxS_free hf hg hflg hdg] at h1
          by_cases hsg : s g = none
          · rw [if_pos hsg] at h1; cases h1
          · rw [if_neg hsg] at h1
            cases h1
            refine st.slots t _ ?_
            show look t (S₁ ++ ctxX H fl s m) = _
            rw [look_append, hno g t hg hflg hdg, look_ctxX_of hf hg hflg hdg hsg m (Nat.le_refl _) hg]; rfl
        · rw [look_ctxS_nf (fl := fl) m fun g hg hflg hdg => hfree ⟨g, hg, hflg, hdg⟩] at h1
          obtain ⟨R₀, h3, h4⟩ := hsub t R' h1
          refine h4 _ _ _ (st.slots t R₀ ?_)
          show look t (S₁ ++ ctxX H fl s m) = _
          rw [look_append, h3]; rfl
      have hmem : MOk Mf w C := st.mem.pick hp
      have hop := hgs a w C (fun a' w' => wpAny P .any l.toArray Q f (listed.setIfInBounds k true) a' w') Q hslots hmem (fun i v w' C' he hwf hv hn => ?_)
      · unfold wpOp
        simp only [ho]
        split
        · rename_i hw; rw [if_pos hw] at hop; exact .inl hop
        · rename_i hw; rw [if_neg hw] at hop; exact hop
      · have hkls : k < listed.size := by omega
        have hFR := hf.one k hkm hflk i
        refine ih (listed.setIfInBounds k true) (s.set k i) _ _ C' (by simp [hsz]) ?_ (getD_set_true hlm) ?_ (closed_set hcl ho' hall) ?_ ?_ ?_ ?_
        · intro j hj
          by_cases hjk : j = k
          · subst hjk; simp [set_self, hkls]
          · rw [set_other s i hjk, getD_set_ne false (Ne.symm hjk)]; exact hls j hj
        · intro j h1 h2; rw [getD_set_ne true (by omega)]; exact htail j h1 h2
        · have := count_set hkls hk1 hkl; omega
        · intro j hj hflj
          rw [set_other s i (fun e => by subst e; rw [hflk] at hflj; cases hflj)]; exact hnf j hj hflj
        · rw [ctxN_congr (s' := s) m fun j hj hflj => set_other s i (fun e => by subst e; rw [hflk] at hflj; cases hflj)]; exact hsub
        · rw [hFR.2] at hn
          rw [hFR.1] at hv
          have hst := st.step (dst := o.dst) (fun d hd => hlt d (by rw [← hdst]; exact hd)) he hwf hv hn
          refine St.sub ?_ hst
          intro t R ht
          rw [look_append] at ht
          cases hd : (H k).dst with
          | none =>
            rw [hdst, hd]
            refine ⟨R, ?_, fun _ _ _ h => h⟩
            show look t (S₁ ++ ctxX H fl s m) = _
            rw [look_append]
            cases h1 : look t S₁ with
            | some R' => rw [h1] at ht; exact ht
            | none =>
              rw [h1] at ht; simp at ht ⊢
              obtain ⟨g, hg, hflg, hdg, hsg, rfl⟩ := look_ctxX m ht
              refine look_ctxX_of hf hg hflg hdg ?_ m (Nat.le_refl _) hg
              rwa [set_other s i (fun e => by subst e; rw [hd] at hdg; cases hdg)] at hsg
          | some d =>
            rw [hdst, hd]
            refine ⟨R, ?_, fun _ _ _ h => h⟩
            show look t ((d, (H k).T) :: (S₁ ++ ctxX H fl s m)) = _
            by_cases hdt : d = t
            · subst hdt
              rw [look_cons_eq]
              rw [hno k d hkm hflk hd, look_ctxX_of hf hkm hflk hd (by rw [set_self]; simp) m (Nat.le_refl _) hkm] at ht
              exact ht
            · rw [look_cons_ne hdt, look_append]
              cases h1 : look t S₁ with
              | some R' => rw [h1] at ht; exact ht
              | none =>
                rw [h1] at ht; simp at ht ⊢
                obtain ⟨g, hg, hflg, hdg, hsg, rfl⟩ := look_ctxX m ht
                refine look_ctxX_of hf hg hflg hdg ?_ m (Nat.le_refl _) hg
                rwa [set_other s i (fun e => by subst e; rw [hd] at hdg; cases hdg; exact hdt rfl)] at hsg

theorem wp_monoQ {o : Oper} {a : Act} {w : World} {K K' : Act → World → Prop} {Q' : Exit → Act → World → Prop} (h : ∀ a w, K a w → K' a w) (hq : ∀ e a w, e ≠ .normal → Q e a w → Q' e a w)
    (hh : o.wp P a w K Q) : o.wp P a w K' Q' := by
  have hout : LetsOut Q → LetsOut Q' := fun ⟨a, w, h⟩ => ⟨a, w, hq _ _ _ (by simp) h⟩
  unfold Oper.wp at *
  generalize (execOp a.eval o).run P w = r at *
  cases r with
  | ok n w' =>
    cases n <;> simp only [Oper.upon] at hh ⊢ <;>
      first
        | exact h _ _ hh
        | exact Calls.mono hh (fun e w'' he => by cases e <;> first | exact h _ _ he | exact hq _ _ _ (by simp) he | exact hout he)
        | exact Rows.mono hh (fun _ _ he => h _ _ he)
  | halt x w' => cases x <;> simp only [Oper.upon] at hh ⊢ <;> exact hq _ _ _ (by simp) hh

/-- The head, in any order, and the change, wherever it stands. -/
theorem any_head1 {l : List Oper} {m : Nat} {o₁ : Oper} {fl : Nat → Bool} {H : Nat → HE} (hr : Reg l m fl) (hf : Free S H fl m) (ho₁ : l[m]? = some o₁) (hpM : Pick M Mf)
    (hsp : ∀ k o, k < m → l[k]? = some o → o.dst = (H k).dst ∧ (∀ d, (H k).dst = some d → d < n) ∧ GSpec P l.toArray (res (names l.toArray o) (ctxT S H k)) (if fl k then Mf else M) o (H k).A)
    (hK : ∀ s : Sel H, (∀ j, j < m → fl j = false → s j ≠ none) → ∀ X, L P B n (ctxN S H fl s m ++ X) (ctxM M H s m) l.toArray [o₁] (Aft P B n l.toArray Mf (ctxN S H fl s m) (ctxF H fl m) X (l.drop (m + 1)) Q)) :
    ∀ (f : Nat) (listed : Array Bool) (s : Sel H) (a : Act) (w : World) (C : Nat → Prop), listed.size = l.length →
      (∀ j, j < m → (listed.getD j false = true ↔ s j ≠ none)) → (∀ j, m ≤ j → j < l.length → listed.getD j true = false) → Closed l listed →
      ((List.range l.length).countP (fun j => !listed.getD j true) = f) →
      St B n (ctxS S H s m) (ctxM M H s m) a w C → wpAny P .any l.toArray Q f listed a w := by
  have hml := hr.lt
  have hdstj : ∀ j, j < m → ∃ oj, l[j]? = some oj ∧ oj.dst = (H j).dst := by
    intro j hj
    have hjl : j < l.length := by omega
    exact ⟨l[j], by simp [hjl], (hsp j l[j] hj (by simp [hjl])).1⟩
  intro f
  induction f with
  | zero =>
    intro listed s a w C hsz hls htail hcl hcount st
    have := List.countP_eq_zero.1 hcount m (List.mem_range.2 hml)
    rw [htail m (Nat.le_refl _) hml] at this
    simp at this
  | succ f ih =>
    intro listed s a w C hsz hls htail hcl hcount st
    -- something is ready
    have hne : Region.ready .any l.toArray listed ≠ [] := by
      intro h0
      by_cases hfull : ∀ j, j < m → s j ≠ none
      · have : m ∈ Region.ready .any l.toArray listed := by
          refine mem_ready.2 ⟨htail m (Nat.le_refl _) hml, o₁, by simpa using ho₁, fun e he hb => ?_⟩
          have := hr.back m o₁ ho₁ e he hb
          exact (hls e.on this).2 (hfull _ this)
        rw [h0] at this; cases this
      · obtain ⟨k₀, hk₀m, hk₀n, hk₀l⟩ := least hfull
        have : k₀ ∈ Region.ready .any l.toArray listed := by
          have hk₀ll : k₀ < l.length := by omega
          refine mem_ready.2 ⟨getD_false_of (by omega) fun h => hk₀n ((hls k₀ hk₀m).1 h), l[k₀], by simp [hk₀ll], fun e he hb => ?_⟩
          have := hr.back k₀ l[k₀] (by simp [hk₀ll]) e he hb
          exact (hls e.on (by omega)).2 (hk₀l _ this)
        rw [h0] at this; cases this
    refine ⟨fun h0 => absurd h0 hne, fun k hk => ?_⟩
    obtain ⟨hk1, o, ho, hall⟩ := mem_ready.1 hk
    have ho' : l[k]? = some o := by simpa using ho
    have hkl : k < l.length := (List.getElem?_eq_some_iff.1 ho').1
    have hkls : k < listed.size := by omega
    rcases Nat.lt_trichotomy k m with hkm | hkm | hkm
    · -- one of the head
      have hsk : s k = none := by
        cases hs : s k with
        | none => rfl
        | some i =>
          have := (hls k hkm).2 (by rw [hs]; simp)
          rw [getD_both hk1] at this; cases this
      obtain ⟨hdst, hlt, hgs⟩ := hsp k o hkm ho'
      have hord := ordered hr hcl hls hdstj hkm ho' hk1 hall
      have hslots : SlotsOk (res (names l.toArray o) (ctxT S H k)) a w C := by
        intro t R ht
        obtain ⟨htm, R', h1, h2⟩ := named (S := S) (s := s) hkm hsk (fun t ht => hord t (.inl ht)) ht
        exact h2 _ _ _ (st.slots t R' h1)
      have hmemM : MOk M w C := by
        obtain ⟨R, hR⟩ := ctxM_pick (M := M) (H := H) (s := s) m
        exact (st.mem.perm hR).left
      have hmem : MOk (if fl k then Mf else M) w C := by
        split
        · exact hmemM.pick hpM
        · exact hmemM
      have hop := hgs a w C (fun a' w' => wpAny P .any l.toArray Q f (listed.setIfInBounds k true) a' w') Q hslots hmem (fun i v w' C' he hwf hv hn => ?_)
      · unfold wpOp
        simp only [ho]
        split
        · rename_i hw; rw [if_pos hw] at hop; exact .inl hop
        · rename_i hw; rw [if_neg hw] at hop; exact hop
      · refine ih (listed.setIfInBounds k true) (s.set k i) _ _ C' (by simp [hsz]) ?_ ?_ (closed_set hcl ho' hall) ?_ ?_
        · intro j hj
          by_cases hjk : j = k
          · subst hjk; simp [set_self, hkls]
          · rw [set_other s i hjk, getD_set_ne false (Ne.symm hjk)]; exact hls j hj
        · intro j h1 h2; rw [getD_set_ne true (by omega)]; exact htail j h1 h2
        · have := count_set hkls hk1 hkl; omega
        · have hst := st.step (dst := o.dst) (fun d hd => hlt d (by rw [← hdst]; exact hd)) he hwf hv hn
          refine ⟨hst.size, hst.defers, ?_, hst.mem.perm (ctxM_set hsk m hkm).symm, hst.eff, ?_⟩
          · intro t R ht
            have hl := look_set (S := S) (H := H) (s := s) (k := k) (m := m) (t := t) (i := i) hkm hsk
            by_cases hd : (H k).dst = some t
            · have h1 := hl.1 hd (fun j h2 h3 h4 => (hord t (.inr (by rw [hdst]; exact hd)) j h3 (by omega) h4).2 h2)
              simp only at ht
              rw [h1] at ht
              have h2 := hst.slots t ((H k).A.R i) (by rw [hdst, hd]; exact look_cons_eq)
              cases ht; exact h2
            · have h1 := hl.2 hd
              simp only at ht
              rw [h1] at ht
              exact hst.slots t R (by
                show look t (putS o.dst _ _) = some R
                rw [look_putS_ne (by rw [hdst]; exact hd)]; exact ht)
          · intro b hb
            exact hst.since b ((feet_perm (ctxM_set hsk m hkm)).mem_iff.1 hb)
    · -- the change
      subst hkm
      rw [ho₁] at ho'; cases ho'
      have hnf : ∀ j, j < k → fl j = false → s j ≠ none := by
        intro j hj hflj
        have hb := hr.bit j hj
        rw [hflj] at hb
        have hb' : ((masks l []).getD k 0).testBit j = true := by simpa using hb.symm
        exact (hls j hj).1 (masks_listed (listed := fun k => listed.getD k false) hcl ho₁ (fun e he hb => hall e he hb) hb')
      have hL := hK s hnf (ctxX H fl s k) a w C (st.sub (sub_split hf))
      have hnext : ∀ a' w', Aft P B n l.toArray Mf (ctxN S H fl s k) (ctxF H fl k) (ctxX H fl s k) (l.drop (k + 1)) Q .normal a' w' → wpAny P .any l.toArray Q f (listed.setIfInBounds k true) a' w' := by
        intro a' w' ⟨_, S₁, M₁, C', st', hsub, hp, hno, hLr⟩
        refine any_after hr hf hsp hp hLr (fun j t hj hflj hdj => ?_) f _ s a' w' C' (by simp [hsz]) ?_ (by simp [hkls]) ?_ (closed_set hcl ho₁ hall) ?_ hnf hsub st'
        · have hFm : ∀ N, j < N → N ≤ k → ∃ R, look t (ctxF H fl N) = some R := by
            intro N
            induction N with
            | zero => intro h; omega
            | succ N ihN =>
              intro h1 h2
              simp only [ctxF]
              by_cases e : N = j
              · subst e; rw [hflj]; simp only [if_true, hdj, putS]; exact ⟨_, look_cons_eq⟩
              · obtain ⟨R, hR⟩ := ihN (by omega) (by omega)
                cases fl N with
                | false => simp only [Bool.false_eq_true, if_false]; exact ⟨R, hR⟩
                | true =>
                  simp only [if_true]
                  by_cases hdN : (H N).dst = some t
                  · rw [hdN]; exact ⟨_, look_cons_eq⟩
                  · rw [look_putS_ne hdN]; exact ⟨R, hR⟩
          obtain ⟨R, hR⟩ := hFm k hj (Nat.le_refl _)
          exact hno t R hR
        · intro j hj; rw [getD_set_ne false (by omega)]; exact hls j hj
        · intro j h1 h2; rw [getD_set_ne true (by omega)]; exact htail j (by omega) h2
        · have := count_set hkls hk1 hkl; omega
      have hq : ∀ (e : Exit) (a : Act) (w : World), e ≠ .normal → Aft P B n l.toArray Mf (ctxN S H fl s k) (ctxF H fl k) (ctxX H fl s k) (l.drop (k + 1)) Q e a w → Q e a w := fun e a w hne h => absurd h.1 hne
      unfold wpOp
      simp only [ho]
      simp only [wpList] at hL
      split
      · rename_i hw
        rw [if_pos hw] at hL
        refine hL.imp (wp_monoQ hnext hq) (fun h => ⟨h.1, ?_⟩)
        obtain ⟨a', w', h'⟩ := h.2
        exact absurd h'.1 (by simp)
      · rename_i hw
        rw [if_neg hw] at hL
        exact hnext _ _ hL
    · -- behind the change
      exfalso
      have h1 := masks_listed (listed := fun k => listed.getD k false) hcl ho' (fun e he hb => hall e he hb) (hr.last k hkm hkl m hkm)
      have h2 := htail m (Nat.le_refl _) hml
      rw [getD_both h2] at h1; cases h1

/-- What a free one writes is written by nobody else and was not known. -/
def freeB (S : List (Nat × Rp)) (Hs : List HE) (bs : List Bool) : Bool :=
  (List.range Hs.length).all fun k => !bs.getD k false || match (Hs[k]?).bind HE.dst with
    | some d => (S.all fun x => x.1 != d) && (List.range Hs.length).all fun j => j == k || (Hs[j]?).bind HE.dst != some d
    | none => true

theorem look_none {t : Nat} : ∀ S : List (Nat × Rp), (S.all fun x => x.1 != t) = true → look t S = none
  | [], _ => rfl
  | (d, R) :: S, h => by
    simp only [List.all_cons, Bool.and_eq_true, bne_iff_ne, ne_eq] at h
    rw [look_cons_ne h.1]; exact look_none S h.2

theorem W.any1 {id : Nat} {l : List Oper} {o₁ : Oper} (m : Nat) {Hs : List HE} {bs : List Bool} (hm : P.follows .mixedOrders = true) (hB : anyB1 m l = true) (hfl : flags m l = bs) (ho₁ : l[m]? = some o₁) (hpM : Pick M Mf)
    (hH : Head1 P n l.toArray M Mf (l.take m) S Hs bs) (hfr : freeB S Hs bs = true)
    (hK : Fin1 (fun S₀ M₀ F => ∀ X, L P B n (S₀ ++ X) M₀ l.toArray [o₁] (Aft P B n l.toArray Mf S₀ F X (l.drop (m + 1)) Q)) Hs bs S M []) : W P B n S M (.region id l.toArray true) Q := by
  intro a w C st
  refine wp_region_any hm ?_
  obtain ⟨hlen, hblen, hspec⟩ := head1_spec _ _ _ _ hH
  let fl : Nat → Bool := fun k => bs.getD k false
  have hbit : ∀ j, j < m → fl j = !((masks l []).getD m 0).testBit j := by
    intro j hj
    show bs.getD j false = _
    rw [← hfl]
    simp [flags, List.getD_eq_getElem?_getD, hj]
  have hr := reg_of hB hbit
  have hml := hr.lt
  have hlen' : Hs.length = m := by rw [hlen]; simp; omega
  have hblen' : bs.length = m := by rw [hblen]; simp; omega
  let H : Nat → HE := fun j => Hs.getD j ⟨none, .one Rp.any, Rp.any, fun _ _ _ _ h => h⟩
  have hHs : ∀ j, j < m → Hs[j]? = some (H j) := fun j hj => by
    have : j < Hs.length := by omega
    simp [H, this]
  have hbs : ∀ j, j < m → bs[j]? = some (fl j) := fun j hj => by
    have : j < bs.length := by omega
    simp [fl, this]
  have hsp : ∀ k o, k < m → l[k]? = some o → o.dst = (H k).dst ∧ (∀ d, (H k).dst = some d → d < n) ∧ (fl k = true → ∀ i, (H k).A.R i = (H k).T ∧ (H k).A.F i = []) ∧ GSpec P l.toArray (res (names l.toArray o) (ctxT S H k)) (if fl k then Mf else M) o (H k).A := by
    intro k o hk ho
    obtain ⟨h, b, hh, hb, h1, h2, h3, h4⟩ := hspec k o (by rw [List.getElem?_take]; simp [hk, ho])
    have e1 : h = H k := by have := hHs k hk; rw [hh] at this; simpa using this
    have e2 : b = fl k := by have := hbs k hk; rw [hb] at this; simpa using this
    subst e1; subst e2
    exact ⟨h1, h2, h3, h4 H (fun j hj => hHs j (by simp at hj; omega))⟩
  have hlk : ∀ k, k < m → ∃ o, l[k]? = some o := fun k hk => ⟨l[k], List.getElem?_eq_getElem (by omega)⟩
  have hfreeB : ∀ k t, k < m → fl k = true → (H k).dst = some t → (S.all fun x => x.1 != t) = true ∧ ∀ j, j < m → j ≠ k → (H j).dst ≠ some t := by
    intro k t hk hflk hd
    have := List.all_eq_true.1 hfr k (List.mem_range.2 (by omega))
    have e1 : bs.getD k false = true := hflk
    rw [e1, hHs k hk] at this
    simp only [Bool.not_true, Bool.false_or, Option.bind_some, hd, Bool.and_eq_true] at this
    refine ⟨this.1, fun j hj hjk hdj => ?_⟩
    have h2 := List.all_eq_true.1 this.2 j (List.mem_range.2 (by omega))
    rw [hHs j hj] at h2
    simp [hjk, hdj] at h2
  have hf : Free S H fl m := ⟨fun k hk hflk i => by
      obtain ⟨o, ho⟩ := hlk k hk
      exact (hsp k o hk ho).2.2.1 hflk i, fun k j t hk hj hflk hjk hd => (hfreeB k t hk hflk hd).2 j hj hjk, fun k t hk hflk hd => look_none S (hfreeB k t hk hflk hd).1⟩
  have hK' : ∀ s : Sel H, (∀ j, j < m → fl j = false → s j ≠ none) → ∀ X, L P B n (ctxN S H fl s m ++ X) (ctxM M H s m) l.toArray [o₁] (Aft P B n l.toArray Mf (ctxN S H fl s m) (ctxF H fl m) X (l.drop (m + 1)) Q) := by
    intro s hnf
    exact fin1_full (K := fun S₀ M₀ F => ∀ X, L P B n (S₀ ++ X) M₀ l.toArray [o₁] (Aft P B n l.toArray Mf S₀ F X (l.drop (m + 1)) Q)) (S := S) (M := M) (s := s) hf Hs bs 0 S M [] (by omega) (by omega) (fun j hj => by rw [Nat.zero_add]; exact hHs j (by omega))
      (fun j hj => by rw [Nat.zero_add]; exact hbs j (by omega)) (fun j hj h => by rw [Nat.zero_add] at h ⊢; exact hnf j (by omega) h) rfl rfl rfl hK
  have hsel : ∀ k, ctxS S H (fun _ => none) k = S := by
    intro k; induction k with
    | zero => rfl
    | succ k ih => simp only [ctxS]; exact ih
  have hselM : ∀ k, ctxM M H (fun _ => none) k = M := by
    intro k; induction k with
    | zero => rfl
    | succ k ih => simp only [ctxM]; exact ih
  have hrep : ∀ j d, j < l.length → (Array.replicate l.toArray.size false).getD j d = false := by
    intro j d hj; simp [hj]
  refine any_head1 hr hf ho₁ hpM (fun k o hk ho => ⟨(hsp k o hk ho).1, (hsp k o hk ho).2.1, (hsp k o hk ho).2.2.2⟩) hK' l.toArray.size _ (fun _ => none) a _ C (by simp) ?_ ?_ ?_ ?_ (by rw [hsel, hselM]; exact st.drew)
  · intro j hj
    rw [hrep j false (by omega)]; simp
  · intro j _ hj; exact hrep j true hj
  · intro k o ho hl
    rw [hrep k false (List.getElem?_eq_some_iff.1 ho).1] at hl; cases hl
  · rw [count_tail (t := 0) (fun j hj => by omega) _ (Nat.zero_le _) fun j _ hj => hrep j true hj]
    simp
end
end Go.Sim
/- The types of chapter 33, as the walk's rules want them. -/
set_option linter.unusedVariables false
namespace Go.Proofs.YthlfacmpjehjmaaGreatDoor
open Go.Sim

inductive Ex where
  | mk (op n : Int) (name : List UInt8) (args : List Ex)
def Ex.op : Ex → Int | .mk a _ _ _ => a
def Ex.n : Ex → Int | .mk _ a _ _ => a
def Ex.name : Ex → List UInt8 | .mk _ _ a _ => a
def Ex.args : Ex → List Ex | .mk _ _ _ a => a
instance : Inhabited Ex := ⟨.mk 0 0 [] []⟩
structure Pt where
  name : List UInt8
  width : Int
  deriving DecidableEq, Inhabited
structure Wr where
  name : List UInt8
  width : Int
  expr : Ex
  deriving Inhabited
structure Rg where
  name : List UInt8
  width : Int
  init : Int
  next : Ex
  deriving Inhabited
structure Ds where
  name : List UInt8
  inputs : List Pt
  wires : List Wr
  regs : List Rg
  outputs : List (List UInt8)
  deriving Inhabited
structure Sg where
  name : List UInt8
  val : Int
  deriving DecidableEq, Inhabited
structure Rw where
  v : Bool
  ready : Bool
  t : Int
  a : Int
  b : Int
  deriving DecidableEq, Inhabited
structure Pl where
  kind : Int
  n : Int
  width : Int
  rows : List Rw
  deriving DecidableEq, Inhabited
structure Wv where
  names : List (List UInt8)
  rows : List (List Int)
  deriving DecidableEq, Inhabited
mutual
def eXc : Ex → List Rp
  | .mk op n nm args => [Rp.int .i64 op, Rp.int .i64 n, Rp.str nm, Rp.slice (fun r : List Rp => r) (eXl args)]
def eXl : List Ex → List (List Rp)
  | [] => []
  | a :: r => eXc a :: eXl r
end
def _root_.Go.Sim.Rp.exs (l : List Ex) : Rp := Rp.slice (fun r : List Rp => r) (eXl l)
def eX (e : Ex) : List Rp := [Rp.int .i64 e.op, Rp.int .i64 e.n, Rp.str e.name, Rp.exs e.args]
theorem eXc_eq (e : Ex) : eXc e = eX e := by cases e; simp only [eXc, eX, Rp.exs, Ex.op, Ex.n, Ex.name, Ex.args]
theorem eXl_eq : ∀ l : List Ex, eXl l = l.map eX
  | [] => by simp only [eXl, List.map_nil]
  | a :: r => by simp only [eXl, List.map_cons, eXc_eq, eXl_eq r]
theorem exs_eq (l : List Ex) : Rp.exs l = Rp.slice eX l := by unfold Rp.exs; rw [eXl_eq, slice_map]
def eUb (b : UInt8) : List Rp := [Rp.int .u8 (b.toNat : Int)]
def eP (p : Pt) : List Rp := [Rp.str p.name, Rp.int .i64 p.width]
def eWr (w : Wr) : List Rp := [Rp.str w.name, Rp.int .i64 w.width, Rp.int .i64 w.expr.op, Rp.int .i64 w.expr.n, Rp.str w.expr.name, Rp.exs w.expr.args]
def eRg (r : Rg) : List Rp := [Rp.str r.name, Rp.int .i64 r.width, Rp.int .i64 r.init, Rp.int .i64 r.next.op, Rp.int .i64 r.next.n, Rp.str r.next.name, Rp.exs r.next.args]
def eD (d : Ds) : List Rp := [Rp.str d.name, Rp.slice eP d.inputs, Rp.slice eWr d.wires, Rp.slice eRg d.regs, Rp.slice eS d.outputs]
def eSg (s : Sg) : List Rp := [Rp.str s.name, Rp.int .i64 s.val]
def eSS (l : List Sg) : List Rp := [Rp.slice eSg l]
def eRw (r : Rw) : List Rp := [Rp.bool r.v, Rp.bool r.ready, Rp.int .u8 r.t, Rp.int .u8 r.a, Rp.int .u8 r.b]
def eII (l : List Int) : List Rp := [Rp.slice eI l]
def eWv (w : Wv) : List Rp := [Rp.slice eS w.names, Rp.slice eII w.rows]
theorem Ex.ind {p : Ex → Prop} (h : ∀ e, (∀ a ∈ e.args, p a) → p e) : ∀ e, p e
  | .mk op n nm args => h _ fun a ha => Ex.ind h a
termination_by e => SizeOf.sizeOf e
decreasing_by
  have := List.sizeOf_lt_of_mem ha
  simp only [Ex.args] at this
  simp only [Ex.mk.sizeOf_spec]; omega
theorem mixed : Tryz.prog.follows .mixedOrders = true := by kernel_rfl
theorem ti3 : TI Tryz.prog 3 1 8 (.int .i64 0) := ⟨⟨Tryz.t3, by kernel_rfl, by kernel_rfl, by kernel_rfl, by kernel_rfl⟩⟩
theorem z3 (w : World) (C : Nat → Prop) : AllR [Rp.int .i64 0] w C (Value.int .i64 0).cells.toList := allR_of rfl ⟨zint rfl w C, trivial⟩
theorem ti4 : TI Tryz.prog 4 1 1 (.bool false) := ⟨⟨Tryz.t4, by kernel_rfl, by kernel_rfl, by kernel_rfl, by kernel_rfl⟩⟩
theorem z4 (w : World) (C : Nat → Prop) : AllR [Rp.bool false] w C (Value.bool false).cells.toList := allR_of rfl ⟨zbool w C, trivial⟩
theorem ti9 : TI Tryz.prog 9 1 16 (.string ⟨#[]⟩) := ⟨⟨Tryz.t9, by kernel_rfl, by kernel_rfl, by kernel_rfl, by kernel_rfl⟩⟩
theorem z9 (w : World) (C : Nat → Prop) : AllR [Rp.str []] w C (Value.string ⟨#[]⟩).cells.toList := allR_of rfl ⟨zstr w C, trivial⟩
theorem ti27 : TI Tryz.prog 27 5 112 (.agg #[.string ⟨#[]⟩, .slice none 0 0, .slice none 0 0, .slice none 0 0, .slice none 0 0]) := ⟨⟨Tryz.t27, by kernel_rfl, by kernel_rfl, by kernel_rfl, by kernel_rfl⟩⟩
theorem z27 (w : World) (C : Nat → Prop) : AllR [Rp.str [], Rp.slice eP [], Rp.slice eWr [], Rp.slice eRg [], Rp.slice eS []] w C (Value.agg #[.string ⟨#[]⟩, .slice none 0 0, .slice none 0 0, .slice none 0 0, .slice none 0 0]).cells.toList := allR_of rfl ⟨zstr w C, zslice w C, zslice w C, zslice w C, zslice w C, trivial⟩
theorem z27v (w : World) (C : Nat → Prop) : AllR [Rp.str [], Rp.val (.slice none 0 0), Rp.val (.slice none 0 0), Rp.val (.slice none 0 0), Rp.val (.slice none 0 0)] w C (Value.agg #[.string ⟨#[]⟩, .slice none 0 0, .slice none 0 0, .slice none 0 0, .slice none 0 0]).cells.toList := allR_of rfl ⟨zstr w C, zval w C, zval w C, zval w C, zval w C, trivial⟩
theorem ti45 : TI Tryz.prog 45 2 48 (.agg #[.slice none 0 0, .slice none 0 0]) := ⟨⟨Tryz.t45, by kernel_rfl, by kernel_rfl, by kernel_rfl, by kernel_rfl⟩⟩
theorem z45 (w : World) (C : Nat → Prop) : AllR [Rp.slice eS [], Rp.slice eII []] w C (Value.agg #[.slice none 0 0, .slice none 0 0]).cells.toList := allR_of rfl ⟨zslice w C, zslice w C, trivial⟩
theorem z45v (w : World) (C : Nat → Prop) : AllR [Rp.val (.slice none 0 0), Rp.val (.slice none 0 0)] w C (Value.agg #[.slice none 0 0, .slice none 0 0]).cells.toList := allR_of rfl ⟨zval w C, zval w C, trivial⟩
theorem ti56 : TI Tryz.prog 56 5 5 (.agg #[.bool false, .bool false, .int .u8 0, .int .u8 0, .int .u8 0]) := ⟨⟨Tryz.t56, by kernel_rfl, by kernel_rfl, by kernel_rfl, by kernel_rfl⟩⟩
theorem z56 (w : World) (C : Nat → Prop) : AllR [Rp.bool false, Rp.bool false, Rp.int .u8 0, Rp.int .u8 0, Rp.int .u8 0] w C (Value.agg #[.bool false, .bool false, .int .u8 0, .int .u8 0, .int .u8 0]).cells.toList := allR_of rfl ⟨zbool w C, zbool w C, zint rfl w C, zint rfl w C, zint rfl w C, trivial⟩
theorem ti66 : TI Tryz.prog 66 4 56 (.agg #[.int .i64 0, .int .i64 0, .string ⟨#[]⟩, .slice none 0 0]) := ⟨⟨Tryz.t66, by kernel_rfl, by kernel_rfl, by kernel_rfl, by kernel_rfl⟩⟩
theorem z66 (w : World) (C : Nat → Prop) : AllR [Rp.int .i64 0, Rp.int .i64 0, Rp.str [], Rp.exs []] w C (Value.agg #[.int .i64 0, .int .i64 0, .string ⟨#[]⟩, .slice none 0 0]).cells.toList := allR_of rfl ⟨zint rfl w C, zint rfl w C, zstr w C, zslice w C, trivial⟩
theorem ti77 : TI Tryz.prog 77 6 80 (.agg #[.string ⟨#[]⟩, .int .i64 0, .int .i64 0, .int .i64 0, .string ⟨#[]⟩, .slice none 0 0]) := ⟨⟨Tryz.t77, by kernel_rfl, by kernel_rfl, by kernel_rfl, by kernel_rfl⟩⟩
theorem z77 (w : World) (C : Nat → Prop) : AllR [Rp.str [], Rp.int .i64 0, Rp.int .i64 0, Rp.int .i64 0, Rp.str [], Rp.exs []] w C (Value.agg #[.string ⟨#[]⟩, .int .i64 0, .int .i64 0, .int .i64 0, .string ⟨#[]⟩, .slice none 0 0]).cells.toList := allR_of rfl ⟨zstr w C, zint rfl w C, zint rfl w C, zint rfl w C, zstr w C, zslice w C, trivial⟩
theorem ti81 : TI Tryz.prog 81 7 88 (.agg #[.string ⟨#[]⟩, .int .i64 0, .int .i64 0, .int .i64 0, .int .i64 0, .string ⟨#[]⟩, .slice none 0 0]) := ⟨⟨Tryz.t81, by kernel_rfl, by kernel_rfl, by kernel_rfl, by kernel_rfl⟩⟩
theorem z81 (w : World) (C : Nat → Prop) : AllR [Rp.str [], Rp.int .i64 0, Rp.int .i64 0, Rp.int .i64 0, Rp.int .i64 0, Rp.str [], Rp.exs []] w C (Value.agg #[.string ⟨#[]⟩, .int .i64 0, .int .i64 0, .int .i64 0, .int .i64 0, .string ⟨#[]⟩, .slice none 0 0]).cells.toList := allR_of rfl ⟨zstr w C, zint rfl w C, zint rfl w C, zint rfl w C, zint rfl w C, zstr w C, zslice w C, trivial⟩
theorem ti84 : TI Tryz.prog 84 2 24 (.agg #[.string ⟨#[]⟩, .int .i64 0]) := ⟨⟨Tryz.t84, by kernel_rfl, by kernel_rfl, by kernel_rfl, by kernel_rfl⟩⟩
theorem z84 (w : World) (C : Nat → Prop) : AllR [Rp.str [], Rp.int .i64 0] w C (Value.agg #[.string ⟨#[]⟩, .int .i64 0]).cells.toList := allR_of rfl ⟨zstr w C, zint rfl w C, trivial⟩
theorem ti92 : TI Tryz.prog 92 1 24 (.slice none 0 0) := ⟨⟨Tryz.t92, by kernel_rfl, by kernel_rfl, by kernel_rfl, by kernel_rfl⟩⟩
theorem z92 (w : World) (C : Nat → Prop) : AllR [Rp.slice eI []] w C (Value.slice none 0 0).cells.toList := allR_of rfl ⟨zslice w C, trivial⟩
theorem ti101 : TI Tryz.prog 101 2 24 (.agg #[.string ⟨#[]⟩, .int .i64 0]) := ⟨⟨Tryz.t101, by kernel_rfl, by kernel_rfl, by kernel_rfl, by kernel_rfl⟩⟩
theorem z101 (w : World) (C : Nat → Prop) : AllR [Rp.str [], Rp.int .i64 0] w C (Value.agg #[.string ⟨#[]⟩, .int .i64 0]).cells.toList := allR_of rfl ⟨zstr w C, zint rfl w C, trivial⟩
theorem ti102 : TI Tryz.prog 102 1 24 (.slice none 0 0) := ⟨⟨Tryz.t102, by kernel_rfl, by kernel_rfl, by kernel_rfl, by kernel_rfl⟩⟩
theorem z102 (w : World) (C : Nat → Prop) : AllR [Rp.slice eSg []] w C (Value.slice none 0 0).cells.toList := allR_of rfl ⟨zslice w C, trivial⟩
theorem ti107 : TI Tryz.prog 107 2 24 (.agg #[.string ⟨#[]⟩, .nilFunc]) := ⟨⟨Tryz.t107, by kernel_rfl, by kernel_rfl, by kernel_rfl, by kernel_rfl⟩⟩
theorem z107 (w : World) (C : Nat → Prop) : AllR [Rp.str [], Rp.val (.nilFunc)] w C (Value.agg #[.string ⟨#[]⟩, .nilFunc]).cells.toList := allR_of rfl ⟨zstr w C, zval w C, trivial⟩
theorem ti108 : TI Tryz.prog 108 10 120 (.agg #[.string ⟨#[]⟩, .nilFunc, .string ⟨#[]⟩, .nilFunc, .string ⟨#[]⟩, .nilFunc, .string ⟨#[]⟩, .nilFunc, .string ⟨#[]⟩, .nilFunc]) := ⟨⟨Tryz.t108, by kernel_rfl, by kernel_rfl, by kernel_rfl, by kernel_rfl⟩⟩
theorem z108 (w : World) (C : Nat → Prop) : AllR [Rp.str [], Rp.val (.nilFunc), Rp.str [], Rp.val (.nilFunc), Rp.str [], Rp.val (.nilFunc), Rp.str [], Rp.val (.nilFunc), Rp.str [], Rp.val (.nilFunc)] w C (Value.agg #[.string ⟨#[]⟩, .nilFunc, .string ⟨#[]⟩, .nilFunc, .string ⟨#[]⟩, .nilFunc, .string ⟨#[]⟩, .nilFunc, .string ⟨#[]⟩, .nilFunc]).cells.toList := allR_of rfl ⟨zstr w C, zval w C, zstr w C, zval w C, zstr w C, zval w C, zstr w C, zval w C, zstr w C, zval w C, trivial⟩
theorem ti111 : TI Tryz.prog 111 5 112 (.agg #[.string ⟨#[]⟩, .slice none 0 0, .slice none 0 0, .slice none 0 0, .slice none 0 0]) := ⟨⟨Tryz.t111, by kernel_rfl, by kernel_rfl, by kernel_rfl, by kernel_rfl⟩⟩
theorem z111 (w : World) (C : Nat → Prop) : AllR [Rp.str [], Rp.slice eP [], Rp.slice eWr [], Rp.slice eRg [], Rp.slice eS []] w C (Value.agg #[.string ⟨#[]⟩, .slice none 0 0, .slice none 0 0, .slice none 0 0, .slice none 0 0]).cells.toList := allR_of rfl ⟨zstr w C, zslice w C, zslice w C, zslice w C, zslice w C, trivial⟩
theorem ti132 : TI Tryz.prog 132 5 72 (.agg #[.int .i64 0, .int .i64 0, .int .i64 0, .slice none 0 0, .slice none 0 0]) := ⟨⟨Tryz.t132, by kernel_rfl, by kernel_rfl, by kernel_rfl, by kernel_rfl⟩⟩
theorem z132v (w : World) (C : Nat → Prop) : AllR [Rp.int .i64 0, Rp.int .i64 0, Rp.int .i64 0, Rp.val (.slice none 0 0), Rp.val (.slice none 0 0)] w C (Value.agg #[.int .i64 0, .int .i64 0, .int .i64 0, .slice none 0 0, .slice none 0 0]).cells.toList := allR_of rfl ⟨zint rfl w C, zint rfl w C, zint rfl w C, zval w C, zval w C, trivial⟩
theorem pl27 (w : World) : (#[({ name := "Name", type := 9, offset := 0, embedded := false, tag := "", pkgPath := "", byteOffset := 0 } : Field), { name := "Inputs", type := 22, offset := 1, embedded := false, tag := "", pkgPath := "", byteOffset := 16 }, { name := "Wires", type := 23, offset := 2, embedded := false, tag := "", pkgPath := "", byteOffset := 40 }, { name := "Regs", type := 24, offset := 3, embedded := false, tag := "", pkgPath := "", byteOffset := 64 }, { name := "Outputs", type := 25, offset := 4, embedded := false, tag := "", pkgPath := "", byteOffset := 88 }].mapM fun f => (do pure (f.offset, ← sizeOf f.type) : Sem (Nat × Nat))).run Tryz.prog w = .ok #[(0, 1), (1, 1), (2, 1), (3, 1), (4, 1)] w := by
  simp [Tryz.sizeOf22, Tryz.sizeOf23, Tryz.sizeOf24, Tryz.sizeOf25, Tryz.sizeOf9]
theorem pl45 (w : World) : (#[({ name := "Names", type := 25, offset := 0, embedded := false, tag := "", pkgPath := "", byteOffset := 0 } : Field), { name := "Rows", type := 43, offset := 1, embedded := false, tag := "", pkgPath := "", byteOffset := 24 }].mapM fun f => (do pure (f.offset, ← sizeOf f.type) : Sem (Nat × Nat))).run Tryz.prog w = .ok #[(0, 1), (1, 1)] w := by
  simp [Tryz.sizeOf25, Tryz.sizeOf43]
theorem pl56 (w : World) : (#[({ name := "V", type := 4, offset := 0, embedded := false, tag := "", pkgPath := "", byteOffset := 0 } : Field), { name := "Ready", type := 4, offset := 1, embedded := false, tag := "", pkgPath := "", byteOffset := 1 }, { name := "T", type := 5, offset := 2, embedded := false, tag := "", pkgPath := "", byteOffset := 2 }, { name := "A", type := 5, offset := 3, embedded := false, tag := "", pkgPath := "", byteOffset := 3 }, { name := "B", type := 5, offset := 4, embedded := false, tag := "", pkgPath := "", byteOffset := 4 }].mapM fun f => (do pure (f.offset, ← sizeOf f.type) : Sem (Nat × Nat))).run Tryz.prog w = .ok #[(0, 1), (1, 1), (2, 1), (3, 1), (4, 1)] w := by
  simp [Tryz.sizeOf4, Tryz.sizeOf5]
theorem pl66 (w : World) : (#[({ name := "Op", type := 3, offset := 0, embedded := false, tag := "", pkgPath := "", byteOffset := 0 } : Field), { name := "N", type := 3, offset := 1, embedded := false, tag := "", pkgPath := "", byteOffset := 8 }, { name := "Name", type := 9, offset := 2, embedded := false, tag := "", pkgPath := "", byteOffset := 16 }, { name := "Args", type := 64, offset := 3, embedded := false, tag := "", pkgPath := "", byteOffset := 32 }].mapM fun f => (do pure (f.offset, ← sizeOf f.type) : Sem (Nat × Nat))).run Tryz.prog w = .ok #[(0, 1), (1, 1), (2, 1), (3, 1)] w := by
  simp [Tryz.sizeOf3, Tryz.sizeOf64, Tryz.sizeOf9]
theorem pl77 (w : World) : (#[({ name := "Name", type := 9, offset := 0, embedded := false, tag := "", pkgPath := "", byteOffset := 0 } : Field), { name := "Width", type := 3, offset := 1, embedded := false, tag := "", pkgPath := "", byteOffset := 16 }, { name := "Expr", type := 66, offset := 2, embedded := false, tag := "", pkgPath := "", byteOffset := 24 }].mapM fun f => (do pure (f.offset, ← sizeOf f.type) : Sem (Nat × Nat))).run Tryz.prog w = .ok #[(0, 1), (1, 1), (2, 4)] w := by
  simp [Tryz.sizeOf3, Tryz.sizeOf66, Tryz.sizeOf9]
theorem pl81 (w : World) : (#[({ name := "Name", type := 9, offset := 0, embedded := false, tag := "", pkgPath := "", byteOffset := 0 } : Field), { name := "Width", type := 3, offset := 1, embedded := false, tag := "", pkgPath := "", byteOffset := 16 }, { name := "Init", type := 3, offset := 2, embedded := false, tag := "", pkgPath := "", byteOffset := 24 }, { name := "Next", type := 66, offset := 3, embedded := false, tag := "", pkgPath := "", byteOffset := 32 }].mapM fun f => (do pure (f.offset, ← sizeOf f.type) : Sem (Nat × Nat))).run Tryz.prog w = .ok #[(0, 1), (1, 1), (2, 1), (3, 4)] w := by
  simp [Tryz.sizeOf3, Tryz.sizeOf66, Tryz.sizeOf9]
theorem pl84 (w : World) : (#[({ name := "Name", type := 9, offset := 0, embedded := false, tag := "", pkgPath := "", byteOffset := 0 } : Field), { name := "Width", type := 3, offset := 1, embedded := false, tag := "", pkgPath := "", byteOffset := 16 }].mapM fun f => (do pure (f.offset, ← sizeOf f.type) : Sem (Nat × Nat))).run Tryz.prog w = .ok #[(0, 1), (1, 1)] w := by
  simp [Tryz.sizeOf3, Tryz.sizeOf9]
theorem pl101 (w : World) : (#[({ name := "Name", type := 9, offset := 0, embedded := false, tag := "", pkgPath := "", byteOffset := 0 } : Field), { name := "Value", type := 3, offset := 1, embedded := false, tag := "", pkgPath := "", byteOffset := 16 }].mapM fun f => (do pure (f.offset, ← sizeOf f.type) : Sem (Nat × Nat))).run Tryz.prog w = .ok #[(0, 1), (1, 1)] w := by
  simp [Tryz.sizeOf3, Tryz.sizeOf9]
theorem pl107 (w : World) : (#[({ name := "name", type := 9, offset := 0, embedded := false, tag := "", pkgPath := "testbench/library", byteOffset := 0 } : Field), { name := "get", type := 74, offset := 1, embedded := false, tag := "", pkgPath := "testbench/library", byteOffset := 16 }].mapM fun f => (do pure (f.offset, ← sizeOf f.type) : Sem (Nat × Nat))).run Tryz.prog w = .ok #[(0, 1), (1, 1)] w := by
  simp [Tryz.sizeOf74, Tryz.sizeOf9]
theorem pl111 (w : World) : (#[({ name := "Design", type := 27, offset := 0, embedded := true, tag := "", pkgPath := "", byteOffset := 0 } : Field)].mapM fun f => (do pure (f.offset, ← sizeOf f.type) : Sem (Nat × Nat))).run Tryz.prog w = .ok #[(0, 5)] w := by
  simp [Tryz.sizeOf27]
theorem pl132 (w : World) : (#[({ name := "Nodes", type := 3, offset := 0, embedded := false, tag := "", pkgPath := "", byteOffset := 0 } : Field), { name := "Deepest", type := 3, offset := 1, embedded := false, tag := "", pkgPath := "", byteOffset := 8 }, { name := "First", type := 28, offset := 2, embedded := false, tag := "", pkgPath := "", byteOffset := 16 }, { name := "Vars", type := 25, offset := 3, embedded := false, tag := "", pkgPath := "", byteOffset := 24 }, { name := "Arrays", type := 25, offset := 4, embedded := false, tag := "", pkgPath := "", byteOffset := 48 }].mapM fun f => (do pure (f.offset, ← sizeOf f.type) : Sem (Nat × Nat))).run Tryz.prog w = .ok #[(0, 1), (1, 1), (2, 1), (3, 1), (4, 1)] w := by
  simp [Tryz.sizeOf25, Tryz.sizeOf28, Tryz.sizeOf3]
instance {l : List Ex} : One (Rp.exs l) := inferInstanceAs (One (Rp.slice (fun r : List Rp => r) (eXl l)))
end Go.Proofs.YthlfacmpjehjmaaGreatDoor
/- Words, operators: as data. -/
set_option linter.unusedSimpArgs false
set_option linter.unusedVariables false
namespace Go.Proofs.YthlfacmpjehjmaaGreatDoor
open Go.Sim
def wrapE (n : Int) : Int := n % 65536
theorem wrap_lo (n : Int) : 0 ≤ wrapE n := Int.emod_nonneg _ (by decide)
theorem wrap_hi (n : Int) : wrapE n < 65536 := Int.emod_lt_of_pos _ (by decide)
theorem tmod_wrap (n : Int) : wrapE n = if n.tmod 65536 < 0 then n.tmod 65536 + 65535 + 1 else n.tmod 65536 := by
  unfold wrapE
  have h1 := Int.tmod_def n 65536
  have h2 := Int.emod_def n 65536
  by_cases h : 0 ≤ n
  · rw [Int.tmod_eq_emod_of_nonneg h]
    have := Int.emod_nonneg n (show (65536 : Int) ≠ 0 by decide)
    rw [if_neg (by omega)]
  · have e : n.tmod 65536 = -((-n) % 65536) := by
      rw [← Int.tmod_eq_emod_of_nonneg (show 0 ≤ -n by omega), Int.neg_tmod, Int.neg_neg]
    rw [e]
    omega
theorem tmod_bd (n : Int) : -65536 ≤ n.tmod 65536 ∧ n.tmod 65536 < 65536 := by
  have h := tmod_wrap n; have h1 := wrap_lo n; have h2 := wrap_hi n
  revert h h1 h2
  generalize n.tmod 65536 = t
  generalize wrapE n = w
  intro h h1 h2
  split at h <;> omega
def powE (n : Int) : Int := 2 ^ n.toNat
def maskE (w : Int) : Int := if w < 0 ∨ 16 < w then 0 else powE w - 1
def cutE (n w : Int) : Int := wrapE n % (maskE w + 1)
def truthE (b : Bool) : Int := if b then 1 else 0
def addE (a b : Int) : Int := wrapE (wrapE a + wrapE b)
def subE (a b : Int) : Int := wrapE (wrapE a - wrapE b)
theorem pow_le {w : Int} (h : w ≤ 16) : 1 ≤ powE w ∧ powE w ≤ 65536 := by
  unfold powE
  obtain ⟨k, hk⟩ : ∃ k : Nat, w.toNat = k ∧ k ≤ 16 := ⟨w.toNat, rfl, by omega⟩
  rw [hk.1]
  have h2 := hk.2
  have : ∀ k : Nat, k ≤ 16 → (1 : Int) ≤ 2 ^ k ∧ (2 : Int) ^ k ≤ 65536 := by decide
  exact this k h2
theorem mask_le (w : Int) : 0 ≤ maskE w ∧ maskE w ≤ 65535 := by
  unfold maskE
  split
  · omega
  · have := pow_le (w := w) (by omega); omega
theorem pow_next (i : Nat) : (2 : Int) * powE i = powE ((i : Int) + 1) := by
  unfold powE
  rw [show ((i : Int) + 1).toNat = i + 1 by omega, show ((i : Nat) : Int).toNat = i by omega, Int.pow_succ]; omega
/-- The operators of the library, of one and of two operands. -/
def binE (op a b : Int) : Int :=
  if op = 7 then addE a b else if op = 8 then subE a b else if op = 15 then truthE (decide (a = b)) else if op = 16 then truthE (!decide (a = b)) else if op = 17 then truthE (decide (a < b)) else if op = 19 then truthE (!decide (a = 0) && !decide (b = 0)) else truthE (!decide (a = 0) || !decide (b = 0))
def BinOp (op : Int) : Prop := op = 7 ∨ op = 8 ∨ op = 15 ∨ op = 16 ∨ op = 17 ∨ op = 19 ∨ op = 20
def operE (op : Int) (l : List Int) : Int :=
  if op = 22 then (if l.getD 0 0 ≠ 0 then l.getD 1 0 else l.getD 2 0)
  else if op = 4 then truthE (decide (l.getD 0 0 = 0)) else binE op (l.getD 0 0) (l.getD 1 0)
def OpOk (op : Int) (n : Nat) : Prop := (op = 22 ∧ n = 3) ∨ (op = 4 ∧ n = 1) ∨ (BinOp op ∧ n = 2)
end Go.Proofs.YthlfacmpjehjmaaGreatDoor
/- Values of expressions, as data. -/
set_option linter.unusedSimpArgs false
set_option linter.unusedVariables false
namespace Go.Proofs.YthlfacmpjehjmaaGreatDoor
open Go.Sim
def findS (env : List Sg) (s : List UInt8) : Int × Bool := if 0 ≤ idxI (fun x : Sg => x.name == s) env then (wrapE (env.getD (idxI (fun x : Sg => x.name == s) env).toNat default).val, true) else (0, false)
theorem findS_yes {env : List Sg} {s : List UInt8} {i : Nat} (hi : i < env.length) (h : (env.getD i default).name = s) (hn : ∀ j, j < i → (env.getD j default).name ≠ s) : findS env s = (wrapE (env.getD i default).val, true) := by
  have := idx_yes (p := fun c : Sg => c.name == s) hi (by simpa using h) (fun j hj => by simpa using hn j hj)
  unfold findS
  rw [this, if_pos (by omega)]; simp
theorem findS_no {env : List Sg} {s : List UInt8} (hn : ∀ j, j < env.length → (env.getD j default).name ≠ s) : findS env s = (0, false) := by
  have := idx_no (p := fun c : Sg => c.name == s) (l := env) fun j hj => by simpa using hn j hj
  unfold findS
  rw [this, if_neg (by omega)]
mutual
def valX (env : List Sg) : Ex → Int
  | .mk op n nm args => if op = 1 then n else if op = 2 then (findS env nm).1 else operE op (valL env args)
def valL (env : List Sg) : List Ex → List Int
  | [] => []
  | a :: r => valX env a :: valL env r
end
theorem valL_map (env : List Sg) : ∀ l, valL env l = l.map (valX env)
  | [] => by simp only [valL, List.map_nil]
  | a :: r => by simp only [valL, List.map_cons, valL_map env r]
theorem valX_eq (env : List Sg) (e : Ex) : valX env e = if e.op = 1 then e.n else if e.op = 2 then (findS env e.name).1 else operE e.op (e.args.map (valX env)) := by
  cases e; simp only [valX, valL_map]; rfl
/-- An expression of the library's operators, whose names are all right. -/
inductive GX (ok : List UInt8 → Prop) : Ex → Prop
  | mk (e : Ex) (h : (e.op = 1 ∧ e.args = []) ∨ (e.op = 2 ∧ e.args = [] ∧ ok e.name) ∨ OpOk e.op e.args.length) (hs : ∀ a ∈ e.args, GX ok a) : GX ok e
def asksE (op : Int) : Bool := decide (op = 1) || (decide (op = 2) || decide (op = 3) || decide (op = 24))
theorem asks_no {op : Int} {n : Nat} (h : OpOk op n) : asksE op = false := by
  unfold asksE OpOk BinOp at *
  simp only [Bool.or_eq_false_iff, decide_eq_false_iff_not]; omega
theorem ex_fact {e : Ex} (w : World) (C : Nat → Prop) (v : Value) (h : (Rp.agg (eX e)).p w C v) : e.args.length ≤ 9223372036854775807 :=
  agg_fact (fun w C vs h => by
    match vs, h with
    | [a, b, c, d], ⟨_, _, _, h4, _⟩ => rw [exs_eq] at h4; exact h4.1) w C v h
theorem map_getD' {α β : Type} [Inhabited α] [Inhabited β] (f : α → β) {l : List α} {i : Nat} (h : i < l.length) : (l.map f).getD i default = f (l.getD i default) := by
  rw [List.getD, List.getD, List.getElem?_map, List.getElem?_eq_getElem h]; rfl
theorem gx_len {e : Ex} {p : Prop} (h : (e.op = 1 ∧ e.args = []) ∨ (e.op = 2 ∧ e.args = [] ∧ p) ∨ OpOk e.op e.args.length) : e.args.length ≤ 3 := by
  rcases h with h | h | h
  · rw [h.2]; simp
  · rw [h.2.1]; simp
  · unfold OpOk at h; omega
end Go.Proofs.YthlfacmpjehjmaaGreatDoor
/- Expressions whose nodes are right, as data. -/
set_option linter.unusedSimpArgs false
set_option linter.unusedVariables false
namespace Go.Proofs.YthlfacmpjehjmaaGreatDoor
open Go.Sim
def NodeOk (e : Ex) : Prop := (e.op = 1 ∧ e.args = [] ∧ 0 ≤ e.n ∧ e.n ≤ 65535 ∧ e.name = []) ∨ (e.op = 2 ∧ e.args = [] ∧ e.n = 0 ∧ nameB e.name = true) ∨ (OpOk e.op e.args.length ∧ e.n = 0 ∧ e.name = [])
def ArOk (op : Int) (n : Nat) : Prop := ((op = 1 ∨ op = 2) ∧ n = 0) ∨ OpOk op n
theorem node_ar {e : Ex} (h : NodeOk e) : ArOk e.op e.args.length := by
  rcases h with h | h | h
  · exact .inl ⟨.inl h.1, by rw [h.2.1]; rfl⟩
  · exact .inl ⟨.inr h.1, by rw [h.2.1]; rfl⟩
  · exact .inr h.1
/-- A name ends in a letter or a digit. -/
theorem name_end {s : List UInt8} (h : nameB s = true) (hl : 4 ≤ s.length) : ch s (((s.length : Nat) : Int) - 1).toNat ≠ 93 := by
  intro e
  rw [show (((s.length : Nat) : Int) - 1).toNat = s.length - 1 by omega] at e
  refine name_inner h (i := s.length - 1) (by omega) ?_
  rw [e]; decide
theorem node_nm {e : Ex} (h : NodeOk e) (h2 : e.op = 2) : nameB e.name = true := by
  rcases h with h | h | h
  · omega
  · exact h.2.2.2
  · have := h.1; unfold OpOk BinOp at this; omega
theorem node_t1 {e : Ex} (h : NodeOk e) : (((((decide (e.op < 1) || decide (25 < e.op)) || decide (e.n < 0)) || decide (65535 < e.n)) || (!decide (e.n = 0) && !decide (e.op = 1))) || (!(e.name == []) && !(decide (e.op = 2) || decide (e.op = 3) || decide (e.op = 24)))) = false := by
  rcases h with ⟨a, b, c, d, f⟩ | ⟨a, b, c, f⟩ | ⟨a, c, f⟩
  · rw [a, f]; simp; try omega
  · rw [a, c]; simp
  · rw [c, f]; unfold OpOk BinOp at a; simp; try omega
end Go.Proofs.YthlfacmpjehjmaaGreatDoor
/- The walk over an expression, as data. -/
set_option linter.unusedSimpArgs false
set_option linter.unusedVariables false
namespace Go.Proofs.YthlfacmpjehjmaaGreatDoor
open Go.Sim
structure Wk where
  n : Int
  d : Int
  vs : List (List UInt8)
def stepW (e : Ex) (d : Int) (s : Wk) : Wk := ⟨IntKind.i64.wrap (s.n + 1), if s.d < d then d else s.d, if e.op = 2 ∧ (s.vs.any fun x => e.name == x) = false then s.vs ++ [e.name] else s.vs⟩
mutual
def seeX : Ex → Int → Wk → Wk
  | .mk op n nm args, d, s => seeL args (IntKind.i64.wrap (d + 1)) (stepW (.mk op n nm args) d s)
def seeL : List Ex → Int → Wk → Wk
  | [], _, s => s
  | a :: r, d, s => seeL r d (seeX a d s)
end
theorem seeL_fold : ∀ (l : List Ex) (d : Int) (s : Wk), seeL l d s = l.foldl (fun s a => seeX a d s) s
  | [], d, s => by simp only [seeL, List.foldl_nil]
  | a :: r, d, s => by simp only [seeL, List.foldl_cons, seeL_fold r]
theorem seeX_eq (e : Ex) (d : Int) (s : Wk) : seeX e d s = e.args.foldl (fun s a => seeX a (IntKind.i64.wrap (d + 1)) s) (stepW e d s) := by
  cases e; rw [seeX, seeL_fold]; rfl
mutual
def szX : Ex → Nat
  | .mk _ _ _ args => 1 + szL args
def szL : List Ex → Nat
  | [] => 0
  | a :: r => szX a + szL r
end
theorem szX_eq (e : Ex) : szX e = 1 + szL e.args := by cases e; rw [szX]; rfl
theorem szL_take : ∀ (l : List Ex) (i : Nat), i < l.length → szL (l.take i) + szX (l.getD i default) ≤ szL l
  | [], i, h => absurd h (Nat.not_lt_zero _)
  | a :: r, 0, _ => by simp [szL]
  | a :: r, i + 1, h => by
    have := szL_take r i (by simpa using h)
    simp only [List.take_succ_cons, szL, List.getD_cons_succ]; omega
theorem step_len (e : Ex) (d : Int) (s : Wk) : (stepW e d s).vs.length ≤ s.vs.length + 1 := by
  unfold stepW; dsimp only; split <;> simp
theorem fold_len {d : Int} : ∀ (l : List Ex) (s : Wk), (∀ a ∈ l, ∀ s : Wk, (seeX a d s).vs.length ≤ s.vs.length + szX a) → (l.foldl (fun s a => seeX a d s) s).vs.length ≤ s.vs.length + szL l
  | [], s, _ => by simp [szL]
  | a :: r, s, h => by
    have h1 := h a List.mem_cons_self s
    have h2 := fold_len r (seeX a d s) fun x hx => h x (List.mem_cons_of_mem _ hx)
    rw [List.foldl_cons, szL]; omega
theorem see_len : ∀ (e : Ex) (d : Int) (s : Wk), (seeX e d s).vs.length ≤ s.vs.length + szX e := by
  refine Ex.ind fun e ih d s => ?_
  rw [seeX_eq, szX_eq]
  have h1 := fold_len e.args (stepW e d s) fun a ha s => ih a ha (IntKind.i64.wrap (d + 1)) s
  have h2 := step_len e d s
  omega
/-- Every node is right. -/
inductive GN : Ex → Prop
  | mk (e : Ex) (h : NodeOk e) (hs : ∀ a ∈ e.args, GN a) : GN e
def walkR (s : Wk) (va : Value) : List Rp := [Rp.int .i64 s.n, Rp.int .i64 s.d, Rp.int .i64 0, Rp.val va, Rp.slice eS []]
def seeA (r : Nat) (s : Wk) : RA := ⟨Value, fun _ => Rp.tuple [], fun va => [MF.box r 132 (walkR s va), MF.osl va 9 1 eS s.vs]⟩
def SeeT (e : Ex) (r : Nat) (va : Value) (d : Int) (s : Wk) : Prop := CallT Tryz.prog 116 [Rp.ptr r 0, Rp.agg (eX e), Rp.int .i64 d] [MF.box r 132 (walkR s va), MF.osl va 9 1 eS s.vs] (seeA r (seeX e d s))
theorem node_len {e : Ex} (h : NodeOk e) : e.args.length ≤ 3 := by
  have := node_ar h
  unfold ArOk OpOk at this; omega
theorem node_arr {e : Ex} (h : NodeOk e) : e.op ≠ 3 ∧ e.op ≠ 24 := by
  have := node_ar h
  unfold ArOk OpOk BinOp at this; omega
def seeE (e : Ex) : Wk := seeX e 1 ⟨0, 0, []⟩
def walkP (s : Wk) : List Rp := [Rp.int .i64 s.n, Rp.int .i64 s.d, Rp.int .i64 0, Rp.slice eS s.vs, Rp.slice eS []]
/-- A valid expression of the library. -/
structure XOk (e : Ex) : Prop where
  g : GN e
  sz : szX e ≤ 1000000
  d : (seeE e).d ≤ 24
  n : (seeE e).n ≤ 400
end Go.Proofs.YthlfacmpjehjmaaGreatDoor
/- Designs as data: names, widths, expressions. -/
set_option linter.unusedSimpArgs false
set_option linter.unusedVariables false
namespace Go.Proofs.YthlfacmpjehjmaaGreatDoor
open Go.Sim
def Sm (d : Ds) : Prop := d.inputs.length ≤ 1000 ∧ d.wires.length ≤ 1000 ∧ d.regs.length ≤ 1000 ∧ d.outputs.length ≤ 1000
def namesD (d : Ds) : List (List UInt8) := d.inputs.map Pt.name ++ d.wires.map Wr.name ++ d.regs.map Rg.name
def widthsD (d : Ds) : List Int := d.inputs.map Pt.width ++ d.wires.map Wr.width ++ d.regs.map Rg.width
def exprsD (d : Ds) : List Ex := d.wires.map Wr.expr ++ d.regs.map Rg.next
def indexE (l : List (List UInt8)) (s : List UInt8) : Int := idxI (fun x => x == s) l
def wireE (d : Ds) (s : List UInt8) : Int := idxI (fun w : Wr => w.name == s) d.wires
theorem map_next {α β : Type} [Inhabited α] (f : α → β) {l : List α} {i : Nat} (h : i < l.length) (p : List β) : p ++ (l.take (i + 1)).map f = (p ++ (l.take i).map f) ++ [f (l.getD i default)] := by
  rw [take_succ h, List.map_append]; simp
end Go.Proofs.YthlfacmpjehjmaaGreatDoor
/- Designs that are right, as data. -/
set_option linter.unusedSimpArgs false
set_option linter.unusedVariables false
namespace Go.Proofs.YthlfacmpjehjmaaGreatDoor
open Go.Sim
structure DsOk (d : Ds) : Prop where
  n : d.inputs.length + d.wires.length + d.regs.length ≤ 48
  o : d.outputs.length ≤ 1000
  nm : nameB d.name = true
  nms : ∀ i, i < (namesD d).length → nameB ((namesD d).getD i default) = true
  ix : ∀ i, i < (namesD d).length → indexE (namesD d) ((namesD d).getD i default) = i
  wd : ∀ i, i < (widthsD d).length → 1 ≤ (widthsD d).getD i default ∧ (widthsD d).getD i default ≤ 16
  ini : ∀ i, i < d.regs.length → (d.regs.getD i default).init = 0 ∧ 1 ≤ (d.regs.getD i default).width ∧ (d.regs.getD i default).width ≤ 16
  xs : ∀ i, i < (exprsD d).length → XOk ((exprsD d).getD i default)
  vs : ∀ i, i < (exprsD d).length → ∀ j, j < (seeE ((exprsD d).getD i default)).vs.length → 0 ≤ indexE (namesD d) ((seeE ((exprsD d).getD i default)).vs.getD j default)
  out1 : ∀ i, i < d.outputs.length → 0 ≤ indexE ((namesD d).drop d.inputs.length) (d.outputs.getD i default)
  out2 : ∀ i, i < d.outputs.length → indexE d.outputs (d.outputs.getD i default) = i
theorem DsOk.sm {d : Ds} (h : DsOk d) : Sm d := ⟨by have := h.n; omega, by have := h.n; omega, by have := h.n; omega, h.o⟩
theorem names_len (d : Ds) : (namesD d).length = d.inputs.length + d.wires.length + d.regs.length := by unfold namesD; simp; omega
theorem widths_len (d : Ds) : (widthsD d).length = d.inputs.length + d.wires.length + d.regs.length := by unfold widthsD; simp; omega
theorem exprs_len (d : Ds) : (exprsD d).length = d.wires.length + d.regs.length := by unfold exprsD; simp
theorem u64_wrap {n : Int} (h0 : 0 ≤ n) (h1 : n ≤ 100) : IntKind.u64.wrap n = n := by
  unfold IntKind.wrap
  simp [IntKind.signed, IntKind.bits]
  omega
theorem shl_pos {w : Int} (h0 : 1 ≤ w) (h1 : w ≤ 16) : 0 < IntKind.i64.wrap (1 * 2 ^ min (IntKind.u64.wrap w).toNat IntKind.i64.bits) := by
  rw [u64_wrap (by omega) (by omega)]
  obtain ⟨k, hk, hk2⟩ : ∃ k : Nat, w.toNat = k ∧ k ≤ 16 := ⟨w.toNat, rfl, by omega⟩
  rw [hk]
  have : ∀ k : Nat, k ≤ 16 → 0 < IntKind.i64.wrap (1 * 2 ^ min k IntKind.i64.bits) := by decide
  exact this k hk2
/-- A wire that a wire waits for. -/
def waitE (d : Ds) (done : List Bool) (s : List UInt8) : Bool := decide (0 ≤ wireE d s) && !(done.getD (wireE d s).toNat default)
def readyE (d : Ds) (i : Nat) (done : List Bool) : Bool := !((seeE (d.wires.getD i default).expr).vs.any (waitE d done))
theorem wire_lt (d : Ds) (s : List UInt8) : wireE d s < d.wires.length := by
  unfold wireE
  rcases idx_cases (fun w : Wr => w.name == s) d.wires with ⟨i, h1, _, _, h4⟩ | ⟨_, h4⟩
  · rw [h4]; omega
  · rw [h4]; omega
theorem wire_x {d : Ds} (h : DsOk d) {i : Nat} (hi : i < d.wires.length) : XOk (d.wires.getD i default).expr := by
  have hl := exprs_len d
  have := h.xs i (by omega)
  have e : (exprsD d).getD i default = (d.wires.getD i default).expr := by
    unfold exprsD
    simp [List.getD, List.getElem?_append_left (show i < (d.wires.map Wr.expr).length by simpa using hi), List.getElem?_eq_getElem hi]
  rwa [e] at this
end Go.Proofs.YthlfacmpjehjmaaGreatDoor
/- The order of the wires, as data. -/
set_option linter.unusedSimpArgs false
set_option linter.unusedVariables false
namespace Go.Proofs.YthlfacmpjehjmaaGreatDoor
open Go.Sim
def candE (d : Ds) (done : List Bool) (i : Nat) : Bool := !(done.getD i default) && readyE d i done
def pickE (d : Ds) (done : List Bool) : Int := idxI (candE d done) (List.range d.wires.length)
def stepO (d : Ds) (x : List Bool × List Int) : List Bool × List Int := if 0 ≤ pickE d x.1 then (x.1.set (pickE d x.1).toNat true, x.2 ++ [pickE d x.1]) else x
def iterO (d : Ds) : Nat → List Bool × List Int
  | 0 => (List.replicate d.wires.length false, [])
  | n + 1 => stepO d (iterO d n)
def orderE (d : Ds) : List Int := (iterO d d.wires.length).2
theorem range_getD {n i : Nat} (h : i < n) : (List.range n).getD i default = i := by simp [List.getD, h]
theorem pick_yes {d : Ds} {done : List Bool} {i : Nat} (hi : i < d.wires.length) (h : candE d done i = true) (hn : ∀ j, j < i → candE d done j = false) : pickE d done = i := by
  unfold pickE
  exact idx_yes (by simpa using hi) (by rw [range_getD hi]; exact h) (fun j hj => by rw [range_getD (by omega)]; exact hn j hj)
theorem pick_no {d : Ds} {done : List Bool} (hn : ∀ j, j < d.wires.length → candE d done j = false) : pickE d done = -1 := by
  unfold pickE
  exact idx_no fun j hj => by
    have hj' : j < d.wires.length := by simpa using hj
    rw [range_getD hj']; exact hn j hj'
theorem iter_len (d : Ds) : ∀ n, (iterO d n).1.length = d.wires.length ∧ (iterO d n).2.length ≤ n
  | 0 => by simp [iterO]
  | n + 1 => by
    have h := iter_len d n
    rw [iterO, stepO]
    split
    · simp [h.1]; exact h.2
    · exact ⟨h.1, by have := h.2; omega⟩
/-- A valid design. -/
structure DsV (d : Ds) : Prop where
  ok : DsOk d
  ord : (orderE d).length = d.wires.length
end Go.Proofs.YthlfacmpjehjmaaGreatDoor
/- Cycles of a design, as data. -/
set_option linter.unusedSimpArgs false
set_option linter.unusedVariables false
namespace Go.Proofs.YthlfacmpjehjmaaGreatDoor
open Go.Sim
def resetE (d : Ds) : List Int := d.regs.map Rg.init
def StOk (d : Ds) (st : List Int) : Prop := st.length = d.regs.length ∧ ∀ i, i < st.length → 0 ≤ st.getD i default ∧ st.getD i default ≤ maskE (d.regs.getD i default).width
def atS (l : List Sg) (s : List UInt8) : Int := idxI (fun x : Sg => x.name == s) l
def inputE (p : Pt) (l : List Sg) : Int := if 0 ≤ atS l p.name then cutE (l.getD (atS l p.name).toNat default).val p.width else 0
def valueE (l : List Sg) (s : List UInt8) : Int := if 0 ≤ atS l s then (l.getD (atS l s).toNat default).val else 0
theorem at_yes {l : List Sg} {s : List UInt8} {i : Nat} (hi : i < l.length) (h : (l.getD i default).name = s) (hn : ∀ j, j < i → (l.getD j default).name ≠ s) : atS l s = i :=
  idx_yes (p := fun c : Sg => c.name == s) hi (by simpa using h) (fun j hj => by simpa using hn j hj)
theorem at_no {l : List Sg} {s : List UInt8} (hn : ∀ j, j < l.length → (l.getD j default).name ≠ s) : atS l s = -1 :=
  idx_no (p := fun c : Sg => c.name == s) (l := l) fun j hj => by simpa using hn j hj
end Go.Proofs.YthlfacmpjehjmaaGreatDoor
/- The signals of a cycle, as data. -/
set_option linter.unusedSimpArgs false
set_option linter.unusedVariables false
namespace Go.Proofs.YthlfacmpjehjmaaGreatDoor
open Go.Sim
def inS (d : Ds) (l : List Sg) : List Sg := d.inputs.map fun p => ⟨p.name, inputE p l⟩
def regS (d : Ds) (st : List Int) (n : Nat) : List Sg := (List.range n).map fun i => ⟨(d.regs.getD i default).name, st.getD i default⟩
def wireS (d : Ds) (out : List Sg) (k : Int) : List Sg := out ++ [⟨(d.wires.getD k.toNat default).name, cutE (valX out (d.wires.getD k.toNat default).expr) (d.wires.getD k.toNat default).width⟩]
def sigsE (d : Ds) (st : List Int) (l : List Sg) : List Sg := (orderE d).foldl (wireS d) (inS d l ++ regS d st d.regs.length)
def settleE (d : Ds) (st : List Int) (l : List Sg) : List Sg := (namesD d).map fun s => ⟨s, valueE (sigsE d st l) s⟩
def stepE (d : Ds) (st : List Int) (l : List Sg) : List Int := d.regs.map fun r => cutE (valX (settleE d st l) r.next) r.width
def rowE (d : Ds) (st : List Int) (l : List Sg) : List Int := (settleE d st l).map Sg.val
end Go.Proofs.YthlfacmpjehjmaaGreatDoor
/- The values of a cycle by their names. -/
set_option linter.unusedSimpArgs false
set_option linter.unusedVariables false
namespace Go.Proofs.YthlfacmpjehjmaaGreatDoor
open Go.Sim
theorem found_iff (env : List Sg) (s : List UInt8) : (findS env s).2 = true ↔ s ∈ env.map Sg.name := by
  have h := idx_any (fun x : Sg => x.name == s) env
  unfold findS
  by_cases h2 : 0 ≤ idxI (fun x : Sg => x.name == s) env
  · rw [if_pos h2]
    rw [decide_eq_true h2] at h
    have h := h.symm
    rw [List.any_eq_true] at h
    obtain ⟨x, hx, he⟩ := h
    exact ⟨fun _ => List.mem_map.2 ⟨x, hx, by simpa using he⟩, fun _ => rfl⟩
  · rw [if_neg h2]
    rw [decide_eq_false h2] at h
    refine ⟨fun h => by simp at h, fun hm => ?_⟩
    obtain ⟨x, hx, he⟩ := List.mem_map.1 hm
    have := List.any_eq_false.1 h.symm x hx
    exact absurd (by simpa using he) this
mutual
def valF (f : List UInt8 → Int) : Ex → Int
  | .mk op n nm args => if op = 1 then n else if op = 2 then wrapE (f nm) else operE op (valFL f args)
def valFL (f : List UInt8 → Int) : List Ex → List Int
  | [] => []
  | a :: r => valF f a :: valFL f r
end
theorem gx_mono {p q : List UInt8 → Prop} (h : ∀ s, p s → q s) : ∀ e, GX p e → GX q e := by
  refine Ex.ind fun e ih hg => ?_
  obtain ⟨_, hop, hs⟩ := hg
  refine ⟨_, ?_, fun a ha => ih a ha (hs a ha)⟩
  rcases hop with a | a | a
  · exact .inl a
  · exact .inr (.inl ⟨a.1, a.2.1, h _ a.2.2⟩)
  · exact .inr (.inr a)
/-- A design whose wires stand in order. -/
structure DsQ (d : Ds) : Prop where
  v : DsV d
  ord : orderE d = (List.range d.wires.length).map fun i : Nat => (i : Int)
  nd : (d.inputs.map Pt.name ++ d.regs.map Rg.name ++ d.wires.map Wr.name).Nodup
  wx : ∀ i, i < d.wires.length → GX (fun s => s ∈ d.inputs.map Pt.name ++ d.regs.map Rg.name ++ (d.wires.take i).map Wr.name) (d.wires.getD i default).expr
  rx : ∀ i, i < d.regs.length → GX (fun s => s ∈ d.inputs.map Pt.name ++ d.regs.map Rg.name ++ d.wires.map Wr.name) (d.regs.getD i default).next
def sigN (d : Ds) (st : List Int) (l : List Sg) : Nat → List Sg
  | 0 => inS d l ++ regS d st d.regs.length
  | n + 1 => wireS d (sigN d st l n) n
theorem sig_fold (d : Ds) (st : List Int) (l : List Sg) : ∀ n, ((List.range n).map fun i : Nat => (i : Int)).foldl (wireS d) (inS d l ++ regS d st d.regs.length) = sigN d st l n
  | 0 => rfl
  | n + 1 => by rw [List.range_succ, List.map_append, List.foldl_append, sig_fold d st l n]; rfl
theorem sig_all {d : Ds} (h : DsQ d) (st : List Int) (l : List Sg) : sigsE d st l = sigN d st l d.wires.length := by
  unfold sigsE; rw [h.ord]; exact sig_fold d st l _
theorem reg_names (d : Ds) (st : List Int) : (regS d st d.regs.length).map Sg.name = d.regs.map Rg.name := by
  unfold regS
  rw [List.map_map]
  refine List.ext_getElem (by simp) fun i h1 h2 => ?_
  have : i < d.regs.length := by simpa using h2
  simp [List.getD, this]
theorem sig_names (d : Ds) (st : List Int) (l : List Sg) : ∀ n, n ≤ d.wires.length → (sigN d st l n).map Sg.name = d.inputs.map Pt.name ++ d.regs.map Rg.name ++ (d.wires.take n).map Wr.name
  | 0, _ => by
    rw [sigN, List.map_append, reg_names]
    simp only [inS, List.map_map, List.take_zero, List.map_nil, List.append_nil]
    rfl
  | n + 1, h => by
    rw [sigN, wireS, List.map_append, sig_names d st l n (by omega), take_succ (show n < d.wires.length by omega), List.map_append]
    simp
theorem sig_len (d : Ds) (st : List Int) (l : List Sg) : ∀ n, (sigN d st l n).length = d.inputs.length + d.regs.length + n
  | 0 => by simp [sigN, inS, regS]
  | n + 1 => by rw [sigN, wireS, List.length_append, sig_len d st l n]; simp; omega
theorem getD_right {α : Type} [Inhabited α] {a b : List α} (i : Nat) : (a ++ b).getD (a.length + i) default = b.getD i default := by
  simp [List.getD, List.getElem?_append_right (show a.length ≤ a.length + i by omega)]
theorem names_mem (d : Ds) (s : List UInt8) : s ∈ namesD d ↔ s ∈ d.inputs.map Pt.name ++ d.regs.map Rg.name ++ d.wires.map Wr.name := by
  unfold namesD; simp only [List.mem_append]; constructor <;> (rintro ((h | h) | h) <;> simp [h])
theorem wire_gx {d : Ds} (h : DsQ d) (st : List Int) (l : List Sg) {i : Nat} (hi : i < d.wires.length) : GX (fun s => (findS (sigN d st l i) s).2 = true) (d.wires.getD i default).expr := by
  refine gx_mono (fun s hs => ?_) _ (h.wx i hi)
  rw [found_iff, sig_names d st l i (by omega)]; exact hs
theorem reg_gx {d : Ds} (h : DsQ d) (st : List Int) (l : List Sg) {i : Nat} (hi : i < d.regs.length) : GX (fun s => (findS (settleE d st l) s).2 = true) (d.regs.getD i default).next := by
  refine gx_mono (fun s hs => ?_) _ (h.rx i hi)
  rw [found_iff]
  unfold settleE
  rw [List.map_map]
  refine List.mem_map.2 ⟨s, (names_mem d s).2 hs, rfl⟩
theorem ord_at {d : Ds} (h : DsQ d) {i : Nat} (hi : i < d.wires.length) : (orderE d).getD i default = (i : Int) := by
  rw [h.ord, map_getD' _ (by simpa using hi), range_getD hi]
end Go.Proofs.YthlfacmpjehjmaaGreatDoor
/- Runs, cycle by cycle. -/
set_option linter.unusedSimpArgs false
set_option linter.unusedVariables false
namespace Go.Proofs.YthlfacmpjehjmaaGreatDoor
open Go.Sim
theorem cut_bd (n w : Int) : 0 ≤ cutE n w ∧ cutE n w ≤ maskE w := by
  have h := mask_le w
  unfold cutE
  have h1 := Int.emod_nonneg (wrapE n) (show maskE w + 1 ≠ 0 by omega)
  have h2 := Int.emod_lt_of_pos (wrapE n) (show 0 < maskE w + 1 by omega)
  omega
theorem step_ok (d : Ds) (st : List Int) (l : List Sg) : StOk d (stepE d st l) := by
  unfold stepE
  refine ⟨by simp, fun i hi => ?_⟩
  have hi : i < d.regs.length := by simpa using hi
  rw [map_getD' _ hi]
  exact cut_bd _ _
theorem reset_st {d : Ds} (h : DsV d) : StOk d (resetE d) := by
  unfold resetE
  refine ⟨by simp, fun i hi => ?_⟩
  have hi : i < d.regs.length := by simpa using hi
  rw [map_getD' _ hi, (h.ok.ini i hi).1]
  exact ⟨Int.le_refl _, (mask_le _).1⟩
/-- The state ahead of a cycle. -/
def stN (d : Ds) (rows : List (List Sg)) : Nat → List Int
  | 0 => resetE d
  | t + 1 => stepE d (stN d rows t) (rows.getD t default)
theorem st_ok {d : Ds} (h : DsV d) (rows : List (List Sg)) : ∀ t, StOk d (stN d rows t)
  | 0 => reset_st h
  | t + 1 => step_ok d _ _
def rowN (d : Ds) (rows : List (List Sg)) (t : Nat) : List Int := rowE d (stN d rows t) (rows.getD t default)
def rowsN (d : Ds) (rows : List (List Sg)) (n : Nat) : List (List Int) := (List.range n).map (rowN d rows)
def waveE (d : Ds) (rows : List (List Sg)) : Wv := ⟨namesD d, rowsN d rows rows.length⟩
theorem rows_next (d : Ds) (rows : List (List Sg)) (n : Nat) : rowsN d rows (n + 1) = rowsN d rows n ++ [rowN d rows n] := by
  unfold rowsN; rw [List.range_succ, List.map_append]; rfl
theorem rows_len (d : Ds) (rows : List (List Sg)) (n : Nat) : (rowsN d rows n).length = n := by simp [rowsN]
theorem settle_len (d : Ds) (st : List Int) (l : List Sg) : (settleE d st l).length = (namesD d).length := by simp [settleE]
def inS1 (l : List Sg) (p : Pt) : Sg := ⟨p.name, inputE p l⟩
def setS1 (d : Ds) (st : List Int) (l : List Sg) (s : List UInt8) : Sg := ⟨s, valueE (sigsE d st l) s⟩
def stepS1 (d : Ds) (st : List Int) (l : List Sg) (r : Rg) : Int := cutE (valX (settleE d st l) r.next) r.width
theorem reg_next (d : Ds) (st : List Int) (n : Nat) : regS d st (n + 1) = regS d st n ++ [⟨(d.regs.getD n default).name, st.getD n default⟩] := by
  unfold regS; rw [List.range_succ, List.map_append]; rfl
theorem sig_next {d : Ds} (h : DsQ d) (st : List Int) (l : List Sg) {i : Nat} (hi : i < d.wires.length) : sigN d st l (i + 1) = sigN d st l i ++ [⟨(d.wires.getD ((orderE d).getD i default).toNat default).name, cutE (valX (sigN d st l i) (d.wires.getD ((orderE d).getD i default).toNat default).expr) (d.wires.getD ((orderE d).getD i default).toNat default).width⟩] := by
  rw [ord_at h hi]; rfl
theorem reg_x {d : Ds} (h : DsOk d) {i : Nat} (hi : i < d.regs.length) : XOk (d.regs.getD i default).next := by
  have hl := exprs_len d
  have := h.xs (d.wires.length + i) (by omega)
  have e : (exprsD d).getD (d.wires.length + i) default = (d.regs.getD i default).next := by
    unfold exprsD
    rw [show d.wires.length + i = (d.wires.map Wr.expr).length + i by simp, getD_right, map_getD' _ hi]
  rwa [e] at this
theorem ord_len {d : Ds} (h : DsQ d) : (orderE d).length = d.wires.length := h.v.ord
theorem wire_xo {d : Ds} (h : DsQ d) {i : Nat} (hi : i < d.wires.length) : XOk (d.wires.getD ((orderE d).getD i default).toNat default).expr := by
  rw [ord_at h hi]; exact wire_x h.v.ok hi
theorem wire_go {d : Ds} (h : DsQ d) (st : List Int) (l : List Sg) {i : Nat} (hi : i < d.wires.length) : GX (fun s => (findS (sigN d st l i) s).2 = true) (d.wires.getD ((orderE d).getD i default).toNat default).expr := by
  rw [ord_at h hi]; exact wire_gx h st l hi
end Go.Proofs.YthlfacmpjehjmaaGreatDoor
/- The designs of the library, as data. -/
set_option linter.unusedSimpArgs false
set_option linter.unusedVariables false
namespace Go.Proofs.YthlfacmpjehjmaaGreatDoor
open Go.Sim
def sIv : List UInt8 := [105, 118]
def sIt : List UInt8 := [105, 116]
def sIa : List UInt8 := [105, 97]
def sIb : List UInt8 := [105, 98]
def sOrdy : List UInt8 := [111, 114, 100, 121]
def sIrdy : List UInt8 := [105, 114, 100, 121]
def sOv : List UInt8 := [111, 118]
def sOt : List UInt8 := [111, 116]
def sOa : List UInt8 := [111, 97]
def sPush : List UInt8 := [112, 117, 115, 104]
def sPop : List UInt8 := [112, 111, 112]
def sGo : List UInt8 := [103, 111]
def sN : List UInt8 := [110]
def sK : List UInt8 := [107]
def sV : List UInt8 := [118]
def sT : List UInt8 := [116]
def sA : List UInt8 := [97]
def sM : List UInt8 := [109]
def sR : List UInt8 := [114]
def sS : List UInt8 := [115]
def digT (m : Nat) : List UInt8 := [UInt8.ofNat (48 + m)]
def ixN (s : List UInt8) (i : Nat) : List UInt8 := s ++ digT i
def refE (s : List UInt8) : Ex := .mk 2 0 s []
def numE (n : Int) : Ex := .mk 1 n [] []
def nodeE (op : Int) (l : List Ex) : Ex := .mk op 0 [] l
def notE (a : Ex) : Ex := nodeE 4 [a]
def bothE (a b : Ex) : Ex := nodeE 19 [a, b]
def eitherE (a b : Ex) : Ex := nodeE 20 [a, b]
def plusE (a b : Ex) : Ex := nodeE 7 [a, b]
def minusE (a b : Ex) : Ex := nodeE 8 [a, b]
def equalE (a : Ex) (n : Int) : Ex := nodeE 15 [a, numE n]
def lessE (a b : Ex) : Ex := nodeE 17 [a, b]
def whenE (c a b : Ex) : Ex := nodeE 22 [c, a, b]
def beginD (nm : List UInt8) (w : Int) : Ds := ⟨nm, [⟨sIv, 1⟩, ⟨sIt, 4⟩, ⟨sIa, w⟩, ⟨sIb, w⟩, ⟨sOrdy, 1⟩], [], [], [sIrdy, sOv, sOt, sOa]⟩
def addW (d : Ds) (nm : List UInt8) (w : Int) (e : Ex) : Ds := ⟨d.name, d.inputs, d.wires ++ [⟨nm, w, e⟩], d.regs, d.outputs⟩
def addR (d : Ds) (nm : List UInt8) (w : Int) (e : Ex) : Ds := ⟨d.name, d.inputs, d.wires, d.regs ++ [⟨nm, w, 0, e⟩], d.outputs⟩
def pushD (d : Ds) : Ds := addW d sPush 1 (bothE (refE sIv) (refE sIrdy))
def popD (d : Ds) : Ds := addW d sPop 1 (bothE (refE sOv) (refE sOrdy))
def cellE (dep : Int) (s inp : List UInt8) (i : Nat) : Ex :=
  whenE (bothE (refE sPush) (equalE (refE sK) (i : Int))) (refE inp) (whenE (refE sPop) (if (i : Int) < dep - 1 then refE (ixN s (i + 1)) else numE 0) (refE (ixN s i)))
def queue0 (k w : Int) : Ds :=
  addR (addW (popD (pushD (addW (addW (addW (addW (beginD [113, 117, 101, 117, 101] w) sIrdy 1 (lessE (refE sN) (numE k))) sOv 1 (lessE (numE 0) (refE sN))) sOt 4 (refE [116, 48])) sOa w (refE [97, 48])))) sK 4 (minusE (refE sN) (refE sPop))) sN 4 (plusE (refE sK) (refE sPush))
def cellsD (k w : Int) : Nat → Ds
  | 0 => queue0 k w
  | i + 1 => addR (addR (cellsD k w i) (ixN sT i) 4 (cellE k sT sIt i)) (ixN sA i) w (cellE k sA sIa i)
def queueD (k : Nat) (w : Int) : Ds := cellsD k w k
def stageD (d : Ds) (w : Int) : Ds :=
  addR (addR (pushD (addW (addW (addW (addW d sIrdy 1 (eitherE (notE (refE sV)) (refE sOrdy))) sOv 1 (refE sV)) sOt 4 (refE sT)) sOa w (refE sA))) sV 1 (whenE (refE sPush) (numE 1) (whenE (refE sOrdy) (numE 0) (refE sV)))) sT 4 (whenE (refE sPush) (refE sIt) (refE sT))
def adderD (w : Int) : Ds := addR (stageD (beginD [97, 100, 100, 101, 114] w) w) sA w (whenE (refE sPush) (plusE (refE sIa) (refE sIb)) (refE sA))
def counterD (w : Int) : Ds := addR (addR (stageD (beginD [99, 111, 117, 110, 116, 101, 114] w) w) sA w (whenE (refE sPush) (refE sN) (refE sA))) sN w (whenE (refE sPush) (plusE (refE sN) (numE 1)) (refE sN))
/-- The name from which a stage of the pipeline takes over. -/
def fromE (s inp : List UInt8) : Nat → List UInt8
  | 0 => inp
  | i + 1 => ixN s i
def lastN (k : Nat) : Nat := ((k : Int) - 1).toNat
def delay0 (k : Nat) (w : Int) : Ds :=
  addW (addW (addW (addW (addW (beginD [100, 101, 108, 97, 121] w) sGo 1 (eitherE (notE (refE (ixN sV (lastN k)))) (refE sOrdy))) sIrdy 1 (refE sGo)) sOv 1 (refE (ixN sV (lastN k)))) sOt 4 (refE (ixN sT (lastN k)))) sOa w (refE (ixN sA (lastN k)))
def moveE (c : Ex) (a b : List UInt8) : Ex := whenE c (refE a) (refE b)
def takeE (i : Nat) : Ex := bothE (refE sGo) (refE (fromE sV sIv i))
def stagesD (k : Nat) (w : Int) : Nat → Ds
  | 0 => delay0 k w
  | i + 1 => addR (addR (addR (stagesD k w i) (ixN sV i) 1 (moveE (refE sGo) (fromE sV sIv i) (ixN sV i))) (ixN sT i) 4 (moveE (takeE i) (fromE sT sIt i) (ixN sT i))) (ixN sA i) w (moveE (takeE i) (fromE sA sIa i) (ixN sA i))
def delayD (k : Nat) (w : Int) : Ds := stagesD k w k
def swapW (w : Int) : Ds :=
  addW (popD (pushD (addW (addW (addW (addW (beginD [115, 119, 97, 112] w) sIrdy 1 (bothE (notE (refE sM)) (lessE (refE sN) (numE 2)))) sOv 1 (refE sM)) sOt 4 (whenE (equalE (refE sN) 2) (refE [116, 49]) (refE [116, 48]))) sOa w (whenE (equalE (refE sN) 2) (refE [97, 49]) (refE [97, 48]))))) sR 2 (minusE (plusE (refE sN) (refE sPush)) (refE sPop))
def leftE : Ex := nodeE 16 [refE sR, numE 0]
def waitsE : Ex := bothE (bothE (bothE (notE (refE sM)) (equalE (refE sN) 1)) (notE (refE sPush))) (lessE (refE sS) (numE 3))
def swap0 (w : Int) : Ds :=
  addR (addR (addR (swapW w) sN 2 (refE sR)) sM 1 (whenE (refE sM) leftE (eitherE (equalE (refE sR) 2) (bothE (equalE (refE sR) 1) (equalE (refE sS) 3))))) sS 2 (whenE waitsE (plusE (refE sS) (numE 1)) (numE 0))
def takeS (i : Nat) : Ex := bothE (refE sPush) (equalE (refE sN) (i : Int))
def swapsD (w : Int) : Nat → Ds
  | 0 => swap0 w
  | i + 1 => addR (addR (swapsD w i) (ixN sT i) 4 (whenE (takeS i) (refE sIt) (refE (ixN sT i)))) (ixN sA i) w (whenE (takeS i) (refE sIa) (refE (ixN sA i)))
def swapD (w : Int) : Ds := swapsD w 2
theorem cells_len (k w : Int) : ∀ i, (cellsD k w i).wires.length = 7 ∧ (cellsD k w i).regs.length = 1 + 2 * i
  | 0 => ⟨rfl, rfl⟩
  | i + 1 => by
    have h := cells_len k w i
    simp only [cellsD, addR, List.length_append, List.length_cons, List.length_nil]
    omega
theorem stages_len (k : Nat) (w : Int) : ∀ i, (stagesD k w i).wires.length = 5 ∧ (stagesD k w i).regs.length = 3 * i
  | 0 => ⟨rfl, rfl⟩
  | i + 1 => by
    have h := stages_len k w i
    simp only [stagesD, addR, List.length_append, List.length_cons, List.length_nil]
    omega
theorem swaps_len (w : Int) : ∀ i, (swapsD w i).wires.length = 7 ∧ (swapsD w i).regs.length = 3 + 2 * i
  | 0 => ⟨rfl, rfl⟩
  | i + 1 => by
    have h := swaps_len w i
    simp only [swapsD, addR, List.length_append, List.length_cons, List.length_nil]
    omega
/-- A builder in memory. -/
def bdR (d : Ds) (v : Value × Value) : List Rp := [Rp.str d.name, Rp.slice eP d.inputs, Rp.val v.1, Rp.val v.2, Rp.slice eS d.outputs]
def bdM (r : Nat) (d : Ds) (v : Value × Value) : List MF := [MF.box r 111 (bdR d v), MF.osl v.1 77 6 eWr d.wires, MF.osl v.2 81 7 eRg d.regs]
def bdX (r : Nat) (d : Ds) : RA := ⟨Value × Value, fun _ => Rp.tuple [], fun v => bdM r d v⟩
theorem small_dig {m : Nat} (h : m ≤ 9) : List.take (((m : Int) + 1).toNat - ((m : Int)).toNat) (List.drop ((m : Int)).toNat [48, 49, 50, 51, 52, 53, 54, 55, 56, 57, 97, 98, 99, 100, 101, 102, 103, 104, 105, 106, 107, 108, 109, 110, 111, 112, 113, 114, 115, 116, 117, 118, 119, 120, 121, 122]) = digT m := by
  match m, h with
  | 0, _ => rfl
  | 1, _ => rfl
  | 2, _ => rfl
  | 3, _ => rfl
  | 4, _ => rfl
  | 5, _ => rfl
  | 6, _ => rfl
  | 7, _ => rfl
  | 8, _ => rfl
  | 9, _ => rfl
/-- strings.asciiSpace: 1 for the blanks below 128. -/
def spTab : List Int := (List.range 256).map fun i => if i = 9 ∨ i = 10 ∨ i = 11 ∨ i = 12 ∨ i = 13 ∨ i = 32 then 1 else 0
def spG : MF := MF.glob 0 (spTab.map (Rp.int .u8))
def begX (nm : List UInt8) (w : Int) : RA := ⟨Nat × (Value × Value), fun u => Rp.ptr u.1 0, fun u => spG :: bdM u.1 (beginD nm w) u.2⟩
/-- The constant text of the outputs, and how it is cut into fields. -/
def txt : List UInt8 := [105, 114, 100, 121, 32, 111, 118, 32, 111, 116, 32, 111, 97]
def isF (i : Nat) : Int := spTab.getD ((ch txt i)).toNat 0
def cF : Nat → Int × Int × Int
  | 0 => (0, 1, 0)
  | i + 1 => (IntKind.i64.wrap ((cF i).1 + bitsOf .and .i64 (cF i).2.1 (bitsOf .xor .i64 (-1) (IntKind.i64.wrap (isF i)))), IntKind.i64.wrap (isF i), bitsOf .or .u8 (cF i).2.2 (ch txt i))
def fA : Nat → List (List UInt8) × Nat × Nat
  | 0 => (List.replicate 4 [], 0, 0)
  | i + 1 => if isF i = 0 then fA i else ((fA i).1.set (fA i).2.1 (List.take (i - (fA i).2.2) (List.drop (fA i).2.2 txt)), (fA i).2.1 + 1, i + 1)
theorem fA_no {i : Nat} (h : isF i = 0) : fA (i + 1) = fA i := by rw [fA, if_pos h]
theorem fA_yes {i : Nat} (h : ¬ isF i = 0) : fA (i + 1) = ((fA i).1.set (fA i).2.1 (List.take (i - (fA i).2.2) (List.drop (fA i).2.2 txt)), (fA i).2.1 + 1, i + 1) := by rw [fA, if_neg h]
theorem fA_bd : ∀ i, i < 13 → (fA i).2.2 ≤ i ∧ (isF i ≠ 0 → (fA i).2.1 < (fA i).1.length ∧ (i + 1 < 13 → isF (i + 1) = 0)) := by decide
theorem fA_len : ∀ i, (fA i).1.length = 4
  | 0 => rfl
  | i + 1 => by
    by_cases h : isF i = 0
    · rw [fA_no h]; exact fA_len i
    · rw [fA_yes h]; simp [fA_len i]
theorem fA_end : fA 13 = ([sIrdy, sOv, sOt, []], 3, 11) := by decide
theorem cF_end : (cF 13).1 = 4 ∧ (cF 13).2.2 < 128 := ⟨by kernel_rfl, of_decide_eq_true (by kernel_rfl)⟩
def takeX (r : Nat) (s : List UInt8) : RA := ⟨Unit, fun _ => Rp.agg (eX (bothE (refE sGo) (refE s))), fun _ => [MF.box r 9 [Rp.str s]]⟩
end Go.Proofs.YthlfacmpjehjmaaGreatDoor
/- The law's helpers, as data. -/
set_option linter.unusedSimpArgs false
set_option linter.unusedVariables false
namespace Go.Proofs.YthlfacmpjehjmaaGreatDoor
open Go.Sim
/-- The inputs of a row. -/
def sgR (x : Rw) : List Sg := [⟨sIv, truthE x.v⟩, ⟨sIt, IntKind.i64.wrap x.t⟩, ⟨sIa, IntKind.i64.wrap x.a⟩, ⟨sIb, IntKind.i64.wrap x.b⟩, ⟨sOrdy, truthE x.ready⟩]
def rowsS (l : List Rw) : List (List Sg) := (l.take 60).map sgR
def seeP (w : Wv) (s : List UInt8) (t : Int) (i : Nat) : Bool := w.names.getD i default == s && decide (t < w.rows.length) && decide ((i : Int) < (w.rows.getD t.toNat default).length)
def seeI (w : Wv) (s : List UInt8) (t : Int) : Int := idxI (seeP w s t) (List.range w.names.length)
def seeV (w : Wv) (s : List UInt8) (t : Int) : Int := if 0 ≤ seeI w s t then (w.rows.getD t.toNat default).getD (seeI w s t).toNat default else 0
theorem see_yes {w : Wv} {s : List UInt8} {t : Int} {i : Nat} (hi : i < w.names.length) (h : seeP w s t i = true) (hn : ∀ j, j < i → seeP w s t j = false) : seeV w s t = (w.rows.getD t.toNat default).getD i default := by
  have e : seeI w s t = i := idx_yes (by simpa using hi) (by rw [range_getD hi]; exact h) (fun j hj => by rw [range_getD (by omega)]; exact hn j hj)
  unfold seeV
  rw [e, if_pos (by omega)]; simp
theorem see_no {w : Wv} {s : List UInt8} {t : Int} (hn : ∀ j, j < w.names.length → seeP w s t j = false) : seeV w s t = 0 := by
  have e : seeI w s t = -1 := idx_no fun j hj => by
    have hj' : j < w.names.length := by simpa using hj
    rw [range_getD hj']; exact hn j hj'
  unfold seeV
  rw [e]; rfl
structure Ent where
  name : List UInt8
  d : Ds
  deriving Inhabited
def ents : List Ent := [⟨[113, 117, 101, 117, 101], queueD 4 8⟩, ⟨[97, 100, 100, 101, 114], adderD 8⟩, ⟨[99, 111, 117, 110, 116, 101, 114], counterD 8⟩, ⟨[100, 101, 108, 97, 121], delayD 2 8⟩, ⟨[115, 119, 97, 112], swapD 8⟩]
def fnG (d : Ds) : Rp := Rp.fnM Tryz.prog (fun _ : Unit => []) (fun _ => [spG]) (fun _ => .one (Rp.tuple [Rp.agg (eD d), Rp.int .i64 0]))
def eEn (x : Ent) : List Rp := [Rp.str x.name, fnG x.d]
def getI (s : List UInt8) : Int := idxI (fun x : Ent => x.name == s) ents
def noD : Ds := ⟨[], [], [], [], []⟩
def getD1 (s : List UInt8) : Ds := if 0 ≤ getI s then (ents.getD (getI s).toNat default).d else noD
def getE1 (s : List UInt8) : Int := if 0 ≤ getI s then 0 else 7
theorem get_yes {s : List UInt8} {i : Nat} (hi : i < 5) (h : (ents.getD i default).name = s) (hn : ∀ j, j < i → (ents.getD j default).name ≠ s) : getI s = i :=
  idx_yes (p := fun x : Ent => x.name == s) hi (by simpa using h) (fun j hj => by simpa using hn j hj)
theorem get_no {s : List UInt8} (hn : ∀ j, j < 5 → (ents.getD j default).name ≠ s) : getI s = -1 :=
  idx_no (p := fun x : Ent => x.name == s) fun j hj => by simpa using hn j hj
def W1 : Wv := waveE (queueD 2 8) (rowsS [⟨true, false, 0, 0, 0⟩, ⟨true, false, 0, 0, 0⟩, ⟨true, false, 0, 0, 0⟩])
def W2 : Wv := waveE (swapD 8) (rowsS [⟨true, true, 1, 0, 0⟩, ⟨true, true, 2, 0, 0⟩, ⟨false, true, 0, 0, 0⟩, ⟨false, true, 0, 0, 0⟩])
theorem awake_1 : seeV W1 sIrdy 0 = 1 ∧ seeV W1 sIrdy 1 = 1 ∧ seeV W1 sIrdy 2 = 0 := ⟨by kernel_rfl, by kernel_rfl, by kernel_rfl⟩
theorem awake_2 : seeV W2 sOv 1 = 0 ∧ seeV W2 sOv 2 = 1 ∧ seeV W2 sOt 2 = 2 ∧ seeV W2 sOv 3 = 1 ∧ seeV W2 sOt 3 = 1 := ⟨by kernel_rfl, by kernel_rfl, by kernel_rfl, by kernel_rfl, by kernel_rfl⟩
end Go.Proofs.YthlfacmpjehjmaaGreatDoor
/- More types of chapter 33: tokens and the reader of expressions. -/
set_option linter.unusedVariables false
namespace Go.Proofs.YthlfacmpjehjmaaGreatDoor
open Go.Sim
structure Tk where
  kind : Int
  n : Int
  text : List UInt8
  line : Int
  deriving DecidableEq, Inhabited
def eTk (t : Tk) : List Rp := [Rp.int .i64 t.kind, Rp.int .i64 t.n, Rp.str t.text, Rp.int .i64 t.line]
theorem ti5 : TI Tryz.prog 5 1 1 (.int .u8 0) := ⟨⟨Tryz.t5, by kernel_rfl, by kernel_rfl, by kernel_rfl, by kernel_rfl⟩⟩
theorem z5 (w : World) (C : Nat → Prop) : AllR [Rp.int .u8 0] w C (Value.int .u8 0).cells.toList := allR_of rfl ⟨zint rfl w C, trivial⟩
theorem ti150 : TI Tryz.prog 150 4 40 (.agg #[.int .i64 0, .int .i64 0, .string ⟨#[]⟩, .int .i64 0]) := ⟨⟨Tryz.t150, by kernel_rfl, by kernel_rfl, by kernel_rfl, by kernel_rfl⟩⟩
theorem z150 (w : World) (C : Nat → Prop) : AllR [Rp.int .i64 0, Rp.int .i64 0, Rp.str [], Rp.int .i64 0] w C (Value.agg #[.int .i64 0, .int .i64 0, .string ⟨#[]⟩, .int .i64 0]).cells.toList := allR_of rfl ⟨zint rfl w C, zint rfl w C, zstr w C, zint rfl w C, trivial⟩
theorem ti181 : TI Tryz.prog 181 3 40 (.agg #[.slice none 0 0, .int .i64 0, .int .i64 0]) := ⟨⟨Tryz.t181, by kernel_rfl, by kernel_rfl, by kernel_rfl, by kernel_rfl⟩⟩
theorem z181 (w : World) (C : Nat → Prop) : AllR [Rp.slice eTk [], Rp.int .i64 0, Rp.int .i64 0] w C (Value.agg #[.slice none 0 0, .int .i64 0, .int .i64 0]).cells.toList := allR_of rfl ⟨zslice w C, zint rfl w C, zint rfl w C, trivial⟩
theorem pl150 (w : World) : (#[({ name := "Kind", type := 3, offset := 0, embedded := false, tag := "", pkgPath := "", byteOffset := 0 } : Field), { name := "N", type := 3, offset := 1, embedded := false, tag := "", pkgPath := "", byteOffset := 8 }, { name := "Text", type := 9, offset := 2, embedded := false, tag := "", pkgPath := "", byteOffset := 16 }, { name := "Line", type := 3, offset := 3, embedded := false, tag := "", pkgPath := "", byteOffset := 32 }].mapM fun f => (do pure (f.offset, ← sizeOf f.type) : Sem (Nat × Nat))).run Tryz.prog w = .ok #[(0, 1), (1, 1), (2, 1), (3, 1)] w := by
  simp [Tryz.sizeOf3, Tryz.sizeOf9]
theorem pl181 (w : World) : (#[({ name := "l", type := 144, offset := 0, embedded := false, tag := "", pkgPath := "testbench/testbenchref09", byteOffset := 0 } : Field), { name := "at", type := 3, offset := 1, embedded := false, tag := "", pkgPath := "testbench/testbenchref09", byteOffset := 24 }, { name := "e", type := 28, offset := 2, embedded := false, tag := "", pkgPath := "testbench/testbenchref09", byteOffset := 32 }].mapM fun f => (do pure (f.offset, ← sizeOf f.type) : Sem (Nat × Nat))).run Tryz.prog w = .ok #[(0, 1), (1, 1), (2, 1)] w := by
  simp [Tryz.sizeOf144, Tryz.sizeOf28, Tryz.sizeOf3]
end Go.Proofs.YthlfacmpjehjmaaGreatDoor
/- The lexer, as data. -/
set_option linter.unusedSimpArgs false
set_option linter.unusedVariables false
namespace Go.Proofs.YthlfacmpjehjmaaGreatDoor
open Go.Sim
/-- No comments, no line ends, not long. -/
def NoSl (s : List UInt8) : Prop := s.length ≤ 200 ∧ ∀ i, i < s.length → ch s i ≠ 47 ∧ ch s i ≠ 10
def wsB (c : Int) : Bool := (decide (c = 32) || decide (c = 9)) || decide (c = 10)
def startsE (s : List UInt8) (a : Nat) (t : List UInt8) : Bool := decide ((t.length : Int) ≤ (s.length : Int) - a) && (List.take (a + t.length - a) (List.drop a s) == t)
theorem starts_no {s : List UInt8} (hs : NoSl s) {a : Nat} (ha : a < s.length) : startsE s a [47, 47] = false := by
  rw [Bool.eq_false_iff]
  intro h
  unfold startsE at h
  rw [Bool.and_eq_true, beq_iff_eq] at h
  have h2 := h.2
  rw [List.drop_eq_getElem_cons ha] at h2
  rw [show a + [(47 : UInt8), 47].length - a = 2 from by simp] at h2
  have h3 : s[a] = 47 := by
    have := congrArg (fun l => l.getD 0 0) h2
    simpa [ha] using this
  refine (hs.2 a ha).1 ?_
  unfold ch
  rw [show s.getD a 0 = s[a] from by simp [List.getD, ha], h3]; rfl
def spanE (p : UInt8 → Bool) (s : List UInt8) (a : Nat) : Nat := a + ((s.drop a).takeWhile p).length
theorem tw_spec (p : UInt8 → Bool) : ∀ l : List UInt8, (l.takeWhile p).length ≤ l.length ∧ (∀ i, i < (l.takeWhile p).length → p (l.getD i 0) = true) ∧ ((l.takeWhile p).length < l.length → p (l.getD (l.takeWhile p).length 0) = false)
  | [] => ⟨Nat.le_refl _, fun i h => absurd h (Nat.not_lt_zero _), fun h => absurd h (Nat.not_lt_zero _)⟩
  | x :: l => by
    obtain ⟨h1, h2, h3⟩ := tw_spec p l
    cases hp : p x with
    | false =>
      rw [List.takeWhile_cons_of_neg (by simp [hp])]
      exact ⟨Nat.zero_le _, fun i h => absurd h (Nat.not_lt_zero _), fun _ => hp⟩
    | true =>
      rw [List.takeWhile_cons_of_pos hp]
      refine ⟨by simpa using h1, fun i h => ?_, fun h => ?_⟩
      · cases i with
        | zero => exact hp
        | succ i => exact h2 i (by simpa using h)
      · exact h3 (by simpa using h)
theorem span_spec (p : UInt8 → Bool) (s : List UInt8) {a : Nat} (ha : a ≤ s.length) : a ≤ spanE p s a ∧ spanE p s a ≤ s.length ∧ (∀ i, a ≤ i → i < spanE p s a → p (s.getD i 0) = true) ∧ (spanE p s a < s.length → p (s.getD (spanE p s a) 0) = false) := by
  obtain ⟨h1, h2, h3⟩ := tw_spec p (s.drop a)
  have hl : (s.drop a).length = s.length - a := List.length_drop
  have hd : ∀ i, (s.drop a).getD i 0 = s.getD (a + i) 0 := fun i => by simp [List.getD, List.getElem?_drop]
  unfold spanE
  refine ⟨by omega, by omega, fun i h4 h5 => ?_, fun h4 => ?_⟩
  · have := h2 (i - a) (by omega)
    rwa [hd, show a + (i - a) = i by omega] at this
  · have := h3 (by omega)
    rwa [hd] at this
def blankE (s : List UInt8) (a : Nat) : Nat := spanE (fun b => wsB (b.toNat : Int)) s a
def behindE (s : List UInt8) (a : Nat) : Nat := spanE (fun b => folB (b.toNat : Int)) s a
def marks : List (List UInt8) := [[40], [41], [123], [125], [91], [93], [44], [59], [58], [46, 46], [63], [61], [61, 61], [33, 61], [60], [60, 61], [62], [62, 61], [60, 60], [62, 62], [43], [45], [42], [38], [124], [94], [126], [33], [38, 38], [124, 124], [45, 62], [61, 62], [58, 61], [58, 47], [35, 35], [64]]
def longN (s : List UInt8) (a : Nat) : Nat → List UInt8
  | 0 => []
  | i + 1 => if (startsE s a (marks.getD i default) && decide (((longN s a i).length : Int) < ((marks.getD i default).length : Int))) = true then marks.getD i default else longN s a i
def longE (s : List UInt8) (a : Nat) : List UInt8 := longN s a 36
theorem long_yes {s : List UInt8} {a i : Nat} (h : (startsE s a (marks.getD i default) && decide (((longN s a i).length : Int) < ((marks.getD i default).length : Int))) = true) : longN s a (i + 1) = marks.getD i default := by rw [longN, if_pos h]
theorem long_no {s : List UInt8} {a i : Nat} (h : (startsE s a (marks.getD i default) && decide (((longN s a i).length : Int) < ((marks.getD i default).length : Int))) = false) : longN s a (i + 1) = longN s a i := by rw [longN, if_neg (by rw [h]; simp)]
theorem long_len (s : List UInt8) (a : Nat) : ∀ i, i ≤ 36 → (longN s a i).length ≤ 2
  | 0, _ => by simp [longN]
  | i + 1, h => by
    rw [longN]
    split
    · have : ∀ i, i < 36 → (marks.getD i default).length ≤ 2 := by decide
      exact this i (by omega)
    · exact long_len s a i (by omega)
def wordE (s : List UInt8) (a : Nat) : List UInt8 := List.take (behindE s a - a) (List.drop a s)
def readE (s : List UInt8) (a : Nat) : Tk :=
  if lowB (ch s a) = true then (if kwB (wordE s a) = true then ⟨2, 0, wordE s a, 0⟩ else ⟨1, 0, wordE s a, 0⟩)
  else if digB (ch s a) = true then ⟨3, ch s a - 48, wordE s a, 0⟩ else ⟨4, 0, longE s a, 0⟩
/-- The token at a place can be read: names are short, numbers have one digit. -/
structure ReadOk (s : List UInt8) (a : Nat) : Prop where
  lt : a < s.length
  nm : lowB (ch s a) = true → (wordE s a).length ≤ 16
  dg : digB (ch s a) = true → behindE s a = a + 1
  mark : lowB (ch s a) = false → digB (ch s a) = false → longE s a ≠ []
def lexN (s : List UInt8) : Nat → Nat × List Tk
  | 0 => (blankE s 0, [])
  | k + 1 => (blankE s ((lexN s k).1 + (readE s (lexN s k).1).text.length), (lexN s k).2 ++ [⟨(readE s (lexN s k).1).kind, (readE s (lexN s k).1).n, (readE s (lexN s k).1).text, 1⟩])
structure LexOk (s : List UInt8) (K : Nat) : Prop where
  ns : NoSl s
  k : K ≤ 100
  go : ∀ k, k < K → ReadOk s (lexN s k).1 ∧ (lexN s k).1 + (readE s (lexN s k).1).text.length ≤ s.length
  fin : (lexN s K).1 = s.length
def tokE (s : List UInt8) (K : Nat) : List Tk := (lexN s K).2
theorem lex_len (s : List UInt8) : ∀ k, (lexN s k).2.length = k
  | 0 => rfl
  | k + 1 => by rw [lexN, List.length_append, lex_len s k]; rfl
/-- Checks by the kernel. -/
def readB (s : List UInt8) (a : Nat) : Bool := decide (a < s.length) && (!lowB (ch s a) || decide ((wordE s a).length ≤ 16)) && (!digB (ch s a) || decide (behindE s a = a + 1)) && (lowB (ch s a) || digB (ch s a) || !decide (longE s a = []))
theorem readB_ok {s : List UInt8} {a : Nat} (h : readB s a = true) : ReadOk s a := by
  unfold readB at h
  simp only [Bool.and_eq_true, Bool.or_eq_true, Bool.not_eq_true', decide_eq_true_eq, decide_eq_false_iff_not] at h
  obtain ⟨⟨⟨h1, h2⟩, h3⟩, h4⟩ := h
  refine ⟨h1, fun q => ?_, fun q => ?_, fun q r => ?_⟩
  · rcases h2 with h2 | h2
    · rw [q] at h2; cases h2
    · exact h2
  · rcases h3 with h3 | h3
    · rw [q] at h3; cases h3
    · exact h3
  · rcases h4 with (h4 | h4) | h4
    · rw [q] at h4; cases h4
    · rw [r] at h4; cases h4
    · exact h4
def lexB (s : List UInt8) (K : Nat) : Bool :=
  decide (s.length ≤ 200) && ((List.range s.length).all fun i => decide (ch s i ≠ 47 ∧ ch s i ≠ 10)) && decide (K ≤ 100) && ((List.range K).all fun k => readB s (lexN s k).1 && decide ((lexN s k).1 + (readE s (lexN s k).1).text.length ≤ s.length)) && decide ((lexN s K).1 = s.length)
theorem lex_ok {s : List UInt8} {K : Nat} (h : lexB s K = true) : LexOk s K := by
  unfold lexB at h
  simp only [Bool.and_eq_true, decide_eq_true_eq] at h
  obtain ⟨⟨⟨⟨h1, h2⟩, h3⟩, h4⟩, h5⟩ := h
  refine ⟨⟨h1, fun i hi => of_decide_eq_true (List.all_eq_true.1 h2 i (List.mem_range.2 hi))⟩, h3, fun k hk => ?_, h5⟩
  have := Bool.and_eq_true_iff.1 (List.all_eq_true.1 h4 k (List.mem_range.2 hk))
  exact ⟨readB_ok this.1, of_decide_eq_true this.2⟩
theorem word_one {s : List UInt8} {a : Nat} (ha : a < s.length) (h : behindE s a = a + 1) : wordE s a = [s.getD a 0] := by
  unfold wordE
  rw [h, List.drop_eq_getElem_cons ha, show a + 1 - a = 0 + 1 by omega, List.take_succ_cons, List.take_zero]
  congr 1
  simp [List.getD, ha]
theorem one48 {c : UInt8} (h : ((c.toNat : Nat) : Int) = 48) : [c] = [48] := by
  have : c = 48 := by
    apply UInt8.toNat_inj.1
    show c.toNat = 48
    omega
  rw [this]
theorem dig_bd {c : Int} (h : digB c = true) : 48 ≤ c ∧ c ≤ 57 := by
  unfold digB at h
  simpa [Bool.and_eq_true] using h
theorem behind_le {s : List UInt8} {a : Nat} (h : a ≤ s.length) : a ≤ behindE s a ∧ behindE s a ≤ s.length := by
  have := span_spec (fun b => folB (b.toNat : Int)) s h
  exact ⟨this.1, this.2.1⟩
end Go.Proofs.YthlfacmpjehjmaaGreatDoor
/- The parser of expressions, as data. -/
set_option linter.unusedSimpArgs false
set_option linter.unusedVariables false
namespace Go.Proofs.YthlfacmpjehjmaaGreatDoor
open Go.Sim
/-- Tokens of the library's texts: names, one-digit numbers, marks. -/
def TkOk (t : Tk) : Prop := (t.kind = 1 ∧ nameB t.text = true ∧ t.n = 0) ∨ (t.kind = 3 ∧ 0 ≤ t.n ∧ t.n ≤ 9 ∧ t.text = digT t.n.toNat) ∨ (t.kind = 4 ∧ (marks.any fun x => t.text == x) = true ∧ t.n = 0)
def tkB (t : Tk) : Bool := (decide (t.kind = 1) && nameB t.text && decide (t.n = 0)) || (decide (t.kind = 3) && decide (0 ≤ t.n) && decide (t.n ≤ 9) && decide (t.text = digT t.n.toNat)) || (decide (t.kind = 4) && (marks.any fun x => t.text == x) && decide (t.n = 0))
theorem tk_ok {t : Tk} (h : tkB t = true) : TkOk t := by
  unfold tkB at h
  simp only [Bool.or_eq_true, Bool.and_eq_true, decide_eq_true_eq] at h
  rcases h with (h | h) | h
  · exact .inl ⟨h.1.1, h.1.2, h.2⟩
  · exact .inr (.inl ⟨h.1.1.1, h.1.1.2, h.1.2, h.2⟩)
  · exact .inr (.inr ⟨h.1.1, h.1.2, h.2⟩)
def Toks (l : List Tk) : Prop := l.length ≤ 100 ∧ ∀ i, i < l.length → TkOk (l.getD i default)
def kindE (l : List Tk) (a : Nat) : Int := if a < l.length then (l.getD a default).kind else 0
def isE (l : List Tk) (a : Nat) (s : List UInt8) : Bool := (decide (kindE l a = 4) || decide (kindE l a = 2)) && ((l.getD a default).text == s)
theorem kind_lt {l : List Tk} {a : Nat} (h : kindE l a ≠ 0) : a < l.length := by
  unfold kindE at h
  by_cases q : a < l.length
  · exact q
  · rw [if_neg q] at h; exact absurd rfl h
theorem is_lt {l : List Tk} {a : Nat} {s : List UInt8} (h : isE l a s = true) : a < l.length := by
  unfold isE at h
  simp only [Bool.and_eq_true, Bool.or_eq_true, decide_eq_true_eq] at h
  exact kind_lt (by rcases h.1 with q | q <;> omega)
def signM (op : Int) : List UInt8 := if op = 20 then [124, 124] else if op = 19 then [38, 38] else if op = 11 then [124] else if op = 12 then [94] else if op = 10 then [38] else if op = 15 then [61, 61] else if op = 16 then [33, 61] else if op = 17 then [60] else if op = 18 then [60, 61] else if op = 13 then [60, 60] else if op = 14 then [62, 62] else if op = 7 then [43] else if op = 8 then [45] else if op = 9 then [42] else []
def signL (op : Int) : Int := if op = 20 then 3 else if op = 19 then 4 else if op = 11 then 5 else if op = 12 then 6 else if op = 10 then 7 else if op = 15 then 8 else if op = 16 then 8 else if op = 17 then 9 else if op = 18 then 9 else if op = 13 then 10 else if op = 14 then 10 else if op = 7 then 11 else if op = 8 then 11 else if op = 9 then 12 else 0
def prefM (op : Int) : List UInt8 := if op = 4 then [33] else if op = 5 then [126] else if op = 6 then [45] else []
def opB (l : List Tk) (a : Nat) (place : Int) (i : Nat) : Bool := decide (signL ((i : Int) + 7) = place) && isE l a (signM ((i : Int) + 7))
def opI (l : List Tk) (a : Nat) (place : Int) : Int := idxI (opB l a place) (List.range 14)
def operP (l : List Tk) (a : Nat) (place : Int) : Int := if 0 ≤ opI l a place then opI l a place + 7 else 0
theorem oper_yes {l : List Tk} {a : Nat} {place : Int} {i : Nat} (hi : i < 14) (h : opB l a place i = true) (hn : ∀ j, j < i → opB l a place j = false) : operP l a place = (i : Int) + 7 := by
  have e : opI l a place = i := idx_yes (by simpa using hi) (by rw [range_getD hi]; exact h) (fun j hj => by rw [range_getD (by omega)]; exact hn j hj)
  unfold operP; rw [e, if_pos (by omega)]
theorem oper_no {l : List Tk} {a : Nat} {place : Int} (hn : ∀ j, j < 14 → opB l a place j = false) : operP l a place = 0 := by
  have e : opI l a place = -1 := idx_no fun j hj => by
    have hj' : j < 14 := by simpa using hj
    rw [range_getD hj']; exact hn j hj'
  unfold operP; rw [e]; rfl
theorem oper_lt {l : List Tk} {a : Nat} {place : Int} (h : operP l a place ≠ 0) : a < l.length := by
  unfold operP at h
  by_cases q : 0 ≤ opI l a place
  · have := idx_get (p := opB l a place) (l := List.range 14) q
    unfold opB at this
    exact is_lt (Bool.and_eq_true_iff.1 this).2
  · rw [if_neg q] at h; exact absurd rfl h
def sSum : List UInt8 := [115, 117, 109]
def sOnes : List UInt8 := [111, 110, 101, 115]
def primP (l : List Tk) (a : Nat) : Option (Ex × Nat) :=
  if kindE l a = 3 then some (numE (l.getD a default).n, a + 1)
  else if isE l a [40] = true then none
  else if kindE l a ≠ 1 then none
  else if (l.getD a default).text = sSum ∨ (l.getD a default).text = sOnes then none
  else if isE l (a + 1) [91] = true ∨ isE l (a + 1) [64] = true then none
  else some (refE (l.getD a default).text, a + 1)
/-- The loop over operators of a level. -/
def loopP (E : Nat → Option (Ex × Nat)) (l : List Tk) (place : Int) : Nat → Ex → Nat → Option (Ex × Nat)
  | 0, _, _ => none
  | g + 1, x, a =>
    if place = 9 ∧ (isE l a [105, 110, 115, 105, 100, 101] = true ∨ isE l a [62] = true ∨ isE l a [62, 61] = true) then none
    else if operP l a place = 0 then some (x, a)
    else match E (a + 1) with
      | none => none
      | some (y, b) => loopP E l place g (nodeE (operP l a place) [x, y]) b
def exprP (l : List Tk) : Nat → Int → Nat → Option (Ex × Nat)
  | 0, _, _ => none
  | f + 1, place, a =>
    if place = 13 then
      if isE l a [33] = true then
        match exprP l f 13 (a + 1) with
        | none => none
        | some (x, b) => some (notE x, b)
      else if isE l a [126] = true ∨ isE l a [45] = true then none
      else primP l a
    else match exprP l f (place + 1) a with
      | none => none
      | some (x, b) =>
        if place = 1 then
          if isE l b [63] = true then
            match exprP l f 1 (b + 1) with
            | none => none
            | some (y, c) =>
              if isE l c [58] = true then
                match exprP l f 1 (c + 1) with
                | none => none
                | some (z, d) => some (whenE x y z, d)
              else none
          else some (x, b)
        else if place = 2 then (if isE l b [61, 62] = true then none else some (x, b))
        else loopP (exprP l f (place + 1)) l place 20 x b
def rdR (l : List Tk) (a : Nat) : List Rp := [Rp.slice eTk l, Rp.int .i64 (a : Nat), Rp.int .i64 0]
theorem prim_inv {l : List Tk} {a : Nat} {e : Ex} {b : Nat} (h : primP l a = some (e, b)) : b = a + 1 ∧ a < l.length ∧ ((kindE l a = 3 ∧ e = numE (l.getD a default).n) ∨ (kindE l a = 1 ∧ isE l a [40] = false ∧ (l.getD a default).text ≠ sSum ∧ (l.getD a default).text ≠ sOnes ∧ isE l (a + 1) [91] = false ∧ isE l (a + 1) [64] = false ∧ e = refE (l.getD a default).text)) := by
  unfold primP at h
  by_cases h3 : kindE l a = 3
  · rw [if_pos h3] at h
    injection h with h; injection h with h1 h2
    exact ⟨h2.symm, kind_lt (by omega), .inl ⟨h3, h1.symm⟩⟩
  · rw [if_neg h3] at h
    by_cases h4 : isE l a [40] = true
    · rw [if_pos h4] at h; cases h
    · rw [if_neg h4] at h
      by_cases h1 : kindE l a = 1
      · rw [if_neg (by simpa using h1)] at h
        by_cases h5 : (l.getD a default).text = sSum ∨ (l.getD a default).text = sOnes
        · rw [if_pos h5] at h; cases h
        · rw [if_neg h5] at h
          by_cases h6 : isE l (a + 1) [91] = true ∨ isE l (a + 1) [64] = true
          · rw [if_pos h6] at h; cases h
          · rw [if_neg h6] at h
            injection h with h; injection h with e1 e2
            exact ⟨e2.symm, kind_lt (by omega), .inr ⟨h1, by simpa using h4, fun q => h5 (.inl q), fun q => h5 (.inr q), by simpa using fun q => h6 (.inl q), by simpa using fun q => h6 (.inr q), e1.symm⟩⟩
      · rw [if_pos h1] at h; cases h
theorem inv13 {l : List Tk} {f a b : Nat} {e : Ex} (h : exprP l (f + 1) 13 a = some (e, b)) : (isE l a [33] = true ∧ ∃ x, exprP l f 13 (a + 1) = some (x, b) ∧ e = notE x) ∨ (isE l a [33] = false ∧ isE l a [126] = false ∧ isE l a [45] = false ∧ primP l a = some (e, b)) := by
  rw [exprP, if_pos rfl] at h
  by_cases h1 : isE l a [33] = true
  · rw [if_pos h1] at h
    cases hx : exprP l f 13 (a + 1) with
    | none => rw [hx] at h; cases h
    | some p =>
      rw [hx] at h
      obtain ⟨x, c⟩ := p
      injection h with h; injection h with e1 e2
      exact .inl ⟨h1, x, by rw [e2], e1.symm⟩
  · rw [if_neg h1] at h
    by_cases h2 : isE l a [126] = true ∨ isE l a [45] = true
    · rw [if_pos h2] at h; cases h
    · rw [if_neg h2] at h
      exact .inr ⟨by simpa using h1, by simpa using fun q => h2 (.inl q), by simpa using fun q => h2 (.inr q), h⟩
/-- Other levels: the operand, and what follows it. -/
theorem invN {l : List Tk} {f a b : Nat} {place : Int} {e : Ex} (hp : place ≠ 13) (h : exprP l (f + 1) place a = some (e, b)) : ∃ x c, exprP l f (place + 1) a = some (x, c) ∧
    ((place = 1 ∧ isE l c [63] = false ∧ e = x ∧ b = c) ∨ (place = 1 ∧ isE l c [63] = true ∧ ∃ y d z, exprP l f 1 (c + 1) = some (y, d) ∧ isE l d [58] = true ∧ exprP l f 1 (d + 1) = some (z, b) ∧ e = whenE x y z)
    ∨ (place = 2 ∧ isE l c [61, 62] = false ∧ e = x ∧ b = c) ∨ (place ≠ 1 ∧ place ≠ 2 ∧ loopP (exprP l f (place + 1)) l place 20 x c = some (e, b))) := by
  rw [exprP, if_neg hp] at h
  cases hx : exprP l f (place + 1) a with
  | none => rw [hx] at h; cases h
  | some p =>
    obtain ⟨x, c⟩ := p
    rw [hx] at h
    refine ⟨x, c, rfl, ?_⟩
    dsimp only at h
    by_cases h1 : place = 1
    · rw [if_pos h1] at h
      by_cases hq : isE l c [63] = true
      · rw [if_pos hq] at h
        cases hy : exprP l f 1 (c + 1) with
        | none => rw [hy] at h; cases h
        | some p =>
          obtain ⟨y, d⟩ := p
          rw [hy] at h
          dsimp only at h
          by_cases hd : isE l d [58] = true
          · rw [if_pos hd] at h
            cases hz : exprP l f 1 (d + 1) with
            | none => rw [hz] at h; cases h
            | some p =>
              obtain ⟨z, g⟩ := p
              rw [hz] at h
              injection h with h; injection h with e1 e2
              exact .inr (.inl ⟨h1, hq, y, d, z, rfl, hd, by rw [hz, e2], e1.symm⟩)
          · rw [if_neg hd] at h; cases h
      · rw [if_neg hq] at h
        injection h with h; injection h with e1 e2
        exact .inl ⟨h1, by simpa using hq, e1.symm, e2.symm⟩
    · rw [if_neg h1] at h
      by_cases h2 : place = 2
      · rw [if_pos h2] at h
        by_cases hq : isE l c [61, 62] = true
        · rw [if_pos hq] at h; cases h
        · rw [if_neg hq] at h
          injection h with h; injection h with e1 e2
          exact .inr (.inr (.inl ⟨h2, by simpa using hq, e1.symm, e2.symm⟩))
      · rw [if_neg h2] at h
        exact .inr (.inr (.inr ⟨h1, h2, h⟩))
theorem loop_inv {E : Nat → Option (Ex × Nat)} {l : List Tk} {place : Int} {g a b : Nat} {x e : Ex} (h : loopP E l place g x a = some (e, b)) : ∃ q, g = q + 1 ∧ (place = 9 → isE l a [105, 110, 115, 105, 100, 101] = false ∧ isE l a [62] = false ∧ isE l a [62, 61] = false) ∧ ((operP l a place = 0 ∧ e = x ∧ b = a) ∨ (operP l a place ≠ 0 ∧ ∃ y c, E (a + 1) = some (y, c) ∧ loopP E l place q (nodeE (operP l a place) [x, y]) c = some (e, b))) := by
  cases g with
  | zero => rw [loopP] at h; cases h
  | succ q =>
    refine ⟨q, rfl, ?_⟩
    rw [loopP] at h
    by_cases h1 : place = 9 ∧ (isE l a [105, 110, 115, 105, 100, 101] = true ∨ isE l a [62] = true ∨ isE l a [62, 61] = true)
    · rw [if_pos h1] at h; cases h
    · rw [if_neg h1] at h
      refine ⟨fun h9 => ⟨by simpa using fun q => h1 ⟨h9, .inl q⟩, by simpa using fun q => h1 ⟨h9, .inr (.inl q)⟩, by simpa using fun q => h1 ⟨h9, .inr (.inr q)⟩⟩, ?_⟩
      by_cases h0 : operP l a place = 0
      · rw [if_pos h0] at h
        injection h with h; injection h with e1 e2
        exact .inl ⟨h0, e1.symm, e2.symm⟩
      · rw [if_neg h0] at h
        cases hy : E (a + 1) with
        | none => rw [hy] at h; cases h
        | some p =>
          obtain ⟨y, c⟩ := p
          rw [hy] at h
          exact .inr ⟨h0, y, c, rfl, h⟩
end Go.Proofs.YthlfacmpjehjmaaGreatDoor
/- Where the parser stops. -/
set_option linter.unusedSimpArgs false
set_option linter.unusedVariables false
namespace Go.Proofs.YthlfacmpjehjmaaGreatDoor
open Go.Sim
theorem loop_le {E : Nat → Option (Ex × Nat)} {l : List Tk} {place : Int} (hE : ∀ a e b, E a = some (e, b) → a ≤ l.length → b ≤ l.length) : ∀ (g a b : Nat) (x e : Ex), loopP E l place g x a = some (e, b) → a ≤ l.length → b ≤ l.length
  | 0, a, b, x, e, h, _ => by rw [loopP] at h; cases h
  | g + 1, a, b, x, e, h, ha => by
    obtain ⟨q, hq, _, h⟩ := loop_inv h
    obtain rfl : g = q := by omega
    rcases h with ⟨_, _, rfl⟩ | ⟨h0, y, c, hy, hl⟩
    · exact ha
    · have := oper_lt h0
      exact loop_le hE g c b _ e hl (hE _ _ _ hy (by omega))
theorem expr_le {l : List Tk} : ∀ (f : Nat) (place : Int) (a b : Nat) (e : Ex), exprP l f place a = some (e, b) → a ≤ l.length → b ≤ l.length
  | 0, place, a, b, e, h, _ => by rw [exprP] at h; cases h
  | f + 1, place, a, b, e, h, ha => by
    by_cases hp : place = 13
    · subst hp
      rcases inv13 h with ⟨h1, x, hx, _⟩ | ⟨_, _, _, hx⟩
      · exact expr_le f 13 _ b x hx (is_lt h1)
      · obtain ⟨rfl, hlt, _⟩ := prim_inv hx; exact hlt
    · obtain ⟨x, c, hx, hr⟩ := invN hp h
      have hc := expr_le f _ _ _ _ hx ha
      rcases hr with ⟨_, _, _, rfl⟩ | ⟨_, h1, y, d, z, _, h2, hz, _⟩ | ⟨_, _, _, rfl⟩ | ⟨_, _, hl⟩
      · exact hc
      · exact expr_le f 1 _ _ _ hz (is_lt h2)
      · exact hc
      · exact loop_le (fun a e b h ha => expr_le f _ a b e h ha) 20 _ _ _ _ hl hc
theorem tk_n {l : List Tk} {a : Nat} (hl : Toks l) (h : kindE l a = 3) : 0 ≤ (l.getD a default).n ∧ (l.getD a default).n ≤ 9 := by
  have hlt := kind_lt (l := l) (a := a) (by omega)
  unfold kindE at h
  rw [if_pos hlt] at h
  rcases hl.2 a hlt with q | q | q
  · omega
  · exact ⟨q.2.1, q.2.2.1⟩
  · omega
mutual
def eqX : Ex → Ex → Bool
  | .mk a b c d, .mk a' b' c' d' => decide (a = a') && decide (b = b') && decide (c = c') && eqXs d d'
def eqXs : List Ex → List Ex → Bool
  | [], [] => true
  | x :: r, y :: s => eqX x y && eqXs r s
  | [], _ :: _ => false
  | _ :: _, [] => false
end
theorem eqXs_ok {l : List Ex} (h : ∀ a ∈ l, ∀ b, eqX a b = true → a = b) : ∀ m, eqXs l m = true → l = m := by
  induction l with
  | nil => intro m hm; cases m with
    | nil => rfl
    | cons y s => rw [eqXs] at hm; cases hm
  | cons x r ih => intro m hm; cases m with
    | nil => rw [eqXs] at hm; cases hm
    | cons y s =>
      rw [eqXs, Bool.and_eq_true] at hm
      rw [h x List.mem_cons_self y hm.1, ih (fun a ha => h a (List.mem_cons_of_mem _ ha)) s hm.2]
theorem eqX_ok : ∀ a b : Ex, eqX a b = true → a = b := by
  refine Ex.ind fun e ih b h => ?_
  obtain ⟨a1, a2, a3, a4⟩ := e
  obtain ⟨b1, b2, b3, b4⟩ := b
  rw [eqX] at h
  simp only [Bool.and_eq_true, decide_eq_true_eq] at h
  obtain ⟨⟨⟨h1, h2⟩, h3⟩, h4⟩ := h
  have h5 : a4 = b4 := eqXs_ok (l := a4) ih b4 h4
  rw [h1, h2, h3, h5]
theorem digb (m : Nat) (h : m ≤ 9) : (48 : Int) - -(m : Int) = ((UInt8.ofNat (48 + m)).toNat : Int) := by
  have : ∀ m : Nat, m < 10 → (48 : Int) - -(m : Int) = ((UInt8.ofNat (48 + m)).toNat : Int) := by decide
  exact this m (by omega)
end Go.Proofs.YthlfacmpjehjmaaGreatDoor
/- The designs of the library are right: decided by the kernel. -/
set_option linter.unusedSimpArgs false
set_option linter.unusedVariables false
namespace Go.Proofs.YthlfacmpjehjmaaGreatDoor
open Go.Sim
instance (op : Int) (n : Nat) : Decidable (OpOk op n) := by unfold OpOk BinOp; infer_instance
def nodeB (ok : List UInt8 → Bool) (op n : Int) (name : List UInt8) (k : Nat) : Bool :=
  (decide (op = 1) && decide (k = 0) && decide (0 ≤ n) && decide (n ≤ 65535) && decide (name = [])) || (decide (op = 2) && decide (k = 0) && decide (n = 0) && nameB name && ok name) || (decide (OpOk op k) && decide (n = 0) && decide (name = []))
mutual
def exB (ok : List UInt8 → Bool) : Ex → Bool
  | .mk op n name args => nodeB ok op n name args.length && exBs ok args
def exBs (ok : List UInt8 → Bool) : List Ex → Bool
  | [] => true
  | a :: r => exB ok a && exBs ok r
end
theorem exBs_mem {ok : List UInt8 → Bool} : ∀ {l : List Ex}, exBs ok l = true → ∀ a ∈ l, exB ok a = true
  | [], _, a, h => by cases h
  | x :: r, h, a, ha => by
    rw [exBs, Bool.and_eq_true] at h
    rcases List.mem_cons.1 ha with rfl | ha
    · exact h.1
    · exact exBs_mem h.2 a ha
theorem exB_ok (ok : List UInt8 → Bool) : ∀ e : Ex, exB ok e = true → GN e ∧ GX (fun s => ok s = true) e := by
  refine Ex.ind fun e ih h => ?_
  obtain ⟨op, n, name, args⟩ := e
  rw [exB, Bool.and_eq_true] at h
  have hs := exBs_mem h.2
  have h1 := h.1
  unfold nodeB at h1
  simp only [Bool.or_eq_true, Bool.and_eq_true, decide_eq_true_eq] at h1
  constructor
  · refine GN.mk _ ?_ fun a ha => (ih a ha (hs a ha)).1
    rcases h1 with (⟨⟨⟨⟨a, b⟩, c⟩, d⟩, e⟩ | ⟨⟨⟨⟨a, b⟩, c⟩, d⟩, e⟩) | ⟨⟨a, b⟩, c⟩
    · exact .inl ⟨a, List.length_eq_zero_iff.1 b, c, d, e⟩
    · exact .inr (.inl ⟨a, List.length_eq_zero_iff.1 b, c, d⟩)
    · exact .inr (.inr ⟨a, b, c⟩)
  · refine GX.mk _ ?_ fun a ha => (ih a ha (hs a ha)).2
    rcases h1 with (⟨⟨⟨⟨a, b⟩, c⟩, d⟩, e⟩ | ⟨⟨⟨⟨a, b⟩, c⟩, d⟩, e⟩) | ⟨⟨a, b⟩, c⟩
    · exact .inl ⟨a, List.length_eq_zero_iff.1 b⟩
    · exact .inr (.inl ⟨a, List.length_eq_zero_iff.1 b, e⟩)
    · exact .inr (.inr a)
def memB (l : List (List UInt8)) (s : List UInt8) : Bool := decide (s ∈ l)
def sigL (d : Ds) (i : Nat) : List (List UInt8) := d.inputs.map Pt.name ++ d.regs.map Rg.name ++ (d.wires.take i).map Wr.name
def xB (d : Ds) (e : Ex) : Bool := exB (memB (namesD d)) e && decide (szX e ≤ 1000000) && decide ((seeE e).d ≤ 24) && decide ((seeE e).n ≤ 400) && (List.range (seeE e).vs.length).all fun j => decide (0 ≤ indexE (namesD d) ((seeE e).vs.getD j default))
def dsB (d : Ds) : Bool :=
  decide (d.inputs.length + d.wires.length + d.regs.length ≤ 48) && decide (d.outputs.length ≤ 1000) && nameB d.name
    && ((List.range (namesD d).length).all fun i => nameB ((namesD d).getD i default) && decide (indexE (namesD d) ((namesD d).getD i default) = i))
    && ((List.range (widthsD d).length).all fun i => decide (1 ≤ (widthsD d).getD i default ∧ (widthsD d).getD i default ≤ 16))
    && ((List.range d.regs.length).all fun i => decide ((d.regs.getD i default).init = 0 ∧ 1 ≤ (d.regs.getD i default).width ∧ (d.regs.getD i default).width ≤ 16))
    && ((List.range (exprsD d).length).all fun i => xB d ((exprsD d).getD i default))
    && ((List.range d.outputs.length).all fun i => decide (0 ≤ indexE ((namesD d).drop d.inputs.length) (d.outputs.getD i default) ∧ indexE d.outputs (d.outputs.getD i default) = i))
    && decide (orderE d = (List.range d.wires.length).map fun i : Nat => (i : Int))
    && decide ((d.inputs.map Pt.name ++ d.regs.map Rg.name ++ d.wires.map Wr.name).Nodup)
    && ((List.range d.wires.length).all fun i => exB (memB (sigL d i)) (d.wires.getD i default).expr)
    && ((List.range d.regs.length).all fun i => exB (memB (sigL d d.wires.length)) (d.regs.getD i default).next)
theorem range_all {p : Nat → Bool} {n : Nat} (h : (List.range n).all p = true) : ∀ i, i < n → p i = true := fun i hi => List.all_eq_true.1 h i (List.mem_range.2 hi)
theorem ds_ok {d : Ds} (h : dsB d = true) : DsQ d := by
  unfold dsB at h
  simp only [Bool.and_eq_true, decide_eq_true_eq] at h
  obtain ⟨⟨⟨⟨⟨⟨⟨⟨⟨⟨⟨h1, h2⟩, h3⟩, h4⟩, h5⟩, h6⟩, h7⟩, h8⟩, h9⟩, h10⟩, h11⟩, h12⟩ := h
  have hx : ∀ i, i < (exprsD d).length → XOk ((exprsD d).getD i default) ∧ ∀ j, j < (seeE ((exprsD d).getD i default)).vs.length → 0 ≤ indexE (namesD d) ((seeE ((exprsD d).getD i default)).vs.getD j default) := fun i hi => by
    have := range_all h7 i hi
    unfold xB at this
    simp only [Bool.and_eq_true, decide_eq_true_eq] at this
    obtain ⟨⟨⟨⟨a, b⟩, c⟩, e⟩, f⟩ := this
    exact ⟨⟨(exB_ok _ _ a).1, b, c, e⟩, fun j hj => of_decide_eq_true (range_all f j hj)⟩
  have h4' := fun i hi => Bool.and_eq_true_iff.1 (range_all h4 i hi)
  have h8' := fun i hi => of_decide_eq_true (range_all h8 i hi)
  exact {
    v := {
      ok := {
        n := h1
        o := h2
        nm := h3
        nms := fun i hi => (h4' i hi).1
        ix := fun i hi => of_decide_eq_true (h4' i hi).2
        wd := fun i hi => of_decide_eq_true (range_all h5 i hi)
        ini := fun i hi => of_decide_eq_true (range_all h6 i hi)
        xs := fun i hi => (hx i hi).1
        vs := fun i hi => (hx i hi).2
        out1 := fun i hi => (h8' i hi).1
        out2 := fun i hi => (h8' i hi).2 }
      ord := by rw [h9]; simp }
    ord := h9
    nd := h10
    wx := fun i hi => gx_mono (fun s hs => of_decide_eq_true hs) _ (exB_ok _ _ (range_all h11 i hi)).2
    rx := fun i hi => by
      have := gx_mono (fun s hs => of_decide_eq_true hs) _ (exB_ok _ _ (range_all h12 i hi)).2
      unfold sigL at this
      rwa [List.take_length] at this }
def all8 (p : Nat → Bool) : Bool := (List.range 8).all p
theorem queues : (all8 fun k => all8 fun w => dsB (queueD (k + 1) ((w : Int) + 1))) = true := by kernel_rfl
theorem others : (all8 fun w => dsB (adderD ((w : Int) + 1)) && dsB (counterD ((w : Int) + 1)) && dsB (swapD ((w : Int) + 1))) = true := by kernel_rfl
theorem queue_q {k : Nat} {w : Int} (hk : 1 ≤ k ∧ k ≤ 8) (hw : 1 ≤ w ∧ w ≤ 8) : DsQ (queueD k w) := by
  have h := range_all (range_all queues (k - 1) (by omega)) (w.toNat - 1) (by omega)
  rw [show k - 1 + 1 = k by omega, show ((w.toNat - 1 : Nat) : Int) + 1 = w by omega] at h
  exact ds_ok h
theorem others_q {w : Int} (hw : 1 ≤ w ∧ w ≤ 8) : DsQ (adderD w) ∧ DsQ (counterD w) ∧ DsQ (swapD w) := by
  have h := range_all others (w.toNat - 1) (by omega)
  rw [show ((w.toNat - 1 : Nat) : Int) + 1 = w by omega, Bool.and_eq_true, Bool.and_eq_true] at h
  exact ⟨ds_ok h.1.1, ds_ok h.1.2, ds_ok h.2⟩
theorem q28 : DsQ (queueD 2 8) := queue_q (by omega) (by omega)
theorem s8 : DsQ (swapD 8) := (others_q (by omega)).2.2
end Go.Proofs.YthlfacmpjehjmaaGreatDoor
/- Texts that are read, as data. -/
set_option linter.unusedSimpArgs false
set_option linter.unusedVariables false
namespace Go.Proofs.YthlfacmpjehjmaaGreatDoor
open Go.Sim
/-- The text s is read as the expression e. -/
structure ParseOk (s : List UInt8) (e : Ex) (K F : Nat) : Prop where
  lx : LexOk s K
  tk : Toks (tokE s K)
  ex : exprP (tokE s K) F 1 0 = some (e, K)
  ok : XOk e
def Reads (s : List UInt8) (e : Ex) : Prop := ∃ K F, ParseOk s e K F
def outB (o : Option (Ex × Nat)) (e : Ex) (K : Nat) : Bool := match o with
  | some (x, k) => eqX x e && decide (k = K)
  | none => false
/-- The number of tokens, counted by the lexer. -/
def cntK (s : List UInt8) : Nat := ((List.range 60).find? fun k => decide (s.length ≤ (lexN s k).1)).getD 0
def readsB (s : List UInt8) (e : Ex) : Bool :=
  lexB s (cntK s) && decide ((tokE s (cntK s)).length ≤ 100) && ((List.range (tokE s (cntK s)).length).all fun i => tkB ((tokE s (cntK s)).getD i default)) && outB (exprP (tokE s (cntK s)) 60 1 0) e (cntK s)
    && (exB (fun _ => true) e && decide (szX e ≤ 1000000) && decide ((seeE e).d ≤ 24) && decide ((seeE e).n ≤ 400))
theorem reads_ok {s : List UInt8} {e : Ex} (h : readsB s e = true) : Reads s e := by
  unfold readsB at h
  simp only [Bool.and_eq_true, decide_eq_true_eq] at h
  obtain ⟨⟨⟨⟨h1, h2⟩, h3⟩, h4⟩, ⟨⟨h5, h6⟩, h7⟩, h8⟩ := h
  refine ⟨cntK s, 60, lex_ok h1, ⟨h2, fun i hi => tk_ok (List.all_eq_true.1 h3 i (List.mem_range.2 hi))⟩, ?_, ⟨(exB_ok _ _ h5).1, h6, h7, h8⟩⟩
  unfold outB at h4
  cases hx : exprP (tokE s (cntK s)) 60 1 0 with
  | none => rw [hx] at h4; cases h4
  | some p =>
    obtain ⟨x, k⟩ := p
    rw [hx] at h4
    simp only [Bool.and_eq_true, decide_eq_true_eq] at h4
    rw [eqX_ok x e h4.1, h4.2]
/-- A text of letters. -/
def T (s : String) : List UInt8 := s.toUTF8.toList
end Go.Proofs.YthlfacmpjehjmaaGreatDoor
/- The texts of the reference's designs, and what they are read as: decided by the kernel. -/
set_option linter.unusedSimpArgs false
set_option linter.unusedVariables false
namespace Go.Proofs.YthlfacmpjehjmaaGreatDoor
open Go.Sim
theorem all_k {p : Nat → Bool} (n : Nat) (h : (List.range n).all p = true) {k : Nat} (hk : k < n) : p k = true := List.all_eq_true.1 h k (List.mem_range.2 hk)
theorem tx_ovQ : Reads [48, 32, 60, 32, 110] (lessE (numE 0) (refE sN)) := reads_ok (by kernel_rfl)
theorem tx_t0 : Reads [116, 48] (refE [116, 48]) := reads_ok (by kernel_rfl)
theorem tx_a0 : Reads [97, 48] (refE [97, 48]) := reads_ok (by kernel_rfl)
theorem tx_push : Reads [105, 118, 32, 38, 38, 32, 105, 114, 100, 121] (bothE (refE sIv) (refE sIrdy)) := reads_ok (by kernel_rfl)
theorem tx_pop : Reads [111, 118, 32, 38, 38, 32, 111, 114, 100, 121] (bothE (refE sOv) (refE sOrdy)) := reads_ok (by kernel_rfl)
theorem tx_k : Reads [110, 32, 45, 32, 112, 111, 112] (minusE (refE sN) (refE sPop)) := reads_ok (by kernel_rfl)
theorem tx_n : Reads [107, 32, 43, 32, 112, 117, 115, 104] (plusE (refE sK) (refE sPush)) := reads_ok (by kernel_rfl)
def txIrdy (k : Nat) : List UInt8 := [110, 32, 60, 32] ++ digT k
theorem tx_irdyA : ((List.range 9).all fun k => readsB (txIrdy k) (lessE (refE sN) (numE (k : Int)))) = true := by kernel_rfl
theorem tx_irdyQ {k : Nat} (hk : k < 9) : Reads (txIrdy k) (lessE (refE sN) (numE (k : Int))) := reads_ok (all_k 9 tx_irdyA hk)
def txCell (i : Nat) (inp q tt : List UInt8) : List UInt8 := (((((([112, 117, 115, 104, 32, 38, 38, 32, 107, 32, 61, 61, 32] ++ digT i) ++ [32, 63, 32]) ++ inp) ++ tt) ++ q) ++ digT i)
def cell1 (s inp : List UInt8) (i : Nat) : Ex := whenE (bothE (refE sPush) (equalE (refE sK) (i : Int))) (refE inp) (whenE (refE sPop) (refE (ixN s (i + 1))) (refE (ixN s i)))
def cell0 (s inp : List UInt8) (i : Nat) : Ex := whenE (bothE (refE sPush) (equalE (refE sK) (i : Int))) (refE inp) (whenE (refE sPop) (numE 0) (refE (ixN s i)))
theorem tx_ct1A : ((List.range 8).all fun i => readsB (txCell i [105, 116, 32, 58, 32, 112, 111, 112, 32, 63, 32] [32, 58, 32, 116] ([116] ++ digT (i + 1))) (cell1 sT sIt i)) = true := by kernel_rfl
theorem tx_ct0A : ((List.range 8).all fun i => readsB (txCell i [105, 116, 32, 58, 32, 112, 111, 112, 32, 63, 32] [32, 58, 32, 116] [48]) (cell0 sT sIt i)) = true := by kernel_rfl
theorem tx_ct1 {k : Int} {i : Nat} (hi : i < 8) (h : (i : Int) < k - 1) : Reads (txCell i [105, 116, 32, 58, 32, 112, 111, 112, 32, 63, 32] [32, 58, 32, 116] ([116] ++ digT (i + 1))) (cellE k sT sIt i) := by
  have e : cellE k sT sIt i = cell1 sT sIt i := by unfold cellE cell1; rw [if_pos h]
  rw [e]; exact reads_ok (all_k 8 tx_ct1A hi)
theorem tx_ct0 {k : Int} {i : Nat} (hi : i < 8) (h : ¬ (i : Int) < k - 1) : Reads (txCell i [105, 116, 32, 58, 32, 112, 111, 112, 32, 63, 32] [32, 58, 32, 116] [48]) (cellE k sT sIt i) := by
  have e : cellE k sT sIt i = cell0 sT sIt i := by unfold cellE cell0; rw [if_neg h]
  rw [e]; exact reads_ok (all_k 8 tx_ct0A hi)
theorem tx_ca1A : ((List.range 8).all fun i => readsB (txCell i [105, 97, 32, 58, 32, 112, 111, 112, 32, 63, 32] [32, 58, 32, 97] ([97] ++ digT (i + 1))) (cell1 sA sIa i)) = true := by kernel_rfl
theorem tx_ca0A : ((List.range 8).all fun i => readsB (txCell i [105, 97, 32, 58, 32, 112, 111, 112, 32, 63, 32] [32, 58, 32, 97] [48]) (cell0 sA sIa i)) = true := by kernel_rfl
theorem tx_ca1 {k : Int} {i : Nat} (hi : i < 8) (h : (i : Int) < k - 1) : Reads (txCell i [105, 97, 32, 58, 32, 112, 111, 112, 32, 63, 32] [32, 58, 32, 97] ([97] ++ digT (i + 1))) (cellE k sA sIa i) := by
  have e : cellE k sA sIa i = cell1 sA sIa i := by unfold cellE cell1; rw [if_pos h]
  rw [e]; exact reads_ok (all_k 8 tx_ca1A hi)
theorem tx_ca0 {k : Int} {i : Nat} (hi : i < 8) (h : ¬ (i : Int) < k - 1) : Reads (txCell i [105, 97, 32, 58, 32, 112, 111, 112, 32, 63, 32] [32, 58, 32, 97] [48]) (cellE k sA sIa i) := by
  have e : cellE k sA sIa i = cell0 sA sIa i := by unfold cellE cell0; rw [if_neg h]
  rw [e]; exact reads_ok (all_k 8 tx_ca0A hi)
theorem tx_irdyS : Reads [33, 118, 32, 124, 124, 32, 111, 114, 100, 121] (eitherE (notE (refE sV)) (refE sOrdy)) := reads_ok (by kernel_rfl)
theorem tx_v : Reads [118] (refE sV) := reads_ok (by kernel_rfl)
theorem tx_t : Reads [116] (refE sT) := reads_ok (by kernel_rfl)
theorem tx_a : Reads [97] (refE sA) := reads_ok (by kernel_rfl)
theorem tx_rv : Reads [112, 117, 115, 104, 32, 63, 32, 49, 32, 58, 32, 111, 114, 100, 121, 32, 63, 32, 48, 32, 58, 32, 118] (whenE (refE sPush) (numE 1) (whenE (refE sOrdy) (numE 0) (refE sV))) := reads_ok (by kernel_rfl)
theorem tx_rt : Reads [112, 117, 115, 104, 32, 63, 32, 105, 116, 32, 58, 32, 116] (whenE (refE sPush) (refE sIt) (refE sT)) := reads_ok (by kernel_rfl)
def txNx (s : List UInt8) : List UInt8 := ([112, 117, 115, 104, 32, 63, 32] ++ s) ++ [32, 58, 32, 97]
theorem tx_nxA : Reads (txNx [105, 97, 32, 43, 32, 105, 98]) (whenE (refE sPush) (plusE (refE sIa) (refE sIb)) (refE sA)) := reads_ok (by kernel_rfl)
theorem tx_nxC : Reads (txNx [110]) (whenE (refE sPush) (refE sN) (refE sA)) := reads_ok (by kernel_rfl)
theorem tx_cn : Reads [112, 117, 115, 104, 32, 63, 32, 110, 32, 43, 32, 49, 32, 58, 32, 110] (whenE (refE sPush) (plusE (refE sN) (numE 1)) (refE sN)) := reads_ok (by kernel_rfl)
def txGo (k : Nat) : List UInt8 := ([33, 118] ++ digT k) ++ [32, 124, 124, 32, 111, 114, 100, 121]
theorem tx_goA : ((List.range 8).all fun k => readsB (txGo k) (eitherE (notE (refE (ixN sV k))) (refE sOrdy))) = true := by kernel_rfl
theorem tx_goD {k : Nat} (hk : k < 8) : Reads (txGo k) (eitherE (notE (refE (ixN sV k))) (refE sOrdy)) := reads_ok (all_k 8 tx_goA hk)
theorem tx_go : Reads [103, 111] (refE sGo) := reads_ok (by kernel_rfl)
theorem tx_lvA : ((List.range 8).all fun k => readsB ([118] ++ digT k) (refE (ixN sV k))) = true := by kernel_rfl
theorem tx_lv {k : Nat} (hk : k < 8) : Reads ([118] ++ digT k) (refE (ixN sV k)) := reads_ok (all_k 8 tx_lvA hk)
theorem tx_ltA : ((List.range 8).all fun k => readsB ([116] ++ digT k) (refE (ixN sT k))) = true := by kernel_rfl
theorem tx_lt {k : Nat} (hk : k < 8) : Reads ([116] ++ digT k) (refE (ixN sT k)) := reads_ok (all_k 8 tx_ltA hk)
theorem tx_laA : ((List.range 8).all fun k => readsB ([97] ++ digT k) (refE (ixN sA k))) = true := by kernel_rfl
theorem tx_la {k : Nat} (hk : k < 8) : Reads ([97] ++ digT k) (refE (ixN sA k)) := reads_ok (all_k 8 tx_laA hk)
def txDv (i : Nat) (v : List UInt8) : List UInt8 := ((([103, 111, 32, 63, 32] ++ v) ++ [32, 58, 32, 118]) ++ digT i)
theorem tx_dvA : ((List.range 8).all fun i => readsB (txDv i (fromE sV sIv i)) (moveE (refE sGo) (fromE sV sIv i) (ixN sV i))) = true := by kernel_rfl
theorem tx_dv {i : Nat} (hi : i < 8) : Reads (txDv i (fromE sV sIv i)) (moveE (refE sGo) (fromE sV sIv i) (ixN sV i)) := reads_ok (all_k 8 tx_dvA hi)
def txDt (i : Nat) (v t q : List UInt8) : List UInt8 := ((((([103, 111, 32, 38, 38, 32] ++ v) ++ [32, 63, 32]) ++ t) ++ q) ++ digT i)
theorem tx_dtA : ((List.range 8).all fun i => readsB (txDt i (fromE sV sIv i) (fromE sT sIt i) [32, 58, 32, 116]) (moveE (takeE i) (fromE sT sIt i) (ixN sT i))) = true := by kernel_rfl
theorem tx_dt {i : Nat} (hi : i < 8) : Reads (txDt i (fromE sV sIv i) (fromE sT sIt i) [32, 58, 32, 116]) (moveE (takeE i) (fromE sT sIt i) (ixN sT i)) := reads_ok (all_k 8 tx_dtA hi)
theorem tx_daA : ((List.range 8).all fun i => readsB (txDt i (fromE sV sIv i) (fromE sA sIa i) [32, 58, 32, 97]) (moveE (takeE i) (fromE sA sIa i) (ixN sA i))) = true := by kernel_rfl
theorem tx_da {i : Nat} (hi : i < 8) : Reads (txDt i (fromE sV sIv i) (fromE sA sIa i) [32, 58, 32, 97]) (moveE (takeE i) (fromE sA sIa i) (ixN sA i)) := reads_ok (all_k 8 tx_daA hi)
theorem tx_irdyW : Reads [33, 109, 32, 38, 38, 32, 110, 32, 60, 32, 50] (bothE (notE (refE sM)) (lessE (refE sN) (numE 2))) := reads_ok (by kernel_rfl)
theorem tx_m : Reads [109] (refE sM) := reads_ok (by kernel_rfl)
theorem tx_otW : Reads [110, 32, 61, 61, 32, 50, 32, 63, 32, 116, 49, 32, 58, 32, 116, 48] (whenE (equalE (refE sN) 2) (refE [116, 49]) (refE [116, 48])) := reads_ok (by kernel_rfl)
theorem tx_oaW : Reads [110, 32, 61, 61, 32, 50, 32, 63, 32, 97, 49, 32, 58, 32, 97, 48] (whenE (equalE (refE sN) 2) (refE [97, 49]) (refE [97, 48])) := reads_ok (by kernel_rfl)
theorem tx_rW : Reads [110, 32, 43, 32, 112, 117, 115, 104, 32, 45, 32, 112, 111, 112] (minusE (plusE (refE sN) (refE sPush)) (refE sPop)) := reads_ok (by kernel_rfl)
theorem tx_r : Reads [114] (refE sR) := reads_ok (by kernel_rfl)
theorem tx_mW : Reads [109, 32, 63, 32, 114, 32, 33, 61, 32, 48, 32, 58, 32, 114, 32, 61, 61, 32, 50, 32, 124, 124, 32, 114, 32, 61, 61, 32, 49, 32, 38, 38, 32, 115, 32, 61, 61, 32, 51] (whenE (refE sM) leftE (eitherE (equalE (refE sR) 2) (bothE (equalE (refE sR) 1) (equalE (refE sS) 3)))) := reads_ok (by kernel_rfl)
theorem tx_sW : Reads [33, 109, 32, 38, 38, 32, 110, 32, 61, 61, 32, 49, 32, 38, 38, 32, 33, 112, 117, 115, 104, 32, 38, 38, 32, 115, 32, 60, 32, 51, 32, 63, 32, 115, 32, 43, 32, 49, 32, 58, 32, 48] (whenE waitsE (plusE (refE sS) (numE 1)) (numE 0)) := reads_ok (by kernel_rfl)
theorem tx_wt0 : Reads [112, 117, 115, 104, 32, 38, 38, 32, 110, 32, 61, 61, 32, 48, 32, 63, 32, 105, 116, 32, 58, 32, 116, 48] (whenE (takeS 0) (refE sIt) (refE (ixN sT 0))) := reads_ok (by kernel_rfl)
theorem tx_wa0 : Reads [112, 117, 115, 104, 32, 38, 38, 32, 110, 32, 61, 61, 32, 48, 32, 63, 32, 105, 97, 32, 58, 32, 97, 48] (whenE (takeS 0) (refE sIa) (refE (ixN sA 0))) := reads_ok (by kernel_rfl)
theorem tx_wt1 : Reads [112, 117, 115, 104, 32, 38, 38, 32, 110, 32, 61, 61, 32, 49, 32, 63, 32, 105, 116, 32, 58, 32, 116, 49] (whenE (takeS 1) (refE sIt) (refE (ixN sT 1))) := reads_ok (by kernel_rfl)
theorem tx_wa1 : Reads [112, 117, 115, 104, 32, 38, 38, 32, 110, 32, 61, 61, 32, 49, 32, 63, 32, 105, 97, 32, 58, 32, 97, 49] (whenE (takeS 1) (refE sIa) (refE (ixN sA 1))) := reads_ok (by kernel_rfl)
def ttE (k i : Nat) (q : List UInt8) : List UInt8 := if i + 1 = k then [48] else q ++ digT (i + 1)
theorem tt_last {k i : Nat} {q : List UInt8} (h : (i : Int) + 1 = (k : Int)) : [48] = ttE k i q := by unfold ttE; rw [if_pos (by omega)]
theorem tt_more {k i : Nat} {q : List UInt8} (h : ¬ (i : Int) + 1 = (k : Int)) : q ++ digT ((i : Int) + 1).toNat = ttE k i q := by unfold ttE; rw [if_neg (by omega), show ((i : Int) + 1).toNat = i + 1 by omega]
theorem from_zero {s inp : List UInt8} {i : Nat} (h : i = 0) : inp = fromE s inp i := by rw [h]; rfl
theorem from_pos {s inp : List UInt8} {i : Nat} (h : 0 < i) : s ++ digT ((i : Int) - 1).toNat = fromE s inp i := by
  obtain ⟨j, rfl⟩ : ∃ j, i = j + 1 := ⟨i - 1, by omega⟩
  rw [show (((j + 1 : Nat) : Int) - 1).toNat = j by omega]; rfl
theorem tt_len (k i : Nat) (q : List UInt8) (h : q.length ≤ 2) : (ttE k i q).length ≤ 3 := by
  unfold ttE
  split
  · simp
  · simp [digT]; omega
theorem from_len (s inp : List UInt8) (h1 : s.length ≤ 2) (h2 : inp.length ≤ 2) : ∀ i, (fromE s inp i).length ≤ 3
  | 0 => by show inp.length ≤ 3; omega
  | i + 1 => by show (s ++ digT i).length ≤ 3; simp [digT]; omega
theorem tx_ct {k i : Nat} (hi : i < 8) (hk : i < k) : Reads (txCell i [105, 116, 32, 58, 32, 112, 111, 112, 32, 63, 32] [32, 58, 32, 116] (ttE k i [116])) (cellE (k : Int) sT sIt i) := by
  by_cases h : (i : Int) + 1 = (k : Int)
  · rw [← tt_last h]; exact tx_ct0 hi (by omega)
  · rw [← tt_more h]; exact tx_ct1 hi (by omega)
theorem tx_ca {k i : Nat} (hi : i < 8) (hk : i < k) : Reads (txCell i [105, 97, 32, 58, 32, 112, 111, 112, 32, 63, 32] [32, 58, 32, 97] (ttE k i [97])) (cellE (k : Int) sA sIa i) := by
  by_cases h : (i : Int) + 1 = (k : Int)
  · rw [← tt_last h]; exact tx_ca0 hi (by omega)
  · rw [← tt_more h]; exact tx_ca1 hi (by omega)
theorem cells_all (k w : Int) : ∀ i, (cellsD k w i).name = (queue0 k w).name ∧ (cellsD k w i).inputs = (queue0 k w).inputs ∧ (cellsD k w i).wires = (queue0 k w).wires ∧ (cellsD k w i).outputs = (queue0 k w).outputs
  | 0 => ⟨rfl, rfl, rfl, rfl⟩
  | i + 1 => cells_all k w i
theorem stages_all (k : Nat) (w : Int) : ∀ i, (stagesD k w i).name = (delay0 k w).name ∧ (stagesD k w i).inputs = (delay0 k w).inputs ∧ (stagesD k w i).wires = (delay0 k w).wires ∧ (stagesD k w i).outputs = (delay0 k w).outputs
  | 0 => ⟨rfl, rfl, rfl, rfl⟩
  | i + 1 => stages_all k w i
theorem eD_cells (k w : Int) (i : Nat) : eD (cellsD k w i) = [Rp.str (queue0 k w).name, Rp.slice eP (queue0 k w).inputs, Rp.slice eWr (queue0 k w).wires, Rp.slice eRg (cellsD k w i).regs, Rp.slice eS (queue0 k w).outputs] := by
  unfold eD
  rw [(cells_all k w i).1, (cells_all k w i).2.1, (cells_all k w i).2.2.1, (cells_all k w i).2.2.2]
theorem eD_stages (k : Nat) (w : Int) (i : Nat) : eD (stagesD k w i) = [Rp.str (delay0 k w).name, Rp.slice eP (delay0 k w).inputs, Rp.slice eWr (delay0 k w).wires, Rp.slice eRg (stagesD k w i).regs, Rp.slice eS (delay0 k w).outputs] := by
  unfold eD
  rw [(stages_all k w i).1, (stages_all k w i).2.1, (stages_all k w i).2.2.1, (stages_all k w i).2.2.2]
def beR (nm : List UInt8) (w : Int) : List Rp := [Rp.str nm, Rp.slice eP (beginD nm w).inputs, Rp.val (.slice none 0 0), Rp.val (.slice none 0 0), Rp.slice eS [sIrdy, sOv, sOt, sOa]]
/-- The stage of the reference, its registers handed over. -/
def stX (nm : List UInt8) (w : Int) (nx : Ex) : RA := ⟨Value, fun v => Rp.agg [Rp.str nm, Rp.slice eP (beginD nm w).inputs, Rp.slice eWr (stageD (beginD nm w) w).wires, Rp.val v, Rp.slice eS [sIrdy, sOv, sOt, sOa]], fun v => [MF.osl v 81 7 eRg (addR (stageD (beginD nm w) w) sA w (whenE (refE sPush) nx (refE sA))).regs]⟩
end Go.Proofs.YthlfacmpjehjmaaGreatDoor
