/- A region whose order is open, with one change of which some operations of the head are free: they may come behind it. -/
import Derived.Test.YtlbhpjigjehffaaDoorSimB
namespace Go.Sim

def flags (m : Nat) (l : List Oper) : List Bool := (List.range m).map fun j => !((masks l []).getD m 0).testBit j
def anyB1 (m : Nat) (l : List Oper) : Bool :=
  let ms := masks l []
  let ops := l.toArray
  decide (m < l.length) &&
  l.zipIdx.all (fun x => x.1.after.toList.all fun e => !Region.binds .any e || decide (e.on < x.2)) &&
  (List.range m).all (fun k => (List.range m).all fun j => j == k || pairOk ops ms k j) &&
  (List.range l.length).all (fun t => decide (t ≤ m) || (List.range t).all fun j => (ms.getD t 0).testBit j)

inductive Head1 (P : Program) (n : Nat) (ops : Array Oper) (M Mf : List MF) : List Oper → List (Nat × Rp) → List HE → List Bool → Prop
  | nil {S : List (Nat × Rp)} : Head1 P n ops M Mf [] S [] []
  | one {o : Oper} {rest : List Oper} {S : List (Nat × Rp)} {R : Rp} {d : Nat} {Hs : List HE} {bs : List Bool} (hd : o.dst = some d) (hlt : Nat.blt d n = true) (hs : GSpec P ops (res (names ops o) S) M o (.one R))
      (h : Head1 P n ops M Mf rest ((d, R) :: S) Hs bs) : Head1 P n ops M Mf (o :: rest) S (⟨some d, .one R, R, fun _ _ _ _ h => h⟩ :: Hs) (false :: bs)
  | flo {o : Oper} {rest : List Oper} {S : List (Nat × Rp)} {R : Rp} {d : Nat} {Hs : List HE} {bs : List Bool} (hd : o.dst = some d) (hlt : Nat.blt d n = true) (hs : GSpec P ops (res (names ops o) S) Mf o (.one R))
      (h : Head1 P n ops M Mf rest ((d, R) :: S) Hs bs) : Head1 P n ops M Mf (o :: rest) S (⟨some d, .one R, R, fun _ _ _ _ h => h⟩ :: Hs) (true :: bs)
  | sink {o : Oper} {rest : List Oper} {S : List (Nat × Rp)} {A : RA} {d : Nat} {Hs : List HE} {bs : List Bool} (hd : o.dst = some d) (hlt : Nat.blt d n = true) (hs : GSpec P ops (res (names ops o) S) M o A)
      (h : Head1 P n ops M Mf rest ((d, Rp.any) :: S) Hs bs) : Head1 P n ops M Mf (o :: rest) S (⟨some d, A, Rp.any, fun _ _ _ _ _ => trivial⟩ :: Hs) (false :: bs)

/-- What is known behind the head: the free ones' facts apart. -/
def Fin1 (K : List (Nat × Rp) → List MF → List (Nat × Rp) → Prop) : List HE → List Bool → List (Nat × Rp) → List MF → List (Nat × Rp) → Prop
  | h :: hs, true :: bs, S, M, F => Fin1 K hs bs S M (putS h.dst h.T F)
  | h :: hs, false :: bs, S, M, F => ∀ i, Fin1 K hs bs (putS h.dst (h.A.R i) S) (h.A.F i ++ M) F
  | _, _, S, M, F => K S M F
theorem Fin1.one {K} {S : List (Nat × Rp)} {M : List MF} {F : List (Nat × Rp)} {d : Nat} {R : Rp} {le} {Hs : List HE} {bs : List Bool} (h : Fin1 K Hs bs ((d, R) :: S) M F) : Fin1 K (⟨some d, .one R, R, le⟩ :: Hs) (false :: bs) S M F := fun _ => h
theorem Fin1.flo {K} {S : List (Nat × Rp)} {M : List MF} {F : List (Nat × Rp)} {d : Nat} {R : Rp} {le} {Hs : List HE} {bs : List Bool} (h : Fin1 K Hs bs S M ((d, R) :: F)) : Fin1 K (⟨some d, .one R, R, le⟩ :: Hs) (true :: bs) S M F := h
theorem Fin1.sink {K} {S : List (Nat × Rp)} {M : List MF} {F : List (Nat × Rp)} {d : Nat} {A : RA} {T : Rp} {le} {Hs : List HE} {bs : List Bool} (h : ∀ i, Fin1 K Hs bs ((d, A.R i) :: S) (A.F i ++ M) F) : Fin1 K (⟨some d, A, T, le⟩ :: Hs) (false :: bs) S M F := h
theorem Fin1.nil {K} {S : List (Nat × Rp)} {M : List MF} {F : List (Nat × Rp)} (h : K S M F) : Fin1 K [] [] S M F := h

section
variable {P : Program} {B : Base} {n : Nat} {S : List (Nat × Rp)} {M Mf : List MF} {Q : Exit → Act → World → Prop}

theorem look_append {t : Nat} : ∀ (A C : List (Nat × Rp)), look t (A ++ C) = (look t A).or (look t C)
  | [], C => by simp [look]
  | (d, R) :: A, C => by
    by_cases h : d = t
    · subst h; rw [List.cons_append, look_cons_eq, look_cons_eq]; rfl
    · rw [List.cons_append, look_cons_ne h, look_cons_ne h, look_append A C]

theorem Sub.push {d : Nat} {R : Rp} (h : look d S = none) : Sub ((d, R) :: S) S := fun t R' h' => by
  by_cases e : d = t
  · subst e; rw [h] at h'; cases h'
  · exact ⟨R', by rw [look_cons_ne e]; exact h', fun _ _ _ h => h⟩
/-- Behind the change: the free ones that are left, then the rest. -/
def Aft (P : Program) (B : Base) (n : Nat) (ops : Array Oper) (Mf : List MF) (S₀ F X : List (Nat × Rp)) (rest : List Oper) (Q : Exit → Act → World → Prop) (e : Exit) (a : Act) (w : World) : Prop :=
  e = .normal ∧ ∃ S₁ M₁ C, St B n (S₁ ++ X) M₁ a w C ∧ Sub S₁ S₀ ∧ Pick M₁ Mf ∧ (∀ d R, look d F = some R → look d S₁ = none) ∧ L P B n (S₁ ++ F) M₁ ops rest Q
theorem Aft.next {ops : Array Oper} {S₀ F X : List (Nat × Rp)} {rest : List Oper} (S₁ : List (Nat × Rp)) {M₁ : List MF} (hs : Sub S₁ S₀) (hp : Pick M₁ Mf) (hf : (F.all fun x => (look x.1 S₁).isNone) = true) (h : L P B n (S₁ ++ F) M₁ ops rest Q) :
    N B n (S₁ ++ X) M₁ .normal (Aft P B n ops Mf S₀ F X rest Q) := fun a w C st => ⟨rfl, S₁, M₁, C, st, hs, hp, fun d R hd => by
  have hmem : ∀ (F : List (Nat × Rp)), look d F = some R → ∃ x ∈ F, x.1 = d := by
    intro F
    induction F with
    | nil => intro h; simp [look] at h
    | cons y F ih =>
      intro h
      by_cases hy : y.1 = d
      · exact ⟨y, by simp, hy⟩
      · obtain ⟨d', R'⟩ := y
        rw [look_cons_ne hy] at h
        obtain ⟨x, hx, h2⟩ := ih h
        exact ⟨x, by simp [hx], h2⟩
  obtain ⟨x, hx, rfl⟩ := hmem F hd
  simpa using List.all_eq_true.1 hf x hx, h⟩

/-- The contexts of those that are not free; the facts of the free ones; of those of them that are done. -/
def ctxN (S : List (Nat × Rp)) (H : Nat → HE) (fl : Nat → Bool) (s : Sel H) : Nat → List (Nat × Rp)
  | 0 => S
  | k + 1 => if fl k then ctxN S H fl s k else match s k with
    | some i => putS (H k).dst ((H k).A.R i) (ctxN S H fl s k)
    | none => ctxN S H fl s k
def ctxF (H : Nat → HE) (fl : Nat → Bool) : Nat → List (Nat × Rp)
  | 0 => []
  | k + 1 => if fl k then putS (H k).dst (H k).T (ctxF H fl k) else ctxF H fl k
def ctxX (H : Nat → HE) (fl : Nat → Bool) (s : Sel H) : Nat → List (Nat × Rp)
  | 0 => []
  | k + 1 => if fl k then (match s k with
    | some _ => putS (H k).dst (H k).T (ctxX H fl s k)
    | none => ctxX H fl s k) else ctxX H fl s k

theorem ctxN_congr {H : Nat → HE} {fl : Nat → Bool} {s s' : Sel H} : ∀ m, (∀ j, j < m → fl j = false → s j = s' j) → ctxN S H fl s m = ctxN S H fl s' m
  | 0, _ => rfl
  | m + 1, h => by
    simp only [ctxN]
    cases hf : fl m with
    | true => simp only [if_true]; exact ctxN_congr m fun j hj => h j (by omega)
    | false => simp only [Bool.false_eq_true, if_false]; rw [h m (by omega) hf, ctxN_congr m fun j hj => h j (by omega)]
theorem ctxX_full {H : Nat → HE} {fl : Nat → Bool} {s : Sel H} : ∀ m, (∀ j, j < m → fl j = true → s j ≠ none) → ctxX H fl s m = ctxF H fl m
  | 0, _ => rfl
  | m + 1, h => by
    simp only [ctxX, ctxF]
    cases hf : fl m with
    | true =>
      simp only [if_true]
      cases hs : s m with
      | none => exact absurd hs (h m (by omega) hf)
      | some i => simp only; rw [ctxX_full m fun j hj => h j (by omega)]
    | false => simp only [Bool.false_eq_true, if_false]; exact ctxX_full m fun j hj => h j (by omega)

/-- Nobody else writes what a free one writes. -/
structure Free (S : List (Nat × Rp)) (H : Nat → HE) (fl : Nat → Bool) (m : Nat) : Prop where
  one : ∀ k, k < m → fl k = true → ∀ i, (H k).A.R i = (H k).T ∧ (H k).A.F i = []
  sole : ∀ k j t, k < m → j < m → fl k = true → j ≠ k → (H k).dst = some t → (H j).dst ≠ some t
  fresh : ∀ k t, k < m → fl k = true → (H k).dst = some t → look t S = none

theorem look_ctxN_free {H : Nat → HE} {fl : Nat → Bool} {s : Sel H} {m : Nat} (hf : Free S H fl m) {k t : Nat} (hk : k < m) (hfl : fl k = true) (hd : (H k).dst = some t) : ∀ n, n ≤ m → look t (ctxN S H fl s n) = none
  | 0, _ => hf.fresh k t hk hfl hd
  | n + 1, hn => by
    have ih := look_ctxN_free (s := s) hf hk hfl hd n (by omega)
    simp only [ctxN]
    cases h : fl n with
    | true => simp only [if_true]; exact ih
    | false =>
      simp only [Bool.false_eq_true, if_false]
      cases s n with
      | none => exact ih
      | some i =>
        simp only
        rw [look_putS_ne (hf.sole k n t hk (by omega) hfl (fun e => by subst e; rw [hfl] at h; cases h) hd)]; exact ih
theorem look_ctxX {H : Nat → HE} {fl : Nat → Bool} {s : Sel H} {t : Nat} {R : Rp} : ∀ m, look t (ctxX H fl s m) = some R → ∃ k, k < m ∧ fl k = true ∧ (H k).dst = some t ∧ s k ≠ none ∧ R = (H k).T
  | 0, h => by simp [ctxX, look] at h
  | m + 1, h => by
    simp only [ctxX] at h
    have ih : look t (ctxX H fl s m) = some R → _ := look_ctxX m
    cases hfl : fl m with
    | false => rw [hfl] at h; simp only [Bool.false_eq_true, if_false] at h; obtain ⟨k, h1, h2⟩ := ih h; exact ⟨k, by omega, h2⟩
    | true =>
      rw [hfl] at h; simp only [if_true] at h
      cases hs : s m with
      | none => rw [hs] at h; obtain ⟨k, h1, h2⟩ := ih h; exact ⟨k, by omega, h2⟩
      | some i =>
        rw [hs] at h; simp only at h
        by_cases hd : (H m).dst = some t
        · simp only [hd, putS, look_cons_eq, Option.some.injEq] at h
          exact ⟨m, by omega, hfl, hd, by rw [hs]; simp, h.symm⟩
        · rw [look_putS_ne hd] at h; obtain ⟨k, h1, h2⟩ := ih h; exact ⟨k, by omega, h2⟩
theorem look_ctxX_of {H : Nat → HE} {fl : Nat → Bool} {s : Sel H} {m : Nat} (hf : Free S H fl m) {k t : Nat} (hk : k < m) (hfl : fl k = true) (hd : (H k).dst = some t) (hs : s k ≠ none) : ∀ n, n ≤ m → k < n → look t (ctxX H fl s n) = some (H k).T
  | 0, _, h => by omega
  | n + 1, hn, hkn => by
    simp only [ctxX]
    by_cases e : n = k
    · subst e
      cases hsn : s n with
      | none => exact absurd hsn hs
      | some i => simp only [hfl, if_true, hd, putS, look_cons_eq]
    · have ih := look_ctxX_of hf hk hfl hd hs n (by omega) (by omega)
      cases fl n with
      | false => simp only [Bool.false_eq_true, if_false]; exact ih
      | true =>
        simp only [if_true]
        cases s n with
        | none => exact ih
        | some i => simp only; rw [look_putS_ne (hf.sole k n t hk (by omega) hfl e hd)]; exact ih
/-- A slot that no free one writes. -/
theorem look_ctxS_nf {H : Nat → HE} {fl : Nat → Bool} {s : Sel H} {t : Nat} : ∀ m, (∀ k, k < m → fl k = true → (H k).dst ≠ some t) → look t (ctxS S H s m) = look t (ctxN S H fl s m)
  | 0, _ => rfl
  | m + 1, h => by
    have ih := look_ctxS_nf (s := s) m fun k hk => h k (by omega)
    simp only [ctxS, ctxN]
    cases hfl : fl m with
    | true =>
      simp only [if_true]
      cases s m with
      | none => exact ih
      | some i => simp only; rw [look_putS_ne (h m (by omega) hfl)]; exact ih
    | false =>
      simp only [Bool.false_eq_true, if_false]
      cases s m with
      | none => exact ih
      | some i =>
        simp only
        by_cases hd : (H m).dst = some t
        · simp only [hd, putS, look_cons_eq]
        · rw [look_putS_ne hd, look_putS_ne hd]; exact ih
/-- A slot that a free one writes. -/
theorem look_ctxS_free {H : Nat → HE} {fl : Nat → Bool} {s : Sel H} {m : Nat} (hf : Free S H fl m) {k t : Nat} (hk : k < m) (hfl : fl k = true) (hd : (H k).dst = some t) :
    look t (ctxS S H s m) = if s k = none then none else some (H k).T := by
  cases hs : s k with
  | none =>
    rw [look_ctxS_from (k := 0) m (by omega) (fun j _ hj hdj => by
      by_cases e : j = k
      · subst e; exact hs
      · exact absurd hdj (hf.sole k j t hk hj hfl e hd))]
    simp only [if_true]; exact hf.fresh k t hk hfl hd
  | some i =>
    rw [look_ctxS_from (k := k + 1) m (by omega) (fun j h1 hj hdj => absurd hdj (hf.sole k j t hk hj hfl (by omega) hd))]
    simp only [ctxS, hs, hd, putS, look_cons_eq, (hf.one k hk hfl i).1]
    simp

theorem sub_split {H : Nat → HE} {fl : Nat → Bool} {s : Sel H} {m : Nat} (hf : Free S H fl m) : Sub (ctxS S H s m) (ctxN S H fl s m ++ ctxX H fl s m) := by
  intro t R h
  rw [look_append] at h
  cases hn : look t (ctxN S H fl s m) with
  | some R' =>
    rw [hn] at h; simp at h; subst h
    rw [look_ctxS_nf (fl := fl) m (fun k hk hfl hd => by rw [look_ctxN_free hf hk hfl hd m (Nat.le_refl _)] at hn; cases hn)]
    exact ⟨_, hn, fun _ _ _ h => h⟩
  | none =>
    rw [hn] at h; simp at h
    obtain ⟨k, hk, hfl, hd, hs, rfl⟩ := look_ctxX m h
    refine ⟨(H k).T, ?_, fun _ _ _ h => h⟩
    rw [look_ctxS_free hf hk hfl hd, if_neg hs]

theorem fin1_full {K} {H : Nat → HE} {fl : Nat → Bool} {s : Sel H} {m : Nat} (hf : Free S H fl m) : ∀ (Hs : List HE) (bs : List Bool) (k : Nat) (S' : List (Nat × Rp)) (M' : List MF) (F' : List (Nat × Rp)), Hs.length = bs.length → k + Hs.length = m → (∀ j, j < Hs.length → Hs[j]? = some (H (k + j))) →
    (∀ j, j < bs.length → bs[j]? = some (fl (k + j))) → (∀ j, j < Hs.length → fl (k + j) = false → s (k + j) ≠ none) →
    S' = ctxN S H fl s k → M' = ctxM M H s k → F' = ctxF H fl k → Fin1 K Hs bs S' M' F' → K (ctxN S H fl s m) (ctxM M H s m) (ctxF H fl m) := by
  intro Hs
  induction Hs with
  | nil =>
    intro bs k S' M' F' hl hkm _ _ _ hS hM hF h
    have : bs = [] := List.eq_nil_of_length_eq_zero (by simpa using hl.symm)
    subst this
    have : k = m := by simpa using hkm
    subst this; subst hS; subst hM; subst hF; exact h
  | cons h hs ih =>
    intro bs k S' M' F' hl hkm hH hb hs' hS hM hF h'
    cases bs with
    | nil => simp at hl
    | cons b bs =>
      have h0 := hH 0 (by simp)
      simp only [List.getElem?_cons_zero, Nat.add_zero, Option.some.injEq] at h0
      subst h0
      have hb0 := hb 0 (by simp)
      simp only [List.getElem?_cons_zero, Nat.add_zero, Option.some.injEq] at hb0
      have hstep : ∀ (S₂ : List (Nat × Rp)) (M₂ : List MF) (F₂ : List (Nat × Rp)), S₂ = ctxN S H fl s (k + 1) → M₂ = ctxM M H s (k + 1) → F₂ = ctxF H fl (k + 1) → Fin1 K hs bs S₂ M₂ F₂ → K (ctxN S H fl s m) (ctxM M H s m) (ctxF H fl m) := fun S₂ M₂ F₂ e1 e2 e3 hK =>
        ih bs (k + 1) S₂ M₂ F₂ (by simpa using hl) (by simp only [List.length_cons] at hkm; omega) (fun j hj => by have := hH (j + 1) (by simp; omega); rw [show k + 1 + j = k + (j + 1) by omega]; simpa using this)
          (fun j hj => by have := hb (j + 1) (by simp; omega); rw [show k + 1 + j = k + (j + 1) by omega]; simpa using this)
          (fun j hj => by have := hs' (j + 1) (by simp; omega); rwa [show k + 1 + j = k + (j + 1) by omega]) e1 e2 e3 hK
      have hkm' : k < m := by simp only [List.length_cons] at hkm; omega
      cases b with
      | true =>
        have hfl := hb0.symm
        refine hstep S' M' (putS (H k).dst (H k).T F') ?_ ?_ ?_ h'
        · simp only [ctxN, hfl, if_true]; exact hS
        · simp only [ctxM]
          cases hsk : s k with
          | none => exact hM
          | some i => simp only [(hf.one k hkm' hfl i).2, List.nil_append]; exact hM
        · simp only [ctxF, hfl, if_true]; rw [hF]
      | false =>
        have hfl := hb0.symm
        cases hsk : s k with
        | none => exact absurd hsk (hs' 0 (by simp) hfl)
        | some i =>
          refine hstep _ _ F' ?_ ?_ ?_ (h' i)
          · simp only [ctxN, hfl, Bool.false_eq_true, if_false, hsk, hS]
          · simp only [ctxM, hsk, hM]
          · simp only [ctxF, hfl, Bool.false_eq_true, if_false, hF]

theorem head1_spec {ops : Array Oper} : ∀ (l : List Oper) (S : List (Nat × Rp)) (Hs : List HE) (bs : List Bool), Head1 P n ops M Mf l S Hs bs →
    Hs.length = l.length ∧ bs.length = l.length ∧ ∀ k o, l[k]? = some o → ∃ h b, Hs[k]? = some h ∧ bs[k]? = some b ∧ o.dst = h.dst ∧ (∀ d, h.dst = some d → d < n) ∧ (b = true → ∀ i, h.A.R i = h.T ∧ h.A.F i = []) ∧
      ∀ (H : Nat → HE), (∀ j, j < l.length → Hs[j]? = some (H j)) → GSpec P ops (res (names ops o) (ctxT S H k)) (if b then Mf else M) o h.A := by
  intro l S Hs bs h
  have key : ∀ {o : Oper} {rest : List Oper} {S : List (Nat × Rp)} {d : Nat} {Hs : List HE} {bs : List Bool} {h0 : HE} {b0 : Bool}, o.dst = some d → h0.dst = some d → Nat.blt d n = true → (b0 = true → ∀ i, h0.A.R i = h0.T ∧ h0.A.F i = []) → GSpec P ops (res (names ops o) S) (if b0 then Mf else M) o h0.A →
      (Hs.length = rest.length ∧ bs.length = rest.length ∧ ∀ k o, rest[k]? = some o → ∃ h b, Hs[k]? = some h ∧ bs[k]? = some b ∧ o.dst = h.dst ∧ (∀ d, h.dst = some d → d < n) ∧ (b = true → ∀ i, h.A.R i = h.T ∧ h.A.F i = []) ∧
        ∀ (H : Nat → HE), (∀ j, j < rest.length → Hs[j]? = some (H j)) → GSpec P ops (res (names ops o) (ctxT (putS (some d) h0.T S) H k)) (if b then Mf else M) o h.A) →
      ((h0 :: Hs).length = (o :: rest).length ∧ (b0 :: bs).length = (o :: rest).length ∧ ∀ k o', (o :: rest)[k]? = some o' → ∃ h b, (h0 :: Hs)[k]? = some h ∧ (b0 :: bs)[k]? = some b ∧ o'.dst = h.dst ∧ (∀ d, h.dst = some d → d < n) ∧ (b = true → ∀ i, h.A.R i = h.T ∧ h.A.F i = []) ∧
        ∀ (H : Nat → HE), (∀ j, j < (o :: rest).length → (h0 :: Hs)[j]? = some (H j)) → GSpec P ops (res (names ops o') (ctxT S H k)) (if b then Mf else M) o' h.A) := by
    intro o rest S d Hs bs h0 b0 hd hd0 hlt hone hs ⟨ih1, ih2, ih3⟩
    refine ⟨by simp [ih1], by simp [ih2], fun k o' ho => ?_⟩
    cases k with
    | zero =>
      simp only [List.getElem?_cons_zero, Option.some.injEq] at ho
      subst ho
      exact ⟨h0, b0, rfl, rfl, hd.trans hd0.symm, fun d' hd' => by rw [hd0] at hd'; cases hd'; simpa [Nat.blt_eq] using hlt, hone, fun H hH => hs⟩
    | succ k =>
      obtain ⟨h', b', hh', hb', h1, h2, h3, h4⟩ := ih3 k o' (by simpa using ho)
      refine ⟨h', b', by simpa using hh', by simpa using hb', h1, h2, h3, fun H hH => ?_⟩
      have h00 := hH 0 (by simp)
      simp only [List.getElem?_cons_zero, Option.some.injEq] at h00
      have := h4 (fun j => H (j + 1)) (fun j hj => by have := hH (j + 1) (by simp; omega); simpa using this)
      rw [ctxT_shift, ← h00, hd0]; exact this
  induction h with
  | nil => exact ⟨rfl, rfl, fun k o h => by simp at h⟩
  | one hd hlt hs _ ih => exact key hd rfl hlt (fun h => by cases h) (by simpa using hs) ih
  | flo hd hlt hs _ ih => exact key hd rfl hlt (fun _ i => ⟨rfl, rfl⟩) (by simpa using hs) ih
  | sink hd hlt hs _ ih => exact key hd rfl hlt (fun h => by cases h) (by simpa using hs) ih

/-- What a region's flags say. -/
structure Reg (l : List Oper) (m : Nat) (fl : Nat → Bool) : Prop where
  lt : m < l.length
  back : ∀ k o, l[k]? = some o → ∀ e ∈ o.after, Region.binds .any e = true → e.on < k
  pair : ∀ k j, k < m → j < m → j ≠ k → pairOk l.toArray (masks l []) k j = true
  last : ∀ t, m + 1 ≤ t → t < l.length → ∀ j, j < t → ((masks l []).getD t 0).testBit j = true
  bit : ∀ j, j < m → fl j = !((masks l []).getD m 0).testBit j

theorem reg_of {l : List Oper} {m : Nat} (hB : anyB1 m l = true) {fl : Nat → Bool} (hfl : ∀ j, j < m → fl j = !((masks l []).getD m 0).testBit j) : Reg l m fl where
  lt := by simp only [anyB1, Bool.and_eq_true, decide_eq_true_eq] at hB; exact hB.1.1.1
  back := by
    intro k o ho e he hb
    simp only [anyB1, Bool.and_eq_true, List.all_eq_true, Bool.or_eq_true, Bool.not_eq_true', decide_eq_true_eq] at hB
    have := hB.1.1.2 (o, k) (List.mem_zipIdx_iff_getElem?.2 (by simpa using ho)) e (by simpa using he)
    exact this.resolve_left (by simp [hb])
  pair := by
    intro k j hk hj hjk
    simp only [anyB1, Bool.and_eq_true, List.all_eq_true, List.mem_range, Bool.or_eq_true, beq_iff_eq] at hB
    exact (hB.1.2 k hk j hj).resolve_left hjk
  last := by
    intro t hmt ht j hj
    simp only [anyB1, Bool.and_eq_true, List.all_eq_true, List.mem_range, Bool.or_eq_true, decide_eq_true_eq] at hB
    exact (hB.2 t ht).resolve_left (by omega) j hj
  bit := hfl

/-- What is done is closed under what comes before. -/
def Closed (l : List Oper) (listed : Array Bool) : Prop := ∀ k o, l[k]? = some o → listed.getD k false = true → ∀ e ∈ o.after, Region.binds .any e = true → listed.getD e.on false = true

theorem closed_set {l : List Oper} {listed : Array Bool} {k : Nat} {o : Oper} (h : Closed l listed) (ho : l[k]? = some o) (hall : ∀ e ∈ o.after, Region.binds .any e = true → listed.getD e.on false = true) : Closed l (listed.setIfInBounds k true) := by
  intro k' o' ho'' hl' e he' hb
  by_cases hkk : k' = k
  · subst hkk
    rw [ho] at ho''; cases ho''
    exact getD_set_true (hall e he' hb)
  · rw [getD_set_ne false (Ne.symm hkk)] at hl'
    exact getD_set_true (h k' o' ho'' hl' e he' hb)
theorem count_set {listed : Array Bool} {k N : Nat} (hkls : k < listed.size) (hk1 : listed.getD k true = false) (hk : k < N) :
    (List.range N).countP (fun j => !listed.getD j true) = (List.range N).countP (fun j => !(listed.setIfInBounds k true).getD j true) + 1 := by
  induction N with
  | zero => omega
  | succ N ihN =>
    rw [List.range_succ, List.countP_append, List.countP_append]
    by_cases hNk : N = k
    · subst hNk
      have h2 : (List.range N).countP (fun j => !listed.getD j true) = (List.range N).countP (fun j => !(listed.setIfInBounds N true).getD j true) := by
        apply List.countP_congr
        intro x hx
        have : x ≠ N := by have := List.mem_range.1 hx; omega
        rw [getD_set_ne true (Ne.symm this)]
      have h3 : (listed.setIfInBounds N true).getD N true = true := by simp [hkls]
      rw [h2]
      simp only [List.countP_cons, List.countP_nil, hk1, h3]
      simp
    · rw [ihN (by omega)]
      have : (listed.setIfInBounds k true).getD N true = listed.getD N true := getD_set_ne true (Ne.symm hNk)
      simp only [List.countP_cons, List.countP_nil, this]
      omega

/-- Who writes what an operation of the head names, or writes, is ordered with it. -/
theorem ordered {l : List Oper} {m : Nat} {fl : Nat → Bool} {H : Nat → HE} {s : Sel H} {listed : Array Bool} (hr : Reg l m fl) (hcl : Closed l listed) (hls : ∀ j, j < m → (listed.getD j false = true ↔ s j ≠ none))
    (hdstj : ∀ j, j < m → ∃ oj, l[j]? = some oj ∧ oj.dst = (H j).dst) {k : Nat} {o : Oper} (hkm : k < m) (ho : l[k]? = some o) (hk1 : listed.getD k true = false) (hall : ∀ e ∈ o.after, Region.binds .any e = true → listed.getD e.on false = true) :
    ∀ t, (t ∈ names l.toArray o ∨ o.dst = some t) → ∀ j, j < m → j ≠ k → (H j).dst = some t → (j < k → s j ≠ none) ∧ (k < j → s j = none) := by
  intro t ht j hj hjk hdj
  obtain ⟨oj, hoj, hdoj⟩ := hdstj j hj
  have hp := hr.pair k j hkm hj hjk
  unfold pairOk at hp
  simp only [List.getElem?_toArray, ho, hoj, hdoj, hdj] at hp
  have hnm : ((names l.toArray o).contains t || o.dst == some t) = true := by
    rcases ht with ht | ht
    · simp [ht]
    · simp [ht]
  rw [hnm] at hp
  simp only [Bool.not_true, Bool.false_or] at hp
  constructor
  · intro hlt'
    rw [if_pos hlt'] at hp
    exact (hls j hj).1 (masks_listed (listed := fun k => listed.getD k false) hcl ho (fun e he hb => hall e he hb) hp)
  · intro hlt'
    rw [if_neg (by omega)] at hp
    cases hsj : s j with
    | none => rfl
    | some i =>
      exfalso
      have hlj : listed.getD j false = true := (hls j hj).2 (by rw [hsj]; simp)
      have hk3 : listed.getD k false = true := masks_listed (listed := fun k => listed.getD k false) hcl hoj (fun e he hb => hcl j oj hoj hlj e he hb) hp
      rw [getD_both hk1] at hk3; cases hk3

/-- The facts on what an operation of the head names. -/
theorem named {H : Nat → HE} {s : Sel H} {m k : Nat} {ns : List Nat} (hkm : k < m) (hsk : s k = none) (hord : ∀ t, t ∈ ns → ∀ j, j < m → j ≠ k → (H j).dst = some t → (j < k → s j ≠ none) ∧ (k < j → s j = none))
    {t : Nat} {R : Rp} (ht : res ns (ctxT S H k) t = some R) : t ∈ ns ∧ ∃ R', look t (ctxS S H s m) = some R' ∧ ∀ w C v, R'.p w C v → R.p w C v := by
  unfold res at ht
  cases hc : ns.contains t with
  | false => rw [hc] at ht; simp at ht
  | true =>
    rw [hc] at ht
    simp only [cond_true] at ht
    have htm : t ∈ ns := by simpa using hc
    obtain ⟨R', h1, h2⟩ := look_ctxT (S := S) (H := H) (s := s) (t := t) k (fun j hj hd => (hord t htm j (by omega) (by omega) hd).1 hj) R ht
    refine ⟨htm, R', ?_, h2⟩
    rw [look_ctxS_from (k := k) m (by omega) (fun j h3 h4 hd => ?_)]
    · exact h1
    · by_cases hjk : j = k
      · subst hjk; exact hsk
      · exact (hord t htm j h4 hjk hd).2 (by omega)

theorem count_tail {listed : Array Bool} {t : Nat} (h1 : ∀ j, j < t → listed.getD j true = true) : ∀ N, t ≤ N → (∀ j, t ≤ j → j < N → listed.getD j true = false) → (List.range N).countP (fun j => !listed.getD j true) = N - t := by
  intro N
  induction N with
  | zero => intro _ _; simp
  | succ N ih =>
    intro hN h2
    rcases Nat.lt_or_ge N t with h | h
    · have : t = N + 1 := by omega
      subst this
      rw [Nat.sub_self, List.countP_eq_zero]
      intro j hj
      rw [h1 j (List.mem_range.1 hj)]; simp
    · rw [List.range_succ, List.countP_append, ih h fun j h3 h4 => h2 j h3 (by omega)]
      simp only [List.countP_cons, List.countP_nil, h2 N h (by omega)]
      simp; omega
theorem getD_true {listed : Array Bool} {j : Nat} (h : listed.getD j false = true) : listed.getD j true = true := by
  rcases Nat.lt_or_ge j listed.size with h' | h'
  · simp [h'] at h ⊢; exact h
  · simp [Array.getElem?_eq_none h'] at h
theorem getD_false_of {listed : Array Bool} {j : Nat} (hj : j < listed.size) (h : ¬ (listed.getD j false = true)) : listed.getD j true = false := by
  simp [hj] at h ⊢; exact h
theorem least {p : Nat → Prop} {m : Nat} (h : ¬ ∀ j, j < m → p j) : ∃ k, k < m ∧ ¬ p k ∧ ∀ j, j < k → p j := by
  induction m with
  | zero => exact absurd (fun j hj => by omega) h
  | succ m ih =>
    by_cases hm : ∀ j, j < m → p j
    · refine ⟨m, by omega, fun hp => h fun j hj => ?_, hm⟩
      rcases Nat.lt_or_ge j m with h1 | h1
      · exact hm j h1
      · have : j = m := by omega
        subst this; exact hp
    · obtain ⟨k, h1, h2⟩ := ih hm
      exact ⟨k, by omega, h2⟩

/-- Behind the change: the free ones that are left, in any order, then the tail. -/
theorem any_after {l : List Oper} {m : Nat} {fl : Nat → Bool} {H : Nat → HE} (hr : Reg l m fl) (hf : Free S H fl m)
    (hsp : ∀ k o, k < m → l[k]? = some o → o.dst = (H k).dst ∧ (∀ d, (H k).dst = some d → d < n) ∧ GSpec P l.toArray (res (names l.toArray o) (ctxT S H k)) (if fl k then Mf else M) o (H k).A)
    {S₁ : List (Nat × Rp)} {M₁ : List MF} (hp : Pick M₁ Mf) (hL : L P B n (S₁ ++ ctxF H fl m) M₁ l.toArray (l.drop (m + 1)) Q) (hno : ∀ k t, k < m → fl k = true → (H k).dst = some t → look t S₁ = none) :
    ∀ (f : Nat) (listed : Array Bool) (s : Sel H) (a : Act) (w : World) (C : Nat → Prop), listed.size = l.length →
      (∀ j, j < m → (listed.getD j false = true ↔ s j ≠ none)) → listed.getD m false = true → (∀ j, m + 1 ≤ j → j < l.length → listed.getD j true = false) → Closed l listed →
      ((List.range l.length).countP (fun j => !listed.getD j true) = f) → (∀ j, j < m → fl j = false → s j ≠ none) → Sub S₁ (ctxN S H fl s m) →
      St B n (S₁ ++ ctxX H fl s m) M₁ a w C → wpAny P .any l.toArray Q f listed a w := by
  have hdstj : ∀ j, j < m → ∃ oj, l[j]? = some oj ∧ oj.dst = (H j).dst := by
    intro j hj
    have hjl : j < l.length := by have := hr.lt; omega
    exact ⟨l[j], by simp [hjl], (hsp j l[j] hj (by simp [hjl])).1⟩
  intro f
  induction f with
  | zero =>
    intro listed s a w C hsz hls hlm htail hcl hcount hnf hsub st
    have hall : ∀ j, j < l.length → listed.getD j true = true := by
      intro j hj
      have := List.countP_eq_zero.1 hcount j (List.mem_range.2 hj)
      simpa using this
    have hml : m + 1 = l.length := by
      have := hr.lt
      rcases Nat.lt_or_ge (m + 1) l.length with h | h
      · have h1 := htail (m + 1) (Nat.le_refl _) h
        rw [hall _ h] at h1; cases h1
      · omega
    have hdone : ∀ j, j < m → s j ≠ none := fun j hj => by
      refine (hls j hj).1 ?_
      have := hall j (by omega)
      have hjl : j < listed.size := by omega
      simp [hjl] at this ⊢; exact this
    rw [ctxX_full m fun j hj _ => hdone j hj] at st
    refine any_tail_of (m := m + 1) hr.last hr.back 0 (m + 1) listed a w (by omega) (Nat.le_refl _) hsz (fun j hj => ?_) htail (hL a w C st)
    rcases Nat.lt_or_ge j m with h | h
    · exact (hls j h).2 (hdone j h)
    · have : j = m := by omega
      subst this; exact hlm
  | succ f ih =>
    intro listed s a w C hsz hls hlm htail hcl hcount hnf hsub st
    by_cases hfull : ∀ j, j < m → s j ≠ none
    · have hdn : ∀ j, j < m + 1 → listed.getD j false = true := fun j hj => by
        rcases Nat.lt_or_ge j m with h | h
        · exact (hls j h).2 (hfull j h)
        · have : j = m := by omega
          subst this; exact hlm
      rw [ctxX_full m fun j hj _ => hfull j hj] at st
      refine any_tail_of (m := m + 1) hr.last hr.back (f + 1) (m + 1) listed a w ?_ (Nat.le_refl _) hsz hdn htail (hL a w C st)
      rw [← hcount, count_tail (fun j hj => getD_true (hdn j hj)) _ (by have := hr.lt; omega) htail]
      have := hr.lt; omega
    · obtain ⟨k₀, hk₀m, hk₀n, hk₀l⟩ := least hfull
      have hr₀ : k₀ ∈ Region.ready .any l.toArray listed := by
        have hk₀ll : k₀ < l.length := by have := hr.lt; omega
        refine mem_ready.2 ⟨getD_false_of (by omega) fun h => hk₀n ((hls k₀ hk₀m).1 h), l[k₀], by simp [hk₀ll], fun e he hb => ?_⟩
        have := hr.back k₀ l[k₀] (by simp [hk₀ll]) e he hb
        exact (hls e.on (by omega)).2 (hk₀l _ this)
      refine ⟨fun h0 => (by rw [h0] at hr₀; cases hr₀), fun k hk => ?_⟩
      obtain ⟨hk1, o, ho, hall⟩ := mem_ready.1 hk
      have ho' : l[k]? = some o := by simpa using ho
      have hkl : k < l.length := (List.getElem?_eq_some_iff.1 ho').1
      have hkm : k < m := by
        rcases Nat.lt_trichotomy k m with h | h | h
        · exact h
        · subst h; rw [getD_both hk1] at hlm; cases hlm
        · have := masks_listed (listed := fun k => listed.getD k false) hcl ho' (fun e he hb => hall e he hb) (hr.last k h hkl k₀ (by omega))
          exact absurd ((hls k₀ hk₀m).1 this) hk₀n
      have hsk : s k = none := by
        cases hs : s k with
        | none => rfl
        | some i =>
          have := (hls k hkm).2 (by rw [hs]; simp)
          rw [getD_both hk1] at this; cases this
      have hflk : fl k = true := by
        cases h : fl k with
        | true => rfl
        | false => exact absurd hsk (hnf k hkm h)
      obtain ⟨hdst, hlt, hgs⟩ := hsp k o hkm ho'
      rw [hflk] at hgs; simp only [if_true] at hgs
      have hord := ordered hr hcl hls hdstj hkm ho' hk1 hall
      have hslots : SlotsOk (res (names l.toArray o) (ctxT S H k)) a w C := by
        intro t R ht
        obtain ⟨htm, R', h1, h2⟩ := named (S := S) (s := s) hkm hsk (fun t ht => hord t (.inl ht)) ht
        refine h2 _ _ _ ?_
        by_cases hfree : ∃ g, g < m ∧ fl g = true ∧ (H g).dst = some t
        · obtain ⟨g, hg, hflg, hdg⟩ := hfree
          rw [look_ctxS_free hf hg hflg hdg] at h1
          by_cases hsg : s g = none
          · rw [if_pos hsg] at h1; cases h1
          · rw [if_neg hsg] at h1
            cases h1
            refine st.slots t _ ?_
            show look t (S₁ ++ ctxX H fl s m) = _
            rw [look_append, hno g t hg hflg hdg, look_ctxX_of hf hg hflg hdg hsg m (Nat.le_refl _) hg]; rfl
        · rw [look_ctxS_nf (fl := fl) m fun g hg hflg hdg => hfree ⟨g, hg, hflg, hdg⟩] at h1
          obtain ⟨R₀, h3, h4⟩ := hsub t R' h1
          refine h4 _ _ _ (st.slots t R₀ ?_)
          show look t (S₁ ++ ctxX H fl s m) = _
          rw [look_append, h3]; rfl
      have hmem : MOk Mf w C := st.mem.pick hp
      have hop := hgs a w C (fun a' w' => wpAny P .any l.toArray Q f (listed.setIfInBounds k true) a' w') Q hslots hmem (fun i v w' C' he hwf hv hn => ?_)
      · unfold wpOp
        simp only [ho]
        split
        · rename_i hw; rw [if_pos hw] at hop; exact .inl hop
        · rename_i hw; rw [if_neg hw] at hop; exact hop
      · have hkls : k < listed.size := by omega
        have hFR := hf.one k hkm hflk i
        refine ih (listed.setIfInBounds k true) (s.set k i) _ _ C' (by simp [hsz]) ?_ (getD_set_true hlm) ?_ (closed_set hcl ho' hall) ?_ ?_ ?_ ?_
        · intro j hj
          by_cases hjk : j = k
          · subst hjk; simp [set_self, hkls]
          · rw [set_other s i hjk, getD_set_ne false (Ne.symm hjk)]; exact hls j hj
        · intro j h1 h2; rw [getD_set_ne true (by omega)]; exact htail j h1 h2
        · have := count_set hkls hk1 hkl; omega
        · intro j hj hflj
          rw [set_other s i (fun e => by subst e; rw [hflk] at hflj; cases hflj)]; exact hnf j hj hflj
        · rw [ctxN_congr (s' := s) m fun j hj hflj => set_other s i (fun e => by subst e; rw [hflk] at hflj; cases hflj)]; exact hsub
        · rw [hFR.2] at hn
          rw [hFR.1] at hv
          have hst := st.step (dst := o.dst) (fun d hd => hlt d (by rw [← hdst]; exact hd)) he hwf hv hn
          refine St.sub ?_ hst
          intro t R ht
          rw [look_append] at ht
          cases hd : (H k).dst with
          | none =>
            rw [hdst, hd]
            refine ⟨R, ?_, fun _ _ _ h => h⟩
            show look t (S₁ ++ ctxX H fl s m) = _
            rw [look_append]
            cases h1 : look t S₁ with
            | some R' => rw [h1] at ht; exact ht
            | none =>
              rw [h1] at ht; simp at ht ⊢
              obtain ⟨g, hg, hflg, hdg, hsg, rfl⟩ := look_ctxX m ht
              refine look_ctxX_of hf hg hflg hdg ?_ m (Nat.le_refl _) hg
              rwa [set_other s i (fun e => by subst e; rw [hd] at hdg; cases hdg)] at hsg
          | some d =>
            rw [hdst, hd]
            refine ⟨R, ?_, fun _ _ _ h => h⟩
            show look t ((d, (H k).T) :: (S₁ ++ ctxX H fl s m)) = _
            by_cases hdt : d = t
            · subst hdt
              rw [look_cons_eq]
              rw [hno k d hkm hflk hd, look_ctxX_of hf hkm hflk hd (by rw [set_self]; simp) m (Nat.le_refl _) hkm] at ht
              exact ht
            · rw [look_cons_ne hdt, look_append]
              cases h1 : look t S₁ with
              | some R' => rw [h1] at ht; exact ht
              | none =>
                rw [h1] at ht; simp at ht ⊢
                obtain ⟨g, hg, hflg, hdg, hsg, rfl⟩ := look_ctxX m ht
                refine look_ctxX_of hf hg hflg hdg ?_ m (Nat.le_refl _) hg
                rwa [set_other s i (fun e => by subst e; rw [hd] at hdg; cases hdg; exact hdt rfl)] at hsg

theorem wp_monoQ {o : Oper} {a : Act} {w : World} {K K' : Act → World → Prop} {Q' : Exit → Act → World → Prop} (h : ∀ a w, K a w → K' a w) (hq : ∀ e a w, e ≠ .normal → Q e a w → Q' e a w)
    (hh : o.wp P a w K Q) : o.wp P a w K' Q' := by
  have hout : LetsOut Q → LetsOut Q' := fun ⟨a, w, h⟩ => ⟨a, w, hq _ _ _ (by simp) h⟩
  unfold Oper.wp at *
  generalize (execOp a.eval o).run P w = r at *
  cases r with
  | ok n w' =>
    cases n <;> simp only [Oper.upon] at hh ⊢ <;>
      first
        | exact h _ _ hh
        | exact Calls.mono hh (fun e w'' he => by cases e <;> first | exact h _ _ he | exact hq _ _ _ (by simp) he | exact hout he)
        | exact Rows.mono hh (fun _ _ he => h _ _ he)
  | halt x w' => cases x <;> simp only [Oper.upon] at hh ⊢ <;> exact hq _ _ _ (by simp) hh

/-- The head, in any order, and the change, wherever it stands. -/
theorem any_head1 {l : List Oper} {m : Nat} {o₁ : Oper} {fl : Nat → Bool} {H : Nat → HE} (hr : Reg l m fl) (hf : Free S H fl m) (ho₁ : l[m]? = some o₁) (hpM : Pick M Mf)
    (hsp : ∀ k o, k < m → l[k]? = some o → o.dst = (H k).dst ∧ (∀ d, (H k).dst = some d → d < n) ∧ GSpec P l.toArray (res (names l.toArray o) (ctxT S H k)) (if fl k then Mf else M) o (H k).A)
    (hK : ∀ s : Sel H, (∀ j, j < m → fl j = false → s j ≠ none) → ∀ X, L P B n (ctxN S H fl s m ++ X) (ctxM M H s m) l.toArray [o₁] (Aft P B n l.toArray Mf (ctxN S H fl s m) (ctxF H fl m) X (l.drop (m + 1)) Q)) :
    ∀ (f : Nat) (listed : Array Bool) (s : Sel H) (a : Act) (w : World) (C : Nat → Prop), listed.size = l.length →
      (∀ j, j < m → (listed.getD j false = true ↔ s j ≠ none)) → (∀ j, m ≤ j → j < l.length → listed.getD j true = false) → Closed l listed →
      ((List.range l.length).countP (fun j => !listed.getD j true) = f) →
      St B n (ctxS S H s m) (ctxM M H s m) a w C → wpAny P .any l.toArray Q f listed a w := by
  have hml := hr.lt
  have hdstj : ∀ j, j < m → ∃ oj, l[j]? = some oj ∧ oj.dst = (H j).dst := by
    intro j hj
    have hjl : j < l.length := by omega
    exact ⟨l[j], by simp [hjl], (hsp j l[j] hj (by simp [hjl])).1⟩
  intro f
  induction f with
  | zero =>
    intro listed s a w C hsz hls htail hcl hcount st
    have := List.countP_eq_zero.1 hcount m (List.mem_range.2 hml)
    rw [htail m (Nat.le_refl _) hml] at this
    simp at this
  | succ f ih =>
    intro listed s a w C hsz hls htail hcl hcount st
    -- something is ready
    have hne : Region.ready .any l.toArray listed ≠ [] := by
      intro h0
      by_cases hfull : ∀ j, j < m → s j ≠ none
      · have : m ∈ Region.ready .any l.toArray listed := by
          refine mem_ready.2 ⟨htail m (Nat.le_refl _) hml, o₁, by simpa using ho₁, fun e he hb => ?_⟩
          have := hr.back m o₁ ho₁ e he hb
          exact (hls e.on this).2 (hfull _ this)
        rw [h0] at this; cases this
      · obtain ⟨k₀, hk₀m, hk₀n, hk₀l⟩ := least hfull
        have : k₀ ∈ Region.ready .any l.toArray listed := by
          have hk₀ll : k₀ < l.length := by omega
          refine mem_ready.2 ⟨getD_false_of (by omega) fun h => hk₀n ((hls k₀ hk₀m).1 h), l[k₀], by simp [hk₀ll], fun e he hb => ?_⟩
          have := hr.back k₀ l[k₀] (by simp [hk₀ll]) e he hb
          exact (hls e.on (by omega)).2 (hk₀l _ this)
        rw [h0] at this; cases this
    refine ⟨fun h0 => absurd h0 hne, fun k hk => ?_⟩
    obtain ⟨hk1, o, ho, hall⟩ := mem_ready.1 hk
    have ho' : l[k]? = some o := by simpa using ho
    have hkl : k < l.length := (List.getElem?_eq_some_iff.1 ho').1
    have hkls : k < listed.size := by omega
    rcases Nat.lt_trichotomy k m with hkm | hkm | hkm
    · -- one of the head
      have hsk : s k = none := by
        cases hs : s k with
        | none => rfl
        | some i =>
          have := (hls k hkm).2 (by rw [hs]; simp)
          rw [getD_both hk1] at this; cases this
      obtain ⟨hdst, hlt, hgs⟩ := hsp k o hkm ho'
      have hord := ordered hr hcl hls hdstj hkm ho' hk1 hall
      have hslots : SlotsOk (res (names l.toArray o) (ctxT S H k)) a w C := by
        intro t R ht
        obtain ⟨htm, R', h1, h2⟩ := named (S := S) (s := s) hkm hsk (fun t ht => hord t (.inl ht)) ht
        exact h2 _ _ _ (st.slots t R' h1)
      have hmemM : MOk M w C := by
        obtain ⟨R, hR⟩ := ctxM_pick (M := M) (H := H) (s := s) m
        exact (st.mem.perm hR).left
      have hmem : MOk (if fl k then Mf else M) w C := by
        split
        · exact hmemM.pick hpM
        · exact hmemM
      have hop := hgs a w C (fun a' w' => wpAny P .any l.toArray Q f (listed.setIfInBounds k true) a' w') Q hslots hmem (fun i v w' C' he hwf hv hn => ?_)
      · unfold wpOp
        simp only [ho]
        split
        · rename_i hw; rw [if_pos hw] at hop; exact .inl hop
        · rename_i hw; rw [if_neg hw] at hop; exact hop
      · refine ih (listed.setIfInBounds k true) (s.set k i) _ _ C' (by simp [hsz]) ?_ ?_ (closed_set hcl ho' hall) ?_ ?_
        · intro j hj
          by_cases hjk : j = k
          · subst hjk; simp [set_self, hkls]
          · rw [set_other s i hjk, getD_set_ne false (Ne.symm hjk)]; exact hls j hj
        · intro j h1 h2; rw [getD_set_ne true (by omega)]; exact htail j h1 h2
        · have := count_set hkls hk1 hkl; omega
        · have hst := st.step (dst := o.dst) (fun d hd => hlt d (by rw [← hdst]; exact hd)) he hwf hv hn
          refine ⟨hst.size, hst.defers, ?_, hst.mem.perm (ctxM_set hsk m hkm).symm, hst.eff, ?_⟩
          · intro t R ht
            have hl := look_set (S := S) (H := H) (s := s) (k := k) (m := m) (t := t) (i := i) hkm hsk
            by_cases hd : (H k).dst = some t
            · have h1 := hl.1 hd (fun j h2 h3 h4 => (hord t (.inr (by rw [hdst]; exact hd)) j h3 (by omega) h4).2 h2)
              simp only at ht
              rw [h1] at ht
              have h2 := hst.slots t ((H k).A.R i) (by rw [hdst, hd]; exact look_cons_eq)
              cases ht; exact h2
            · have h1 := hl.2 hd
              simp only at ht
              rw [h1] at ht
              exact hst.slots t R (by
                show look t (putS o.dst _ _) = some R
                rw [look_putS_ne (by rw [hdst]; exact hd)]; exact ht)
          · intro b hb
            exact hst.since b ((feet_perm (ctxM_set hsk m hkm)).mem_iff.1 hb)
    · -- the change
      subst hkm
      rw [ho₁] at ho'; cases ho'
      have hnf : ∀ j, j < k → fl j = false → s j ≠ none := by
        intro j hj hflj
        have hb := hr.bit j hj
        rw [hflj] at hb
        have hb' : ((masks l []).getD k 0).testBit j = true := by simpa using hb.symm
        exact (hls j hj).1 (masks_listed (listed := fun k => listed.getD k false) hcl ho₁ (fun e he hb => hall e he hb) hb')
      have hL := hK s hnf (ctxX H fl s k) a w C (st.sub (sub_split hf))
      have hnext : ∀ a' w', Aft P B n l.toArray Mf (ctxN S H fl s k) (ctxF H fl k) (ctxX H fl s k) (l.drop (k + 1)) Q .normal a' w' → wpAny P .any l.toArray Q f (listed.setIfInBounds k true) a' w' := by
        intro a' w' ⟨_, S₁, M₁, C', st', hsub, hp, hno, hLr⟩
        refine any_after hr hf hsp hp hLr (fun j t hj hflj hdj => ?_) f _ s a' w' C' (by simp [hsz]) ?_ (by simp [hkls]) ?_ (closed_set hcl ho₁ hall) ?_ hnf hsub st'
        · have hFm : ∀ N, j < N → N ≤ k → ∃ R, look t (ctxF H fl N) = some R := by
            intro N
            induction N with
            | zero => intro h; omega
            | succ N ihN =>
              intro h1 h2
              simp only [ctxF]
              by_cases e : N = j
              · subst e; rw [hflj]; simp only [if_true, hdj, putS]; exact ⟨_, look_cons_eq⟩
              · obtain ⟨R, hR⟩ := ihN (by omega) (by omega)
                cases fl N with
                | false => simp only [Bool.false_eq_true, if_false]; exact ⟨R, hR⟩
                | true =>
                  simp only [if_true]
                  by_cases hdN : (H N).dst = some t
                  · rw [hdN]; exact ⟨_, look_cons_eq⟩
                  · rw [look_putS_ne hdN]; exact ⟨R, hR⟩
          obtain ⟨R, hR⟩ := hFm k hj (Nat.le_refl _)
          exact hno t R hR
        · intro j hj; rw [getD_set_ne false (by omega)]; exact hls j hj
        · intro j h1 h2; rw [getD_set_ne true (by omega)]; exact htail j (by omega) h2
        · have := count_set hkls hk1 hkl; omega
      have hq : ∀ (e : Exit) (a : Act) (w : World), e ≠ .normal → Aft P B n l.toArray Mf (ctxN S H fl s k) (ctxF H fl k) (ctxX H fl s k) (l.drop (k + 1)) Q e a w → Q e a w := fun e a w hne h => absurd h.1 hne
      unfold wpOp
      simp only [ho]
      simp only [wpList] at hL
      split
      · rename_i hw
        rw [if_pos hw] at hL
        refine hL.imp (wp_monoQ hnext hq) (fun h => ⟨h.1, ?_⟩)
        obtain ⟨a', w', h'⟩ := h.2
        exact absurd h'.1 (by simp)
      · rename_i hw
        rw [if_neg hw] at hL
        exact hnext _ _ hL
    · -- behind the change
      exfalso
      have h1 := masks_listed (listed := fun k => listed.getD k false) hcl ho' (fun e he hb => hall e he hb) (hr.last k hkm hkl m hkm)
      have h2 := htail m (Nat.le_refl _) hml
      rw [getD_both h2] at h1; cases h1

/-- What a free one writes is written by nobody else and was not known. -/
def freeB (S : List (Nat × Rp)) (Hs : List HE) (bs : List Bool) : Bool :=
  (List.range Hs.length).all fun k => !bs.getD k false || match (Hs[k]?).bind HE.dst with
    | some d => (S.all fun x => x.1 != d) && (List.range Hs.length).all fun j => j == k || (Hs[j]?).bind HE.dst != some d
    | none => true

theorem look_none {t : Nat} : ∀ S : List (Nat × Rp), (S.all fun x => x.1 != t) = true → look t S = none
  | [], _ => rfl
  | (d, R) :: S, h => by
    simp only [List.all_cons, Bool.and_eq_true, bne_iff_ne, ne_eq] at h
    rw [look_cons_ne h.1]; exact look_none S h.2

theorem W.any1 {id : Nat} {l : List Oper} {o₁ : Oper} (m : Nat) {Hs : List HE} {bs : List Bool} (hm : P.follows .mixedOrders = true) (hB : anyB1 m l = true) (hfl : flags m l = bs) (ho₁ : l[m]? = some o₁) (hpM : Pick M Mf)
    (hH : Head1 P n l.toArray M Mf (l.take m) S Hs bs) (hfr : freeB S Hs bs = true)
    (hK : Fin1 (fun S₀ M₀ F => ∀ X, L P B n (S₀ ++ X) M₀ l.toArray [o₁] (Aft P B n l.toArray Mf S₀ F X (l.drop (m + 1)) Q)) Hs bs S M []) : W P B n S M (.region id l.toArray true) Q := by
  intro a w C st
  refine wp_region_any hm ?_
  obtain ⟨hlen, hblen, hspec⟩ := head1_spec _ _ _ _ hH
  let fl : Nat → Bool := fun k => bs.getD k false
  have hbit : ∀ j, j < m → fl j = !((masks l []).getD m 0).testBit j := by
    intro j hj
    show bs.getD j false = _
    rw [← hfl]
    simp [flags, List.getD_eq_getElem?_getD, hj]
  have hr := reg_of hB hbit
  have hml := hr.lt
  have hlen' : Hs.length = m := by rw [hlen]; simp; omega
  have hblen' : bs.length = m := by rw [hblen]; simp; omega
  let H : Nat → HE := fun j => Hs.getD j ⟨none, .one Rp.any, Rp.any, fun _ _ _ _ h => h⟩
  have hHs : ∀ j, j < m → Hs[j]? = some (H j) := fun j hj => by
    have : j < Hs.length := by omega
    simp [H, this]
  have hbs : ∀ j, j < m → bs[j]? = some (fl j) := fun j hj => by
    have : j < bs.length := by omega
    simp [fl, this]
  have hsp : ∀ k o, k < m → l[k]? = some o → o.dst = (H k).dst ∧ (∀ d, (H k).dst = some d → d < n) ∧ (fl k = true → ∀ i, (H k).A.R i = (H k).T ∧ (H k).A.F i = []) ∧ GSpec P l.toArray (res (names l.toArray o) (ctxT S H k)) (if fl k then Mf else M) o (H k).A := by
    intro k o hk ho
    obtain ⟨h, b, hh, hb, h1, h2, h3, h4⟩ := hspec k o (by rw [List.getElem?_take]; simp [hk, ho])
    have e1 : h = H k := by have := hHs k hk; rw [hh] at this; simpa using this
    have e2 : b = fl k := by have := hbs k hk; rw [hb] at this; simpa using this
    subst e1; subst e2
    exact ⟨h1, h2, h3, h4 H (fun j hj => hHs j (by simp at hj; omega))⟩
  have hlk : ∀ k, k < m → ∃ o, l[k]? = some o := fun k hk => ⟨l[k], List.getElem?_eq_getElem (by omega)⟩
  have hfreeB : ∀ k t, k < m → fl k = true → (H k).dst = some t → (S.all fun x => x.1 != t) = true ∧ ∀ j, j < m → j ≠ k → (H j).dst ≠ some t := by
    intro k t hk hflk hd
    have := List.all_eq_true.1 hfr k (List.mem_range.2 (by omega))
    have e1 : bs.getD k false = true := hflk
    rw [e1, hHs k hk] at this
    simp only [Bool.not_true, Bool.false_or, Option.bind_some, hd, Bool.and_eq_true] at this
    refine ⟨this.1, fun j hj hjk hdj => ?_⟩
    have h2 := List.all_eq_true.1 this.2 j (List.mem_range.2 (by omega))
    rw [hHs j hj] at h2
    simp [hjk, hdj] at h2
  have hf : Free S H fl m := ⟨fun k hk hflk i => by
      obtain ⟨o, ho⟩ := hlk k hk
      exact (hsp k o hk ho).2.2.1 hflk i, fun k j t hk hj hflk hjk hd => (hfreeB k t hk hflk hd).2 j hj hjk, fun k t hk hflk hd => look_none S (hfreeB k t hk hflk hd).1⟩
  have hK' : ∀ s : Sel H, (∀ j, j < m → fl j = false → s j ≠ none) → ∀ X, L P B n (ctxN S H fl s m ++ X) (ctxM M H s m) l.toArray [o₁] (Aft P B n l.toArray Mf (ctxN S H fl s m) (ctxF H fl m) X (l.drop (m + 1)) Q) := by
    intro s hnf
    exact fin1_full (K := fun S₀ M₀ F => ∀ X, L P B n (S₀ ++ X) M₀ l.toArray [o₁] (Aft P B n l.toArray Mf S₀ F X (l.drop (m + 1)) Q)) (S := S) (M := M) (s := s) hf Hs bs 0 S M [] (by omega) (by omega) (fun j hj => by rw [Nat.zero_add]; exact hHs j (by omega))
      (fun j hj => by rw [Nat.zero_add]; exact hbs j (by omega)) (fun j hj h => by rw [Nat.zero_add] at h ⊢; exact hnf j (by omega) h) rfl rfl rfl hK
  have hsel : ∀ k, ctxS S H (fun _ => none) k = S := by
    intro k; induction k with
    | zero => rfl
    | succ k ih => simp only [ctxS]; exact ih
  have hselM : ∀ k, ctxM M H (fun _ => none) k = M := by
    intro k; induction k with
    | zero => rfl
    | succ k ih => simp only [ctxM]; exact ih
  have hrep : ∀ j d, j < l.length → (Array.replicate l.toArray.size false).getD j d = false := by
    intro j d hj; simp [hj]
  refine any_head1 hr hf ho₁ hpM (fun k o hk ho => ⟨(hsp k o hk ho).1, (hsp k o hk ho).2.1, (hsp k o hk ho).2.2.2⟩) hK' l.toArray.size _ (fun _ => none) a _ C (by simp) ?_ ?_ ?_ ?_ (by rw [hsel, hselM]; exact st.drew)
  · intro j hj
    rw [hrep j false (by omega)]; simp
  · intro j _ hj; exact hrep j true hj
  · intro k o ho hl
    rw [hrep k false (List.getElem?_eq_some_iff.1 ho).1] at hl; cases hl
  · rw [count_tail (t := 0) (fun j hj => by omega) _ (Nat.zero_le _) fun j _ hj => hrep j true hj]
    simp
end
end Go.Sim
