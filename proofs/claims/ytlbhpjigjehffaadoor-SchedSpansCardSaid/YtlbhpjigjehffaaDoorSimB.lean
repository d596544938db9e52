/- A region whose order is open: the operations of its head change nothing that was there, each depends on the slots that it names alone; its tail waits for all before it. One walk of the text's order serves every order. -/
import Derived.Test.YtlbhpjigjehffaaDoorSimA
namespace Go.Sim

/-- For each operation the operations that come before it in every order, as bits. -/
def masks : List Oper → List Nat → List Nat
  | [], acc => acc
  | o :: rest, acc => masks rest (acc ++ [o.after.toList.foldl (fun s e => if Region.binds .any e then s ||| (2 ^ e.on ||| acc.getD e.on 0) else s) 0])

def names (ops : Array Oper) (o : Oper) : List Nat := o.looksAt ops

/-- The conditions on a region: dependences point back; who names a slot that another one of the head writes is ordered with it; the tail is a chain behind all. -/
def pairOk (ops : Array Oper) (ms : List Nat) (k j : Nat) : Bool :=
  match ops[k]?, ops[j]? with
  | some ok, some oj =>
    match oj.dst with
    | none => true
    | some t => !((names ops ok).contains t || ok.dst == some t) || (if j < k then (ms.getD k 0).testBit j else (ms.getD j 0).testBit k)
  | _, _ => true

def anyB (m : Nat) (l : List Oper) : Bool :=
  let ms := masks l []
  let ops := l.toArray
  decide (m ≤ l.length) &&
  l.zipIdx.all (fun x => x.1.after.toList.all fun e => !Region.binds .any e || decide (e.on < x.2)) &&
  (List.range m).all (fun k => (List.range m).all fun j => j == k || pairOk ops ms k j) &&
  (List.range l.length).all (fun t => decide (t < m) || (List.range t).all fun j => (ms.getD t 0).testBit j)

section masks
theorem fold_bits {acc : List Nat} {listed : Nat → Bool} (hacc : ∀ i j, (acc.getD i 0).testBit j = true → listed i = true → listed j = true) :
    ∀ (es : List Edge) (s : Nat), (∀ j, s.testBit j = true → listed j = true) → (∀ e ∈ es, Region.binds .any e = true → listed e.on = true) →
      ∀ j, (es.foldl (fun s e => if Region.binds .any e then s ||| (2 ^ e.on ||| acc.getD e.on 0) else s) s).testBit j = true → listed j = true := by
  intro es
  induction es with
  | nil => intro s hs _ j hj; exact hs j hj
  | cons e es ih =>
    intro s hs hes j hj
    simp only [List.foldl_cons] at hj
    refine ih _ ?_ (fun e' he' => hes e' (List.mem_cons_of_mem _ he')) j hj
    intro i hi
    by_cases hb : Region.binds .any e = true
    · simp only [hb, if_true, Nat.testBit_or, Nat.testBit_two_pow, Bool.or_eq_true, decide_eq_true_eq] at hi
      have hl := hes e (List.mem_cons_self ..) hb
      rcases hi with hi | hi | hi
      · exact hs i hi
      · exact hi ▸ hl
      · exact hacc e.on i hi hl
    · simp only [hb] at hi
      exact hs i hi

theorem masks_spec {ops : List Oper} {listed : Nat → Bool} (hcl : ∀ k o, ops[k]? = some o → listed k = true → ∀ e ∈ o.after, Region.binds .any e = true → listed e.on = true) :
    ∀ (l : List Oper) (acc : List Nat), (∀ j, l[j]? = ops[acc.length + j]?) → (∀ i j, (acc.getD i 0).testBit j = true → listed i = true → listed j = true) →
      (∀ i o, i < acc.length → ops[i]? = some o → (∀ e ∈ o.after, Region.binds .any e = true → listed e.on = true) → ∀ j, (acc.getD i 0).testBit j = true → listed j = true) →
      ∀ k o, ops[k]? = some o → k < acc.length + l.length → (∀ e ∈ o.after, Region.binds .any e = true → listed e.on = true) → ∀ j, ((masks l acc).getD k 0).testBit j = true → listed j = true := by
  intro l
  induction l with
  | nil =>
    intro acc _ _ h2 k o ho hk hd j hj
    exact h2 k o (by simpa using hk) ho hd j hj
  | cons x l ih =>
    intro acc hl h1 h2 k o ho hk hd j hj
    simp only [masks] at hj
    have hx : ops[acc.length]? = some x := by simpa using (hl 0).symm
    refine ih _ (fun i => ?_) ?_ ?_ k o ho (by simp only [List.length_append, List.length_cons, List.length_nil] at *; omega) hd j hj
    · have := hl (i + 1)
      simp only [List.getElem?_cons_succ] at this
      rw [this]; simp only [List.length_append, List.length_cons, List.length_nil]; congr 1; omega
    · intro i j' hb hi
      rcases Nat.lt_trichotomy i acc.length with hlt | heq | hgt
      · rw [List.getD_eq_getElem?_getD, List.getElem?_append_left hlt, ← List.getD_eq_getElem?_getD] at hb
        exact h1 i j' hb hi
      · subst heq
        simp only [List.getD_eq_getElem?_getD, List.getElem?_concat_length, Option.getD_some] at hb
        simp only [← List.getD_eq_getElem?_getD] at hb
        exact fold_bits h1 _ 0 (by simp) (fun e he => hcl _ _ hx hi e (by simpa using he)) j' hb
      · rw [List.getD_eq_getElem?_getD, List.getElem?_eq_none (by simp; omega)] at hb
        simp at hb
    · intro i o' hi ho' hd' j' hb
      rcases Nat.lt_or_ge i acc.length with hlt | hge
      · rw [List.getD_eq_getElem?_getD, List.getElem?_append_left hlt, ← List.getD_eq_getElem?_getD] at hb
        exact h2 i o' hlt ho' hd' j' hb
      · have : i = acc.length := by simp at hi; omega
        subst this
        rw [hx] at ho'; cases ho'
        simp only [List.getD_eq_getElem?_getD, List.getElem?_concat_length, Option.getD_some] at hb
        simp only [← List.getD_eq_getElem?_getD] at hb
        exact fold_bits h1 _ 0 (by simp) (fun e he => hd' e (by simpa using he)) j' hb

/-- What comes before an operation whose direct dependences are listed is listed. -/
theorem masks_listed {l : List Oper} {listed : Nat → Bool} (hcl : ∀ k o, l[k]? = some o → listed k = true → ∀ e ∈ o.after, Region.binds .any e = true → listed e.on = true)
    {k : Nat} {o : Oper} (ho : l[k]? = some o) (hd : ∀ e ∈ o.after, Region.binds .any e = true → listed e.on = true) {j : Nat} (hj : ((masks l []).getD k 0).testBit j = true) : listed j = true :=
  masks_spec hcl l [] (fun j => by simp) (fun i j h => by simp at h) (fun i o h => by simp at h) k o ho
    (by have := (List.getElem?_eq_some_iff.1 ho).1; simpa using this) hd j hj
end masks

/-! The head: for each operation what it yields. -/
structure HE where
  dst : Option Nat
  A : RA
  T : Rp
  le : ∀ i w C v, (A.R i).p w C v → T.p w C v

def Rp.any : Rp := ⟨fun _ _ _ => True, fun _ _ => trivial⟩

/-- The slots that an operation names. -/
def res (ns : List Nat) (S : List (Nat × Rp)) (t : Nat) : Option Rp := bif ns.contains t then look t S else none

inductive Head (P : Program) (n : Nat) (ops : Array Oper) (M : List MF) : List Oper → List (Nat × Rp) → List HE → Prop
  | nil {S : List (Nat × Rp)} : Head P n ops M [] S []
  | one {o : Oper} {rest : List Oper} {S : List (Nat × Rp)} {R : Rp} {d : Nat} {Hs : List HE} (hd : o.dst = some d) (hlt : Nat.blt d n = true) (hs : GSpec P ops (res (names ops o) S) M o (.one R))
      (h : Head P n ops M rest ((d, R) :: S) Hs) : Head P n ops M (o :: rest) S (⟨some d, .one R, R, fun _ _ _ _ h => h⟩ :: Hs)
  | sink {o : Oper} {rest : List Oper} {S : List (Nat × Rp)} {A : RA} {d : Nat} {Hs : List HE} (hd : o.dst = some d) (hlt : Nat.blt d n = true) (hs : GSpec P ops (res (names ops o) S) M o A)
      (h : Head P n ops M rest ((d, Rp.any) :: S) Hs) : Head P n ops M (o :: rest) S (⟨some d, A, Rp.any, fun _ _ _ _ _ => trivial⟩ :: Hs)

/-- What is known behind the head. -/
def Fin (K : List (Nat × Rp) → List MF → Prop) : List HE → List (Nat × Rp) → List MF → Prop
  | [], S, M => K S M
  | h :: hs, S, M => ∀ i, Fin K hs (putS h.dst (h.A.R i) S) (h.A.F i ++ M)

theorem Fin.one {K : List (Nat × Rp) → List MF → Prop} {S : List (Nat × Rp)} {M : List MF} {d : Nat} {R : Rp} {le} {Hs : List HE} (h : Fin K Hs ((d, R) :: S) M) : Fin K (⟨some d, .one R, R, le⟩ :: Hs) S M := fun _ => h
theorem Fin.sink {K : List (Nat × Rp) → List MF → Prop} {S : List (Nat × Rp)} {M : List MF} {d : Nat} {A : RA} {T : Rp} {le} {Hs : List HE} (h : ∀ i, Fin K Hs ((d, A.R i) :: S) (A.F i ++ M)) : Fin K (⟨some d, A, T, le⟩ :: Hs) S M := h
theorem Fin.nil {K : List (Nat × Rp) → List MF → Prop} {S : List (Nat × Rp)} {M : List MF} (h : K S M) : Fin K [] S M := h

theorem getD_both {listed : Array Bool} {i : Nat} (h : listed.getD i true = false) : listed.getD i false = false := by
  rcases Nat.lt_or_ge i listed.size with h' | h'
  · simp [h'] at h ⊢; exact h
  · simp [Array.getElem?_eq_none h'] at h

section
variable {P : Program} {B : Base} {n : Nat} {S : List (Nat × Rp)} {M : List MF} {Q : Exit → Act → World → Prop}

/-- The text's context ahead of the operation k. -/
def ctxT (S : List (Nat × Rp)) (H : Nat → HE) : Nat → List (Nat × Rp)
  | 0 => S
  | k + 1 => putS (H k).dst (H k).T (ctxT S H k)

theorem ctxT_shift {S : List (Nat × Rp)} {H : Nat → HE} : ∀ k, ctxT S H (k + 1) = ctxT (putS (H 0).dst (H 0).T S) (fun j => H (j + 1)) k
  | 0 => rfl
  | k + 1 => by rw [ctxT, ctxT_shift k]; rfl

theorem head_spec {ops : Array Oper} : ∀ (l : List Oper) (S : List (Nat × Rp)) (Hs : List HE), Head P n ops M l S Hs →
    Hs.length = l.length ∧ ∀ k o, l[k]? = some o → ∃ h, Hs[k]? = some h ∧ o.dst = h.dst ∧ (∀ d, h.dst = some d → d < n) ∧
      ∀ (H : Nat → HE), (∀ j, j < l.length → Hs[j]? = some (H j)) → GSpec P ops (res (names ops o) (ctxT S H k)) M o h.A := by
  intro l S Hs h
  induction h with
  | nil => exact ⟨rfl, fun k o h => by simp at h⟩
  | one hd hlt hs _ ih =>
    obtain ⟨ih1, ih2⟩ := ih
    refine ⟨by simp [ih1], fun k o' ho => ?_⟩
    cases k with
    | zero =>
      simp only [List.getElem?_cons_zero, Option.some.injEq] at ho
      subst ho
      exact ⟨_, rfl, hd, fun d' hd' => by cases hd'; simpa [Nat.blt_eq] using hlt, fun H hH => hs⟩
    | succ k =>
      obtain ⟨h', hh', h1, h2, h3⟩ := ih2 k o' (by simpa using ho)
      refine ⟨h', by simpa using hh', h1, h2, fun H hH => ?_⟩
      have h0 := hH 0 (by simp)
      simp only [List.getElem?_cons_zero, Option.some.injEq] at h0
      have := h3 (fun j => H (j + 1)) (fun j hj => by have := hH (j + 1) (by simp; omega); simpa using this)
      rw [ctxT_shift, ← h0]; exact this
  | sink hd hlt hs _ ih =>
    obtain ⟨ih1, ih2⟩ := ih
    refine ⟨by simp [ih1], fun k o' ho => ?_⟩
    cases k with
    | zero =>
      simp only [List.getElem?_cons_zero, Option.some.injEq] at ho
      subst ho
      exact ⟨_, rfl, hd, fun d' hd' => by cases hd'; simpa [Nat.blt_eq] using hlt, fun H hH => hs⟩
    | succ k =>
      obtain ⟨h', hh', h1, h2, h3⟩ := ih2 k o' (by simpa using ho)
      refine ⟨h', by simpa using hh', h1, h2, fun H hH => ?_⟩
      have h0 := hH 0 (by simp)
      simp only [List.getElem?_cons_zero, Option.some.injEq] at h0
      have := h3 (fun j => H (j + 1)) (fun j hj => by have := hH (j + 1) (by simp; omega); simpa using this)
      rw [ctxT_shift, ← h0]; exact this

/-- What has been done: for each operation of the head the index of what it has yielded. -/
abbrev Sel (H : Nat → HE) := (k : Nat) → Option (H k).A.ι
def ctxS (S : List (Nat × Rp)) (H : Nat → HE) (s : Sel H) : Nat → List (Nat × Rp)
  | 0 => S
  | k + 1 => match s k with
    | some i => putS (H k).dst ((H k).A.R i) (ctxS S H s k)
    | none => ctxS S H s k
def ctxM (M : List MF) (H : Nat → HE) (s : Sel H) : Nat → List MF
  | 0 => M
  | k + 1 => match s k with
    | some i => (H k).A.F i ++ ctxM M H s k
    | none => ctxM M H s k
def Sel.set {H : Nat → HE} (s : Sel H) (k : Nat) (i : (H k).A.ι) : Sel H := fun j => if h : j = k then some (h ▸ i) else s j

theorem look_putS_ne {t : Nat} {dst : Option Nat} {R : Rp} (h : dst ≠ some t) : look t (putS dst R S) = look t S := by
  cases dst with
  | none => rfl
  | some d => exact look_cons_ne (fun e => h (e ▸ rfl))

theorem set_self {H : Nat → HE} (s : Sel H) (k : Nat) (i : (H k).A.ι) : s.set k i k = some i := by simp [Sel.set]
theorem set_other {H : Nat → HE} (s : Sel H) {k j : Nat} (i : (H k).A.ι) (h : j ≠ k) : s.set k i j = s j := by simp [Sel.set, h]

theorem ctxS_congr {H : Nat → HE} {s s' : Sel H} : ∀ m, (∀ j, j < m → s j = s' j) → ctxS S H s m = ctxS S H s' m
  | 0, _ => rfl
  | m + 1, h => by simp only [ctxS]; rw [h m (by omega), ctxS_congr m (fun j hj => h j (by omega))]
theorem ctxM_congr {H : Nat → HE} {s s' : Sel H} : ∀ m, (∀ j, j < m → s j = s' j) → ctxM M H s m = ctxM M H s' m
  | 0, _ => rfl
  | m + 1, h => by simp only [ctxM]; rw [h m (by omega), ctxM_congr m (fun j hj => h j (by omega))]

/-- Behind k nobody that writes t has been done: the slot's fact is that of the context ahead of k + 1. -/
theorem look_ctxS_from {H : Nat → HE} {s : Sel H} {t k : Nat} : ∀ m, k ≤ m → (∀ j, k ≤ j → j < m → (H j).dst = some t → s j = none) → look t (ctxS S H s m) = look t (ctxS S H s k) := by
  intro m
  induction m with
  | zero =>
    intro hk _
    have : k = 0 := by omega
    subst this
    rfl
  | succ m ih =>
    intro hk h
    rcases Nat.lt_or_ge m k with hlt | hge
    · have : k = m + 1 := by omega
      subst this
      rfl
    · rw [← ih hge (fun j h1 h2 => h j h1 (by omega))]
      simp only [ctxS]
      by_cases hd : (H m).dst = some t
      · rw [h m hge (by omega) hd]
      · cases s m with
        | none => rfl
        | some i => exact look_putS_ne hd

/-- Ahead of k all that write t have been done: the text's fact holds. -/
theorem look_ctxT {H : Nat → HE} {s : Sel H} {t : Nat} : ∀ k, (∀ j, j < k → (H j).dst = some t → s j ≠ none) → ∀ R, look t (ctxT S H k) = some R →
    ∃ R', look t (ctxS S H s k) = some R' ∧ ∀ w C v, R'.p w C v → R.p w C v := by
  intro k
  induction k with
  | zero => intro _ R h; exact ⟨R, h, fun _ _ _ h => h⟩
  | succ k ih =>
    intro hk R h
    simp only [ctxT] at h
    simp only [ctxS]
    by_cases hd : (H k).dst = some t
    · have hne := hk k (by omega) hd
      cases hs : s k with
      | none => exact absurd hs hne
      | some i =>
        simp only [hd, putS, look_cons_eq, Option.some.injEq] at h ⊢
        subst h
        exact ⟨_, rfl, (H k).le i⟩
    · rw [look_putS_ne hd] at h
      obtain ⟨R', h1, h2⟩ := ih (fun j hj => hk j (by omega)) R h
      refine ⟨R', ?_, h2⟩
      cases s k with
      | none => exact h1
      | some i => simp only; rw [look_putS_ne hd]; exact h1

theorem look_set {H : Nat → HE} {s : Sel H} {k m t : Nat} {i : (H k).A.ι} (hkm : k < m) (hsk : s k = none) :
    ((H k).dst = some t → (∀ j, k < j → j < m → (H j).dst = some t → s j = none) → look t (ctxS S H (s.set k i) m) = some ((H k).A.R i)) ∧
    ((H k).dst ≠ some t → look t (ctxS S H (s.set k i) m) = look t (ctxS S H s m)) := by
  constructor
  · intro hd hlater
    rw [look_ctxS_from (k := k + 1) m hkm (fun j h1 h2 h3 => by rw [set_other s i (by omega)]; exact hlater j h1 h2 h3)]
    simp only [ctxS, set_self, hd, putS, look_cons_eq]
  · intro hd
    clear hkm
    induction m with
    | zero => rfl
    | succ m ih =>
      simp only [ctxS]
      by_cases hmk : m = k
      · subst hmk
        rw [set_self, hsk]
        simp only
        rw [look_putS_ne hd]; exact ih
      · rw [set_other s i hmk]
        cases s m with
        | none => exact ih
        | some i' =>
          simp only
          by_cases hdm : (H m).dst = some t
          · simp only [hdm, putS, look_cons_eq]
          · rw [look_putS_ne hdm, look_putS_ne hdm]; exact ih

theorem ctxM_set {H : Nat → HE} {s : Sel H} {k : Nat} {i : (H k).A.ι} (hsk : s k = none) : ∀ m, k < m → (ctxM M H (s.set k i) m).Perm ((H k).A.F i ++ ctxM M H s m) := by
  intro m
  induction m with
  | zero => intro h; omega
  | succ m ih =>
    intro hk
    simp only [ctxM]
    by_cases hmk : m = k
    · subst hmk
      rw [set_self, hsk, ctxM_congr (s := s.set m i) (s' := s) m (fun j hj => set_other s i (by omega))]
    · rw [set_other s i hmk]
      have := ih (by omega)
      cases s m with
      | none => exact this
      | some i' =>
        simp only
        refine (this.append_left _).trans ?_
        rw [← List.append_assoc, ← List.append_assoc]
        exact (List.perm_append_comm).append_right _

theorem ctxM_pick {H : Nat → HE} {s : Sel H} (m : Nat) : ∃ R, (ctxM M H s m).Perm (M ++ R) := by
  induction m with
  | zero => exact ⟨[], by simp [ctxM]⟩
  | succ m ih =>
    obtain ⟨R, hR⟩ := ih
    simp only [ctxM]
    cases s m with
    | none => exact ⟨R, hR⟩
    | some i => exact ⟨R ++ (H m).A.F i, ((hR.append_left _).trans (by rw [← List.append_assoc M]; exact List.perm_append_comm))⟩

theorem fin_full {K : List (Nat × Rp) → List MF → Prop} {H : Nat → HE} {s : Sel H} : ∀ (Hs : List HE) (k : Nat) (S' : List (Nat × Rp)) (M' : List MF), (∀ j, j < Hs.length → Hs[j]? = some (H (k + j))) → (∀ j, j < Hs.length → s (k + j) ≠ none) →
    S' = ctxS S H s k → M' = ctxM M H s k → Fin K Hs S' M' → K (ctxS S H s (k + Hs.length)) (ctxM M H s (k + Hs.length)) := by
  intro Hs
  induction Hs with
  | nil => intro k S' M' _ _ hS hM h; subst hS hM; exact h
  | cons h hs ih =>
    intro k S' M' hH hs' hS hM hF
    have h0 := hH 0 (by simp)
    simp only [List.getElem?_cons_zero, Nat.add_zero, Option.some.injEq] at h0
    subst h0
    cases hsk : s k with
    | none => exact absurd hsk (hs' 0 (by simp))
    | some i =>
      have := ih (k + 1) _ _ (fun j hj => by have := hH (j + 1) (by simp; omega); rw [show k + 1 + j = k + (j + 1) by omega]; simpa using this)
        (fun j hj => by have := hs' (j + 1) (by simp; omega); rwa [show k + 1 + j = k + (j + 1) by omega]) ?_ ?_ (hF i)
      · rw [show k + (H k :: hs).length = k + 1 + hs.length by simp; omega]; exact this
      · simp only [ctxS, hsk, hS]
      · simp only [ctxM, hsk, hM]

/-- The tail: one order is left. -/
theorem any_tail_of {l : List Oper} {m : Nat} (hms : ∀ t, m ≤ t → t < l.length → ∀ j, j < t → ((masks l []).getD t 0).testBit j = true) (hback : ∀ k o, l[k]? = some o → ∀ e ∈ o.after, Region.binds .any e = true → e.on < k) :
    ∀ (f t : Nat) (listed : Array Bool) (a : Act) (w : World), f + t = l.length → m ≤ t → listed.size = l.length →
    (∀ j, j < t → listed.getD j false = true) → (∀ j, t ≤ j → j < l.length → listed.getD j true = false) → wpList P l.toArray Q (l.drop t) a w → wpAny P .any l.toArray Q f listed a w := by
  intro f
  induction f with
  | zero =>
    intro t listed a w hft _ _ hdone _ h
    have ht : t = l.length := by omega
    subst ht
    refine ⟨?_, by simpa [wpList] using h⟩
    apply List.eq_nil_iff_forall_not_mem.2
    intro j hj
    obtain ⟨hj1, o, ho, _⟩ := mem_ready.1 hj
    have hlt : j < l.length := by simpa using (Array.getElem?_eq_some_iff.1 ho).1
    have := hdone j hlt
    rw [getD_both hj1] at this; cases this
  | succ f ih =>
    intro t listed a w hft hmt hsz hdone hleft h
    have ht : t < l.length := by omega
    obtain ⟨o, ho⟩ : ∃ o, l[t]? = some o := ⟨l[t], by simp [ht]⟩
    have hready : ∀ j, j ∈ Region.ready .any l.toArray listed → j = t := by
      intro j hj
      obtain ⟨hj1, o', ho', hall⟩ := mem_ready.1 hj
      have hlt : j < l.length := by simpa using (Array.getElem?_eq_some_iff.1 ho').1
      rcases Nat.lt_trichotomy j t with h1 | h1 | h1
      · have := hdone j h1; rw [getD_both hj1] at this; cases this
      · exact h1
      · exfalso
        have ho'' : l[j]? = some o' := by simpa using ho'
        have hcl : ∀ k o, l[k]? = some o → (listed.getD k false) = true → ∀ e ∈ o.after, Region.binds .any e = true → listed.getD e.on false = true := by
          intro k ok hok hlk e he hb
          have hek := hback k ok hok e he hb
          have hkt : k < t := by
            rcases Nat.lt_or_ge k t with h | h
            · exact h
            · have := hleft k h (List.getElem?_eq_some_iff.1 hok).1
              rw [getD_both this] at hlk; cases hlk
          exact hdone _ (by omega)
        have h5 : listed.getD t false = true := masks_listed (listed := fun k => listed.getD k false) hcl ho'' (fun e he hb => hall e he hb) (hms j (by omega) hlt t h1)
        have := hleft t (Nat.le_refl _) ht
        rw [getD_both this] at h5; cases h5
    refine ⟨fun h0 => ?_, fun i hi => ?_⟩
    · exfalso
      have : t ∈ Region.ready .any l.toArray listed := by
        refine mem_ready.2 ⟨hleft t (Nat.le_refl _) ht, o, by simpa using ho, fun e he hb => hdone _ (hback t o ho e he hb)⟩
      rw [h0] at this; cases this
    · have := hready i hi
      subst this
      have hdrop : l.drop i = o :: l.drop (i + 1) := by
        rw [List.drop_eq_getElem_cons ht]; congr 1
        have := ho; rw [List.getElem?_eq_getElem ht] at this; simpa using this
      rw [hdrop] at h
      have hwp : wpOp P l.toArray Q i (wpList P l.toArray Q (l.drop (i + 1))) a w := by
        unfold wpOp; simp only [List.getElem?_toArray, ho]; exact h
      refine wpOp_mono (fun a' w' h' => ih (i + 1) _ a' w' (by omega) (by omega) (by simp [hsz]) ?_ ?_ h') hwp
      · intro j hj
        rcases Nat.lt_or_ge j i with h1 | h1
        · exact getD_set_true (hdone j h1)
        · have : j = i := by omega
          subst this
          simp [hsz, ht]
      · intro j hj hj2
        rw [getD_set_ne true (by omega)]; exact hleft j (by omega) hj2

theorem any_tail {l : List Oper} {m : Nat} (hB : anyB m l = true) : ∀ (f t : Nat) (listed : Array Bool) (a : Act) (w : World), f + t = l.length → m ≤ t → listed.size = l.length →
    (∀ j, j < t → listed.getD j false = true) → (∀ j, t ≤ j → j < l.length → listed.getD j true = false) → wpList P l.toArray Q (l.drop t) a w → wpAny P .any l.toArray Q f listed a w := by
  have hms : ∀ t, m ≤ t → t < l.length → ∀ j, j < t → ((masks l []).getD t 0).testBit j = true := by
    intro t hmt ht j hj
    simp only [anyB, Bool.and_eq_true, List.all_eq_true, List.mem_range, Bool.or_eq_true, decide_eq_true_eq] at hB
    exact (hB.2 t ht).resolve_left (by omega) j hj
  have hback : ∀ k o, l[k]? = some o → ∀ e ∈ o.after, Region.binds .any e = true → e.on < k := by
    intro k o ho e he hb
    simp only [anyB, Bool.and_eq_true, List.all_eq_true, Bool.or_eq_true, Bool.not_eq_true', decide_eq_true_eq] at hB
    have := hB.1.1.2 (o, k) (List.mem_zipIdx_iff_getElem?.2 (by simpa using ho)) e (by simpa using he)
    exact this.resolve_left (by simp [hb])
  exact any_tail_of hms hback

/-- The head, in any order. -/
theorem any_head {l : List Oper} {m : Nat} {Hs : List HE} {H : Nat → HE} (hB : anyB m l = true) (hH : Head P n l.toArray M (l.take m) S Hs) (hHs : ∀ j, j < m → Hs[j]? = some (H j))
    (hK : Fin (fun S' M' => L P B n S' M' l.toArray (l.drop m) Q) Hs S M) :
    ∀ (f : Nat) (listed : Array Bool) (s : Sel H) (a : Act) (w : World) (C : Nat → Prop), listed.size = l.length →
      (∀ j, j < m → (listed.getD j false = true ↔ s j ≠ none)) → (∀ j, m ≤ j → j < l.length → listed.getD j true = false) →
      (∀ k o, l[k]? = some o → listed.getD k false = true → ∀ e ∈ o.after, Region.binds .any e = true → listed.getD e.on false = true) →
      ((List.range l.length).countP (fun j => !listed.getD j true) = f) →
      St B n (ctxS S H s m) (ctxM M H s m) a w C → wpAny P .any l.toArray Q f listed a w := by
  have hm : m ≤ l.length := by simp only [anyB, Bool.and_eq_true, decide_eq_true_eq] at hB; exact hB.1.1.1
  have hback : ∀ k o, l[k]? = some o → ∀ e ∈ o.after, Region.binds .any e = true → e.on < k := by
    intro k o ho e he hb
    simp only [anyB, Bool.and_eq_true, List.all_eq_true, Bool.or_eq_true, Bool.not_eq_true', decide_eq_true_eq] at hB
    have := hB.1.1.2 (o, k) (List.mem_zipIdx_iff_getElem?.2 (by simpa using ho)) e (by simpa using he)
    exact this.resolve_left (by simp [hb])
  have hpair : ∀ k j, k < m → j < m → j ≠ k → pairOk l.toArray (masks l []) k j = true := by
    intro k j hk hj hjk
    simp only [anyB, Bool.and_eq_true, List.all_eq_true, List.mem_range, Bool.or_eq_true, beq_iff_eq] at hB
    exact (hB.1.2 k hk j hj).resolve_left hjk
  have hms : ∀ t, m ≤ t → t < l.length → ∀ j, j < t → ((masks l []).getD t 0).testBit j = true := by
    intro t hmt ht j hj
    simp only [anyB, Bool.and_eq_true, List.all_eq_true, List.mem_range, Bool.or_eq_true, decide_eq_true_eq] at hB
    exact (hB.2 t ht).resolve_left (by omega) j hj
  obtain ⟨hlen, hspec⟩ := head_spec _ _ _ hH
  have hlen' : Hs.length = m := by rw [hlen]; simp; omega
  intro f
  induction f with
  | zero =>
    intro listed s a w C hsz hls htail hcl hcount st
    -- all are listed
    have hall : ∀ j, j < l.length → listed.getD j true = true := by
      intro j hj
      have := List.countP_eq_zero.1 hcount j (List.mem_range.2 hj)
      simpa using this
    have hml : m = l.length := by
      rcases Nat.lt_or_ge m l.length with h | h
      · have h1 := htail m (Nat.le_refl _) h
        rw [hall m h] at h1; cases h1
      · omega
    have hdone : ∀ j, j < m → s j ≠ none := by
      intro j hj
      refine (hls j hj).1 ?_
      have := hall j (by omega)
      have hjl : j < listed.size := by omega
      simp [hjl] at this ⊢; exact this
    have := fin_full (K := fun S' M' => L P B n S' M' l.toArray (l.drop m) Q) (S := S) (M := M) (H := H) (s := s) Hs 0 S M (fun j hj => by rw [Nat.zero_add]; exact hHs j (by omega)) (fun j hj => by rw [Nat.zero_add]; exact hdone j (by omega)) rfl rfl hK
    rw [Nat.zero_add, hlen'] at this
    refine any_tail hB 0 m listed a w (by omega) (Nat.le_refl _) hsz (fun j hj => ?_) htail (this a w C st)
    exact (hls j hj).2 (hdone j hj)
  | succ f ih =>
    intro listed s a w C hsz hls htail hcl hcount st
    by_cases hfull : ∀ j, j < m → s j ≠ none
    · have := fin_full (K := fun S' M' => L P B n S' M' l.toArray (l.drop m) Q) (S := S) (M := M) (H := H) (s := s) Hs 0 S M (fun j hj => by rw [Nat.zero_add]; exact hHs j (by omega)) (fun j hj => by rw [Nat.zero_add]; exact hfull j (by omega)) rfl rfl hK
      rw [Nat.zero_add, hlen'] at this
      have hf : f + 1 + m = l.length := by
        rw [← hcount]
        have h1 : ∀ k, k ≤ l.length → (List.range k).countP (fun j => !listed.getD j true) = k - m := by
          intro k
          induction k with
          | zero => intro _; simp
          | succ k ihk =>
            intro hk
            rw [List.range_succ, List.countP_append, ihk (by omega)]
            rcases Nat.lt_or_ge k m with h | h
            · have h2 : listed.getD k true = true := by
                have h3 := (hls k h).2 (hfull k h)
                have hkl : k < listed.size := by omega
                simp [hkl] at h3 ⊢; exact h3
              simp only [List.countP_cons, List.countP_nil, h2, Bool.not_true]
              simp; omega
            · have h2 := htail k h (by omega)
              simp only [List.countP_cons, List.countP_nil, h2, Bool.not_false]
              simp; omega
        rw [h1 _ (Nat.le_refl _)]; omega
      exact any_tail hB (f + 1) m listed a w hf (Nat.le_refl _) hsz (fun j hj => (hls j hj).2 (hfull j hj)) htail (this a w C st)
    · -- some operation of the head is left
      have hex : ∃ k, k < m ∧ s k = none ∧ ∀ j, j < k → s j ≠ none := by
        have : ∃ k, k < m ∧ s k = none := by
          apply Classical.byContradiction
          intro hno
          exact hfull fun j hj hsj => hno ⟨j, hj, hsj⟩
        obtain ⟨k, hk⟩ := this
        induction k using Nat.strongRecOn with
        | _ k ihk =>
          by_cases h : ∃ j, j < k ∧ s j = none
          · obtain ⟨j, hj, hsj⟩ := h
            exact ihk j hj ⟨by omega, hsj⟩
          · exact ⟨k, hk.1, hk.2, fun j hj hsj => h ⟨j, hj, hsj⟩⟩
      obtain ⟨k₀, hk₀m, hk₀n, hk₀l⟩ := hex
      have hunl : ∀ j, j < m → s j = none → listed.getD j true = false := by
        intro j hj hsj
        have hjl : j < listed.size := by omega
        have h1 : ¬ (listed.getD j false = true) := fun h => (hls j hj).1 h hsj
        simp [hjl] at h1 ⊢; exact h1
      have hr₀ : k₀ ∈ Region.ready .any l.toArray listed := by
        have hk₀ll : k₀ < l.length := by omega
        refine mem_ready.2 ⟨hunl k₀ hk₀m hk₀n, l[k₀], by simp [hk₀ll], fun e he hb => ?_⟩
        have := hback k₀ l[k₀] (by simp [hk₀ll]) e he hb
        exact (hls e.on (by omega)).2 (hk₀l _ this)
      refine ⟨fun h0 => (by rw [h0] at hr₀; cases hr₀), fun k hk => ?_⟩
      obtain ⟨hk1, o, ho, hall⟩ := mem_ready.1 hk
      have ho' : l[k]? = some o := by simpa using ho
      have hkl : k < l.length := (List.getElem?_eq_some_iff.1 ho').1
      have hanc : ∀ j, ((masks l []).getD k 0).testBit j = true → listed.getD j false = true := fun j hj =>
        masks_listed (listed := fun k => listed.getD k false) hcl ho' (fun e he hb => hall e he hb) hj
      have hkm : k < m := by
        rcases Nat.lt_or_ge k m with h | h
        · exact h
        · have := hanc k₀ (hms k h hkl k₀ (by omega))
          exact absurd hk₀n ((hls k₀ hk₀m).1 this)
      have hsk : s k = none := by
        cases hs : s k with
        | none => rfl
        | some i =>
          have := (hls k hkm).2 (by rw [hs]; simp)
          rw [getD_both hk1] at this; cases this
      obtain ⟨h', hh', hdst, hlt, hgs⟩ := hspec k o (by rw [List.getElem?_take]; simp [hkm, ho'])
      have hHk : h' = H k := by have := hHs k hkm; rw [hh'] at this; simpa using this
      subst hHk
      have hgs' := hgs H (fun j hj => hHs j (by simp at hj; omega))
      have hdstj : ∀ j, j < m → ∃ oj, l[j]? = some oj ∧ oj.dst = (H j).dst := by
        intro j hj
        have hjl : j < l.length := by omega
        obtain ⟨h'', hh'', hd'', _⟩ := hspec j l[j] (by rw [List.getElem?_take]; simp [hj, hjl])
        have : h'' = H j := by have := hHs j hj; rw [hh''] at this; simpa using this
        subst this
        exact ⟨l[j], by simp [hjl], hd''⟩
      -- who writes what k names is ordered with k
      have hord : ∀ t, (t ∈ names l.toArray o ∨ o.dst = some t) → ∀ j, j < m → j ≠ k → (H j).dst = some t → (j < k → s j ≠ none) ∧ (k < j → s j = none) := by
        intro t ht j hj hjk hdj
        obtain ⟨oj, hoj, hdoj⟩ := hdstj j hj
        have hp := hpair k j hkm hj hjk
        unfold pairOk at hp
        simp only [List.getElem?_toArray, ho', hoj, hdoj, hdj] at hp
        have hnm : ((names l.toArray o).contains t || o.dst == some t) = true := by
          rcases ht with ht | ht
          · simp [ht]
          · simp [ht]
        rw [hnm] at hp
        simp only [Bool.not_true, Bool.false_or] at hp
        constructor
        · intro hlt'
          rw [if_pos hlt'] at hp
          exact (hls j hj).1 (hanc j hp)
        · intro hlt'
          rw [if_neg (by omega)] at hp
          cases hsj : s j with
          | none => rfl
          | some i =>
            exfalso
            have hlj : listed.getD j false = true := (hls j hj).2 (by rw [hsj]; simp)
            have hk3 : listed.getD k false = true := masks_listed (listed := fun k => listed.getD k false) hcl hoj (fun e he hb => hcl j oj hoj hlj e he hb) hp
            rw [getD_both hk1] at hk3; cases hk3
      have hslots : SlotsOk (res (names l.toArray o) (ctxT S H k)) a w C := by
        intro t R ht
        unfold res at ht
        cases hc : (names l.toArray o).contains t with
        | false => rw [hc] at ht; simp at ht
        | true =>
          rw [hc] at ht
          simp only [cond_true] at ht
          have htm : t ∈ names l.toArray o := by simpa using hc
          obtain ⟨R', h1, h2⟩ := look_ctxT (S := S) (H := H) (s := s) (t := t) k (fun j hj hd => (hord t (.inl htm) j (by omega) (by omega) hd).1 hj) R ht
          refine h2 _ _ _ (st.slots t R' ?_)
          show look t (ctxS S H s m) = some R'
          rw [look_ctxS_from (k := k) m (by omega) (fun j h3 h4 hd => ?_)]
          · exact h1
          · by_cases hjk : j = k
            · subst hjk; exact hsk
            · exact (hord t (.inl htm) j h4 hjk hd).2 (by omega)
      have hmem : MOk M w C := by
        obtain ⟨R, hR⟩ := ctxM_pick (M := M) (H := H) (s := s) m
        exact (st.mem.perm hR).left
      have hop := hgs' a w C (fun a' w' => wpAny P .any l.toArray Q f (listed.setIfInBounds k true) a' w') Q hslots hmem (fun i v w' C' he hwf hv hn => ?_)
      · unfold wpOp
        simp only [ho]
        split
        · rename_i hw; rw [if_pos hw] at hop; exact .inl hop
        · rename_i hw; rw [if_neg hw] at hop; exact hop
      · have hkls : k < listed.size := by omega
        refine ih (listed.setIfInBounds k true) (s.set k i) _ _ C' (by simp [hsz]) ?_ ?_ ?_ ?_ ?_
        · intro j hj
          by_cases hjk : j = k
          · subst hjk; simp [set_self, hkls]
          · rw [set_other s i hjk, getD_set_ne false (Ne.symm hjk)]; exact hls j hj
        · intro j h1 h2; rw [getD_set_ne true (by omega)]; exact htail j h1 h2
        · intro k' o' ho'' hl' e he' hb
          by_cases hkk : k' = k
          · subst hkk
            rw [ho'] at ho''; cases ho''
            exact getD_set_true (hall e he' hb)
          · rw [getD_set_ne false (Ne.symm hkk)] at hl'
            exact getD_set_true (hcl k' o' ho'' hl' e he' hb)
        · -- one fewer is left
          have h1 : ∀ N, k < N → (List.range N).countP (fun j => !listed.getD j true) = (List.range N).countP (fun j => !(listed.setIfInBounds k true).getD j true) + 1 := by
            intro N
            induction N with
            | zero => intro h; omega
            | succ N ihN =>
              intro h
              rw [List.range_succ, List.countP_append, List.countP_append]
              by_cases hNk : N = k
              · subst hNk
                have h2 : (List.range N).countP (fun j => !listed.getD j true) = (List.range N).countP (fun j => !(listed.setIfInBounds N true).getD j true) := by
                  apply List.countP_congr
                  intro x hx
                  have : x ≠ N := by have := List.mem_range.1 hx; omega
                  rw [getD_set_ne true (Ne.symm this)]
                have h3 : (listed.setIfInBounds N true).getD N true = true := by simp [hkls]
                rw [h2]
                simp only [List.countP_cons, List.countP_nil, hk1, h3]
                simp
              · rw [ihN (by omega)]
                have : (listed.setIfInBounds k true).getD N true = listed.getD N true := getD_set_ne true (Ne.symm hNk)
                simp only [List.countP_cons, List.countP_nil, this]
                omega
          have := h1 l.length hkl
          omega
        · have hst := st.step (dst := o.dst) (fun d hd => hlt d (by rw [← hdst]; exact hd)) he hwf hv hn
          refine ⟨hst.size, hst.defers, ?_, hst.mem.perm (ctxM_set hsk m hkm).symm, hst.eff, ?_⟩
          · intro t R ht
            have hl := look_set (S := S) (H := H) (s := s) (k := k) (m := m) (t := t) (i := i) hkm hsk
            by_cases hd : (H k).dst = some t
            · have h1 := hl.1 hd (fun j h2 h3 h4 => (hord t (.inr (by rw [hdst]; exact hd)) j h3 (by omega) h4).2 h2)
              simp only at ht
              rw [h1] at ht
              have h2 := hst.slots t ((H k).A.R i) (by rw [hdst, hd]; exact look_cons_eq)
              cases ht; exact h2
            · have h1 := hl.2 hd
              simp only at ht
              rw [h1] at ht
              exact hst.slots t R (by
                show look t (putS o.dst _ _) = some R
                rw [look_putS_ne (by rw [hdst]; exact hd)]; exact ht)
          · intro b hb
            exact hst.since b ((feet_perm (ctxM_set hsk m hkm)).mem_iff.1 hb)

theorem St.drew {a : Act} {w : World} {C : Nat → Prop} (h : St B n S M a w C) : St B n S M a { w with drawn := w.drawn + 1 } C := by
  have hp : Pub w C { w with drawn := w.drawn + 1 } C := fun b hb => ⟨hb, rfl⟩
  exact ⟨h.size, h.defers, fun t R ht => R.mono hp (h.slots t R ht),
    ⟨fun F hF => F.loc hp (fun b _ => rfl) (h.mem.facts F hF), h.mem.nodup, h.mem.own, h.mem.wf⟩,
    ⟨h.eff.size, h.eff.keep, h.eff.cl, h.eff.os, h.eff.tape, h.eff.output⟩, h.since⟩

/-- A region whose order is open: the head by its facts, then the tail. -/
theorem W.any {id : Nat} {l : List Oper} (m : Nat) {Hs : List HE} (hm : P.follows .mixedOrders = true) (hB : anyB m l = true) (hH : Head P n l.toArray M (l.take m) S Hs)
    (hK : Fin (fun S' M' => L P B n S' M' l.toArray (l.drop m) Q) Hs S M) : W P B n S M (.region id l.toArray true) Q := by
  intro a w C st
  refine wp_region_any hm ?_
  have hm' : m ≤ l.length := by simp only [anyB, Bool.and_eq_true, decide_eq_true_eq] at hB; exact hB.1.1.1
  obtain ⟨hlen, _⟩ := head_spec _ _ _ hH
  let H : Nat → HE := fun j => Hs.getD j ⟨none, .one Rp.any, Rp.any, fun _ _ _ _ h => h⟩
  have hsel : ∀ k, ctxS S H (fun _ => none) k = S := by
    intro k; induction k with
    | zero => rfl
    | succ k ih => simp only [ctxS]; exact ih
  have hselM : ∀ k, ctxM M H (fun _ => none) k = M := by
    intro k; induction k with
    | zero => rfl
    | succ k ih => simp only [ctxM]; exact ih
  have hrep : ∀ j d, j < l.length → (Array.replicate l.toArray.size false).getD j d = false := by
    intro j d hj; simp [hj]
  refine any_head (H := H) hB hH (fun j hj => ?_) hK l.toArray.size _ (fun _ => none) a _ C (by simp) ?_ ?_ ?_ ?_ (by rw [hsel, hselM]; exact st.drew)
  · have : j < Hs.length := by rw [hlen]; simp; omega
    simp [H, this]
  · intro j hj
    rw [hrep j false (by omega)]; simp
  · intro j _ hj; exact hrep j true hj
  · intro k o ho hl
    rw [hrep k false (List.getElem?_eq_some_iff.1 ho).1] at hl; cases hl
  · have : ∀ N, N ≤ l.length → (List.range N).countP (fun j => !(Array.replicate l.toArray.size false).getD j true) = N := by
      intro N
      induction N with
      | zero => intro _; rfl
      | succ N ih =>
        intro hN
        rw [List.range_succ, List.countP_append, ih (by omega)]
        simp only [List.countP_cons, List.countP_nil, hrep N true (by omega)]
        simp
    rw [this _ (Nat.le_refl _)]; simp
end
end Go.Sim
