/- Lemmas for the claim, part 1: rules for walks, contracts of functions, the data they compute. No conditions. -/
import Derived.WalkKit
import Derived.Orders
/- The core of a walk on data: contexts of facts about slots and about memory, the judgements over code and operations, and their structural rules. -/
namespace Go.Sim

/-- What persists: published blocks stay published and unchanged. -/
def Pub (w : World) (C : Nat → Prop) (w' : World) (C' : Nat → Prop) : Prop :=
  ∀ b, C b → C' b ∧ w'.heap[b]? = w.heap[b]?

theorem Pub.refl (w : World) (C : Nat → Prop) : Pub w C w C := fun _ h => ⟨h, rfl⟩
theorem Pub.trans {w C w' C' w'' C''} (h : Pub w C w' C') (h' : Pub w' C' w'' C'') : Pub w C w'' C'' :=
  fun b hb => ⟨(h' b (h b hb).1).1, (h' b (h b hb).1).2.trans (h b hb).2⟩

/-- A representation of one value. -/
structure Rp where
  p : World → (Nat → Prop) → Value → Prop
  mono : ∀ {w C w' C' v}, Pub w C w' C' → p w C v → p w' C' v

/-- A fact about memory that the running call owns. -/
structure MF where
  foot : List Nat
  p : World → (Nat → Prop) → Prop
  loc : ∀ {w C w' C'}, Pub w C w' C' → (∀ b ∈ foot, w'.heap[b]? = w.heap[b]?) → p w C → p w' C'

def feet (M : List MF) : List Nat := M.flatMap MF.foot

/-- What a piece of code may have done: new blocks, and changes of the blocks U alone. -/
structure Eff (U : List Nat) (w : World) (C : Nat → Prop) (w' : World) (C' : Nat → Prop) : Prop where
  size : w.heap.size ≤ w'.heap.size
  keep : ∀ b, b < w.heap.size → b ∉ U → w'.heap[b]? = w.heap[b]?
  cl : ∀ b, b < w.heap.size → b ∉ U → (C' b ↔ C b)
  os : w'.os = w.os
  tape : w'.tape = w.tape
  output : w'.output = w.output

theorem Eff.refl (U w C) : Eff U w C w C := ⟨Nat.le_refl _, fun _ _ _ => rfl, fun _ _ _ => Iff.rfl, rfl, rfl, rfl⟩

theorem Eff.trans {U V w C w' C' w'' C''} (h : Eff U w C w' C') (h' : Eff V w' C' w'' C'')
    (hv : ∀ b ∈ V, b ∈ U ∨ w.heap.size ≤ b) : Eff U w C w'' C'' where
  size := Nat.le_trans h.size h'.size
  keep b hb hu := by
    rw [h'.keep b (Nat.lt_of_lt_of_le hb h.size) (fun hbv => (hv b hbv).elim hu (fun hge => absurd hb (by omega))), h.keep b hb hu]
  cl b hb hu := (h'.cl b (Nat.lt_of_lt_of_le hb h.size) (fun hbv => (hv b hbv).elim hu (fun hge => absurd hb (by omega)))).trans (h.cl b hb hu)
  os := h'.os.trans h.os
  tape := h'.tape.trans h.tape
  output := h'.output.trans h.output

theorem Eff.mono {U V w C w' C'} (h : Eff U w C w' C') (hu : ∀ b ∈ U, b ∈ V) : Eff V w C w' C' :=
  ⟨h.size, fun b hb hv => h.keep b hb (fun hb' => hv (hu b hb')), fun b hb hv => h.cl b hb (fun hb' => hv (hu b hb')), h.os, h.tape, h.output⟩

theorem Eff.pub {U w C w' C'} (h : Eff U w C w' C') (hwf : ∀ b, C b → b < w.heap.size) (hu : ∀ b ∈ U, ¬ C b) : Pub w C w' C' :=
  fun b hb => ⟨(h.cl b (hwf b hb) (fun hbu => hu b hbu hb)).2 hb, h.keep b (hwf b hb) (fun hbu => hu b hbu hb)⟩

/-- The memory that is owned. -/
structure MOk (M : List MF) (w : World) (C : Nat → Prop) : Prop where
  facts : ∀ F ∈ M, F.p w C
  nodup : (feet M).Nodup
  own : ∀ b ∈ feet M, b < w.heap.size ∧ ¬ C b
  wf : ∀ b, C b → b < w.heap.size

theorem mem_feet {M : List MF} {b : Nat} : b ∈ feet M ↔ ∃ F ∈ M, b ∈ F.foot := by
  simp [feet, List.mem_flatMap]

/-- The fact of a slot: the first entry counts. -/
def look (t : Nat) : List (Nat × Rp) → Option Rp
  | [] => none
  | (u, R) :: l => bif Nat.beq u t then some R else look t l

def SlotsOk (σ : Nat → Option Rp) (a : Act) (w : World) (C : Nat → Prop) : Prop :=
  ∀ t R, σ t = some R → R.p w C (a.tmps.getD t undef)

/-- Where a call began. -/
structure Base where
  w : World
  C : Nat → Prop
  U : List Nat

structure St (B : Base) (n : Nat) (S : List (Nat × Rp)) (M : List MF) (a : Act) (w : World) (C : Nat → Prop) : Prop where
  size : a.tmps.size = n
  defers : a.defers = []
  slots : SlotsOk (look · S) a w C
  mem : MOk M w C
  eff : Eff B.U B.w B.C w C
  since : ∀ b ∈ feet M, b ∈ B.U ∨ B.w.heap.size ≤ b

/-- The judgements: code, operations, an exit. -/
def W (P : Program) (B : Base) (n : Nat) (S : List (Nat × Rp)) (M : List MF) (c : Code) (Q : Exit → Act → World → Prop) : Prop :=
  ∀ a w C, St B n S M a w C → c.wp P Q a w
def L (P : Program) (B : Base) (n : Nat) (S : List (Nat × Rp)) (M : List MF) (ops : Array Oper) (rest : List Oper) (Q : Exit → Act → World → Prop) : Prop :=
  ∀ a w C, St B n S M a w C → wpList P ops Q rest a w
def N (B : Base) (n : Nat) (S : List (Nat × Rp)) (M : List MF) (e : Exit) (Q : Exit → Act → World → Prop) : Prop :=
  ∀ a w C, St B n S M a w C → Q e a w

section
variable {P : Program} {B : Base} {n : Nat} {S S' : List (Nat × Rp)} {M M' : List MF} {Q Q' : Exit → Act → World → Prop} {ops : Array Oper} {rest : List Oper}

/-! Structural rules. -/
theorem W.seq {x y : Code} (h : W P B n S M x (Exit.then (y.wp P Q) Q)) : W P B n S M (.seq x y) Q :=
  fun a w C hs => wp_seq (h a w C hs)
theorem W.skip (h : N B n S M .normal Q) : W P B n S M .skip Q := fun a w C hs => wp_skip (h a w C hs)
theorem W.exit {id : Nat} (h : N B n S M (.exit id) Q) : W P B n S M (.exit id) Q := fun a w C hs => wp_exit (h a w C hs)
theorem W.ret (h : N B n S M .ret Q) : W P B n S M .ret Q := fun a w C hs => wp_ret (h a w C hs)
theorem W.block {id : Nat} {c : Code} (h : W P B n S M c (Exit.inBlock id Q)) : W P B n S M (.block id c) Q :=
  fun a w C hs => wp_block (h a w C hs)
theorem W.region {id : Nat} {l : List Oper} (h : L P B n S M l.toArray l Q) : W P B n S M (.region id l.toArray false) Q :=
  fun a w C hs => wp_region_lit (h a w C hs)
theorem L.nil (h : N B n S M .normal Q) : L P B n S M ops [] Q := fun a w C hs => wpList_nil (h a w C hs)
theorem N.thenW {y : Code} {Q₀ : Exit → Act → World → Prop} (h : W P B n S M y Q) : N B n S M .normal (Exit.then (y.wp P Q) Q₀) :=
  fun a w C hs => h a w C hs
theorem N.thenExit {id : Nat} {K : Act → World → Prop} (h : N B n S M (.exit id) Q) : N B n S M (.exit id) (Exit.then K Q) :=
  fun a w C hs => h a w C hs
theorem N.blockNormal {id : Nat} (h : N B n S M .normal Q) : N B n S M .normal (Exit.inBlock id Q) := fun a w C hs => h a w C hs
theorem N.blockExit {id : Nat} (h : N B n S M .normal Q) : N B n S M (.exit id) (Exit.inBlock id Q) :=
  fun a w C hs => by simp only [Exit.inBlock, if_true]; exact h a w C hs
theorem N.blockMiss {id id' : Nat} (hne : (id == id') = false) (h : N B n S M (.exit id) Q) : N B n S M (.exit id) (Exit.inBlock id' Q) :=
  fun a w C hs => by
    have : id ≠ id' := by simpa using hne
    simp only [Exit.inBlock, this, if_false]; exact h a w C hs

/-- A cut: what is known at the end of x, for some data s. -/
def Mid (B : Base) (n : Nat) {σ : Type} (S : σ → List (Nat × Rp)) (M : σ → List MF) (a : Act) (w : World) : Prop := ∃ s C, St B n (S s) (M s) a w C
theorem W.cut {σ : Type} {x y : Code} (S₁ : σ → List (Nat × Rp)) (M₁ : σ → List MF)
    (h : W P B n S M x (Exit.then (Mid B n S₁ M₁) Q)) (h' : ∀ s, W P B n (S₁ s) (M₁ s) y Q) : W P B n S M (.seq x y) Q :=
  fun a w C hs => wp_seq (wp_mono (h a w C hs) fun e a w q => by
    cases e <;> first | (obtain ⟨s, C, hs⟩ := q; exact h' s a w C hs) | exact q)

/-! Entailment. -/
def Sub (S S' : List (Nat × Rp)) : Prop := ∀ t R, look t S' = some R → ∃ R₀, look t S = some R₀ ∧ ∀ w C v, R₀.p w C v → R.p w C v
theorem Sub.nil : Sub S [] := fun t R h => by simp [look] at h
theorem Sub.cons {t : Nat} {R : Rp} (h : look t S = some R) (hs : Sub S S') : Sub S ((t, R) :: S') := by
  intro u R' hu
  simp only [look] at hu
  cases htu : Nat.beq t u with
  | true =>
    have : t = u := Nat.eq_of_beq_eq_true htu
    subst this
    rw [htu] at hu
    simp only [cond_true, Option.some.injEq] at hu
    subst hu
    exact ⟨R, h, fun _ _ _ h => h⟩
  | false => rw [htu] at hu; simp only [cond_false] at hu; exact hs u R' hu
theorem Sub.weak {t : Nat} {R R₀ : Rp} (h : look t S = some R₀) (hw : ∀ w C v, R₀.p w C v → R.p w C v) (hs : Sub S S') : Sub S ((t, R) :: S') := by
  intro u R' hu
  simp only [look] at hu
  cases htu : Nat.beq t u with
  | true =>
    have : t = u := Nat.eq_of_beq_eq_true htu
    subst this
    rw [htu] at hu
    simp only [cond_true, Option.some.injEq] at hu
    subst hu
    exact ⟨R₀, h, hw⟩
  | false => rw [htu] at hu; simp only [cond_false] at hu; exact hs u R' hu
theorem Sub.refl : Sub S S := fun _ R h => ⟨R, h, fun _ _ _ h => h⟩

theorem SlotsOk.sub {a : Act} {w : World} {C : Nat → Prop} (hs : Sub S S') (h : SlotsOk (look · S) a w C) : SlotsOk (look · S') a w C :=
  fun t R ht => let ⟨R₀, h₀, hw⟩ := hs t R ht; hw _ _ _ (h t R₀ h₀)

theorem St.sub {a : Act} {w : World} {C : Nat → Prop} (hs : Sub S S') (h : St B n S M a w C) : St B n S' M a w C :=
  ⟨h.size, h.defers, h.slots.sub hs, h.mem, h.eff, h.since⟩

/-- Some of the owned facts, in whatever order. -/
inductive Pick : List MF → List MF → Prop
  | nil {M : List MF} : Pick M []
  | cons {M : List MF} (k : Nat) {F : MF} {M' : List MF} (h : M[k]? = some F) (hs : Pick (M.eraseIdx k) M') : Pick M (F :: M')
  | refl {M : List MF} : Pick M M

theorem perm_eraseIdx {α : Type _} : ∀ (l : List α) (k : Nat) (x : α), l[k]? = some x → l.Perm (x :: l.eraseIdx k)
  | [], k, x, h => by simp at h
  | y :: l, 0, x, h => by simp at h; subst h; exact List.Perm.refl _
  | y :: l, k + 1, x, h => by
    simp only [List.getElem?_cons_succ] at h
    simp only [List.eraseIdx_cons_succ]
    exact ((perm_eraseIdx l k x h).cons y).trans (List.Perm.swap x y _)

theorem Pick.perm {M M' : List MF} (h : Pick M M') : ∃ R, M.Perm (M' ++ R) := by
  induction h with
  | nil => exact ⟨_, List.Perm.refl _⟩
  | refl => exact ⟨[], by simp⟩
  | cons k h hs ih =>
    obtain ⟨R, hR⟩ := ih
    exact ⟨R, (perm_eraseIdx _ k _ h).trans (hR.cons _)⟩

theorem feet_append (M M' : List MF) : feet (M ++ M') = feet M ++ feet M' := by simp [feet]
theorem feet_perm {M M' : List MF} (h : M.Perm M') : (feet M).Perm (feet M') := h.flatMap_right _

theorem MOk.perm {w : World} {C : Nat → Prop} (hp : M.Perm M') (h : MOk M w C) : MOk M' w C :=
  ⟨fun F hF => h.facts F (hp.mem_iff.2 hF), (feet_perm hp).nodup_iff.1 h.nodup, fun b hb => h.own b ((feet_perm hp).mem_iff.2 hb), h.wf⟩
theorem MOk.left {w : World} {C : Nat → Prop} {R : List MF} (h : MOk (M ++ R) w C) : MOk M w C :=
  ⟨fun F hF => h.facts F (List.mem_append_left _ hF), (List.nodup_append.1 (feet_append M R ▸ h.nodup)).1,
    fun b hb => h.own b (by rw [feet_append]; exact List.mem_append_left _ hb), h.wf⟩
theorem MOk.pick {w : World} {C : Nat → Prop} (hp : Pick M M') (h : MOk M w C) : MOk M' w C :=
  let ⟨_, hR⟩ := hp.perm; (h.perm hR).left
theorem feet_pick (hp : Pick M M') {b : Nat} (hb : b ∈ feet M') : b ∈ feet M := by
  obtain ⟨R, hR⟩ := hp.perm
  exact (feet_perm hR).mem_iff.2 (by rw [feet_append]; exact List.mem_append_left _ hb)

theorem St.pick {a : Act} {w : World} {C : Nat → Prop} (hp : Pick M M') (h : St B n S M a w C) : St B n S M' a w C :=
  ⟨h.size, h.defers, h.slots, h.mem.pick hp, h.eff, fun b hb => h.since b (feet_pick hp hb)⟩

theorem W.keep {c : Code} (hs : Sub S S') (hp : Pick M M') (h : W P B n S' M' c Q) : W P B n S M c Q :=
  fun a w C st => h a w C ((st.sub hs).pick hp)
theorem N.keep {e : Exit} (hs : Sub S S') (hp : Pick M M') (h : N B n S' M' e Q) : N B n S M e Q :=
  fun a w C st => h a w C ((st.sub hs).pick hp)
theorem L.keep (hs : Sub S S') (hp : Pick M M') (h : L P B n S' M' ops rest Q) : L P B n S M ops rest Q :=
  fun a w C st => h a w C ((st.sub hs).pick hp)

theorem N.mid {σ : Type} {S₁ : σ → List (Nat × Rp)} {M₁ : σ → List MF} (s : σ) (hs : Sub S (S₁ s)) (hp : Pick M (M₁ s)) : N B n S M .normal (Exit.then (Mid B n S₁ M₁) Q) :=
  fun _ _ C st => ⟨s, C, (st.sub hs).pick hp⟩

/-- The end of a round: the invariant at other data, of a smaller measure. -/
def Rnd (B : Base) (n : Nat) {σ : Type} (S₁ : σ → List (Nat × Rp)) (M₁ : σ → List MF) (I : σ → Prop) (μ : σ → Nat) (s : σ) (a : Act) (w : World) : Prop :=
  ∃ s', I s' ∧ μ s' < μ s ∧ ∃ C, St B n (S₁ s') (M₁ s') a w C

/-- A loop, by an invariant over data and a measure. -/
theorem W.loop {σ : Type} {c : Code} (S₁ : σ → List (Nat × Rp)) (M₁ : σ → List MF) (I : σ → Prop) (μ : σ → Nat) (s₀ : σ) (hI : I s₀) (hs : Sub S (S₁ s₀)) (hp : Pick M (M₁ s₀))
    (round : ∀ s, I s → W P B n (S₁ s) (M₁ s) c (Exit.then (Rnd B n S₁ M₁ I μ s) Q)) : W P B n S M (.loop c) Q := by
  intro a w C st
  have key : ∀ (k : Nat) (s : σ), μ s ≤ k → I s → ∀ a w C, St B n (S₁ s) (M₁ s) a w C → ∀ (b : Frame) (kk : List Item) (cs : List Frame),
      ∃ e a' w', Q e a' w' ∧ Arrives P (lone (b.at a (.code c :: .inLoop c :: kk)) cs w) b kk cs e a' w' := by
    intro k
    induction k with
    | zero =>
      intro s hk hIs a w C st b kk cs
      obtain ⟨e, a₁, w₁, hq, harr⟩ := round s hIs a w C st b (.inLoop c :: kk) cs
      cases e with
      | normal => obtain ⟨s', _, hs', _⟩ := hq; omega
      | exit id => exact ⟨_, a₁, w₁, hq, .pass (x := .inLoop c) rfl (fun _ _ => .inl (by simp)) harr⟩
      | goto l => exact ⟨_, a₁, w₁, hq, .pass (x := .inLoop c) rfl (fun _ _ => .inl (by simp)) harr⟩
      | ret => exact ⟨_, a₁, w₁, hq, .pass (x := .inLoop c) rfl (fun _ _ => .inl (by simp)) harr⟩
      | panic ch => exact ⟨_, a₁, w₁, hq, .pass (x := .inLoop c) rfl (fun _ _ => .inl (by simp)) harr⟩
      | outgrown => exact ⟨_, a₁, w₁, hq, .pass (x := .inLoop c) rfl (fun _ _ => .inl (by simp)) harr⟩
    | succ k ih =>
      intro s hk hIs a w C st b kk cs
      obtain ⟨e, a₁, w₁, hq, harr⟩ := round s hIs a w C st b (.inLoop c :: kk) cs
      cases e with
      | normal =>
        obtain ⟨s', hI', hs', C', st'⟩ := hq
        obtain ⟨e₂, a₂, w₂, hq₂, harr₂⟩ := ih s' (by omega) hI' a₁ w₁ C' st' b kk cs
        exact ⟨e₂, a₂, w₂, hq₂, .of_steps (Steps.trans harr (.one step_inLoop)) harr₂⟩
      | exit id => exact ⟨_, a₁, w₁, hq, .pass (x := .inLoop c) rfl (fun _ _ => .inl (by simp)) harr⟩
      | goto l => exact ⟨_, a₁, w₁, hq, .pass (x := .inLoop c) rfl (fun _ _ => .inl (by simp)) harr⟩
      | ret => exact ⟨_, a₁, w₁, hq, .pass (x := .inLoop c) rfl (fun _ _ => .inl (by simp)) harr⟩
      | panic ch => exact ⟨_, a₁, w₁, hq, .pass (x := .inLoop c) rfl (fun _ _ => .inl (by simp)) harr⟩
      | outgrown => exact ⟨_, a₁, w₁, hq, .pass (x := .inLoop c) rfl (fun _ _ => .inl (by simp)) harr⟩
  intro b kk cs
  obtain ⟨e, a', w', hq, harr⟩ := key _ s₀ (Nat.le_refl _) hI a w C ((st.sub hs).pick hp) b kk cs
  exact ⟨e, a', w', hq, .of_steps (.one step_loop) harr⟩

/-- The end of a round. -/
theorem N.round {σ : Type} {S₁ : σ → List (Nat × Rp)} {M₁ : σ → List MF} {I : σ → Prop} {μ : σ → Nat} {s : σ} (s' : σ) (hI : I s') (hμ : μ s' < μ s) (hs : Sub S (S₁ s')) (hp : Pick M (M₁ s')) :
    N B n S M .normal (Exit.then (Rnd B n S₁ M₁ I μ s) Q) :=
  fun _ _ C st => ⟨s', hI, hμ, C, (st.sub hs).pick hp⟩

/-! What an operand is. -/
def Get (σ : Nat → Option Rp) (x : Operand) (R : Rp) : Prop := ∀ a w C, SlotsOk σ a w C → R.p w C (a.eval x)
theorem Get.tmp {σ : Nat → Option Rp} {t : Nat} {R : Rp} (h : σ t = some R) : Get σ (.tmp t) R := fun _ _ _ hs => hs t R h
theorem Get.weak {σ : Nat → Option Rp} {x : Operand} {R R' : Rp} (h : Get σ x R) (hw : ∀ w C v, R.p w C v → R'.p w C v) : Get σ x R' := fun a w C hs => hw _ _ _ (h a w C hs)
theorem Get.const {σ : Nat → Option Rp} {v : Value} {R : Rp} (h : ∀ w C, R.p w C v) : Get σ (.const v) R := fun _ w C _ => h w C
theorem Get.func {σ : Nat → Option Rp} {f : FuncId} {R : Rp} (h : ∀ w C, R.p w C (.func (.func f) #[] #[])) : Get σ (.func f) R := fun _ w C _ => h w C

/-- A value that is there where c holds, and nowhere else. -/
def Rp.opt (c : Prop) (R : Rp) : Rp where
  p w C v := (c → R.p w C v) ∧ (¬ c → v = undef)
  mono hp h := ⟨fun hc => R.mono hp (h.1 hc), h.2⟩
theorem Get.opt {σ : Nat → Option Rp} {t : Nat} {R : Rp} {c : Prop} (h : σ t = some (Rp.opt c R)) (hc : c) : Get σ (.tmp t) R :=
  fun _ _ _ hs => (hs t _ h).1 hc

/-- What an operation yields: for some index, a fact of its value and facts of new memory. -/
structure RA where
  ι : Type
  R : ι → Rp
  F : ι → List MF
def RA.one (R : Rp) : RA := ⟨Unit, fun _ => R, fun _ => []⟩

/-- New memory: its facts hold, its blocks are new, owned and distinct. -/
structure MNew (F : List MF) (w : World) (w' : World) (C' : Nat → Prop) : Prop where
  facts : ∀ G ∈ F, G.p w' C'
  nodup : (feet F).Nodup
  own : ∀ b ∈ feet F, w.heap.size ≤ b ∧ b < w'.heap.size ∧ ¬ C' b
theorem MNew.nil {w w' C'} : MNew [] w w' C' := ⟨by simp, by simp [feet], by simp [feet]⟩

/-- An operation that changes nothing that was there. -/
def Spec (P : Program) (σ : Nat → Option Rp) (M : List MF) (o : Oper) (A : RA) : Prop :=
  ∀ (a : Act) (w : World) (C : Nat → Prop) (K : Act → World → Prop) (Q : Exit → Act → World → Prop), SlotsOk σ a w C → MOk M w C →
    (∀ i v w' C', Eff [] w C w' C' → (∀ b, C' b → b < w'.heap.size) → (A.R i).p w' C' v → MNew (A.F i) w w' C' → K (a.put o.dst v) w') → o.wp P a w K Q

theorem Spec.of_run {σ : Nat → Option Rp} {o : Oper} {R : Rp}
    (h : ∀ a w C, SlotsOk σ a w C → MOk M w C → ∃ v, (execOp a.eval o).run P w = .ok (.value v) w ∧ R.p w C v) : Spec P σ M o (.one R) := by
  intro a w C K Q hs hm hk
  obtain ⟨v, hr, hv⟩ := h a w C hs hm
  unfold Oper.wp
  rw [hr]
  exact hk () v w C (Eff.refl _ _ _) hm.wf hv MNew.nil

/-! The state behind an operation. -/
theorem getD_put (a : Act) (d t : Nat) (v : Value) : (a.put (some d) v).tmps.getD t undef = if t = d ∧ d < a.tmps.size then v else a.tmps.getD t undef := by
  simp only [Act.put]
  by_cases h : t = d
  · subst h
    by_cases h2 : t < a.tmps.size
    · simp [h2]
    · simp [h2]
  · have : d ≠ t := fun e => h e.symm
    simp [h, Array.getElem?_setIfInBounds_ne this]

theorem look_cons_ne {t d : Nat} {R : Rp} (h : d ≠ t) : look t ((d, R) :: S) = look t S := by
  simp only [look]
  have : Nat.beq d t = false := by
    cases hb : Nat.beq d t with
    | true => exact absurd (Nat.eq_of_beq_eq_true hb) h
    | false => rfl
  rw [this]; rfl
theorem look_cons_eq {t : Nat} {R : Rp} : look t ((t, R) :: S) = some R := by
  simp only [look, Nat.beq_refl, cond_true]

/-- The slots behind an operation. -/
def putS (dst : Option Nat) (R : Rp) (S : List (Nat × Rp)) : List (Nat × Rp) :=
  match dst with
  | some d => (d, R) :: S
  | none => S

theorem slots_put {a : Act} {w C w' C'} {R : Rp} {v : Value} {dst : Option Nat} (hsz : a.tmps.size = n) (hd : ∀ d, dst = some d → d < n)
    (hs : SlotsOk (look · S) a w C) (hp : Pub w C w' C') (hv : R.p w' C' v) : SlotsOk (look · (putS dst R S)) (a.put dst v) w' C' := by
  cases dst with
  | none => exact fun t R' ht => R'.mono hp (hs t R' ht)
  | some d =>
    intro t R' ht
    simp only [putS] at ht
    rw [getD_put]
    by_cases htd : t = d
    · subst htd
      simp only [look_cons_eq, Option.some.injEq] at ht
      subst ht
      rw [if_pos ⟨rfl, hsz ▸ hd t rfl⟩]
      exact hv
    · rw [if_neg (fun h => htd h.1)]
      rw [look_cons_ne (Ne.symm htd)] at ht
      exact R'.mono hp (hs t R' ht)

theorem MOk.add {F : List MF} {w C w' C'} (h : MOk M w C) (he : Eff [] w C w' C') (hwf : ∀ b, C' b → b < w'.heap.size) (hn : MNew F w w' C') : MOk (F ++ M) w' C' where
  facts G hG := by
    rcases List.mem_append.1 hG with hG | hG
    · exact hn.facts G hG
    · exact G.loc (he.pub h.wf (by simp)) (fun b hb => he.keep b (h.own b (mem_feet.2 ⟨G, hG, hb⟩)).1 (by simp)) (h.facts G hG)
  nodup := by
    rw [feet_append, List.nodup_append]
    refine ⟨hn.nodup, h.nodup, fun b hb c hc hbc => ?_⟩
    subst hbc
    have := (hn.own b hb).1
    have := (h.own b hc).1
    omega
  own b hb := by
    rw [feet_append] at hb
    rcases List.mem_append.1 hb with hb | hb
    · exact (hn.own b hb).2
    · exact ⟨Nat.lt_of_lt_of_le (h.own b hb).1 he.size, fun hc => (h.own b hb).2 ((he.cl b (h.own b hb).1 (by simp)).1 hc)⟩
  wf := hwf

theorem put_size (a : Act) (dst : Option Nat) (v : Value) : (a.put dst v).tmps.size = a.tmps.size := by
  cases dst <;> simp [Act.put]
theorem put_defers' (a : Act) (dst : Option Nat) (v : Value) : (a.put dst v).defers = a.defers := by
  cases dst <;> rfl

theorem St.step {a : Act} {w C w' C'} {R : Rp} {v : Value} {F : List MF} {dst : Option Nat} (hd : ∀ d, dst = some d → d < n) (h : St B n S M a w C)
    (he : Eff [] w C w' C') (hwf : ∀ b, C' b → b < w'.heap.size) (hv : R.p w' C' v) (hn : MNew F w w' C') : St B n (putS dst R S) (F ++ M) (a.put dst v) w' C' where
  size := (put_size _ _ _).trans h.size
  defers := (put_defers' _ _ _).trans h.defers
  slots := slots_put h.size hd h.slots (he.pub h.mem.wf (by simp)) hv
  mem := h.mem.add he hwf hn
  eff := h.eff.trans he (by simp)
  since b hb := by
    rw [feet_append] at hb
    rcases List.mem_append.1 hb with hb | hb
    · exact .inr (Nat.le_trans h.eff.size (hn.own b hb).1)
    · exact h.since b hb

/-- An operation with its guard. -/
def GSpec (P : Program) (ops : Array Oper) (σ : Nat → Option Rp) (M : List MF) (o : Oper) (A : RA) : Prop :=
  ∀ (a : Act) (w : World) (C : Nat → Prop) (K : Act → World → Prop) (Q : Exit → Act → World → Prop), SlotsOk σ a w C → MOk M w C →
    (∀ i v w' C', Eff [] w C w' C' → (∀ b, C' b → b < w'.heap.size) → (A.R i).p w' C' v → MNew (A.F i) w w' C' → K (a.put o.dst v) w') →
    if Region.wanted o (yielded ops a.tmps) then o.wp P a w K Q else K (a.put o.dst undef) w

/-- A Bool. -/
def Rp.bool (b : Bool) : Rp where
  p _ _ v := v = .bool b
  mono _ h := h

theorem GSpec.plain {σ : Nat → Option Rp} {o : Oper} {A : RA} (hg : o.guard = none) (hs : Spec P σ M o A) : GSpec P ops σ M o A := by
  intro a w C K Q h hm hk
  rw [if_pos (by simp [Region.wanted, hg])]
  exact hs a w C K Q h hm hk

theorem yielded_bool {a : Act} {j t : Nat} {b : Bool} (ht : (ops[j]?).bind (·.dst) = some t) (h : a.tmps.getD t undef = .bool b) : yielded ops a.tmps j = some b := by
  unfold yielded
  rw [ht]
  simp only [Option.bind_some]
  rcases Nat.lt_or_ge t a.tmps.size with hlt | hge
  · simp only [Array.getD_eq_getD_getElem?] at h
    simp [hlt] at h ⊢
    rw [h]
  · simp only [Array.getD_eq_getD_getElem?] at h
    simp [Array.getElem?_eq_none hge, undef] at h

theorem yielded_undef {a : Act} {j t : Nat} (ht : (ops[j]?).bind (·.dst) = some t) (h : a.tmps.getD t undef = undef) : yielded ops a.tmps j = none := by
  unfold yielded
  rw [ht]
  simp only [Option.bind_some]
  rcases Nat.lt_or_ge t a.tmps.size with hlt | hge
  · simp only [Array.getD_eq_getD_getElem?] at h
    simp [hlt] at h ⊢
    rw [h]; rfl
  · simp [Array.getElem?_eq_none hge]

/-- A guard that is a Bool: the operation is run where it holds. -/
theorem GSpec.guard {σ : Nat → Option Rp} {o : Oper} {R : Rp} {j t : Nat} {want b : Bool} (hg : o.guard = some (j, want)) (ht : (ops[j]?).bind (·.dst) = some t)
    (hb : σ t = some (Rp.bool b)) (hs : b = want → Spec P σ M o (.one R)) : GSpec P ops σ M o (.one (Rp.opt (b = want) R)) := by
  intro a w C K Q h hm hk
  have hy := yielded_bool ht (h t _ hb)
  by_cases hbw : b = want
  · rw [if_pos (by simp [Region.wanted, hg, hy, hbw])]
    exact hs hbw a w C K Q h hm fun i v w' C' he hwf hv hn => hk i v w' C' he hwf ⟨fun _ => hv, fun hn => absurd hbw hn⟩ hn
  · rw [if_neg (by simp [Region.wanted, hg, hy, hbw])]
    exact hk () undef w C (Eff.refl _ _ _) hm.wf ⟨fun hc => absurd hc hbw, fun _ => rfl⟩ MNew.nil

/-- .. that is itself there where c holds. -/
theorem GSpec.guardOpt {σ : Nat → Option Rp} {o : Oper} {R : Rp} {j t : Nat} {want b : Bool} {c : Prop} (hg : o.guard = some (j, want)) (ht : (ops[j]?).bind (·.dst) = some t)
    (hb : σ t = some (Rp.opt c (Rp.bool b))) (hs : c ∧ b = want → Spec P σ M o (.one R)) : GSpec P ops σ M o (.one (Rp.opt (c ∧ b = want) R)) := by
  intro a w C K Q h hm hk
  have h2 := h t _ hb
  by_cases hc : c
  · have hy := yielded_bool ht (h2.1 hc)
    by_cases hbw : b = want
    · rw [if_pos (by simp [Region.wanted, hg, hy, hbw])]
      exact hs ⟨hc, hbw⟩ a w C K Q h hm fun i v w' C' he hwf hv hn => hk i v w' C' he hwf ⟨fun _ => hv, fun hn => absurd ⟨hc, hbw⟩ hn⟩ hn
    · rw [if_neg (by simp [Region.wanted, hg, hy, hbw])]
      exact hk () undef w C (Eff.refl _ _ _) hm.wf ⟨fun hc => absurd hc.2 hbw, fun _ => rfl⟩ MNew.nil
  · have hy := yielded_undef ht (h2.2 hc)
    rw [if_neg (by simp [Region.wanted, hg, hy])]
    exact hk () undef w C (Eff.refl _ _ _) hm.wf ⟨fun hc' => absurd hc'.1 hc, fun _ => rfl⟩ MNew.nil

/-- One operation of a region in the order of the text. -/
theorem L.op {o : Oper} {A : RA} {d : Nat} (hd : o.dst = some d) (hlt : Nat.blt d n = true) (hs : GSpec P ops (look · S) M o A)
    (h : ∀ i, L P B n ((d, A.R i) :: S) (A.F i ++ M) ops rest Q) : L P B n S M ops (o :: rest) Q := by
  intro a w C st
  have hlt' : d < n := by simpa [Nat.blt_eq] using hlt
  refine wpList_step fun K hK => ?_
  refine hs a w C K Q st.slots st.mem fun i v w' C' he hwf hv hn => hK _ _ ?_
  have := st.step (dst := o.dst) (fun d' hd' => by rw [hd] at hd'; cases hd'; exact hlt') he hwf hv hn
  rw [hd] at this ⊢
  exact h i _ _ C' this
theorem L.op1 {o : Oper} {R : Rp} {d : Nat} (hd : o.dst = some d) (hlt : Nat.blt d n = true) (hs : GSpec P ops (look · S) M o (.one R))
    (h : L P B n ((d, R) :: S) M ops rest Q) : L P B n S M ops (o :: rest) Q :=
  L.op hd hlt hs fun _ => h
theorem W.cond {c : Operand} {x y : Code} {b : Bool} (hc : Get (look · S) c (Rp.bool b)) (ht : b = true → W P B n S M x Q) (hf : b = false → W P B n S M y Q) :
    W P B n S M (.cond c x y) Q :=
  fun a w C st => wp_cond_split (hc a w C st.slots) (fun h => ht h a w C st) (fun h => hf h a w C st)

end
end Go.Sim
/- A region whose order is open: the operations of its head change nothing that was there, each depends on the slots that it names alone; its tail waits for all before it. One walk of the text's order serves every order. -/
namespace Go.Sim

/-- For each operation the operations that come before it in every order, as bits. -/
def masks : List Oper → List Nat → List Nat
  | [], acc => acc
  | o :: rest, acc => masks rest (acc ++ [o.after.toList.foldl (fun s e => if Region.binds .any e then s ||| (2 ^ e.on ||| acc.getD e.on 0) else s) 0])

def names (ops : Array Oper) (o : Oper) : List Nat := o.looksAt ops

/-- The conditions on a region: dependences point back; who names a slot that another one of the head writes is ordered with it; the tail is a chain behind all. -/
def pairOk (ops : Array Oper) (ms : List Nat) (k j : Nat) : Bool :=
  match ops[k]?, ops[j]? with
  | some ok, some oj =>
    match oj.dst with
    | none => true
    | some t => !((names ops ok).contains t || ok.dst == some t) || (if j < k then (ms.getD k 0).testBit j else (ms.getD j 0).testBit k)
  | _, _ => true

def anyB (m : Nat) (l : List Oper) : Bool :=
  let ms := masks l []
  let ops := l.toArray
  decide (m ≤ l.length) &&
  l.zipIdx.all (fun x => x.1.after.toList.all fun e => !Region.binds .any e || decide (e.on < x.2)) &&
  (List.range m).all (fun k => (List.range m).all fun j => j == k || pairOk ops ms k j) &&
  (List.range l.length).all (fun t => decide (t < m) || (List.range t).all fun j => (ms.getD t 0).testBit j)

section masks
theorem fold_bits {acc : List Nat} {listed : Nat → Bool} (hacc : ∀ i j, (acc.getD i 0).testBit j = true → listed i = true → listed j = true) :
    ∀ (es : List Edge) (s : Nat), (∀ j, s.testBit j = true → listed j = true) → (∀ e ∈ es, Region.binds .any e = true → listed e.on = true) →
      ∀ j, (es.foldl (fun s e => if Region.binds .any e then s ||| (2 ^ e.on ||| acc.getD e.on 0) else s) s).testBit j = true → listed j = true := by
  intro es
  induction es with
  | nil => intro s hs _ j hj; exact hs j hj
  | cons e es ih =>
    intro s hs hes j hj
    simp only [List.foldl_cons] at hj
    refine ih _ ?_ (fun e' he' => hes e' (List.mem_cons_of_mem _ he')) j hj
    intro i hi
    by_cases hb : Region.binds .any e = true
    · simp only [hb, if_true, Nat.testBit_or, Nat.testBit_two_pow, Bool.or_eq_true, decide_eq_true_eq] at hi
      have hl := hes e (List.mem_cons_self ..) hb
      rcases hi with hi | hi | hi
      · exact hs i hi
      · exact hi ▸ hl
      · exact hacc e.on i hi hl
    · simp only [hb] at hi
      exact hs i hi

theorem masks_spec {ops : List Oper} {listed : Nat → Bool} (hcl : ∀ k o, ops[k]? = some o → listed k = true → ∀ e ∈ o.after, Region.binds .any e = true → listed e.on = true) :
    ∀ (l : List Oper) (acc : List Nat), (∀ j, l[j]? = ops[acc.length + j]?) → (∀ i j, (acc.getD i 0).testBit j = true → listed i = true → listed j = true) →
      (∀ i o, i < acc.length → ops[i]? = some o → (∀ e ∈ o.after, Region.binds .any e = true → listed e.on = true) → ∀ j, (acc.getD i 0).testBit j = true → listed j = true) →
      ∀ k o, ops[k]? = some o → k < acc.length + l.length → (∀ e ∈ o.after, Region.binds .any e = true → listed e.on = true) → ∀ j, ((masks l acc).getD k 0).testBit j = true → listed j = true := by
  intro l
  induction l with
  | nil =>
    intro acc _ _ h2 k o ho hk hd j hj
    exact h2 k o (by simpa using hk) ho hd j hj
  | cons x l ih =>
    intro acc hl h1 h2 k o ho hk hd j hj
    simp only [masks] at hj
    have hx : ops[acc.length]? = some x := by simpa using (hl 0).symm
    refine ih _ (fun i => ?_) ?_ ?_ k o ho (by simp only [List.length_append, List.length_cons, List.length_nil] at *; omega) hd j hj
    · have := hl (i + 1)
      simp only [List.getElem?_cons_succ] at this
      rw [this]; simp only [List.length_append, List.length_cons, List.length_nil]; congr 1; omega
    · intro i j' hb hi
      rcases Nat.lt_trichotomy i acc.length with hlt | heq | hgt
      · rw [List.getD_eq_getElem?_getD, List.getElem?_append_left hlt, ← List.getD_eq_getElem?_getD] at hb
        exact h1 i j' hb hi
      · subst heq
        simp only [List.getD_eq_getElem?_getD, List.getElem?_concat_length, Option.getD_some] at hb
        simp only [← List.getD_eq_getElem?_getD] at hb
        exact fold_bits h1 _ 0 (by simp) (fun e he => hcl _ _ hx hi e (by simpa using he)) j' hb
      · rw [List.getD_eq_getElem?_getD, List.getElem?_eq_none (by simp; omega)] at hb
        simp at hb
    · intro i o' hi ho' hd' j' hb
      rcases Nat.lt_or_ge i acc.length with hlt | hge
      · rw [List.getD_eq_getElem?_getD, List.getElem?_append_left hlt, ← List.getD_eq_getElem?_getD] at hb
        exact h2 i o' hlt ho' hd' j' hb
      · have : i = acc.length := by simp at hi; omega
        subst this
        rw [hx] at ho'; cases ho'
        simp only [List.getD_eq_getElem?_getD, List.getElem?_concat_length, Option.getD_some] at hb
        simp only [← List.getD_eq_getElem?_getD] at hb
        exact fold_bits h1 _ 0 (by simp) (fun e he => hd' e (by simpa using he)) j' hb

/-- What comes before an operation whose direct dependences are listed is listed. -/
theorem masks_listed {l : List Oper} {listed : Nat → Bool} (hcl : ∀ k o, l[k]? = some o → listed k = true → ∀ e ∈ o.after, Region.binds .any e = true → listed e.on = true)
    {k : Nat} {o : Oper} (ho : l[k]? = some o) (hd : ∀ e ∈ o.after, Region.binds .any e = true → listed e.on = true) {j : Nat} (hj : ((masks l []).getD k 0).testBit j = true) : listed j = true :=
  masks_spec hcl l [] (fun j => by simp) (fun i j h => by simp at h) (fun i o h => by simp at h) k o ho
    (by have := (List.getElem?_eq_some_iff.1 ho).1; simpa using this) hd j hj
end masks

/-! The head: for each operation what it yields. -/
structure HE where
  dst : Option Nat
  A : RA
  T : Rp
  le : ∀ i w C v, (A.R i).p w C v → T.p w C v

def Rp.any : Rp := ⟨fun _ _ _ => True, fun _ _ => trivial⟩

/-- The slots that an operation names. -/
def res (ns : List Nat) (S : List (Nat × Rp)) (t : Nat) : Option Rp := bif ns.contains t then look t S else none

inductive Head (P : Program) (n : Nat) (ops : Array Oper) (M : List MF) : List Oper → List (Nat × Rp) → List HE → Prop
  | nil {S : List (Nat × Rp)} : Head P n ops M [] S []
  | one {o : Oper} {rest : List Oper} {S : List (Nat × Rp)} {R : Rp} {d : Nat} {Hs : List HE} (hd : o.dst = some d) (hlt : Nat.blt d n = true) (hs : GSpec P ops (res (names ops o) S) M o (.one R))
      (h : Head P n ops M rest ((d, R) :: S) Hs) : Head P n ops M (o :: rest) S (⟨some d, .one R, R, fun _ _ _ _ h => h⟩ :: Hs)
  | sink {o : Oper} {rest : List Oper} {S : List (Nat × Rp)} {A : RA} {d : Nat} {Hs : List HE} (hd : o.dst = some d) (hlt : Nat.blt d n = true) (hs : GSpec P ops (res (names ops o) S) M o A)
      (h : Head P n ops M rest ((d, Rp.any) :: S) Hs) : Head P n ops M (o :: rest) S (⟨some d, A, Rp.any, fun _ _ _ _ _ => trivial⟩ :: Hs)

/-- What is known behind the head. -/
def Fin (K : List (Nat × Rp) → List MF → Prop) : List HE → List (Nat × Rp) → List MF → Prop
  | [], S, M => K S M
  | h :: hs, S, M => ∀ i, Fin K hs (putS h.dst (h.A.R i) S) (h.A.F i ++ M)

theorem Fin.one {K : List (Nat × Rp) → List MF → Prop} {S : List (Nat × Rp)} {M : List MF} {d : Nat} {R : Rp} {le} {Hs : List HE} (h : Fin K Hs ((d, R) :: S) M) : Fin K (⟨some d, .one R, R, le⟩ :: Hs) S M := fun _ => h
theorem Fin.sink {K : List (Nat × Rp) → List MF → Prop} {S : List (Nat × Rp)} {M : List MF} {d : Nat} {A : RA} {T : Rp} {le} {Hs : List HE} (h : ∀ i, Fin K Hs ((d, A.R i) :: S) (A.F i ++ M)) : Fin K (⟨some d, A, T, le⟩ :: Hs) S M := h
theorem Fin.nil {K : List (Nat × Rp) → List MF → Prop} {S : List (Nat × Rp)} {M : List MF} (h : K S M) : Fin K [] S M := h

theorem getD_both {listed : Array Bool} {i : Nat} (h : listed.getD i true = false) : listed.getD i false = false := by
  rcases Nat.lt_or_ge i listed.size with h' | h'
  · simp [h'] at h ⊢; exact h
  · simp [Array.getElem?_eq_none h'] at h

section
variable {P : Program} {B : Base} {n : Nat} {S : List (Nat × Rp)} {M : List MF} {Q : Exit → Act → World → Prop}

/-- The text's context ahead of the operation k. -/
def ctxT (S : List (Nat × Rp)) (H : Nat → HE) : Nat → List (Nat × Rp)
  | 0 => S
  | k + 1 => putS (H k).dst (H k).T (ctxT S H k)

theorem ctxT_shift {S : List (Nat × Rp)} {H : Nat → HE} : ∀ k, ctxT S H (k + 1) = ctxT (putS (H 0).dst (H 0).T S) (fun j => H (j + 1)) k
  | 0 => rfl
  | k + 1 => by rw [ctxT, ctxT_shift k]; rfl

theorem head_spec {ops : Array Oper} : ∀ (l : List Oper) (S : List (Nat × Rp)) (Hs : List HE), Head P n ops M l S Hs →
    Hs.length = l.length ∧ ∀ k o, l[k]? = some o → ∃ h, Hs[k]? = some h ∧ o.dst = h.dst ∧ (∀ d, h.dst = some d → d < n) ∧
      ∀ (H : Nat → HE), (∀ j, j < l.length → Hs[j]? = some (H j)) → GSpec P ops (res (names ops o) (ctxT S H k)) M o h.A := by
  intro l S Hs h
  induction h with
  | nil => exact ⟨rfl, fun k o h => by simp at h⟩
  | one hd hlt hs _ ih =>
    obtain ⟨ih1, ih2⟩ := ih
    refine ⟨by simp [ih1], fun k o' ho => ?_⟩
    cases k with
    | zero =>
      simp only [List.getElem?_cons_zero, Option.some.injEq] at ho
      subst ho
      exact ⟨_, rfl, hd, fun d' hd' => by cases hd'; simpa [Nat.blt_eq] using hlt, fun H hH => hs⟩
    | succ k =>
      obtain ⟨h', hh', h1, h2, h3⟩ := ih2 k o' (by simpa using ho)
      refine ⟨h', by simpa using hh', h1, h2, fun H hH => ?_⟩
      have h0 := hH 0 (by simp)
      simp only [List.getElem?_cons_zero, Option.some.injEq] at h0
      have := h3 (fun j => H (j + 1)) (fun j hj => by have := hH (j + 1) (by simp; omega); simpa using this)
      rw [ctxT_shift, ← h0]; exact this
  | sink hd hlt hs _ ih =>
    obtain ⟨ih1, ih2⟩ := ih
    refine ⟨by simp [ih1], fun k o' ho => ?_⟩
    cases k with
    | zero =>
      simp only [List.getElem?_cons_zero, Option.some.injEq] at ho
      subst ho
      exact ⟨_, rfl, hd, fun d' hd' => by cases hd'; simpa [Nat.blt_eq] using hlt, fun H hH => hs⟩
    | succ k =>
      obtain ⟨h', hh', h1, h2, h3⟩ := ih2 k o' (by simpa using ho)
      refine ⟨h', by simpa using hh', h1, h2, fun H hH => ?_⟩
      have h0 := hH 0 (by simp)
      simp only [List.getElem?_cons_zero, Option.some.injEq] at h0
      have := h3 (fun j => H (j + 1)) (fun j hj => by have := hH (j + 1) (by simp; omega); simpa using this)
      rw [ctxT_shift, ← h0]; exact this

/-- What has been done: for each operation of the head the index of what it has yielded. -/
abbrev Sel (H : Nat → HE) := (k : Nat) → Option (H k).A.ι
def ctxS (S : List (Nat × Rp)) (H : Nat → HE) (s : Sel H) : Nat → List (Nat × Rp)
  | 0 => S
  | k + 1 => match s k with
    | some i => putS (H k).dst ((H k).A.R i) (ctxS S H s k)
    | none => ctxS S H s k
def ctxM (M : List MF) (H : Nat → HE) (s : Sel H) : Nat → List MF
  | 0 => M
  | k + 1 => match s k with
    | some i => (H k).A.F i ++ ctxM M H s k
    | none => ctxM M H s k
def Sel.set {H : Nat → HE} (s : Sel H) (k : Nat) (i : (H k).A.ι) : Sel H := fun j => if h : j = k then some (h ▸ i) else s j

theorem look_putS_ne {t : Nat} {dst : Option Nat} {R : Rp} (h : dst ≠ some t) : look t (putS dst R S) = look t S := by
  cases dst with
  | none => rfl
  | some d => exact look_cons_ne (fun e => h (e ▸ rfl))

theorem set_self {H : Nat → HE} (s : Sel H) (k : Nat) (i : (H k).A.ι) : s.set k i k = some i := by simp [Sel.set]
theorem set_other {H : Nat → HE} (s : Sel H) {k j : Nat} (i : (H k).A.ι) (h : j ≠ k) : s.set k i j = s j := by simp [Sel.set, h]

theorem ctxM_congr {H : Nat → HE} {s s' : Sel H} : ∀ m, (∀ j, j < m → s j = s' j) → ctxM M H s m = ctxM M H s' m
  | 0, _ => rfl
  | m + 1, h => by simp only [ctxM]; rw [h m (by omega), ctxM_congr m (fun j hj => h j (by omega))]

/-- Behind k nobody that writes t has been done: the slot's fact is that of the context ahead of k + 1. -/
theorem look_ctxS_from {H : Nat → HE} {s : Sel H} {t k : Nat} : ∀ m, k ≤ m → (∀ j, k ≤ j → j < m → (H j).dst = some t → s j = none) → look t (ctxS S H s m) = look t (ctxS S H s k) := by
  intro m
  induction m with
  | zero =>
    intro hk _
    have : k = 0 := by omega
    subst this
    rfl
  | succ m ih =>
    intro hk h
    rcases Nat.lt_or_ge m k with hlt | hge
    · have : k = m + 1 := by omega
      subst this
      rfl
    · rw [← ih hge (fun j h1 h2 => h j h1 (by omega))]
      simp only [ctxS]
      by_cases hd : (H m).dst = some t
      · rw [h m hge (by omega) hd]
      · cases s m with
        | none => rfl
        | some i => exact look_putS_ne hd

/-- Ahead of k all that write t have been done: the text's fact holds. -/
theorem look_ctxT {H : Nat → HE} {s : Sel H} {t : Nat} : ∀ k, (∀ j, j < k → (H j).dst = some t → s j ≠ none) → ∀ R, look t (ctxT S H k) = some R →
    ∃ R', look t (ctxS S H s k) = some R' ∧ ∀ w C v, R'.p w C v → R.p w C v := by
  intro k
  induction k with
  | zero => intro _ R h; exact ⟨R, h, fun _ _ _ h => h⟩
  | succ k ih =>
    intro hk R h
    simp only [ctxT] at h
    simp only [ctxS]
    by_cases hd : (H k).dst = some t
    · have hne := hk k (by omega) hd
      cases hs : s k with
      | none => exact absurd hs hne
      | some i =>
        simp only [hd, putS, look_cons_eq, Option.some.injEq] at h ⊢
        subst h
        exact ⟨_, rfl, (H k).le i⟩
    · rw [look_putS_ne hd] at h
      obtain ⟨R', h1, h2⟩ := ih (fun j hj => hk j (by omega)) R h
      refine ⟨R', ?_, h2⟩
      cases s k with
      | none => exact h1
      | some i => simp only; rw [look_putS_ne hd]; exact h1

theorem look_set {H : Nat → HE} {s : Sel H} {k m t : Nat} {i : (H k).A.ι} (hkm : k < m) (hsk : s k = none) :
    ((H k).dst = some t → (∀ j, k < j → j < m → (H j).dst = some t → s j = none) → look t (ctxS S H (s.set k i) m) = some ((H k).A.R i)) ∧
    ((H k).dst ≠ some t → look t (ctxS S H (s.set k i) m) = look t (ctxS S H s m)) := by
  constructor
  · intro hd hlater
    rw [look_ctxS_from (k := k + 1) m hkm (fun j h1 h2 h3 => by rw [set_other s i (by omega)]; exact hlater j h1 h2 h3)]
    simp only [ctxS, set_self, hd, putS, look_cons_eq]
  · intro hd
    clear hkm
    induction m with
    | zero => rfl
    | succ m ih =>
      simp only [ctxS]
      by_cases hmk : m = k
      · subst hmk
        rw [set_self, hsk]
        simp only
        rw [look_putS_ne hd]; exact ih
      · rw [set_other s i hmk]
        cases s m with
        | none => exact ih
        | some i' =>
          simp only
          by_cases hdm : (H m).dst = some t
          · simp only [hdm, putS, look_cons_eq]
          · rw [look_putS_ne hdm, look_putS_ne hdm]; exact ih

theorem ctxM_set {H : Nat → HE} {s : Sel H} {k : Nat} {i : (H k).A.ι} (hsk : s k = none) : ∀ m, k < m → (ctxM M H (s.set k i) m).Perm ((H k).A.F i ++ ctxM M H s m) := by
  intro m
  induction m with
  | zero => intro h; omega
  | succ m ih =>
    intro hk
    simp only [ctxM]
    by_cases hmk : m = k
    · subst hmk
      rw [set_self, hsk, ctxM_congr (s := s.set m i) (s' := s) m (fun j hj => set_other s i (by omega))]
    · rw [set_other s i hmk]
      have := ih (by omega)
      cases s m with
      | none => exact this
      | some i' =>
        simp only
        refine (this.append_left _).trans ?_
        rw [← List.append_assoc, ← List.append_assoc]
        exact (List.perm_append_comm).append_right _

theorem ctxM_pick {H : Nat → HE} {s : Sel H} (m : Nat) : ∃ R, (ctxM M H s m).Perm (M ++ R) := by
  induction m with
  | zero => exact ⟨[], by simp [ctxM]⟩
  | succ m ih =>
    obtain ⟨R, hR⟩ := ih
    simp only [ctxM]
    cases s m with
    | none => exact ⟨R, hR⟩
    | some i => exact ⟨R ++ (H m).A.F i, ((hR.append_left _).trans (by rw [← List.append_assoc M]; exact List.perm_append_comm))⟩

theorem fin_full {K : List (Nat × Rp) → List MF → Prop} {H : Nat → HE} {s : Sel H} : ∀ (Hs : List HE) (k : Nat) (S' : List (Nat × Rp)) (M' : List MF), (∀ j, j < Hs.length → Hs[j]? = some (H (k + j))) → (∀ j, j < Hs.length → s (k + j) ≠ none) →
    S' = ctxS S H s k → M' = ctxM M H s k → Fin K Hs S' M' → K (ctxS S H s (k + Hs.length)) (ctxM M H s (k + Hs.length)) := by
  intro Hs
  induction Hs with
  | nil => intro k S' M' _ _ hS hM h; subst hS hM; exact h
  | cons h hs ih =>
    intro k S' M' hH hs' hS hM hF
    have h0 := hH 0 (by simp)
    simp only [List.getElem?_cons_zero, Nat.add_zero, Option.some.injEq] at h0
    subst h0
    cases hsk : s k with
    | none => exact absurd hsk (hs' 0 (by simp))
    | some i =>
      have := ih (k + 1) _ _ (fun j hj => by have := hH (j + 1) (by simp; omega); rw [show k + 1 + j = k + (j + 1) by omega]; simpa using this)
        (fun j hj => by have := hs' (j + 1) (by simp; omega); rwa [show k + 1 + j = k + (j + 1) by omega]) ?_ ?_ (hF i)
      · rw [show k + (H k :: hs).length = k + 1 + hs.length by simp; omega]; exact this
      · simp only [ctxS, hsk, hS]
      · simp only [ctxM, hsk, hM]

/-- The tail: one order is left. -/
theorem any_tail_of {l : List Oper} {m : Nat} (hms : ∀ t, m ≤ t → t < l.length → ∀ j, j < t → ((masks l []).getD t 0).testBit j = true) (hback : ∀ k o, l[k]? = some o → ∀ e ∈ o.after, Region.binds .any e = true → e.on < k) :
    ∀ (f t : Nat) (listed : Array Bool) (a : Act) (w : World), f + t = l.length → m ≤ t → listed.size = l.length →
    (∀ j, j < t → listed.getD j false = true) → (∀ j, t ≤ j → j < l.length → listed.getD j true = false) → wpList P l.toArray Q (l.drop t) a w → wpAny P .any l.toArray Q f listed a w := by
  intro f
  induction f with
  | zero =>
    intro t listed a w hft _ _ hdone _ h
    have ht : t = l.length := by omega
    subst ht
    refine ⟨?_, by simpa [wpList] using h⟩
    apply List.eq_nil_iff_forall_not_mem.2
    intro j hj
    obtain ⟨hj1, o, ho, _⟩ := mem_ready.1 hj
    have hlt : j < l.length := by simpa using (Array.getElem?_eq_some_iff.1 ho).1
    have := hdone j hlt
    rw [getD_both hj1] at this; cases this
  | succ f ih =>
    intro t listed a w hft hmt hsz hdone hleft h
    have ht : t < l.length := by omega
    obtain ⟨o, ho⟩ : ∃ o, l[t]? = some o := ⟨l[t], by simp [ht]⟩
    have hready : ∀ j, j ∈ Region.ready .any l.toArray listed → j = t := by
      intro j hj
      obtain ⟨hj1, o', ho', hall⟩ := mem_ready.1 hj
      have hlt : j < l.length := by simpa using (Array.getElem?_eq_some_iff.1 ho').1
      rcases Nat.lt_trichotomy j t with h1 | h1 | h1
      · have := hdone j h1; rw [getD_both hj1] at this; cases this
      · exact h1
      · exfalso
        have ho'' : l[j]? = some o' := by simpa using ho'
        have hcl : ∀ k o, l[k]? = some o → (listed.getD k false) = true → ∀ e ∈ o.after, Region.binds .any e = true → listed.getD e.on false = true := by
          intro k ok hok hlk e he hb
          have hek := hback k ok hok e he hb
          have hkt : k < t := by
            rcases Nat.lt_or_ge k t with h | h
            · exact h
            · have := hleft k h (List.getElem?_eq_some_iff.1 hok).1
              rw [getD_both this] at hlk; cases hlk
          exact hdone _ (by omega)
        have h5 : listed.getD t false = true := masks_listed (listed := fun k => listed.getD k false) hcl ho'' (fun e he hb => hall e he hb) (hms j (by omega) hlt t h1)
        have := hleft t (Nat.le_refl _) ht
        rw [getD_both this] at h5; cases h5
    refine ⟨fun h0 => ?_, fun i hi => ?_⟩
    · exfalso
      have : t ∈ Region.ready .any l.toArray listed := by
        refine mem_ready.2 ⟨hleft t (Nat.le_refl _) ht, o, by simpa using ho, fun e he hb => hdone _ (hback t o ho e he hb)⟩
      rw [h0] at this; cases this
    · have := hready i hi
      subst this
      have hdrop : l.drop i = o :: l.drop (i + 1) := by
        rw [List.drop_eq_getElem_cons ht]; congr 1
        have := ho; rw [List.getElem?_eq_getElem ht] at this; simpa using this
      rw [hdrop] at h
      have hwp : wpOp P l.toArray Q i (wpList P l.toArray Q (l.drop (i + 1))) a w := by
        unfold wpOp; simp only [List.getElem?_toArray, ho]; exact h
      refine wpOp_mono (fun a' w' h' => ih (i + 1) _ a' w' (by omega) (by omega) (by simp [hsz]) ?_ ?_ h') hwp
      · intro j hj
        rcases Nat.lt_or_ge j i with h1 | h1
        · exact getD_set_true (hdone j h1)
        · have : j = i := by omega
          subst this
          simp [hsz, ht]
      · intro j hj hj2
        rw [getD_set_ne true (by omega)]; exact hleft j (by omega) hj2

theorem any_tail {l : List Oper} {m : Nat} (hB : anyB m l = true) : ∀ (f t : Nat) (listed : Array Bool) (a : Act) (w : World), f + t = l.length → m ≤ t → listed.size = l.length →
    (∀ j, j < t → listed.getD j false = true) → (∀ j, t ≤ j → j < l.length → listed.getD j true = false) → wpList P l.toArray Q (l.drop t) a w → wpAny P .any l.toArray Q f listed a w := by
  have hms : ∀ t, m ≤ t → t < l.length → ∀ j, j < t → ((masks l []).getD t 0).testBit j = true := by
    intro t hmt ht j hj
    simp only [anyB, Bool.and_eq_true, List.all_eq_true, List.mem_range, Bool.or_eq_true, decide_eq_true_eq] at hB
    exact (hB.2 t ht).resolve_left (by omega) j hj
  have hback : ∀ k o, l[k]? = some o → ∀ e ∈ o.after, Region.binds .any e = true → e.on < k := by
    intro k o ho e he hb
    simp only [anyB, Bool.and_eq_true, List.all_eq_true, Bool.or_eq_true, Bool.not_eq_true', decide_eq_true_eq] at hB
    have := hB.1.1.2 (o, k) (List.mem_zipIdx_iff_getElem?.2 (by simpa using ho)) e (by simpa using he)
    exact this.resolve_left (by simp [hb])
  exact any_tail_of hms hback

/-- The head, in any order. -/
theorem any_head {l : List Oper} {m : Nat} {Hs : List HE} {H : Nat → HE} (hB : anyB m l = true) (hH : Head P n l.toArray M (l.take m) S Hs) (hHs : ∀ j, j < m → Hs[j]? = some (H j))
    (hK : Fin (fun S' M' => L P B n S' M' l.toArray (l.drop m) Q) Hs S M) :
    ∀ (f : Nat) (listed : Array Bool) (s : Sel H) (a : Act) (w : World) (C : Nat → Prop), listed.size = l.length →
      (∀ j, j < m → (listed.getD j false = true ↔ s j ≠ none)) → (∀ j, m ≤ j → j < l.length → listed.getD j true = false) →
      (∀ k o, l[k]? = some o → listed.getD k false = true → ∀ e ∈ o.after, Region.binds .any e = true → listed.getD e.on false = true) →
      ((List.range l.length).countP (fun j => !listed.getD j true) = f) →
      St B n (ctxS S H s m) (ctxM M H s m) a w C → wpAny P .any l.toArray Q f listed a w := by
  have hm : m ≤ l.length := by simp only [anyB, Bool.and_eq_true, decide_eq_true_eq] at hB; exact hB.1.1.1
  have hback : ∀ k o, l[k]? = some o → ∀ e ∈ o.after, Region.binds .any e = true → e.on < k := by
    intro k o ho e he hb
    simp only [anyB, Bool.and_eq_true, List.all_eq_true, Bool.or_eq_true, Bool.not_eq_true', decide_eq_true_eq] at hB
    have := hB.1.1.2 (o, k) (List.mem_zipIdx_iff_getElem?.2 (by simpa using ho)) e (by simpa using he)
    exact this.resolve_left (by simp [hb])
  have hpair : ∀ k j, k < m → j < m → j ≠ k → pairOk l.toArray (masks l []) k j = true := by
    intro k j hk hj hjk
    simp only [anyB, Bool.and_eq_true, List.all_eq_true, List.mem_range, Bool.or_eq_true, beq_iff_eq] at hB
    exact (hB.1.2 k hk j hj).resolve_left hjk
  have hms : ∀ t, m ≤ t → t < l.length → ∀ j, j < t → ((masks l []).getD t 0).testBit j = true := by
    intro t hmt ht j hj
    simp only [anyB, Bool.and_eq_true, List.all_eq_true, List.mem_range, Bool.or_eq_true, decide_eq_true_eq] at hB
    exact (hB.2 t ht).resolve_left (by omega) j hj
  obtain ⟨hlen, hspec⟩ := head_spec _ _ _ hH
  have hlen' : Hs.length = m := by rw [hlen]; simp; omega
  intro f
  induction f with
  | zero =>
    intro listed s a w C hsz hls htail hcl hcount st
    -- all are listed
    have hall : ∀ j, j < l.length → listed.getD j true = true := by
      intro j hj
      have := List.countP_eq_zero.1 hcount j (List.mem_range.2 hj)
      simpa using this
    have hml : m = l.length := by
      rcases Nat.lt_or_ge m l.length with h | h
      · have h1 := htail m (Nat.le_refl _) h
        rw [hall m h] at h1; cases h1
      · omega
    have hdone : ∀ j, j < m → s j ≠ none := by
      intro j hj
      refine (hls j hj).1 ?_
      have := hall j (by omega)
      have hjl : j < listed.size := by omega
      simp [hjl] at this ⊢; exact this
    have := fin_full (K := fun S' M' => L P B n S' M' l.toArray (l.drop m) Q) (S := S) (M := M) (H := H) (s := s) Hs 0 S M (fun j hj => by rw [Nat.zero_add]; exact hHs j (by omega)) (fun j hj => by rw [Nat.zero_add]; exact hdone j (by omega)) rfl rfl hK
    rw [Nat.zero_add, hlen'] at this
    refine any_tail hB 0 m listed a w (by omega) (Nat.le_refl _) hsz (fun j hj => ?_) htail (this a w C st)
    exact (hls j hj).2 (hdone j hj)
  | succ f ih =>
    intro listed s a w C hsz hls htail hcl hcount st
    by_cases hfull : ∀ j, j < m → s j ≠ none
    · have := fin_full (K := fun S' M' => L P B n S' M' l.toArray (l.drop m) Q) (S := S) (M := M) (H := H) (s := s) Hs 0 S M (fun j hj => by rw [Nat.zero_add]; exact hHs j (by omega)) (fun j hj => by rw [Nat.zero_add]; exact hfull j (by omega)) rfl rfl hK
      rw [Nat.zero_add, hlen'] at this
      have hf : f + 1 + m = l.length := by
        rw [← hcount]
        have h1 : ∀ k, k ≤ l.length → (List.range k).countP (fun j => !listed.getD j true) = k - m := by
          intro k
          induction k with
          | zero => intro _; simp
          | succ k ihk =>
            intro hk
            rw [List.range_succ, List.countP_append, ihk (by omega)]
            rcases Nat.lt_or_ge k m with h | h
            · have h2 : listed.getD k true = true := by
                have h3 := (hls k h).2 (hfull k h)
                have hkl : k < listed.size := by omega
                simp [hkl] at h3 ⊢; exact h3
              simp only [List.countP_cons, List.countP_nil, h2, Bool.not_true]
              simp; omega
            · have h2 := htail k h (by omega)
              simp only [List.countP_cons, List.countP_nil, h2, Bool.not_false]
              simp; omega
        rw [h1 _ (Nat.le_refl _)]; omega
      exact any_tail hB (f + 1) m listed a w hf (Nat.le_refl _) hsz (fun j hj => (hls j hj).2 (hfull j hj)) htail (this a w C st)
    · -- some operation of the head is left
      have hex : ∃ k, k < m ∧ s k = none ∧ ∀ j, j < k → s j ≠ none := by
        have : ∃ k, k < m ∧ s k = none := by
          apply Classical.byContradiction
          intro hno
          exact hfull fun j hj hsj => hno ⟨j, hj, hsj⟩
        obtain ⟨k, hk⟩ := this
        induction k using Nat.strongRecOn with
        | _ k ihk =>
          by_cases h : ∃ j, j < k ∧ s j = none
          · obtain ⟨j, hj, hsj⟩ := h
            exact ihk j hj ⟨by omega, hsj⟩
          · exact ⟨k, hk.1, hk.2, fun j hj hsj => h ⟨j, hj, hsj⟩⟩
      obtain ⟨k₀, hk₀m, hk₀n, hk₀l⟩ := hex
      have hunl : ∀ j, j < m → s j = none → listed.getD j true = false := by
        intro j hj hsj
        have hjl : j < listed.size := by omega
        have h1 : ¬ (listed.getD j false = true) := fun h => (hls j hj).1 h hsj
        simp [hjl] at h1 ⊢; exact h1
      have hr₀ : k₀ ∈ Region.ready .any l.toArray listed := by
        have hk₀ll : k₀ < l.length := by omega
        refine mem_ready.2 ⟨hunl k₀ hk₀m hk₀n, l[k₀], by simp [hk₀ll], fun e he hb => ?_⟩
        have := hback k₀ l[k₀] (by simp [hk₀ll]) e he hb
        exact (hls e.on (by omega)).2 (hk₀l _ this)
      refine ⟨fun h0 => (by rw [h0] at hr₀; cases hr₀), fun k hk => ?_⟩
      obtain ⟨hk1, o, ho, hall⟩ := mem_ready.1 hk
      have ho' : l[k]? = some o := by simpa using ho
      have hkl : k < l.length := (List.getElem?_eq_some_iff.1 ho').1
      have hanc : ∀ j, ((masks l []).getD k 0).testBit j = true → listed.getD j false = true := fun j hj =>
        masks_listed (listed := fun k => listed.getD k false) hcl ho' (fun e he hb => hall e he hb) hj
      have hkm : k < m := by
        rcases Nat.lt_or_ge k m with h | h
        · exact h
        · have := hanc k₀ (hms k h hkl k₀ (by omega))
          exact absurd hk₀n ((hls k₀ hk₀m).1 this)
      have hsk : s k = none := by
        cases hs : s k with
        | none => rfl
        | some i =>
          have := (hls k hkm).2 (by rw [hs]; simp)
          rw [getD_both hk1] at this; cases this
      obtain ⟨h', hh', hdst, hlt, hgs⟩ := hspec k o (by rw [List.getElem?_take]; simp [hkm, ho'])
      have hHk : h' = H k := by have := hHs k hkm; rw [hh'] at this; simpa using this
      subst hHk
      have hgs' := hgs H (fun j hj => hHs j (by simp at hj; omega))
      have hdstj : ∀ j, j < m → ∃ oj, l[j]? = some oj ∧ oj.dst = (H j).dst := by
        intro j hj
        have hjl : j < l.length := by omega
        obtain ⟨h'', hh'', hd'', _⟩ := hspec j l[j] (by rw [List.getElem?_take]; simp [hj, hjl])
        have : h'' = H j := by have := hHs j hj; rw [hh''] at this; simpa using this
        subst this
        exact ⟨l[j], by simp [hjl], hd''⟩
      -- who writes what k names is ordered with k
      have hord : ∀ t, (t ∈ names l.toArray o ∨ o.dst = some t) → ∀ j, j < m → j ≠ k → (H j).dst = some t → (j < k → s j ≠ none) ∧ (k < j → s j = none) := by
        intro t ht j hj hjk hdj
        obtain ⟨oj, hoj, hdoj⟩ := hdstj j hj
        have hp := hpair k j hkm hj hjk
        unfold pairOk at hp
        simp only [List.getElem?_toArray, ho', hoj, hdoj, hdj] at hp
        have hnm : ((names l.toArray o).contains t || o.dst == some t) = true := by
          rcases ht with ht | ht
          · simp [ht]
          · simp [ht]
        rw [hnm] at hp
        simp only [Bool.not_true, Bool.false_or] at hp
        constructor
        · intro hlt'
          rw [if_pos hlt'] at hp
          exact (hls j hj).1 (hanc j hp)
        · intro hlt'
          rw [if_neg (by omega)] at hp
          cases hsj : s j with
          | none => rfl
          | some i =>
            exfalso
            have hlj : listed.getD j false = true := (hls j hj).2 (by rw [hsj]; simp)
            have hk3 : listed.getD k false = true := masks_listed (listed := fun k => listed.getD k false) hcl hoj (fun e he hb => hcl j oj hoj hlj e he hb) hp
            rw [getD_both hk1] at hk3; cases hk3
      have hslots : SlotsOk (res (names l.toArray o) (ctxT S H k)) a w C := by
        intro t R ht
        unfold res at ht
        cases hc : (names l.toArray o).contains t with
        | false => rw [hc] at ht; simp at ht
        | true =>
          rw [hc] at ht
          simp only [cond_true] at ht
          have htm : t ∈ names l.toArray o := by simpa using hc
          obtain ⟨R', h1, h2⟩ := look_ctxT (S := S) (H := H) (s := s) (t := t) k (fun j hj hd => (hord t (.inl htm) j (by omega) (by omega) hd).1 hj) R ht
          refine h2 _ _ _ (st.slots t R' ?_)
          show look t (ctxS S H s m) = some R'
          rw [look_ctxS_from (k := k) m (by omega) (fun j h3 h4 hd => ?_)]
          · exact h1
          · by_cases hjk : j = k
            · subst hjk; exact hsk
            · exact (hord t (.inl htm) j h4 hjk hd).2 (by omega)
      have hmem : MOk M w C := by
        obtain ⟨R, hR⟩ := ctxM_pick (M := M) (H := H) (s := s) m
        exact (st.mem.perm hR).left
      have hop := hgs' a w C (fun a' w' => wpAny P .any l.toArray Q f (listed.setIfInBounds k true) a' w') Q hslots hmem (fun i v w' C' he hwf hv hn => ?_)
      · unfold wpOp
        simp only [ho]
        split
        · rename_i hw; rw [if_pos hw] at hop; exact .inl hop
        · rename_i hw; rw [if_neg hw] at hop; exact hop
      · have hkls : k < listed.size := by omega
        refine ih (listed.setIfInBounds k true) (s.set k i) _ _ C' (by simp [hsz]) ?_ ?_ ?_ ?_ ?_
        · intro j hj
          by_cases hjk : j = k
          · subst hjk; simp [set_self, hkls]
          · rw [set_other s i hjk, getD_set_ne false (Ne.symm hjk)]; exact hls j hj
        · intro j h1 h2; rw [getD_set_ne true (by omega)]; exact htail j h1 h2
        · intro k' o' ho'' hl' e he' hb
          by_cases hkk : k' = k
          · subst hkk
            rw [ho'] at ho''; cases ho''
            exact getD_set_true (hall e he' hb)
          · rw [getD_set_ne false (Ne.symm hkk)] at hl'
            exact getD_set_true (hcl k' o' ho'' hl' e he' hb)
        · -- one fewer is left
          have h1 : ∀ N, k < N → (List.range N).countP (fun j => !listed.getD j true) = (List.range N).countP (fun j => !(listed.setIfInBounds k true).getD j true) + 1 := by
            intro N
            induction N with
            | zero => intro h; omega
            | succ N ihN =>
              intro h
              rw [List.range_succ, List.countP_append, List.countP_append]
              by_cases hNk : N = k
              · subst hNk
                have h2 : (List.range N).countP (fun j => !listed.getD j true) = (List.range N).countP (fun j => !(listed.setIfInBounds N true).getD j true) := by
                  apply List.countP_congr
                  intro x hx
                  have : x ≠ N := by have := List.mem_range.1 hx; omega
                  rw [getD_set_ne true (Ne.symm this)]
                have h3 : (listed.setIfInBounds N true).getD N true = true := by simp [hkls]
                rw [h2]
                simp only [List.countP_cons, List.countP_nil, hk1, h3]
                simp
              · rw [ihN (by omega)]
                have : (listed.setIfInBounds k true).getD N true = listed.getD N true := getD_set_ne true (Ne.symm hNk)
                simp only [List.countP_cons, List.countP_nil, this]
                omega
          have := h1 l.length hkl
          omega
        · have hst := st.step (dst := o.dst) (fun d hd => hlt d (by rw [← hdst]; exact hd)) he hwf hv hn
          refine ⟨hst.size, hst.defers, ?_, hst.mem.perm (ctxM_set hsk m hkm).symm, hst.eff, ?_⟩
          · intro t R ht
            have hl := look_set (S := S) (H := H) (s := s) (k := k) (m := m) (t := t) (i := i) hkm hsk
            by_cases hd : (H k).dst = some t
            · have h1 := hl.1 hd (fun j h2 h3 h4 => (hord t (.inr (by rw [hdst]; exact hd)) j h3 (by omega) h4).2 h2)
              simp only at ht
              rw [h1] at ht
              have h2 := hst.slots t ((H k).A.R i) (by rw [hdst, hd]; exact look_cons_eq)
              cases ht; exact h2
            · have h1 := hl.2 hd
              simp only at ht
              rw [h1] at ht
              exact hst.slots t R (by
                show look t (putS o.dst _ _) = some R
                rw [look_putS_ne (by rw [hdst]; exact hd)]; exact ht)
          · intro b hb
            exact hst.since b ((feet_perm (ctxM_set hsk m hkm)).mem_iff.1 hb)

theorem St.drew {a : Act} {w : World} {C : Nat → Prop} (h : St B n S M a w C) : St B n S M a { w with drawn := w.drawn + 1 } C := by
  have hp : Pub w C { w with drawn := w.drawn + 1 } C := fun b hb => ⟨hb, rfl⟩
  exact ⟨h.size, h.defers, fun t R ht => R.mono hp (h.slots t R ht),
    ⟨fun F hF => F.loc hp (fun b _ => rfl) (h.mem.facts F hF), h.mem.nodup, h.mem.own, h.mem.wf⟩,
    ⟨h.eff.size, h.eff.keep, h.eff.cl, h.eff.os, h.eff.tape, h.eff.output⟩, h.since⟩

/-- A region whose order is open: the head by its facts, then the tail. -/
theorem W.any {id : Nat} {l : List Oper} (m : Nat) {Hs : List HE} (hm : P.follows .mixedOrders = true) (hB : anyB m l = true) (hH : Head P n l.toArray M (l.take m) S Hs)
    (hK : Fin (fun S' M' => L P B n S' M' l.toArray (l.drop m) Q) Hs S M) : W P B n S M (.region id l.toArray true) Q := by
  intro a w C st
  refine wp_region_any hm ?_
  have hm' : m ≤ l.length := by simp only [anyB, Bool.and_eq_true, decide_eq_true_eq] at hB; exact hB.1.1.1
  obtain ⟨hlen, _⟩ := head_spec _ _ _ hH
  let H : Nat → HE := fun j => Hs.getD j ⟨none, .one Rp.any, Rp.any, fun _ _ _ _ h => h⟩
  have hsel : ∀ k, ctxS S H (fun _ => none) k = S := by
    intro k; induction k with
    | zero => rfl
    | succ k ih => simp only [ctxS]; exact ih
  have hselM : ∀ k, ctxM M H (fun _ => none) k = M := by
    intro k; induction k with
    | zero => rfl
    | succ k ih => simp only [ctxM]; exact ih
  have hrep : ∀ j d, j < l.length → (Array.replicate l.toArray.size false).getD j d = false := by
    intro j d hj; simp [hj]
  refine any_head (H := H) hB hH (fun j hj => ?_) hK l.toArray.size _ (fun _ => none) a _ C (by simp) ?_ ?_ ?_ ?_ (by rw [hsel, hselM]; exact st.drew)
  · have : j < Hs.length := by rw [hlen]; simp; omega
    simp [H, this]
  · intro j hj
    rw [hrep j false (by omega)]; simp
  · intro j _ hj; exact hrep j true hj
  · intro k o ho hl
    rw [hrep k false (List.getElem?_eq_some_iff.1 ho).1] at hl; cases hl
  · have : ∀ N, N ≤ l.length → (List.range N).countP (fun j => !(Array.replicate l.toArray.size false).getD j true) = N := by
      intro N
      induction N with
      | zero => intro _; rfl
      | succ N ih =>
        intro hN
        rw [List.range_succ, List.countP_append, ih (by omega)]
        simp only [List.countP_cons, List.countP_nil, hrep N true (by omega)]
        simp
    rw [this _ (Nat.le_refl _)]; simp
end
end Go.Sim
/- Representations of values and memory, and what each plain operation does on them. -/
namespace Go.Sim

/-! Integers. -/
def InR : IntKind → Int → Prop
  | .i8, n => -128 ≤ n ∧ n ≤ 127
  | .i16, n => -32768 ≤ n ∧ n ≤ 32767
  | .i32, n => -2147483648 ≤ n ∧ n ≤ 2147483647
  | .i64, n => -9223372036854775808 ≤ n ∧ n ≤ 9223372036854775807
  | .u8, n => 0 ≤ n ∧ n ≤ 255
  | .u16, n => 0 ≤ n ∧ n ≤ 65535
  | .u32, n => 0 ≤ n ∧ n ≤ 4294967295
  | .u64, n => 0 ≤ n ∧ n ≤ 18446744073709551615

theorem wrap_in {k : IntKind} {n : Int} (h : InR k n) : k.wrap n = n := by
  cases k <;> simp only [InR] at h
  · exact IntWalk.i8_in n h
  · exact IntWalk.i16_in n h
  · exact IntWalk.i32_in n h
  · exact IntWalk.i64_in n h
  · exact IntWalk.u8_in n h
  · exact IntWalk.u16_in n h
  · exact IntWalk.u32_in n h
  · exact IntWalk.u64_in n h

theorem in_wrap (k : IntKind) (n : Int) : InR k (k.wrap n) := by
  cases k <;> simp only [InR, IntKind.wrap, IntKind.bits, IntKind.signed] <;> simp <;> (try split) <;> omega

def Rp.int (k : IntKind) (n : Int) : Rp where
  p _ _ v := v = .int k n ∧ InR k n
  mono _ h := h
def Rp.val (u : Value) : Rp where
  p _ _ v := v = u
  mono _ h := h
def Rp.ptr (r off : Nat) : Rp := Rp.val (.pointer (some ⟨r, off, none⟩))
def Rp.str (l : List UInt8) : Rp where
  p _ _ v := v = .string ⟨l.toArray⟩ ∧ l.length ≤ 9223372036854775807
  mono _ h := h

/-! Rows of values. -/
def AllP : List Rp → World → (Nat → Prop) → List Value → Prop
  | [], _, _, [] => True
  | R :: Rs, w, C, v :: vs => R.p w C v ∧ AllP Rs w C vs
  | _, _, _, _ => False
def AllR (Rs : List Rp) (w : World) (C : Nat → Prop) (vs : List Value) : Prop := AllP Rs w C vs ∧ ∀ v ∈ vs, v.oneCell' = true

theorem AllP.mono {w C w' C'} (hp : Pub w C w' C') : ∀ {Rs vs}, AllP Rs w C vs → AllP Rs w' C' vs
  | [], [], _ => trivial
  | R :: _, _ :: _, h => ⟨R.mono hp h.1, AllP.mono hp h.2⟩
  | [], _ :: _, h => h.elim
  | _ :: _, [], h => h.elim
theorem AllR.mono {w C w' C' Rs vs} (hp : Pub w C w' C') (h : AllR Rs w C vs) : AllR Rs w' C' vs := ⟨h.1.mono hp, h.2⟩

theorem AllP.length {w C} : ∀ {Rs vs}, AllP Rs w C vs → vs.length = Rs.length
  | [], [], _ => rfl
  | _ :: _, _ :: _, h => by simp [AllP.length h.2]
  | [], _ :: _, h => h.elim
  | _ :: _, [], h => h.elim
theorem AllP.get {w C} : ∀ {Rs vs} (i : Nat) {R}, AllP Rs w C vs → Rs[i]? = some R → ∃ v, vs[i]? = some v ∧ R.p w C v
  | [], _, i, R, _, h => by simp at h
  | _ :: _, [], _, _, h, _ => h.elim
  | S :: Rs, v :: vs, 0, R, h, hi => ⟨v, rfl, by simp at hi; exact hi ▸ h.1⟩
  | S :: Rs, v :: vs, i + 1, R, h, hi => by simpa using AllP.get i h.2 (by simpa using hi)
theorem AllP.sub {w C} : ∀ {Rs vs} (i k : Nat), AllP Rs w C vs → AllP ((Rs.drop i).take k) w C ((vs.drop i).take k)
  | [], [], i, k, _ => by simp [AllP]
  | [], _ :: _, _, _, h => h.elim
  | _ :: _, [], _, _, h => h.elim
  | _ :: _, _ :: _, 0, 0, _ => trivial
  | _ :: _, _ :: _, 0, k + 1, h => ⟨h.1, by have := AllP.sub 0 k h.2; simpa using this⟩
  | _ :: _, _ :: _, i + 1, k, h => by simpa using AllP.sub i k h.2
theorem AllR.sub {w C Rs vs} (i k : Nat) (h : AllR Rs w C vs) : AllR ((Rs.drop i).take k) w C ((vs.drop i).take k) :=
  ⟨h.1.sub i k, fun v hv => h.2 v (List.mem_of_mem_drop (List.mem_of_mem_take hv))⟩
theorem AllP.append {w C} : ∀ {Rs vs Rs' vs'}, AllP Rs w C vs → AllP Rs' w C vs' → AllP (Rs ++ Rs') w C (vs ++ vs')
  | [], [], _, _, _, h => h
  | _ :: _, _ :: _, _, _, h, h' => ⟨h.1, AllP.append h.2 h'⟩
  | [], _ :: _, _, _, h, _ => h.elim
  | _ :: _, [], _, _, h, _ => h.elim
theorem AllR.append {w C Rs vs Rs' vs'} (h : AllR Rs w C vs) (h' : AllR Rs' w C vs') : AllR (Rs ++ Rs') w C (vs ++ vs') :=
  ⟨h.1.append h'.1, fun v hv => (List.mem_append.1 hv).elim (h.2 v) (h'.2 v)⟩
theorem AllP.set {w C} : ∀ {Rs vs} (i : Nat) {R v}, AllP Rs w C vs → R.p w C v → AllP (Rs.set i R) w C (vs.set i v)
  | [], [], _, _, _, _, _ => by simp [AllP]
  | [], _ :: _, _, _, _, h, _ => h.elim
  | _ :: _, [], _, _, _, h, _ => h.elim
  | _ :: _, _ :: _, 0, _, _, h, hv => ⟨hv, h.2⟩
  | _ :: _, _ :: _, i + 1, _, _, h, hv => ⟨h.1, AllP.set i h.2 hv⟩

def Rp.agg (Rs : List Rp) : Rp where
  p w C v := ∃ cs : List Value, v = .agg cs.toArray ∧ AllR Rs w C cs
  mono hp := fun ⟨cs, hv, h⟩ => ⟨cs, hv, h.mono hp⟩
def Rp.tuple (Rs : List Rp) : Rp where
  p w C v := ∃ cs : List Value, v = .tuple cs.toArray ∧ AllP Rs w C cs
  mono hp := fun ⟨cs, hv, h⟩ => ⟨cs, hv, h.mono hp⟩

/-- A row of a published block. -/
def RowAt (Rs : List Rp) (w : World) (C : Nat → Prop) (a : Addr) : Prop :=
  a.spot = none ∧ C a.block ∧ ∃ cs T fr, w.heap[a.block]? = some (.cells cs T fr) ∧ AllR Rs w C ((cs.toList.drop a.off).take Rs.length)
theorem RowAt.mono {w C w' C' Rs a} (hp : Pub w C w' C') (h : RowAt Rs w C a) : RowAt Rs w' C' a := by
  obtain ⟨h1, h2, cs, T, fr, h3, h4⟩ := h
  exact ⟨h1, (hp _ h2).1, cs, T, fr, (hp _ h2).2.trans h3, h4.mono hp⟩
def Rp.at (Rs : List Rp) : Rp where
  p w C v := ∃ a, v = .pointer (some a) ∧ RowAt Rs w C a
  mono hp := fun ⟨a, hv, h⟩ => ⟨a, hv, h.mono hp⟩

/-- A slice whose elements are published. -/
def Rp.slice {α : Type} (E : α → List Rp) (xs : List α) : Rp where
  p w C v := xs.length ≤ 9223372036854775807 ∧ ((v = .slice none 0 0 ∧ xs = []) ∨ ∃ a cap, v = .slice (some a) xs.length cap ∧ xs.length ≤ cap ∧ (xs = [] ∨ RowAt (xs.flatMap E) w C a))
  mono hp := fun ⟨hl, h⟩ => ⟨hl, h.imp id fun ⟨a, cap, hv, hc, h⟩ => ⟨a, cap, hv, hc, h.imp id (RowAt.mono hp)⟩⟩

/-- A row of cells that the call owns: block r, m cells, of which the first ones represent Rs. -/
def MF.row (r T m : Nat) (Rs : List Rp) : MF where
  foot := [r]
  p w C := ∃ cs : Array Value, w.heap[r]? = some (.cells cs T (0, 0)) ∧ cs.size = m ∧ AllR Rs w C (cs.toList.take Rs.length)
  loc hp hf := fun ⟨cs, h1, h2, h3⟩ => ⟨cs, (hf r (by simp)).trans h1, h2, h3.mono hp⟩
/-- A variable of the call's own. -/
def MF.box (r T : Nat) (Rs : List Rp) : MF := MF.row r T Rs.length Rs

section
variable {P : Program} {σ : Nat → Option Rp} {M : List MF} {o : Oper}

/-! Moves. -/
theorem spec_move {x : Operand} {R : Rp} (h : o.op = .move x) (hx : Get σ x R) : Spec P σ M o (.one R) :=
  Spec.of_run fun a w C hs _ => ⟨a.eval x, by simp [execOp, h], hx a w C hs⟩
theorem spec_assign {x : Operand} {R : Rp} (h : o.op = .assign x) (hx : Get σ x R) : Spec P σ M o (.one R) :=
  Spec.of_run fun a w C hs _ => ⟨a.eval x, by simp [execOp, h], hx a w C hs⟩
theorem spec_pick {c x y : Operand} {b : Bool} {R : Rp} (h : o.op = .pick c x y) (hc : Get σ c (Rp.bool b)) (hx : b = true → Get σ x R) (hy : b = false → Get σ y R) : Spec P σ M o (.one R) :=
  Spec.of_run fun a w C hs _ => ⟨if b then a.eval x else a.eval y, by
    have := hc a w C hs
    simp only [Rp.bool] at this
    simp [execOp, h, this, asBool], by
    cases b
    · exact hy rfl a w C hs
    · exact hx rfl a w C hs⟩
/-- 'x && y'. -/
theorem spec_and {c x : Operand} {b b' : Bool} (h : o.op = .pick c x (.const (.bool false))) (hc : Get σ c (Rp.bool b)) (hx : b = true → Get σ x (Rp.bool b')) : Spec P σ M o (.one (Rp.bool (b && b'))) :=
  spec_pick h hc (fun hb => by subst hb; exact hx rfl) (fun hb => by subst hb; exact Get.const fun _ _ => rfl)
/-- 'x || y'. -/
theorem spec_or {c y : Operand} {b b' : Bool} (h : o.op = .pick c (.const (.bool true)) y) (hc : Get σ c (Rp.bool b)) (hy : b = false → Get σ y (Rp.bool b')) : Spec P σ M o (.one (Rp.bool (b || b'))) :=
  spec_pick h hc (fun hb => by subst hb; exact Get.const fun _ _ => rfl) (fun hb => by subst hb; exact hy rfl)
theorem spec_not {T : TypeId} {x : Operand} {b : Bool} (h : o.op = .unOp .not T x) (hx : Get σ x (Rp.bool b)) : Spec P σ M o (.one (Rp.bool (!b))) :=
  Spec.of_run fun a w C hs _ => ⟨.bool !b, by
    have := hx a w C hs
    simp only [Rp.bool] at this
    simp [execOp, h, this, Op.unary], rfl⟩
theorem spec_neg {T : TypeId} {k : IntKind} {x : Operand} {n : Int} (h : o.op = .unOp .neg T x) (hx : Get σ x (Rp.int k n)) : Spec P σ M o (.one (Rp.int k (k.wrap (-n)))) :=
  Spec.of_run fun a w C hs _ => ⟨.int k (k.wrap (-n)), by
    have := (hx a w C hs).1
    simp [execOp, h, this, Op.unary, Op.intArith], rfl, in_wrap _ _⟩

/-! Arithmetic. -/
theorem get_int {x : Operand} {k : IntKind} {n : Int} (hx : Get σ x (Rp.int k n)) {a w C} (hs : SlotsOk σ a w C) : a.eval x = .int k n := (hx a w C hs).1
theorem eqGuard_int {P : Program} {w : World} (op : BinOp) (t : TypeId) (x y : Operand) {k k' : IntKind} {a b : Int} : (eqGuard op t x y (.int k a) (.int k' b)).run P w = .ok () w := by
  unfold eqGuard; split <;> simp

theorem spec_add {T T' : TypeId} {k : IntKind} {x y : Operand} {m n : Int} (h : o.op = .binOp .add T x y T') (hx : Get σ x (Rp.int k m)) (hy : Get σ y (Rp.int k n)) : Spec P σ M o (.one (Rp.int k (k.wrap (m + n)))) :=
  Spec.of_run fun a w C hs _ => ⟨.int k (k.wrap (m + n)), by
    simp [execOp, h, get_int hx hs, get_int hy hs, eqGuard_int, binOp, Op.intArith], rfl, in_wrap _ _⟩
theorem spec_sub {T T' : TypeId} {k : IntKind} {x y : Operand} {m n : Int} (h : o.op = .binOp .sub T x y T') (hx : Get σ x (Rp.int k m)) (hy : Get σ y (Rp.int k n)) : Spec P σ M o (.one (Rp.int k (k.wrap (m - n)))) :=
  Spec.of_run fun a w C hs _ => ⟨.int k (k.wrap (m - n)), by
    simp [execOp, h, get_int hx hs, get_int hy hs, eqGuard_int, binOp, Op.intArith], rfl, in_wrap _ _⟩
theorem spec_mul {T T' : TypeId} {k : IntKind} {x y : Operand} {m n : Int} (h : o.op = .binOp .mul T x y T') (hx : Get σ x (Rp.int k m)) (hy : Get σ y (Rp.int k n)) : Spec P σ M o (.one (Rp.int k (k.wrap (m * n)))) :=
  Spec.of_run fun a w C hs _ => ⟨.int k (k.wrap (m * n)), by
    simp [execOp, h, get_int hx hs, get_int hy hs, eqGuard_int, binOp, Op.intArith], rfl, in_wrap _ _⟩
theorem in_tmod {k : IntKind} {m n : Int} (hm : InR k m) : InR k (m.tmod n) := by
  have h : (0 ≤ m → 0 ≤ m.tmod n ∧ m.tmod n ≤ m) ∧ (m ≤ 0 → m ≤ m.tmod n ∧ m.tmod n ≤ 0) := by
    constructor
    · intro h0
      have := Int.tmod_nonneg n h0
      refine ⟨this, ?_⟩
      have h2 : (m.tmod n).natAbs ≤ m.natAbs := by rw [Int.natAbs_tmod]; exact Nat.mod_le _ _
      omega
    · intro h0
      have h1 : 0 ≤ (-m).tmod n := Int.tmod_nonneg n (by omega)
      rw [Int.neg_tmod] at h1
      have h2 : (m.tmod n).natAbs ≤ m.natAbs := by rw [Int.natAbs_tmod]; exact Nat.mod_le _ _
      omega
  cases k <;> simp only [InR] at hm ⊢ <;> omega
theorem spec_rem {T T' : TypeId} {k : IntKind} {x y : Operand} {m n : Int} (h : o.op = .binOp .rem T x y T') (hx : Get σ x (Rp.int k m)) (hy : Get σ y (Rp.int k n)) (hn : n ≠ 0) : Spec P σ M o (.one (Rp.int k (m.tmod n))) :=
  Spec.of_run fun a w C hs _ => ⟨.int k (m.tmod n), by
    simp [execOp, h, get_int hx hs, get_int hy hs, eqGuard_int, binOp, Op.intDiv, hn], rfl, in_tmod (hx a w C hs).2⟩
/-- The result where it fits. -/
theorem spec_fit {k : IntKind} {e : Int} (hf : InR k e) (h : Spec P σ M o (.one (Rp.int k (k.wrap e)))) : Spec P σ M o (.one (Rp.int k e)) := by
  rw [wrap_in hf] at h; exact h

theorem spec_lss {T T' : TypeId} {k : IntKind} {x y : Operand} {m n : Int} (h : o.op = .binOp .lss T x y T') (hx : Get σ x (Rp.int k m)) (hy : Get σ y (Rp.int k n)) : Spec P σ M o (.one (Rp.bool (decide (m < n)))) :=
  Spec.of_run fun a w C hs _ => ⟨.bool (decide (m < n)), by
    simp [execOp, h, get_int hx hs, get_int hy hs, eqGuard_int, binOp, Op.intCmp], rfl⟩
theorem spec_leq {T T' : TypeId} {k : IntKind} {x y : Operand} {m n : Int} (h : o.op = .binOp .leq T x y T') (hx : Get σ x (Rp.int k m)) (hy : Get σ y (Rp.int k n)) : Spec P σ M o (.one (Rp.bool (decide (m ≤ n)))) :=
  Spec.of_run fun a w C hs _ => ⟨.bool (decide (m ≤ n)), by
    simp [execOp, h, get_int hx hs, get_int hy hs, eqGuard_int, binOp, Op.intCmp], rfl⟩
theorem spec_gtr {T T' : TypeId} {k : IntKind} {x y : Operand} {m n : Int} (h : o.op = .binOp .gtr T x y T') (hx : Get σ x (Rp.int k m)) (hy : Get σ y (Rp.int k n)) : Spec P σ M o (.one (Rp.bool (decide (n < m)))) :=
  Spec.of_run fun a w C hs _ => ⟨.bool (decide (n < m)), by
    simp [execOp, h, get_int hx hs, get_int hy hs, eqGuard_int, binOp, Op.intCmp], rfl⟩
theorem spec_geq {T T' : TypeId} {k : IntKind} {x y : Operand} {m n : Int} (h : o.op = .binOp .geq T x y T') (hx : Get σ x (Rp.int k m)) (hy : Get σ y (Rp.int k n)) : Spec P σ M o (.one (Rp.bool (decide (n ≤ m)))) :=
  Spec.of_run fun a w C hs _ => ⟨.bool (decide (n ≤ m)), by
    simp [execOp, h, get_int hx hs, get_int hy hs, eqGuard_int, binOp, Op.intCmp], rfl⟩
theorem spec_eql {T T' : TypeId} {k : IntKind} {x y : Operand} {m n : Int} (h : o.op = .binOp .eql T x y T') (hx : Get σ x (Rp.int k m)) (hy : Get σ y (Rp.int k n)) : Spec P σ M o (.one (Rp.bool (decide (m = n)))) :=
  Spec.of_run fun a w C hs _ => ⟨.bool (decide (m = n)), by
    simp only [execOp, h, get_int hx hs, get_int hy hs, Sem.run_bind, eqGuard_int, Result.andThen_ok, binOp, Op.intCmp, ne_eq, not_true, if_false, Sem.run_pure]
    rw [show (m == n) = decide (m = n) from rfl], rfl⟩
theorem spec_neq {T T' : TypeId} {k : IntKind} {x y : Operand} {m n : Int} (h : o.op = .binOp .neq T x y T') (hx : Get σ x (Rp.int k m)) (hy : Get σ y (Rp.int k n)) : Spec P σ M o (.one (Rp.bool (!decide (m = n)))) :=
  Spec.of_run fun a w C hs _ => ⟨.bool (!decide (m = n)), by
    simp only [execOp, h, get_int hx hs, get_int hy hs, Sem.run_bind, eqGuard_int, Result.andThen_ok, binOp, Op.intCmp, ne_eq, not_true, if_false, Sem.run_pure]
    rw [show (m != n) = !decide (m = n) from rfl], rfl⟩
theorem spec_shl {T T' : TypeId} {k k' : IntKind} {x y : Operand} {m n : Int} (h : o.op = .binOp .shl T x y T') (hx : Get σ x (Rp.int k m)) (hy : Get σ y (Rp.int k' n)) (hn : 0 ≤ n) :
    Spec P σ M o (.one (Rp.int k (k.wrap (m * 2 ^ (min n.toNat k.bits))))) :=
  Spec.of_run fun a w C hs _ => ⟨.int k (k.wrap (m * 2 ^ (min n.toNat k.bits))), by
    simp [execOp, h, get_int hx hs, get_int hy hs, eqGuard_int, binOp, Op.shift, show ¬ n < 0 by omega], rfl, in_wrap _ _⟩
def bitsOf (op : BinOp) (k : IntKind) (m n : Int) : Int :=
  k.wrap (match op with
    | .and => (BitVec.ofInt k.bits m &&& BitVec.ofInt k.bits n).toNat
    | .or => (BitVec.ofInt k.bits m ||| BitVec.ofInt k.bits n).toNat
    | .xor => (BitVec.ofInt k.bits m ^^^ BitVec.ofInt k.bits n).toNat
    | .andNot => (BitVec.ofInt k.bits m &&& ~~~BitVec.ofInt k.bits n).toNat
    | _ => 0 : Nat)
theorem spec_bits {T T' : TypeId} {k : IntKind} {x y : Operand} {m n : Int} {op : BinOp} (h : o.op = .binOp op T x y T') (hop : op = .and ∨ op = .or ∨ op = .xor ∨ op = .andNot)
    (hx : Get σ x (Rp.int k m)) (hy : Get σ y (Rp.int k n)) : Spec P σ M o (.one (Rp.int k (bitsOf op k m n))) :=
  Spec.of_run fun a w C hs _ => ⟨.int k (bitsOf op k m n), by
    rcases hop with rfl | rfl | rfl | rfl <;> simp [execOp, h, get_int hx hs, get_int hy hs, eqGuard_int, binOp, Op.intBits, bitsOf], rfl, in_wrap _ _⟩
theorem spec_conv {T T' : TypeId} {k k' : IntKind} {x : Operand} {n : Int} (h : o.op = .convert T T' x) (hu : P.underlying T' = some (.int k')) (hT : ∃ d, P.underlying T = some d) (hx : Get σ x (Rp.int k n)) :
    Spec P σ M o (.one (Rp.int k' (k'.wrap n))) :=
  Spec.of_run fun a w C hs _ => ⟨.int k' (k'.wrap n), by
    obtain ⟨d, hd⟩ := hT
    simp [execOp, h, get_int hx hs, convert, run_underlying hu, run_underlying hd, Conv.intToInt], rfl, in_wrap _ _⟩

/-! Bools and strings compared. -/
theorem get_str {x : Operand} {l : List UInt8} (hx : Get σ x (Rp.str l)) {a w C} (hs : SlotsOk σ a w C) : a.eval x = .string ⟨l.toArray⟩ := (hx a w C hs).1
theorem eqGuard_str {P : Program} {w : World} (op : BinOp) (t : TypeId) (x y : Operand) {a b : ByteArray} : (eqGuard op t x y (.string a) (.string b)).run P w = .ok () w := by
  unfold eqGuard; split <;> simp
theorem toList_mk (l : List UInt8) : (ByteArray.mk l.toArray).toList = l := by simp
theorem spec_eqlS {T T' : TypeId} {x y : Operand} {l m : List UInt8} (h : o.op = .binOp .eql T x y T') (hx : Get σ x (Rp.str l)) (hy : Get σ y (Rp.str m)) : Spec P σ M o (.one (Rp.bool (l == m))) :=
  Spec.of_run fun a w C hs _ => ⟨.bool (l == m), by
    simp only [execOp, h, get_str hx hs, get_str hy hs, Sem.run_bind, eqGuard_str, Result.andThen_ok, binOp, Op.stringOp, Sem.run_pure, toList_mk], rfl⟩
theorem spec_neqS {T T' : TypeId} {x y : Operand} {l m : List UInt8} (h : o.op = .binOp .neq T x y T') (hx : Get σ x (Rp.str l)) (hy : Get σ y (Rp.str m)) : Spec P σ M o (.one (Rp.bool (!(l == m)))) :=
  Spec.of_run fun a w C hs _ => ⟨.bool (!(l == m)), by
    simp only [execOp, h, get_str hx hs, get_str hy hs, Sem.run_bind, eqGuard_str, Result.andThen_ok, binOp, Op.stringOp, Sem.run_pure, toList_mk], rfl⟩

/-! Structs by value, tuples. -/
theorem spec_extract {x : Operand} {i : Nat} {Rs : List Rp} {R : Rp} (h : o.op = .extract x i) (hx : Get σ x (Rp.tuple Rs)) (hi : Rs[i]? = some R) : Spec P σ M o (.one R) :=
  Spec.of_run fun a w C hs _ => by
    obtain ⟨cs, hv, hcs⟩ := hx a w C hs
    obtain ⟨v, hv', hR⟩ := hcs.get i hi
    exact ⟨v, by simp [execOp, h, hv, Instr.extract, hv'], hR⟩

end
end Go.Sim
/- Short names for what printed walks say again and again. -/
namespace Go.Sim
section
variable {P : Program} {B : Base} {n : Nat} {S : List (Nat × Rp)} {M : List MF} {Q : Exit → Act → World → Prop} {ops : Array Oper} {rest : List Oper}
theorem L.nt {y : Code} {Q₀ : Exit → Act → World → Prop} (h : W P B n S M y Q) : L P B n S M ops [] (Exit.then (y.wp P Q) Q₀) := L.nil (N.thenW h)
theorem W.sr {id : Nat} {l : List Oper} {y : Code} (h : L P B n S M l.toArray l (Exit.then (y.wp P Q) Q)) : W P B n S M (.seq (.region id l.toArray false) y) Q := W.seq (W.region h)
theorem L.p1 {o : Oper} {R : Rp} {d : Nat} (hd : o.dst = some d) (hlt : Nat.blt d n = true) (hg : o.guard = none) (hs : Spec P (look · S) M o (.one R)) (h : L P B n ((d, R) :: S) M ops rest Q) : L P B n S M ops (o :: rest) Q :=
  L.op1 hd hlt (GSpec.plain hg hs) h
theorem L.mv {o : Oper} {R : Rp} {d t : Nat} (hd : o.dst = some d) (hlt : Nat.blt d n = true) (hg : o.guard = none) (ho : o.op = .move (.tmp t)) (ht : look t S = some R) (h : L P B n ((d, R) :: S) M ops rest Q) : L P B n S M ops (o :: rest) Q :=
  L.op1 hd hlt (GSpec.plain hg (spec_move ho (Get.tmp ht))) h
theorem L.as {o : Oper} {R : Rp} {d t : Nat} (hd : o.dst = some d) (hlt : Nat.blt d n = true) (hg : o.guard = none) (ho : o.op = .assign (.tmp t)) (ht : look t S = some R) (h : L P B n ((d, R) :: S) M ops rest Q) : L P B n S M ops (o :: rest) Q :=
  L.op1 hd hlt (GSpec.plain hg (spec_assign ho (Get.tmp ht))) h
end
theorem sbx : (∀ (p : Prop) [Decidable p], (decide p = true) = p) ∧ (∀ (p : Prop) [Decidable p], (decide p = false) = ¬p) ∧ (∀ a b : Bool, ((a && b) = true) = (a = true ∧ b = true)) ∧ (∀ a b : Bool, ((a || b) = true) = (a = true ∨ b = true)) ∧ (∀ a b : Bool, ((a && b) = false) = (a = false ∨ b = false)) ∧ (∀ a b : Bool, ((a || b) = false) = (a = false ∧ b = false)) ∧ (∀ a : Bool, ((!a) = true) = (a = false)) ∧ (∀ a : Bool, ((!a) = false) = (a = true)) ∧ ((!true) = false) ∧ ((!false) = true) ∧ (∀ a b : Int, (¬ a < b) = (b ≤ a)) ∧ (∀ a b : Int, (¬ a ≤ b) = (b < a)) :=
  ⟨fun p _ => by simp, fun p _ => by simp, fun a b => by simp, fun a b => by simp, fun a b => by cases a <;> simp, fun a b => by simp, fun a => by simp, fun a => by simp, rfl, rfl, fun a b => propext Int.not_lt, fun a b => propext Int.not_le⟩
end Go.Sim
/- What operations do on memory: new variables and rows, loads, stores, addresses, slices. -/
namespace Go.Sim

/-- A value of one cell. -/
class One (R : Rp) : Prop where
  one : ∀ w C v, R.p w C v → v.oneCell' = true
instance {k n} : One (Rp.int k n) := ⟨fun _ _ _ h => by rw [h.1]; rfl⟩
instance {b} : One (Rp.bool b) := ⟨fun _ _ v h => by rw [show v = .bool b from h]; rfl⟩
instance {l} : One (Rp.str l) := ⟨fun _ _ _ h => by rw [h.1]; rfl⟩
instance {r off} : One (Rp.ptr r off) := ⟨fun _ _ v h => by rw [show v = .pointer (some ⟨r, off, none⟩) from h]; rfl⟩
instance {Rs} : One (Rp.at Rs) := ⟨fun _ _ _ ⟨_, h, _⟩ => by rw [h]; rfl⟩
instance {α : Type} {E : α → List Rp} {xs} : One (Rp.slice E xs) := ⟨fun _ _ _ ⟨_, h⟩ => by rcases h with ⟨h, _⟩ | ⟨_, _, h, _⟩ <;> rw [h] <;> rfl⟩
theorem One.val {u : Value} (h : u.oneCell' = true) : One (Rp.val u) := ⟨fun _ _ v hv => by rw [show v = u from hv]; exact h⟩
instance {a n c} : One (Rp.val (.slice a n c)) := One.val rfl
instance {a} : One (Rp.val (.pointer a)) := One.val rfl
instance {a} : One (Rp.val (.map a)) := One.val rfl
instance {a b c} : One (Rp.val (.func a b c)) := One.val rfl
instance : One (Rp.val .nilFunc) := One.val rfl
instance : One (Rp.val .nilIface) := One.val rfl

/-- The cells of an operand. -/
def GetC (σ : Nat → Option Rp) (x : Operand) (Rs : List Rp) : Prop := ∀ a w C, SlotsOk σ a w C → AllR Rs w C (a.eval x).cells.toList
theorem cells_one {v : Value} (h : v.oneCell' = true) : v.cells = #[v] := by cases v <;> first | rfl | (simp [Value.oneCell'] at h)
theorem GetC.one {σ : Nat → Option Rp} {x : Operand} {R : Rp} (h : Get σ x R) [ho : One R] : GetC σ x [R] := fun a w C hs => by
  have h1 := h a w C hs
  have h2 := ho.one _ _ _ h1
  rw [cells_one h2]
  exact ⟨⟨h1, trivial⟩, by simpa using h2⟩
theorem GetC.agg {σ : Nat → Option Rp} {x : Operand} {Rs : List Rp} (h : Get σ x (Rp.agg Rs)) : GetC σ x Rs := fun a w C hs => by
  obtain ⟨cs, hv, hcs⟩ := h a w C hs
  rw [hv]; simpa [Value.cells] using hcs

/-- What is known of a type. -/
structure TI (P : Program) (T : TypeId) (size bytes : Nat) (z : Value) : Prop where
  ex : ∃ i, P.info? T = some i ∧ i.size = size ∧ i.bytes = bytes ∧ i.zero = some z

section
variable {P : Program} {σ : Nat → Option Rp} {M : List MF} {o : Oper}

theorem TI.size {T size bytes z} (h : TI P T size bytes z) (w : World) : (sizeOf T).run P w = .ok size w := by
  obtain ⟨i, hi, h1, _, _⟩ := h.ex
  simp [sizeOf, typeInfo, hi, h1]
theorem TI.zero {T size bytes z} (h : TI P T size bytes z) (w : World) : (zeroValue T).run P w = .ok z w := by
  obtain ⟨i, hi, _, _, h3⟩ := h.ex
  simp [zeroValue, typeInfo, hi, h3]

/-! New blocks. -/
theorem new_eff (w : World) (C : Nat → Prop) (ob : Obj) : Eff [] w C (w.alloc ob) C where
  size := by simp
  keep b hb _ := heap_alloc_old w ob hb
  cl _ _ _ := Iff.rfl
  os := rfl
  tape := rfl
  output := rfl
theorem new_at (w : World) (ob : Obj) : (w.alloc ob).heap[w.heap.size]? = some ob := heap_alloc_new w ob
theorem new_size (w : World) (ob : Obj) : (w.alloc ob).heap.size = w.heap.size + 1 := by simp

/-- A new block of the call's own. -/
theorem Spec.new {A : RA} (i : Nat → A.ι) (h : ∀ a w C, SlotsOk σ a w C → MOk M w C → ∃ v ob, (execOp a.eval o).run P w = .ok (.value v) (w.alloc ob) ∧
    ((A.R (i w.heap.size)).p (w.alloc ob) C v) ∧ feet (A.F (i w.heap.size)) = [w.heap.size] ∧ ∀ G ∈ A.F (i w.heap.size), G.p (w.alloc ob) C) : Spec P σ M o A := by
  intro a w C K Q hs hm hk
  obtain ⟨v, ob, hr, hv, hf, hG⟩ := h a w C hs hm
  unfold Oper.wp
  rw [hr]
  refine hk (i w.heap.size) v _ C (new_eff w C ob) (fun b hb => ?_) hv ⟨hG, by rw [hf]; simp, fun b hb => ?_⟩
  · rw [new_size]; have := hm.wf b hb; omega
  · rw [hf] at hb
    have : b = w.heap.size := by simpa using hb
    subst this
    refine ⟨Nat.le_refl _, by rw [new_size]; omega, fun hc => ?_⟩
    have := hm.wf _ hc; omega

/-- A new block that is published at once. -/
theorem Spec.newPub {R : Rp} (h : ∀ a w C, SlotsOk σ a w C → MOk M w C → ∃ v ob, (execOp a.eval o).run P w = .ok (.value v) (w.alloc ob) ∧
    (∀ C' : Nat → Prop, (∀ b, C' b ↔ C b ∨ b = w.heap.size) → R.p (w.alloc ob) C' v)) : Spec P σ M o (.one R) := by
  intro a w C K Q hs hm hk
  obtain ⟨v, ob, hr, hv⟩ := h a w C hs hm
  unfold Oper.wp
  rw [hr]
  have he := new_eff w C ob
  refine hk () v _ (fun b => C b ∨ b = w.heap.size) ⟨he.size, he.keep, fun b hb _ => ?_, rfl, rfl, rfl⟩ (fun b hb => ?_) (hv _ fun b => Iff.rfl) MNew.nil
  · exact ⟨fun h => h.resolve_right (by omega), .inl⟩
  · rw [new_size]
    rcases hb with hb | hb
    · have := hm.wf b hb; omega
    · omega

theorem pub_of_new {w : World} {C C' : Nat → Prop} {ob : Obj} (hwf : ∀ b, C b → b < w.heap.size) (h : ∀ b, C' b ↔ C b ∨ b = w.heap.size) : Pub w C (w.alloc ob) C' :=
  fun b hb => ⟨(h b).2 (.inl hb), (new_eff w C ob).keep b (hwf b hb) (by simp)⟩

/-- What 'alloc', 'box' yield. -/
def RA.box (T : TypeId) (Rs : List Rp) : RA := ⟨Nat, fun r => Rp.ptr r 0, fun r => [MF.box r T Rs]⟩

theorem allR_take {Rs w C} {cs : List Value} (h : AllR Rs w C cs) : AllR Rs w C (cs.take Rs.length) := by
  have := h.1.length
  rw [List.take_of_length_le (by omega)]; exact h

theorem row_new {w : World} {C : Nat → Prop} {T : TypeId} {Rs : List Rp} {cs : Array Value} (hwf : ∀ b, C b → b < w.heap.size) (h : AllR Rs w C cs.toList) :
    (MF.box w.heap.size T Rs).p (w.alloc (.cells cs T)) C := by
  refine ⟨cs, new_at _ _, ?_, allR_take (h.mono ((new_eff w C _).pub hwf (by simp)))⟩
  have := h.1.length
  simpa using this

theorem spec_box {T : TypeId} {x : Operand} {Rs : List Rp} (h : o.op = .box T x) (hx : GetC σ x Rs) : Spec P σ M o (.box T Rs) :=
  Spec.new (A := .box T Rs) (fun r => r) fun a w C hs hm => ⟨.pointer (some ⟨w.heap.size, 0, none⟩), .cells (a.eval x).cells T, by
    simp [execOp, h, Instr.box, newVar, newRow], rfl, rfl, fun G hG => by
      have : G = MF.box w.heap.size T Rs := by simpa [RA.box] using hG
      subst this
      exact row_new hm.wf (hx a w C hs)⟩

theorem spec_alloc {T size bytes z} {Rs : List Rp} (h : o.op = .alloc T) (hT : TI P T size bytes z) (hz : ∀ w C, AllR Rs w C z.cells.toList) : Spec P σ M o (.box T Rs) :=
  Spec.new (A := .box T Rs) (fun r => r) fun a w C hs hm => ⟨.pointer (some ⟨w.heap.size, 0, none⟩), .cells z.cells T, by
    simp [execOp, h, Instr.alloc, hT.zero, newVar, newRow], rfl, rfl, fun G hG => by
      have : G = MF.box w.heap.size T Rs := by simpa [RA.box] using hG
      subst this
      exact row_new hm.wf (hz w C)⟩

/-! Values put together. -/
def splice (Zs : List Rp) (off : Nat) (Rs : List Rp) : List Rp := Zs.take off ++ Rs ++ Zs.drop (off + Rs.length)

theorem fold_set (off : Nat) : ∀ (cs : List Value) (k : Nat) (cells : Array Value), off + k + cs.length ≤ cells.size →
    ((cs.zipIdx k).foldl (fun acc x => acc.setIfInBounds (off + x.2) x.1) cells).toList = cells.toList.take (off + k) ++ cs ++ cells.toList.drop (off + k + cs.length) := by
  intro cs
  induction cs with
  | nil => intro k cells h; simp
  | cons c cs ih =>
    intro k cells h
    simp only [List.zipIdx_cons, List.foldl_cons]
    rw [ih (k + 1) _ (by simp at h ⊢; omega)]
    simp only [Array.toList_setIfInBounds, List.length_cons] at h ⊢
    have h1 : off + k < cells.toList.length := by simp; omega
    have h2 : (cells.toList.set (off + k) c).take (off + (k + 1)) = cells.toList.take (off + k) ++ [c] := by
      rw [show off + (k + 1) = off + k + 1 by omega, List.take_add_one, List.take_set_of_le (Nat.le_refl _)]
      rw [List.getElem?_set_self h1]; rfl
    have h3 : (cells.toList.set (off + k) c).drop (off + (k + 1) + cs.length) = cells.toList.drop (off + k + (cs.length + 1)) := by
      rw [List.drop_set_of_lt (by omega)]; congr 1; omega
    rw [h2, h3]; simp

theorem AllR.splice {w C Zs} {cells : List Value} {off : Nat} {Rs : List Rp} {cs : List Value} (hz : AllR Zs w C cells) (hc : AllR Rs w C cs) :
    AllR (splice Zs off Rs) w C (cells.take off ++ cs ++ cells.drop (off + cs.length)) := by
  unfold Sim.splice
  rw [hc.1.length]
  refine AllR.append (AllR.append ?_ hc) ?_
  · have := hz.sub 0 off; simpa using this
  · have h1 := hz.sub (off + Rs.length) Zs.length
    rw [List.take_of_length_le (by simp), List.take_of_length_le (by have := hz.1.length; simp; omega)] at h1
    exact h1

/-- The parts of a composite: what stands where. -/
inductive Parts (σ : Nat → Option Rp) (place : Nat → Option (Nat × Nat)) : List (Nat × Operand) → List Rp → List Rp → Prop
  | nil {Zs : List Rp} : Parts σ place [] Zs Zs
  | cons {i : Nat} {x : Operand} {rest : List (Nat × Operand)} {Zs Rs Zs' : List Rp} {off size : Nat} (hx : GetC σ x Rs) (hp : place i = some (off, size)) (hl : Rs.length = size) (hf : Nat.ble (off + size) Zs.length = true)
      (h : Parts σ place rest (splice Zs off Rs) Zs') : Parts σ place ((i, x) :: rest) Zs Zs'

theorem fill_parts {place : Nat → Option (Nat × Nat)} {a : Act} {w : World} {C : Nat → Prop} (hs : SlotsOk σ a w C) : ∀ {ps Zs Zs'}, Parts σ place ps Zs Zs' → ∀ cells : Array Value, AllR Zs w C cells.toList →
    ∃ cells' : Array Value, Instr.fill place cells (ps.map fun x => (x.1, a.eval x.2)) = some cells' ∧ AllR Zs' w C cells'.toList := by
  intro ps Zs Zs' h
  induction h with
  | nil => intro cells hc; exact ⟨cells, rfl, hc⟩
  | cons hx hp hl hf _ ih =>
    intro cells hc
    rename_i i x rest Zs Rs Zs' off size _
    have hxc := hx a w C hs
    have hlen := hxc.1.length
    have hclen := hc.1.length
    have hf' : off + size ≤ Zs.length := by simpa using hf
    have hsz : (a.eval x).cells.size = size := by rw [← Array.length_toList, hlen, hl]
    have hcs : cells.size = Zs.length := by rw [← Array.length_toList]; exact hclen
    obtain ⟨cells', h1, h2⟩ := ih ((a.eval x).cells.zipIdx.foldl (fun cs (c, j) => cs.setIfInBounds (off + j) c) cells) (by
      have := fold_set off (a.eval x).cells.toList 0 cells (by simp; omega)
      rw [← Array.foldl_toList]
      rw [Array.toList_zipIdx]
      rw [this]
      simp only [Nat.add_zero]
      exact hc.splice hxc)
    refine ⟨cells', ?_, h2⟩
    simp only [List.map_cons, Instr.fill, hp]
    rw [if_neg]
    · exact h1
    · simp only [hsz, ne_eq, not_true, decide_false, Bool.false_or, decide_eq_true_eq]
      omega

theorem spec_build {T : TypeId} {ps : Array (Nat × Operand)} {size bytes : Nat} {z : Value} {fs : Array Field} {places : Array (Nat × Nat)} {Zs Rs : List Rp}
    (h : o.op = .build T ps) (hT : TI P T size bytes z) (hz : ∀ w C, AllR Zs w C z.cells.toList) (hu : P.underlying T = some (.struct fs))
    (hpl : ∀ w, (fs.mapM fun f => do pure (f.offset, ← sizeOf f.type) : Sem (Array (Nat × Nat))).run P w = .ok places w) (hps : Parts σ (places[·]?) ps.toList Zs Rs) : Spec P σ M o (.one (Rp.agg Rs)) :=
  Spec.of_run fun a w C hs _ => by
    obtain ⟨cells', h1, h2⟩ := fill_parts hs hps z.cells (hz w C)
    refine ⟨.agg cells', ?_, cells'.toList, by simp, h2⟩
    simp only [execOp, h, Instr.build, Sem.run_bind, hT.zero, Result.andThen_ok, run_underlying hu, hpl]
    simp only [Array.toList_map, h1]
    rfl
theorem spec_buildArr {T : TypeId} {ps : Array (Nat × Operand)} {size bytes n esize : Nat} {E : TypeId} {z : Value} {Zs Rs : List Rp}
    (h : o.op = .build T ps) (hT : TI P T size bytes z) (hz : ∀ w C, AllR Zs w C z.cells.toList) (hu : P.underlying T = some (.array n E))
    (hE : ∀ w, (sizeOf E).run P w = .ok esize w) (hps : Parts σ (fun i => some (i * esize, esize)) ps.toList Zs Rs) : Spec P σ M o (.one (Rp.agg Rs)) :=
  Spec.of_run fun a w C hs _ => by
    obtain ⟨cells', h1, h2⟩ := fill_parts hs hps z.cells (hz w C)
    refine ⟨.agg cells', ?_, cells'.toList, by simp, h2⟩
    simp only [execOp, h, Instr.build, Sem.run_bind, hT.zero, Result.andThen_ok, run_underlying hu, hE]
    simp only [Array.toList_map, h1]
    rfl

/-! Loads. -/
theorem cell_row {w : World} {r : Nat} {cs : Array Value} {T fr} (h : w.heap[r]? = some (.cells cs T fr)) (i : Nat) : w.cell? ⟨r, i, none⟩ = cs[i]? := by
  simp [World.cell?, h]
theorem addr_add (r off j : Nat) : (⟨r, off, none⟩ : Addr).add j = ⟨r, off + j, none⟩ := by
  unfold Addr.add; split <;> simp_all

theorem run_load_row {w : World} {r off : Nat} {cs : Array Value} {T fr} {v : Value} (h : w.heap[r]? = some (.cells cs T fr)) (hv : cs[off]? = some v) {t : TypeId} (ha : (isAgg t).run P w = .ok false w) :
    (Instr.loadAt t (.pointer (some ⟨r, off, none⟩))).run P w = .ok v w := by
  simp [Instr.loadAt, Instr.sureAddr, loadVar, ha, cell_row h, hv]
theorem run_loadA_row {w : World} {r off n : Nat} {cs : Array Value} {T fr} (h : w.heap[r]? = some (.cells cs T fr)) (hn : off + n ≤ cs.size) {t : TypeId} (ha : (isAgg t).run P w = .ok true w) (hs : (sizeOf t).run P w = .ok n w) :
    (Instr.loadAt t (.pointer (some ⟨r, off, none⟩))).run P w = .ok (.agg ((cs.toList.drop off).take n).toArray) w := by
  have := run_loadCells_list (P := P) (w := w) ⟨r, off, none⟩ ((cs.toList.drop off).take n) (fun j v hj => by
    rw [addr_add, cell_row h]
    rw [List.getElem?_take] at hj
    split at hj
    · simpa using hj
    · cases hj)
  have hl : ((cs.toList.drop off).take n).length = n := by simp; omega
  rw [hl] at this
  simp [Instr.loadAt, Instr.sureAddr, loadVar, ha, hs, this]

theorem row_fact {F : MF} {r T m : Nat} {Rs : List Rp} {w C} (hm : MOk M w C) {k : Nat} (hk : M[k]? = some F) (hF : F = MF.row r T m Rs) :
    ∃ cs : Array Value, w.heap[r]? = some (.cells cs T (0, 0)) ∧ cs.size = m ∧ AllR Rs w C (cs.toList.take Rs.length) := by
  subst hF; exact hm.facts _ (List.mem_of_getElem? hk)

theorem spec_load1 {t : TypeId} {x : Operand} {r off T m k : Nat} {Rs : List Rp} {R : Rp} (h : o.op = .load t x) (ha : ∀ w, (isAgg t).run P w = .ok false w) (hx : Get σ x (Rp.ptr r off)) (hk : M[k]? = some (MF.row r T m Rs)) (hR : Rs[off]? = some R) : Spec P σ M o (.one R) :=
  Spec.of_run fun a w C hs hm => by
    obtain ⟨cs, h1, h2, h3⟩ := row_fact hm hk rfl
    obtain ⟨v, hv, hR'⟩ := h3.1.get _ hR
    have hv' : cs[off]? = some v := by
      rw [List.getElem?_take] at hv
      split at hv
      · simpa using hv
      · cases hv
    exact ⟨v, by simp [execOp, h, show a.eval x = _ from hx a w C hs, run_load_row h1 hv' (ha w)], hR'⟩
theorem spec_loadA {t : TypeId} {x : Operand} {r off T m k n : Nat} {Rs : List Rp} (h : o.op = .load t x) (ha : ∀ w, (isAgg t).run P w = .ok true w) (hn : ∀ w, (sizeOf t).run P w = .ok n w) (hx : Get σ x (Rp.ptr r off)) (hk : M[k]? = some (MF.row r T m Rs))
    (hb : Nat.ble (off + n) Rs.length = true) : Spec P σ M o (.one (Rp.agg ((Rs.drop off).take n))) :=
  Spec.of_run fun a w C hs hm => by
    obtain ⟨cs, h1, h2, h3⟩ := row_fact hm hk rfl
    have hb' : off + n ≤ Rs.length := by simpa using hb
    have hl := h3.1.length
    simp only [List.length_take, Array.length_toList] at hl
    refine ⟨_, by simp [execOp, h, show a.eval x = _ from hx a w C hs, run_loadA_row h1 (n := n) (off := off) (by omega) (ha w) (hn w)]; rfl, _, rfl, ?_⟩
    have := h3.sub off n
    rw [List.drop_take, List.take_take, Nat.min_eq_left (by omega)] at this
    exact this
/-- A whole variable. -/
theorem spec_loadW {t : TypeId} {x : Operand} {r T k n : Nat} {Rs : List Rp} (h : o.op = .load t x) (ha : ∀ w, (isAgg t).run P w = .ok true w) (hn : ∀ w, (sizeOf t).run P w = .ok n w) (hx : Get σ x (Rp.ptr r 0)) (hk : M[k]? = some (MF.box r T Rs))
    (hb : Rs.length = n) : Spec P σ M o (.one (Rp.agg Rs)) := by
  have := spec_loadA (P := P) (o := o) h ha hn hx hk (by rw [hb]; simp)
  rw [List.drop_zero, List.take_of_length_le (by omega)] at this
  exact this

/-- From a published place. -/
theorem spec_loadP1 {t x} {R : Rp} (h : o.op = .load t x) (ha : ∀ w, (isAgg t).run P w = .ok false w) (hx : Get σ x (Rp.at [R])) : Spec P σ M o (.one R) :=
  Spec.of_run fun a w C hs hm => by
    obtain ⟨ad, hv, hsp, hC, cs, T, fr, h1, h3⟩ := hx a w C hs
    obtain ⟨v, hv', hR'⟩ := h3.1.get 0 (R := R) rfl
    have hv'' : cs[ad.off]? = some v := by
      rw [List.getElem?_take] at hv'
      simpa using hv'
    have : ad = ⟨ad.block, ad.off, none⟩ := by cases ad; simp_all
    rw [this] at hv
    exact ⟨v, by simp [execOp, h, hv, run_load_row h1 hv'' (ha w)], hR'⟩
theorem spec_loadPA {t x n} {Rs : List Rp} (h : o.op = .load t x) (ha : ∀ w, (isAgg t).run P w = .ok true w) (hn : ∀ w, (sizeOf t).run P w = .ok n w) (hx : Get σ x (Rp.at Rs)) (hl : Rs.length = n) : Spec P σ M o (.one (Rp.agg Rs)) :=
  Spec.of_run fun a w C hs hm => by
    obtain ⟨ad, hv, hsp, hC, cs, T, fr, h1, h3⟩ := hx a w C hs
    have hlen := h3.1.length
    simp only [List.length_take, List.length_drop, Array.length_toList] at hlen
    have : ad = ⟨ad.block, ad.off, none⟩ := by cases ad; simp_all
    rw [this] at hv
    refine ⟨.agg ((cs.toList.drop ad.off).take n).toArray, ?_, _, rfl, hl ▸ h3⟩
    by_cases hn0 : n = 0
    · subst hn0
      simp [execOp, h, hv, Instr.loadAt, Instr.sureAddr, loadVar, ha, hn, loadCells, loadCellsFrom]
    · simp [execOp, h, hv, run_loadA_row h1 (n := n) (off := ad.off) (by omega) (ha w) (hn w)]

/-! Addresses. -/
theorem spec_fieldAddr {T x f r off off'} {fs : Array Field} {fd : Field} {n : Nat} (h : o.op = .fieldAddr T x f) (hu : P.underlying T = some (.struct fs)) (hf : fs[f]? = some fd) (hn : ∀ w, (sizeOf fd.type).run P w = .ok (n + 1) w)
    (hx : Get σ x (Rp.ptr r off)) (ho : off + fd.offset = off') : Spec P σ M o (.one (Rp.ptr r off')) :=
  Spec.of_run fun a w C hs hm => ⟨.pointer (some ⟨r, off', none⟩), by
    subst ho
    simp [execOp, h, show a.eval x = _ from hx a w C hs, Instr.fieldAt, run_underlying hu, hf, Instr.sureAddr, fieldPlace, hn, addr_add], rfl⟩
theorem rowAt_sub {w C Rs a} (i k : Nat) (hk : i + k ≤ Rs.length) (h : RowAt Rs w C a) : RowAt ((Rs.drop i).take k) w C (a.add i) := by
  obtain ⟨h1, h2, cs, T, fr, h3, h4⟩ := h
  have hadd : a.add i = ⟨a.block, a.off + i, none⟩ := by unfold Addr.add; split <;> (cases a; simp_all)
  rw [hadd]
  refine ⟨rfl, h2, cs, T, fr, h3, ?_⟩
  have := h4.sub i k
  rw [List.drop_take, List.take_take, List.drop_drop, Nat.min_eq_left (by omega)] at this
  simp only [List.length_take, List.length_drop]
  rw [Nat.min_eq_left (by omega)]
  exact this
theorem spec_fieldAddrP {T x f} {Rs Rs' : List Rp} {fs : Array Field} {fd : Field} {n : Nat} (h : o.op = .fieldAddr T x f) (hu : P.underlying T = some (.struct fs)) (hf : fs[f]? = some fd) (hn : ∀ w, (sizeOf fd.type).run P w = .ok (n + 1) w)
    (hx : Get σ x (Rp.at Rs)) (hb : Nat.ble (fd.offset + (n + 1)) Rs.length = true) (ho : (Rs.drop fd.offset).take (n + 1) = Rs') : Spec P σ M o (.one (Rp.at Rs')) :=
  Spec.of_run fun a w C hs hm => by
    obtain ⟨ad, hv, hrow⟩ := hx a w C hs
    refine ⟨.pointer (some (ad.add fd.offset)), by simp [execOp, h, hv, Instr.fieldAt, run_underlying hu, hf, Instr.sureAddr, fieldPlace, hn], _, rfl, ?_⟩
    rw [← ho]
    exact rowAt_sub _ _ (by simpa using hb) hrow

theorem flatMap_drop {α : Type} {E : α → List Rp} {n : Nat} (hn : ∀ x, (E x).length = n) : ∀ (xs : List α) (i : Nat), (xs.flatMap E).drop (i * n) = (xs.drop i).flatMap E
  | [], i => by simp
  | x :: xs, 0 => by simp
  | x :: xs, i + 1 => by
    rw [List.flatMap_cons, List.drop_succ_cons, ← flatMap_drop hn xs i, List.drop_append, hn]
    rw [List.drop_of_length_le (by rw [hn]; exact Nat.le_mul_of_pos_left _ (by omega)), List.nil_append]
    congr 1
    rw [Nat.add_mul]; omega
theorem flatMap_take {α : Type} {E : α → List Rp} {n : Nat} (hn : ∀ x, (E x).length = n) : ∀ (xs : List α) (i : Nat), (xs.flatMap E).take (i * n) = (xs.take i).flatMap E
  | [], i => by simp
  | x :: xs, 0 => by simp
  | x :: xs, i + 1 => by
    rw [List.flatMap_cons, List.take_succ_cons, List.flatMap_cons, ← flatMap_take hn xs i, List.take_append, hn]
    rw [List.take_of_length_le (by rw [hn]; exact Nat.le_mul_of_pos_left _ (by omega))]
    congr 2
    rw [Nat.add_mul]; omega
theorem flatMap_len {α : Type} {E : α → List Rp} {n : Nat} (hn : ∀ x, (E x).length = n) : ∀ (xs : List α), (xs.flatMap E).length = xs.length * n
  | [] => by simp
  | x :: xs => by rw [List.flatMap_cons, List.length_append, hn, flatMap_len hn xs, List.length_cons, Nat.add_mul]; omega
theorem flatMap_one {α : Type} {E : α → List Rp} {n : Nat} (hn : ∀ x, (E x).length = n) (xs : List α) {i : Nat} {y : α} (h : xs[i]? = some y) : ((xs.flatMap E).drop (i * n)).take n = E y := by
  rw [flatMap_drop hn]
  have hi : i < xs.length := (List.getElem?_eq_some_iff.1 h).1
  rw [List.drop_eq_getElem_cons hi, List.flatMap_cons]
  have : xs[i] = y := (List.getElem?_eq_some_iff.1 h).2
  rw [this, List.take_append_of_le_length (by rw [hn]; exact Nat.le_refl _), List.take_of_length_le (by rw [hn]; exact Nat.le_refl _)]

theorem spec_indexAddr {α : Type} {T x ix e n} {E : α → List Rp} {xs : List α} {k : IntKind} {i : Int} {y : α} (h : o.op = .indexAddr T x ix) (hu : P.underlying T = some (.slice e)) (hn : ∀ w, (sizeOf e).run P w = .ok n w)
    (hE : ∀ x, (E x).length = n) (hx : Get σ x (Rp.slice E xs)) (hi : Get σ ix (Rp.int k i)) (hr : 0 ≤ i ∧ xs[i.toNat]? = some y) : Spec P σ M o (.one (Rp.at (E y))) :=
  Spec.of_run fun a w C hs hm => by
    have hlt : i.toNat < xs.length := (List.getElem?_eq_some_iff.1 hr.2).1
    obtain ⟨_, hv⟩ := hx a w C hs
    rcases hv with ⟨_, hnil⟩ | ⟨ad, cap, hv, _, hrow⟩
    · rw [hnil] at hlt; simp at hlt
    · have hrow := hrow.resolve_left (fun h0 => by rw [h0] at hlt; simp at hlt)
      refine ⟨.pointer (some (ad.add (i.toNat * n))), ?_, _, rfl, ?_⟩
      · simp [execOp, h, hv, get_int hi hs, Instr.indexAt, asIntOf, run_underlying hu, hn, hr.1, show i < (xs.length : Int) by omega]
      · have := rowAt_sub (i.toNat * n) n (by rw [flatMap_len hE]; calc i.toNat * n + n = (i.toNat + 1) * n := by rw [Nat.add_mul]; omega
                                                _ ≤ xs.length * n := Nat.mul_le_mul_right _ hlt) hrow
        rw [flatMap_one hE xs hr.2] at this
        exact this

/-! Lengths, parts of slices. -/
theorem spec_len {α : Type} {T e x} {E : α → List Rp} {xs : List α} (h : o.op = .call ⟨.builtin .len, #[x], #[T]⟩) (hu : P.underlying T = some (.slice e)) (hx : Get σ x (Rp.slice E xs)) : Spec P σ M o (.one (Rp.int .i64 xs.length)) :=
  Spec.of_run fun a w C hs hm => by
    obtain ⟨hl, hv⟩ := hx a w C hs
    refine ⟨.int .i64 xs.length, ?_, rfl, by simp only [InR]; omega⟩
    rcases hv with ⟨hv, hnil⟩ | ⟨ad, cap, hv, _, hrow⟩
    · simp [execOp, h, resolve, invoke, builtin, Builtin.len_, run_underlying hu, hv, hnil, goInt]
    · simp [execOp, h, resolve, invoke, builtin, Builtin.len_, run_underlying hu, hv, goInt]
theorem spec_lenS {T x} {l : List UInt8} (h : o.op = .call ⟨.builtin .len, #[x], #[T]⟩) (hu : P.underlying T = some .string) (hx : Get σ x (Rp.str l)) : Spec P σ M o (.one (Rp.int .i64 l.length)) :=
  Spec.of_run fun a w C hs hm => by
    obtain ⟨hv, hl⟩ := hx a w C hs
    refine ⟨.int .i64 l.length, ?_, rfl, by simp only [InR]; omega⟩
    simp [execOp, h, resolve, invoke, builtin, Builtin.len_, run_underlying hu, hv, goInt]
    rfl

/-- An optional bound of a slice. -/
inductive Bnd (σ : Nat → Option Rp) : Option Operand → Nat → Nat → Prop
  | none {d : Nat} : Bnd σ Option.none d d
  | some {x : Operand} {k : IntKind} {i : Int} {d : Nat} (hx : Get σ x (Rp.int k i)) (hi : 0 ≤ i) : Bnd σ (Option.some x) d i.toNat

theorem run_bound {x : Operand} {k : IntKind} {i : Int} {a : Act} {w : World} {C : Nat → Prop} (hs : SlotsOk σ a w C) (hx : Get σ x (Rp.int k i)) (hi : 0 ≤ i) {y : Nat} (hy : i.toNat ≤ y) (code : BoundsCode) :
    (Instr.sliceBound (a.eval x) y code).run P w = .ok i.toNat w := by
  simp [Instr.sliceBound, get_int hx hs, asIntOf, hi, show i ≤ (y : Int) by omega]

theorem run_bounds {lo hi : Option Operand} {l r len cap : Nat} {b : Bool} {a : Act} {w : World} {C : Nat → Prop} (hs : SlotsOk σ a w C) (hlo : Bnd σ lo 0 l) (hhi : Bnd σ hi len r) (hlr : l ≤ r) (hr : r ≤ len) (hcap : len ≤ cap) :
    (Instr.sliceBounds b len cap (lo.map a.eval) (hi.map a.eval) none).run P w = .ok (l, r, cap) w := by
  unfold Instr.sliceBounds
  cases hlo with
  | none =>
    cases hhi with
    | none => simp
    | some hx hi => simp [run_bound hs hx hi (show _ ≤ cap by omega)]
  | some hx hi =>
    cases hhi with
    | none => simp [run_bound hs hx hi hlr]
    | some hx' hi' => simp [run_bound hs hx' hi' (show _ ≤ cap by omega), run_bound hs hx hi hlr]

theorem spec_slice {α : Type} {T x e n} {lo hi : Option Operand} {E : α → List Rp} {xs : List α} {l r : Nat} (h : o.op = .slice T x lo hi none) (hu : P.underlying T = some (.slice e)) (hn : ∀ w, (sizeOf e).run P w = .ok n w)
    (hE : ∀ x, (E x).length = n) (hx : Get σ x (Rp.slice E xs)) (hlo : Bnd σ lo 0 l) (hhi : Bnd σ hi xs.length r) (hb : l ≤ r ∧ r ≤ xs.length) : Spec P σ M o (.one (Rp.slice E ((xs.drop l).take (r - l)))) :=
  Spec.of_run fun a w C hs hm => by
    obtain ⟨hl, hv⟩ := hx a w C hs
    have hlen : ((xs.drop l).take (r - l)).length = r - l := by simp; omega
    rcases hv with ⟨hv, hnil⟩ | ⟨ad, cap, hv, hcap, hrow⟩
    · subst hnil
      have h0 : l = 0 ∧ r = 0 := by simp at hb; omega
      obtain ⟨rfl, rfl⟩ := h0
      refine ⟨.slice none 0 0, ?_, by simp, .inl ⟨rfl, by simp⟩⟩
      have := run_bounds (P := P) (b := true) (w := w) (cap := 0) hs hlo (by simpa using hhi) (Nat.le_refl 0) (Nat.le_refl 0) (Nat.le_refl 0)
      simp [execOp, h, Instr.sliceAt, run_underlying hu, hv, Instr.slice, this, hn]
    · have hb1 := run_bounds (P := P) (b := true) (w := w) (cap := cap) hs hlo hhi hb.1 hb.2 hcap
      refine ⟨.slice (some (if cap = l then ad else ad.add (l * n))) (r - l) (cap - l), ?_, by rw [hlen]; omega, .inr ⟨_, cap - l, by rw [hlen], by rw [hlen]; omega, ?_⟩⟩
      · simp [execOp, h, Instr.sliceAt, run_underlying hu, hv, Instr.slice, hb1, hn]
        split <;> rfl
      · rcases hrow with h0 | hrow
        · exact .inl (by rw [h0]; simp)
        refine .inr ?_
        have hsub := rowAt_sub (l * n) ((r - l) * n) (by rw [flatMap_len hE, ← Nat.add_mul]; exact Nat.mul_le_mul_right _ (by omega)) hrow
        rw [flatMap_drop hE, flatMap_take hE] at hsub
        split
        · rename_i hcl
          have h0 : r - l = 0 := by omega
          rw [h0] at hsub ⊢
          simp only [List.take_zero, List.flatMap_nil] at hsub ⊢
          obtain ⟨h1, h2, cs, T', fr, h3, h4⟩ := hrow
          exact ⟨h1, h2, cs, T', fr, h3, by simp [AllR, AllP]⟩
        · exact hsub

/-! Nil. -/
theorem eval_const {a : Act} {v : Value} : a.eval (.const v) = v := rfl
theorem equalIn_nil_right {w : World} {T e : TypeId} {a n c b m} (d : Nat) (hu : P.underlying T = some (.slice e)) (ha : a ≠ none) : (Op.equalIn (d + 1) T (.slice a n c) (.slice none b m)).run P w = .ok false w := by
  cases a with
  | none => exact absurd rfl ha
  | some a => simp only [Op.equalIn, Sem.run_bind, run_underlying hu, Result.andThen_ok, Sem.run_pure]
theorem equalIn_nil_nil {w : World} {T e : TypeId} {n c b m} (d : Nat) (hu : P.underlying T = some (.slice e)) : (Op.equalIn (d + 1) T (.slice none n c) (.slice none b m)).run P w = .ok true w := by
  simp only [Op.equalIn, Sem.run_bind, run_underlying hu, Result.andThen_ok, Sem.run_pure]; rfl
theorem eqGuard_slice {P : Program} {w : World} (op : BinOp) (t : TypeId) (x y : Operand) {a n c b m d} : (eqGuard op t x y (.slice a n c) (.slice b m d)).run P w = .ok () w := by
  unfold eqGuard; split <;> simp
def RA.nilTest {α : Type} (xs : List α) : RA := ⟨{b : Bool // b = true → xs = []}, fun b => Rp.bool b.1, fun _ => []⟩
theorem spec_eqlNil {α : Type} {T T' e x n c} {E : α → List Rp} {xs : List α} (h : o.op = .binOp .eql T x (.const (.slice none n c)) T') (hu : P.underlying T = some (.slice e)) (hx : Get σ x (Rp.slice E xs)) : Spec P σ M o (.nilTest xs) := by
  intro a w C K Q hs hm hk
  obtain ⟨hl, hv⟩ := hx a w C hs
  unfold Oper.wp
  rcases hv with ⟨hv, hnil⟩ | ⟨ad, cap, hv, _, hrow⟩
  · have : (execOp a.eval o).run P w = .ok (.value (.bool true)) w := by
      simp only [execOp, h, hv, eval_const, Sem.run_bind, eqGuard_slice, Result.andThen_ok, binOp, show ∀ (x y : Value), Op.equal T x y = Op.equalIn (9999 + 1) T x y from fun _ _ => rfl, equalIn_nil_nil _ hu, Sem.run_pure]
    rw [this]
    exact hk ⟨true, fun _ => hnil⟩ _ w C (Eff.refl _ _ _) hm.wf rfl MNew.nil
  · have : (execOp a.eval o).run P w = .ok (.value (.bool false)) w := by
      simp only [execOp, h, hv, eval_const, Sem.run_bind, eqGuard_slice, Result.andThen_ok, binOp, show ∀ (x y : Value), Op.equal T x y = Op.equalIn (9999 + 1) T x y from fun _ _ => rfl, equalIn_nil_right _ hu (a := some ad) (by simp), Sem.run_pure]
    rw [this]
    exact hk ⟨false, fun h => by cases h⟩ _ w C (Eff.refl _ _ _) hm.wf rfl MNew.nil

end
end Go.Sim
/- What is changed: stores, slices that the call owns, and calls, entries and returns of functions. -/
namespace Go.Sim

section
variable {P : Program} {B : Base} {n : Nat} {S : List (Nat × Rp)} {M : List MF} {Q : Exit → Act → World → Prop} {ops : Array Oper} {rest : List Oper} {o : Oper}

theorem set_perm {α : Type _} : ∀ (l : List α) (k : Nat) (x y : α), l[k]? = some x → (l.set k y).Perm (y :: l.eraseIdx k)
  | [], k, x, y, h => by simp at h
  | z :: l, 0, x, y, h => by simp
  | z :: l, k + 1, x, y, h => by
    simp only [List.getElem?_cons_succ] at h
    simp only [List.set_cons_succ, List.eraseIdx_cons_succ]
    exact ((set_perm l k x y h).cons z).trans (List.Perm.swap y z _)

/-- The memory behind a change of one owned fact. -/
theorem MOk.upd {F F' : MF} {R : List MF} {w C w' C'} (h : MOk (F :: R) w C) (he : Eff F.foot w C w' C') (hwf : ∀ b, C' b → b < w'.heap.size) (hF : F'.p w' C') (hnd : F'.foot.Nodup)
    (hf : ∀ b ∈ F'.foot, (b ∈ F.foot ∧ ¬ C' b) ∨ (w.heap.size ≤ b ∧ b < w'.heap.size ∧ ¬ C' b)) : MOk (F' :: R) w' C' := by
  have hfe : feet (F :: R) = F.foot ++ feet R := by simp [feet]
  have hfe' : feet (F' :: R) = F'.foot ++ feet R := by simp [feet]
  have hdis : ∀ b ∈ feet R, b ∉ F.foot := by
    intro b hb hbF
    have := h.nodup
    rw [hfe, List.nodup_append] at this
    exact this.2.2 b hbF b hb rfl
  have hpub : Pub w C w' C' := he.pub h.wf (fun b hb => (h.own b (by rw [hfe]; exact List.mem_append_left _ hb)).2)
  have hR : ∀ b ∈ feet R, b < w.heap.size ∧ ¬ C b := fun b hb => h.own b (by rw [hfe]; exact List.mem_append_right _ hb)
  refine ⟨fun G hG => ?_, ?_, fun b hb => ?_, hwf⟩
  · rcases List.mem_cons.1 hG with rfl | hG
    · exact hF
    · refine G.loc hpub (fun b hb => ?_) (h.facts G (List.mem_cons_of_mem _ hG))
      have hbR : b ∈ feet R := mem_feet.2 ⟨G, hG, hb⟩
      exact he.keep b (hR b hbR).1 (hdis b hbR)
  · rw [hfe', List.nodup_append]
    have := h.nodup
    rw [hfe, List.nodup_append] at this
    refine ⟨hnd, this.2.1, fun b hb c hc hbc => ?_⟩
    subst hbc
    rcases hf b hb with h1 | h1
    · exact hdis b hc h1.1
    · have := (hR b hc).1; omega
  · rw [hfe'] at hb
    rcases List.mem_append.1 hb with hb | hb
    · rcases hf b hb with h1 | h1
      · exact ⟨Nat.lt_of_lt_of_le (h.own b (by rw [hfe]; exact List.mem_append_left _ h1.1)).1 he.size, h1.2⟩
      · exact h1.2
    · exact ⟨Nat.lt_of_lt_of_le (hR b hb).1 he.size, fun hc => (hR b hb).2 ((he.cl b (hR b hb).1 (hdis b hb)).1 hc)⟩

/-- The state behind an operation that changes the k-th owned fact. -/
theorem St.upd {a : Act} {w C w' C'} {F F' : MF} {k : Nat} {R : Rp} {v : Value} {dst : Option Nat} (hd : ∀ d, dst = some d → d < n) (st : St B n S M a w C) (hk : M[k]? = some F)
    (he : Eff F.foot w C w' C') (hwf : ∀ b, C' b → b < w'.heap.size) (hv : R.p w' C' v) (hF : F'.p w' C') (hnd : F'.foot.Nodup)
    (hf : ∀ b ∈ F'.foot, (b ∈ F.foot ∧ ¬ C' b) ∨ (w.heap.size ≤ b ∧ b < w'.heap.size ∧ ¬ C' b)) : St B n (putS dst R S) (M.set k F') (a.put dst v) w' C' := by
  have hp := perm_eraseIdx M k F hk
  have hm := st.mem.perm hp
  have hFM : ∀ b ∈ F.foot, b ∈ feet M := fun b hb => mem_feet.2 ⟨F, List.mem_of_getElem? hk, hb⟩
  have hpub : Pub w C w' C' := he.pub st.mem.wf (fun b hb => (st.mem.own b (hFM b hb)).2)
  have hm' := (hm.upd he hwf hF hnd hf).perm (set_perm M k F F' hk).symm
  refine ⟨(put_size _ _ _).trans st.size, (put_defers' _ _ _).trans st.defers, slots_put st.size hd st.slots hpub hv, hm', st.eff.trans he (fun b hb => st.since b (hFM b hb)), fun b hb => ?_⟩
  rcases List.mem_append.1 (show b ∈ F'.foot ++ feet (M.eraseIdx k) by
    have := (feet_perm (set_perm M k F F' hk)).mem_iff.1 hb
    simpa [feet] using this) with hb | hb
  · rcases hf b hb with h1 | h1
    · exact st.since b (hFM b h1.1)
    · exact .inr (Nat.le_trans st.eff.size h1.1)
  · obtain ⟨G, hG, hbG⟩ := mem_feet.1 hb
    exact st.since b (mem_feet.2 ⟨G, List.mem_of_mem_eraseIdx hG, hbG⟩)

/-! Stores. -/
theorem setCell_eff {w : World} {C : Nat → Prop} {r off : Nat} {v : Value} : Eff [r] w C (w.setCell ⟨r, off, none⟩ v) C where
  size := by simp [World.setCell]
  keep b _ hu := by
    simp only [World.setCell, Array.getElem?_modify]
    rw [if_neg (by simp at hu; omega)]
  cl _ _ _ := Iff.rfl
  os := rfl
  tape := rfl
  output := rfl
theorem setCell_at {w : World} {r off : Nat} {v : Value} {cs : Array Value} {T fr} (h : w.heap[r]? = some (.cells cs T fr)) :
    (w.setCell ⟨r, off, none⟩ v).heap[r]? = some (.cells (cs.setIfInBounds off v) T fr) := by
  simp [World.setCell, Array.getElem?_modify, h]

theorem run_store_row {w : World} {r off : Nat} {cs : Array Value} {T : TypeId} {v : Value} {t : TypeId} (h : w.heap[r]? = some (.cells cs T (0, 0))) (hoff : off < cs.size) (hv : v.oneCell' = true) (hn : (sizeOf t).run P w = .ok 1 w) :
    (Instr.storeAt t (.pointer (some ⟨r, off, none⟩)) v).run P w = .ok () (w.setCell ⟨r, off, none⟩ v) := by
  have hc : w.cell? ⟨r, off, none⟩ = some cs[off] := by rw [cell_row h]; simp [hoff]
  have hf : w.frozen? ⟨r, off, none⟩ = false := by simp [World.frozen?, h]
  have := run_store P w ⟨r, off, none⟩ v .plain hv
  rw [hc] at this
  simp only [hf] at this
  simp [Instr.storeAt, Instr.sureAddr, storeVar, cells_one hv, hn, storeCells, addr_add, this]

/-- A row that is changed at one cell. -/
theorem row_set {w : World} {C : Nat → Prop} {r T m off : Nat} {Rs : List Rp} {R : Rp} {v : Value} {cs : Array Value} (h : w.heap[r]? = some (.cells cs T (0, 0))) (hm : cs.size = m) (hc : AllR Rs w C (cs.toList.take Rs.length))
    (hp : Pub w C (w.setCell ⟨r, off, none⟩ v) C) (hv : R.p (w.setCell ⟨r, off, none⟩ v) C v) (h1 : v.oneCell' = true) :
    (MF.row r T m (Rs.set off R)).p (w.setCell ⟨r, off, none⟩ v) C := by
  refine ⟨_, setCell_at h, by simpa using hm, ?_⟩
  simp only [List.length_set, Array.toList_setIfInBounds]
  rw [List.take_set]
  refine ⟨(hc.mono hp).1.set off hv, fun u hu => ?_⟩
  rcases List.mem_or_eq_of_mem_set hu with hu | rfl
  · exact hc.2 u hu
  · exact h1

theorem L.store1 {t : TypeId} {x y : Operand} {r off T m k : Nat} {Rs : List Rp} {R : Rp} [ho : One R] (hg : o.guard = none) (hd : o.dst = none) (h : o.op = .store t x y) (hn : ∀ w, (sizeOf t).run P w = .ok 1 w)
    (hx : Get (look · S) x (Rp.ptr r off)) (hy : Get (look · S) y R) (hk : M[k]? = some (MF.row r T m Rs)) (hoff : Nat.blt off Rs.length = true)
    (hL : L P B n S (M.set k (MF.row r T m (Rs.set off R))) ops rest Q) : L P B n S M ops (o :: rest) Q := by
  intro a w C st
  refine wpList_plain hg fun K hK => ?_
  obtain ⟨cs, h1, h2, h3⟩ := row_fact st.mem hk rfl
  have hoff' : off < Rs.length := by simpa [Nat.blt_eq] using hoff
  have hv := hy a w C st.slots
  have h1c := ho.one _ _ _ hv
  have hlen := h3.1.length
  simp only [List.length_take, Array.length_toList] at hlen
  have hpub : Pub w C (w.setCell ⟨r, off, none⟩ (a.eval y)) C := setCell_eff.pub st.mem.wf (fun b hb => (st.mem.own b (mem_feet.2 ⟨_, List.mem_of_getElem? hk, hb⟩)).2)
  have hrun := run_store_row (P := P) (t := t) h1 (off := off) (by omega) h1c (hn w)
  unfold Oper.wp
  rw [show (execOp a.eval o).run P w = .ok .skip (w.setCell ⟨r, off, none⟩ (a.eval y)) by
    simp [execOp, h, show a.eval x = _ from hx a w C st.slots, hrun]]
  have st' := st.upd (R := Rp.val undef) (v := undef) (dst := none) (F' := MF.row r T m (Rs.set off R)) (by simp) hk (setCell_eff (off := off) (v := a.eval y)) (fun b hb => by have := st.mem.wf b hb; simpa [World.setCell] using this) rfl
    (row_set h1 h2 h3 hpub (R.mono hpub hv) h1c) (by simp [MF.row]) (fun b hb => .inl ⟨hb, (st.mem.own b (mem_feet.2 ⟨_, List.mem_of_getElem? hk, hb⟩)).2⟩)
  rw [Oper.upon_skip, hd]
  exact hK _ _ (hL _ _ C st')

/-- Several cells at once. -/
theorem run_storeA_row {w : World} {r off : Nat} {cs : Array Value} {T : TypeId} {vs : List Value} {t : TypeId} (h : w.heap[r]? = some (.cells cs T (0, 0))) (hoff : off + vs.length ≤ cs.size) (hv : ∀ v ∈ vs, v.oneCell' = true) (hn : (sizeOf t).run P w = .ok vs.length w) :
    (Instr.storeAt t (.pointer (some ⟨r, off, none⟩)) (.agg vs.toArray)).run P w = .ok () (w.setRow r (cs.toList.take off ++ vs ++ cs.toList.drop (off + vs.length)).toArray) := by
  have := run_storeCells_at P r off T vs 0 cs w h (by simpa using hoff) hv
  simp only [Nat.add_zero] at this
  simp [Instr.storeAt, Instr.sureAddr, storeVar, Value.cells, hn, this]

theorem setRow_eff {w : World} {C : Nat → Prop} {r : Nat} {cs : Array Value} : Eff [r] w C (w.setRow r cs) C where
  size := by simp
  keep b _ hu := setRow_other w r b cs (by simp at hu; omega)
  cl _ _ _ := Iff.rfl
  os := rfl
  tape := rfl
  output := rfl

theorem L.storeA {t : TypeId} {x y : Operand} {r off T m k sz : Nat} {Rs Rs' : List Rp} (hg : o.guard = none) (hd : o.dst = none) (h : o.op = .store t x y) (hn : ∀ w, (sizeOf t).run P w = .ok sz w)
    (hx : Get (look · S) x (Rp.ptr r off)) (hy : Get (look · S) y (Rp.agg Rs')) (hk : M[k]? = some (MF.row r T m Rs)) (hsz : Rs'.length = sz) (hoff : Nat.ble (off + Rs'.length) Rs.length = true)
    (hL : L P B n S (M.set k (MF.row r T m (splice Rs off Rs'))) ops rest Q) : L P B n S M ops (o :: rest) Q := by
  subst hsz
  intro a w C st
  refine wpList_plain hg fun K hK => ?_
  obtain ⟨cs, h1, h2, h3⟩ := row_fact st.mem hk rfl
  have hoff' : off + Rs'.length ≤ Rs.length := by simpa using hoff
  obtain ⟨vs, hv, hvs⟩ := hy a w C st.slots
  have hlen := h3.1.length
  simp only [List.length_take, Array.length_toList] at hlen
  have hvl := hvs.1.length
  have hpub : Pub w C (w.setRow r (cs.toList.take off ++ vs ++ cs.toList.drop (off + vs.length)).toArray) C := setRow_eff.pub st.mem.wf (fun b hb => (st.mem.own b (mem_feet.2 ⟨_, List.mem_of_getElem? hk, hb⟩)).2)
  have hrun := run_storeA_row (P := P) (t := t) h1 (off := off) (vs := vs) (by omega) hvs.2 (by rw [hn w, hvl])
  unfold Oper.wp
  rw [show (execOp a.eval o).run P w = .ok .skip (w.setRow r (cs.toList.take off ++ vs ++ cs.toList.drop (off + vs.length)).toArray) by
    simp [execOp, h, show a.eval x = _ from hx a w C st.slots, hv, hrun]]
  have hsp : (splice Rs off Rs').length = Rs.length := by simp [splice]; omega
  have st' := st.upd (R := Rp.val undef) (v := undef) (dst := none) (F' := MF.row r T m (splice Rs off Rs')) (by simp) hk (setRow_eff (cs := (cs.toList.take off ++ vs ++ cs.toList.drop (off + vs.length)).toArray)) (fun b hb => by have := st.mem.wf b hb; simpa using this) rfl
    (by
      refine ⟨_, setRow_heap w r cs _ T _ h1, by simp; omega, ?_⟩
      have h4 := ((h3.mono hpub).splice (off := off) (hvs.mono hpub))
      rw [hsp]
      simp only
      have : (cs.toList.take off ++ vs ++ cs.toList.drop (off + vs.length)).take Rs.length = (cs.toList.take Rs.length).take off ++ vs ++ (cs.toList.take Rs.length).drop (off + vs.length) := by
        rw [List.take_take, Nat.min_eq_left (by omega), List.take_append, List.take_append, List.take_take, Nat.min_eq_right (by omega), List.take_of_length_le (l := vs) (by simp; omega), List.drop_take]
        congr 1
        simp only [List.length_append, List.length_take, Array.length_toList]
        rw [Nat.min_eq_left (by omega)]
      rw [this]; exact h4) (by simp [MF.row]) (fun b hb => .inl ⟨hb, (st.mem.own b (mem_feet.2 ⟨_, List.mem_of_getElem? hk, hb⟩)).2⟩)
  rw [Oper.upon_skip, hd]
  exact hK _ _ (hL _ _ C st')
/-- A whole variable. -/
theorem L.storeW {t : TypeId} {x y : Operand} {r T k sz : Nat} {Rs Rs' : List Rp} (hg : o.guard = none) (hd : o.dst = none) (h : o.op = .store t x y) (hn : ∀ w, (sizeOf t).run P w = .ok sz w)
    (hx : Get (look · S) x (Rp.ptr r 0)) (hy : Get (look · S) y (Rp.agg Rs')) (hk : M[k]? = some (MF.box r T Rs)) (hsz : Rs'.length = sz) (hl : Rs'.length = Rs.length)
    (hL : L P B n S (M.set k (MF.box r T Rs')) ops rest Q) : L P B n S M ops (o :: rest) Q := by
  refine L.storeA hg hd h hn hx hy hk hsz (by simp [hl]) ?_
  have : splice Rs 0 Rs' = Rs' := by unfold splice; simp; omega
  rw [this, ← hl]
  exact hL

/-! Slices that the call owns. -/
def MF.osl {α : Type} (v : Value) (T sz : Nat) (E : α → List Rp) (xs : List α) : MF where
  foot := v.ownBlock.toList
  p w C := ∃ cs : List Value, w.ownsRow 0 T sz v xs.length cs ∧ AllR (xs.flatMap E) w C cs ∧ xs.length ≤ 281474976710656
  loc hp hf := fun ⟨cs, h1, h2, h3⟩ => by
    refine ⟨cs, ⟨h1.1, ?_⟩, h2.mono hp, h3⟩
    rcases h1.2 with h | ⟨g, cap, cur, hv, hb, hg, hr⟩
    · exact .inl h
    · exact .inr ⟨g, cap, cur, hv, hb, (hf g (by rw [hv]; simp [Value.ownBlock])).trans hg, hr⟩

theorem osl_fact {α : Type} {v : Value} {T sz : Nat} {E : α → List Rp} {xs : List α} {w C} (hm : MOk M w C) {k : Nat} (hk : M[k]? = some (MF.osl v T sz E xs)) :
    ∃ cs : List Value, w.ownsRow 0 T sz v xs.length cs ∧ AllR (xs.flatMap E) w C cs ∧ xs.length ≤ 281474976710656 := hm.facts _ (List.mem_of_getElem? hk)

/-- An owned slice is published: whoever holds it holds a slice of published elements. -/
theorem St.pub {α : Type} {a : Act} {w C} {v : Value} {T sz k t : Nat} {E : α → List Rp} {xs : List α} (st : St B n S M a w C) (ht : look t S = some (Rp.val v)) (hk : M[k]? = some (MF.osl v T sz E xs)) (hE : ∀ x, (E x).length = sz) :
    ∃ C', St B n ((t, Rp.slice E xs) :: S) (M.eraseIdx k) a w C' := by
  obtain ⟨cs, h1, h2, h3⟩ := osl_fact st.mem hk
  have hp := perm_eraseIdx M k _ hk
  have hm := st.mem.perm hp
  have hfe : feet (MF.osl v T sz E xs :: M.eraseIdx k) = v.ownBlock.toList ++ feet (M.eraseIdx k) := by simp [feet, MF.osl]
  let C' : Nat → Prop := fun b => C b ∨ v.ownBlock = some b
  have hpub : Pub w C w C' := fun b hb => ⟨.inl hb, rfl⟩
  have hvb : ∀ b, v.ownBlock = some b → b ∈ feet M := fun b hb => mem_feet.2 ⟨_, List.mem_of_getElem? hk, by simp [MF.osl, hb]⟩
  have hrest : ∀ b ∈ feet (M.eraseIdx k), v.ownBlock ≠ some b := fun b hb hv => by
    have := hm.nodup
    rw [hfe, List.nodup_append] at this
    exact this.2.2 b (by simp [hv]) b hb rfl
  refine ⟨C', st.size, st.defers, ?_, ⟨?_, ?_, ?_, ?_⟩, ⟨st.eff.size, st.eff.keep, ?_, st.eff.os, st.eff.tape, st.eff.output⟩, ?_⟩
  · intro u R hu
    by_cases htu : t = u
    · subst htu
      simp only [look_cons_eq, Option.some.injEq] at hu
      subst hu
      have hv := st.slots t _ ht
      rw [show a.tmps.getD t undef = v from hv]
      refine ⟨by omega, ?_⟩
      rcases h1.2 with ⟨hv0, hn0⟩ | ⟨g, cap, cur, hv1, _, hg, hlc, _, hcs, htk⟩
      · exact .inl ⟨hv0, List.eq_nil_of_length_eq_zero hn0⟩
      · refine .inr ⟨⟨g, 0, none⟩, cap, hv1, hlc, .inr ⟨rfl, .inr (by rw [hv1]; rfl), cur, T, (0, 0), hg, ?_⟩⟩
        simp only [List.drop_zero]
        rw [flatMap_len hE, htk]
        exact h2.mono hpub
    · simp only at hu
      rw [look_cons_ne htu] at hu
      exact R.mono hpub (st.slots u R hu)
  · exact fun G hG => G.loc hpub (fun _ _ => rfl) (st.mem.facts G (List.mem_of_mem_eraseIdx hG))
  · have := hm.nodup
    rw [hfe, List.nodup_append] at this
    exact this.2.1
  · intro b hb
    have h4 := hm.own b (by rw [hfe]; exact List.mem_append_right _ hb)
    exact ⟨h4.1, fun hc => hc.elim h4.2 (hrest b hb)⟩
  · intro b hb
    rcases hb with hb | hb
    · exact st.mem.wf b hb
    · exact (st.mem.own b (hvb b hb)).1
  · intro b hb hu
    refine ⟨fun hc => hc.elim (st.eff.cl b hb hu).1 (fun hv => ?_), fun hc => .inl ((st.eff.cl b hb hu).2 hc)⟩
    exact ((st.since b (hvb b hv)).elim hu (fun h => absurd hb (by omega))).elim
  · intro b hb
    obtain ⟨G, hG, hbG⟩ := mem_feet.1 hb
    exact st.since b (mem_feet.2 ⟨G, List.mem_of_mem_eraseIdx hG, hbG⟩)

theorem N.pub {α : Type} {e : Exit} {v : Value} {T sz : Nat} {E : α → List Rp} {xs : List α} (t k : Nat) (ht : look t S = some (Rp.val v)) (hk : M[k]? = some (MF.osl v T sz E xs)) (hE : ∀ x, (E x).length = sz)
    (h : N B n ((t, Rp.slice E xs) :: S) (M.eraseIdx k) e Q) : N B n S M e Q :=
  fun a w _ st => let ⟨C', st'⟩ := st.pub ht hk hE; h a w C' st'
theorem W.pub {α : Type} {c : Code} {v : Value} {T sz : Nat} {E : α → List Rp} {xs : List α} (t k : Nat) (ht : look t S = some (Rp.val v)) (hk : M[k]? = some (MF.osl v T sz E xs)) (hE : ∀ x, (E x).length = sz)
    (h : W P B n ((t, Rp.slice E xs) :: S) (M.eraseIdx k) c Q) : W P B n S M c Q :=
  fun a w _ st => let ⟨C', st'⟩ := st.pub ht hk hE; h a w C' st'
theorem L.pub {α : Type} {v : Value} {T sz : Nat} {E : α → List Rp} {xs : List α} (t k : Nat) (ht : look t S = some (Rp.val v)) (hk : M[k]? = some (MF.osl v T sz E xs)) (hE : ∀ x, (E x).length = sz)
    (h : L P B n ((t, Rp.slice E xs) :: S) (M.eraseIdx k) ops rest Q) : L P B n S M ops rest Q :=
  fun a w _ st => let ⟨C', st'⟩ := st.pub ht hk hE; h a w C' st'

/-- A nil slice is the call's own. -/
theorem St.nil {α : Type} {a : Act} {w C} {T sz : Nat} {E : α → List Rp} (st : St B n S M a w C) : St B n S (MF.osl (.slice none 0 0) T sz E [] :: M) a w C := by
  have hfe : feet (MF.osl (.slice none 0 0) T sz E [] :: M) = feet M := by simp [feet, MF.osl, Value.ownBlock]
  refine ⟨st.size, st.defers, st.slots, ⟨fun G hG => ?_, by rw [hfe]; exact st.mem.nodup, by rw [hfe]; exact st.mem.own, st.mem.wf⟩, st.eff, by rw [hfe]; exact st.since⟩
  rcases List.mem_cons.1 hG with rfl | hG
  · exact ⟨[], World.ownsRow_nil w 0 T sz, by simp [AllR, AllP], by simp⟩
  · exact st.mem.facts G hG
theorem W.nil {α : Type} (T sz : Nat) (E : α → List Rp) {c : Code} (h : W P B n S (MF.osl (.slice none 0 0) T sz E [] :: M) c Q) : W P B n S M c Q := fun a w C st => h a w C st.nil
/-! append to an owned slice. -/
theorem run_append_osl {t ty e : TypeId} {size bytes : Nat} {z : Value} {w : World} (ht : P.underlying t = some (.slice e)) (hT : TI P e size bytes z) (hzs : z.cells.size = size) (hsz : 0 < size)
    {v : Value} {len : Nat} {xs : List Value} (hown : w.ownsRow 0 e size v len xs) {a : Addr} {m c : Nat} {news : List Value} (hl : news.length = m * size) (hnews : ∀ j u, news[j]? = some u → w.cell? (a.add j) = some u) (h1 : ∀ u ∈ news, u.oneCell' = true)
    (hbytes : (len + m) * bytes ≤ 140737488355328) (hsmall : len + m ≤ 281474976710656) :
    ∃ v' w', (Builtin.append_ #[t, t] ty #[v, .slice (some a) m c]).run P w = .ok v' w' ∧ w'.ownsRow 0 e size v' (len + m) (xs ++ news) ∧ w.grownBy w' v.ownBlock ∧ (v'.ownBlock = v.ownBlock ∨ v'.ownBlock = some w.heap.size) := by
  obtain ⟨i, hi, rfl, rfl, hz⟩ := hT.ex
  have h63 : len + m ≤ maxLen := by simp only [maxLen]; omega
  have hlen : (xs ++ news).length = (len + m) * i.size := by rw [List.length_append, hown.1, hl, Nat.add_mul]
  have grown : ∀ (old : Nat), old < len + m → ∀ (row : Option Nat),
      (w.drew.alloc (.cells (xs.toArray ++ news.toArray ++ Builtin.zeroCells z.cells (grownCap w (len + m) old e - (len + m))) e)).ownsRow 0 e i.size
        (.slice (some ⟨w.heap.size, 0, none⟩) (len + m) (grownCap w (len + m) old e)) (len + m) (xs ++ news) ∧
      w.grownBy (w.drew.alloc (.cells (xs.toArray ++ news.toArray ++ Builtin.zeroCells z.cells (grownCap w (len + m) old e - (len + m))) e)) row := by
    intro old ho row
    have hge := grownCap_ge w (len + m) old e
    have hcm : grownCap w (len + m) old e ≤ maxLen := grownCap_le_maxLen w (len + m) old e h63
    refine ⟨⟨hlen, .inr ⟨w.heap.size, _, _, rfl, Nat.zero_le _, heap_alloc_new w.drew _, hge, hcm, ?_, ?_⟩⟩, ⟨rfl, rfl, rfl, by simp, fun k hk _ => heap_alloc_old w.drew _ hk⟩⟩
    · simp only [Array.size_append, List.size_toArray, size_zeroCells, hzs, hown.1, hl, ← Nat.add_mul]
      congr 1
      omega
    · simp only [Array.toList_append, List.append_assoc]
      rw [← List.append_assoc, ← hlen]
      exact List.take_left
  rcases hown.2 with ⟨rfl, rfl⟩ | ⟨g, cap, cur, rfl, hbg, hg, hnc, hcm, hcs, htake⟩
  · have hx : xs = [] := List.eq_nil_of_length_eq_zero (by simpa using hown.1)
    subst hx
    by_cases hm : m = 0
    · subst hm
      have hn : news = [] := List.eq_nil_of_length_eq_zero (by simpa using hl)
      subst hn
      refine ⟨.slice none 0 0, w, ?_, World.ownsRow_nil w 0 e i.size, ⟨rfl, rfl, rfl, Nat.le_refl _, fun _ _ _ => rfl⟩, .inl rfl⟩
      simp [Builtin.append_, run_underlying ht, sizeOf, typeInfo, hi, Builtin.lenOf, Builtin.firstCells, loadCells, loadCellsFrom]
    · have hr := run_append_nil (P := P) w t ty e i z ht hi hz a m c news hl hnews (by omega) (by omega) (by have hb := hbytes; simp only [Nat.zero_add] at hb; omega)
      have hgr := grown 0 (by omega) (Value.ownBlock (.slice none 0 0))
      simp only [Nat.zero_add, List.nil_append, Array.empty_append] at hgr ⊢
      exact ⟨_, _, hr, hgr.1, hgr.2, .inr rfl⟩
  · by_cases hroom : len + m ≤ cap
    · have hfit : len * i.size + news.length ≤ cur.size := by rw [hl, hcs, ← Nat.add_mul]; exact Nat.mul_le_mul_right _ hroom
      have hr := run_append_room (P := P) w t ty e i ht hi g len cap cur hg a m c news hl hnews h1 hroom hfit
      refine ⟨_, _, hr, ⟨hlen, .inr ⟨g, cap, _, rfl, hbg, setRow_heap w g cur _ e _ hg, hroom, hcm, ?_, ?_⟩⟩, ⟨rfl, rfl, rfl, by simp, fun k _ hk => setRow_other w g k _ (fun e => hk (by simp [Value.ownBlock, e]))⟩, .inl rfl⟩
      · simp only [List.size_toArray, List.length_append, List.length_take, List.length_drop, Array.length_toList]
        omega
      · rw [htake, ← hlen]
        exact List.take_left
    · have holds : ∀ j u, xs[j]? = some u → w.cell? ((⟨g, 0, none⟩ : Addr).add j) = some u := hown.cells (g := g) rfl
      have hr := run_append_grow (P := P) w t ty e i z ht hi hz ⟨g, 0, none⟩ len cap xs hown.1 holds a m c news hl hnews (by omega) (by omega) (growslice_fits (by omega) hbytes)
      have hgr := grown cap (by omega) (Value.ownBlock (.slice (some ⟨g, 0, none⟩) len cap))
      exact ⟨_, _, hr, hgr.1, hgr.2, .inr rfl⟩

theorem eff_of_grown {w w' : World} {C : Nat → Prop} {v : Value} (h : w.grownBy w' v.ownBlock) : Eff v.ownBlock.toList w C w' C where
  size := h.size
  keep b hb hu := h.block b hb (fun e => hu (by rw [← e]; simp))
  cl _ _ _ := Iff.rfl
  os := h.os
  tape := h.tape
  output := h.output

theorem run_append_none {t ty e : TypeId} {size bytes : Nat} {z : Value} {w : World} (ht : P.underlying t = some (.slice e)) (hT : TI P e size bytes z) {v : Value} {len : Nat} {xs : List Value} (hown : w.ownsRow 0 e size v len xs) :
    (Builtin.append_ #[t, t] ty #[v, .slice none 0 0]).run P w = .ok v w := by
  obtain ⟨i, hi, rfl, rfl, hz⟩ := hT.ex
  exact run_append_owned_none (P := P) (w := w) 0 t ty e i i.size ht hi v len xs hown

theorem L.append {α : Type} {t e : TypeId} {x y : Operand} {size bytes k d : Nat} {z v : Value} {E : α → List Rp} {xs ys : List α} (hg : o.guard = none) (hd : o.dst = some d) (hlt : Nat.blt d n = true)
    (h : o.op = .call ⟨.builtin .append, #[x, y], #[t, t]⟩) (ht : P.underlying t = some (.slice e)) (hT : TI P e size bytes z) (hzs : z.cells.size = size) (hsz : 0 < size) (hE : ∀ x, (E x).length = size)
    (hx : Get (look · S) x (Rp.val v)) (hy : Get (look · S) y (Rp.slice E ys)) (hk : M[k]? = some (MF.osl v e size E xs)) (hbytes : (xs.length + ys.length) * bytes ≤ 140737488355328) (hsmall : xs.length + ys.length ≤ 281474976710656)
    (hL : ∀ v', L P B n ((d, Rp.val v') :: S) (M.set k (MF.osl v' e size E (xs ++ ys))) ops rest Q) : L P B n S M ops (o :: rest) Q := by
  intro a w C st
  refine wpList_plain hg fun K hK => ?_
  obtain ⟨cs, h1, h2, h3⟩ := osl_fact st.mem hk
  have hlt' : d < n := by simpa [Nat.blt_eq] using hlt
  have hvx : a.eval x = v := hx a w C st.slots
  obtain ⟨hyl, hy'⟩ := hy a w C st.slots
  have hown : ∀ b ∈ v.ownBlock.toList, b ∈ feet M := fun b hb => mem_feet.2 ⟨_, List.mem_of_getElem? hk, hb⟩
  unfold Oper.wp
  rcases hy' with ⟨hyn, hynil⟩ | ⟨ad, cap, hyv, hcap, hrs⟩
  · have hr := run_append_none (P := P) (ty := o.type) ht hT h1
    rw [show (execOp a.eval o).run P w = .ok (.value v) w by simp [execOp, h, resolve, invoke, builtin, hvx, hyn, hr]]
    have st' := st.step (R := Rp.val v) (v := v) (F := []) (dst := some d) (fun d' hd' => by cases hd'; exact hlt') (Eff.refl _ _ _) st.mem.wf rfl MNew.nil
    rw [Oper.upon_value, hd]
    refine hK _ _ (hL v _ _ C ?_)
    rw [hynil, List.append_nil]
    have : M.set k (MF.osl v e size E xs) = M := by
      apply List.ext_getElem?
      intro j
      rw [List.getElem?_set]
      split
      · rename_i hkj; subst hkj; split
        · exact hk.symm
        · rename_i hge; rw [List.getElem?_eq_none (by omega)]
      · rfl
    rw [this]; exact st'
  · have hkey : ∃ news : List Value, news.length = ys.length * size ∧ (∀ j u, news[j]? = some u → w.cell? (ad.add j) = some u) ∧ AllR (ys.flatMap E) w C news := by
      rcases hrs with h0 | ⟨hsp, hC, cs', T', fr, hh, hrow⟩
      · exact ⟨[], by simp [h0], fun j u hj => by simp at hj, by simp [h0, AllR, AllP]⟩
      · have had : ad = ⟨ad.block, ad.off, none⟩ := by cases ad; simp_all
        refine ⟨_, hrow.1.length.trans (flatMap_len hE ys), fun j u hj => ?_, hrow⟩
        rw [had, addr_add, cell_row hh]
        rw [List.getElem?_take] at hj
        split at hj
        · simpa using hj
        · cases hj
    obtain ⟨news, hlen, hcell, hrow⟩ := hkey
    obtain ⟨v', w', hr, ho, hgr, hb⟩ := run_append_osl (P := P) (ty := o.type) (a := ad) (c := cap) ht hT hzs hsz h1 (news := news) hlen hcell hrow.2 hbytes hsmall
    rw [show (execOp a.eval o).run P w = .ok (.value v') w' by simp [execOp, h, resolve, invoke, builtin, hvx, hyv, hr]]
    have he := eff_of_grown (C := C) hgr
    have hpub : Pub w C w' C := he.pub st.mem.wf (fun b hb => (st.mem.own b (hown b hb)).2)
    have st' := st.upd (R := Rp.val v') (v := v') (dst := some d) (F' := MF.osl v' e size E (xs ++ ys)) (fun d' hd' => by cases hd'; exact hlt') hk he (fun b hb => Nat.lt_of_lt_of_le (st.mem.wf b hb) hgr.size) rfl
      ⟨_, by rw [List.length_append]; exact ho, by rw [List.flatMap_append]; exact (h2.mono hpub).append (hrow.mono hpub), by simpa using hsmall⟩ (by simp only [MF.osl]; cases v'.ownBlock <;> simp) (fun b hbf => by
        have hbf' : v'.ownBlock = some b := by simpa [MF.osl] using hbf
        rcases hb with hb | hb
        · have : b ∈ v.ownBlock.toList := by rw [← hb, hbf']; simp
          exact .inl ⟨this, (st.mem.own b (hown b this)).2⟩
        · have : b = w.heap.size := by rw [hb] at hbf'; simpa using hbf'.symm
          subst this
          refine .inr ⟨Nat.le_refl _, ?_, fun hc => ?_⟩
          · exact (ho.lt _ hbf').2
          · have := st.mem.wf _ hc; omega)
    rw [Oper.upon_value, hd]
    exact hK _ _ (hL v' _ _ C st')

/-! Calls. -/
/-- A contract: arguments by A, owned memory by M (taken over), what is yielded by X. -/
def PostC (X : RA) (U : List Nat) (w : World) (C : Nat → Prop) (e : Ending) (w' : World) : Prop :=
  ∃ i v C', e = .returned v ∧ Eff U w C w' C' ∧ (X.R i).p w' C' v ∧ MOk (X.F i) w' C' ∧ ∀ b ∈ feet (X.F i), b ∈ U ∨ w.heap.size ≤ b
def CallT (P : Program) (f : FuncId) (A : List Rp) (M : List MF) (X : RA) : Prop :=
  ∀ w C (args : Array Value), AllP A w C args.toList → MOk M w C → Calls P f args w (PostC X (feet M) w C)

def argS : Nat → List Rp → List (Nat × Rp)
  | _, [] => []
  | k, R :: Rs => (k, R) :: argS (k + 1) Rs
theorem argS_look {w : World} {C : Nat → Prop} {t : Nat} {R : Rp} : ∀ {A : List Rp} {vs : List Value} (k : Nat), AllP A w C vs → look t (argS k A) = some R → ∃ v, k ≤ t ∧ vs[t - k]? = some v ∧ R.p w C v
  | [], _, k, _, h => by simp [argS, look] at h
  | _ :: _, [], _, h, _ => h.elim
  | A :: As, v :: vs, k, hA, h => by
    simp only [argS] at h
    by_cases hkt : k = t
    · subst hkt
      simp only [look_cons_eq, Option.some.injEq] at h
      subst h
      exact ⟨v, Nat.le_refl _, by simp, hA.1⟩
    · rw [look_cons_ne hkt] at h
      obtain ⟨u, h1, h2, h3⟩ := argS_look (k + 1) hA.2 h
      refine ⟨u, by omega, ?_, h3⟩
      rw [show t - k = (t - (k + 1)) + 1 by omega]; simpa using h2

theorem W.enter {f : FuncId} {fn : Func} {c : Code} {A : List Rp} {X : RA} (hf : P.funcs[f]? = some fn) (hb : fn.body = some c) (hn : fn.ntmps = n) (hl : Nat.ble A.length n = true)
    (h : ∀ w C, W P ⟨w, C, feet M⟩ n (argS 0 A) M c (bodyPost P fn (PostC X (feet M) w C))) : CallT P f A M X := by
  intro w C args hA hM
  have hlen := hA.length
  have hl' : A.length ≤ n := by simpa using hl
  have hsz : args.size = A.length := by rw [← Array.length_toList]; exact hlen
  refine calls_of_wp hf hb ?_
  refine h w C _ w C ⟨?_, rfl, fun t R ht => ?_, hM, Eff.refl _ _ _, fun b hb => .inl hb⟩
  · simp only [Array.size_append, Array.size_replicate, hn]; omega
  · obtain ⟨v, _, hv, hR⟩ := argS_look 0 hA ht
    have hlt : t < args.size := by
      rw [← Array.length_toList]
      exact (List.getElem?_eq_some_iff.1 hv).1
    have h2 : (args ++ Array.replicate (fn.ntmps - args.size) undef).getD t undef = v := by
      have h3 : args.toList[t]? = some v := by simpa using hv
      rw [Array.getElem?_toList] at h3
      simp [Array.getElem?_append_left hlt, h3]
    show R.p w C _
    rw [h2]; exact hR

/-- What the results' variables hold. -/
inductive ResOk (P : Program) (S : List (Nat × Rp)) (M : List MF) : List ResultVar → List Rp → Prop
  | nil : ResOk P S M [] []
  | tmp {t : Nat} {R : Rp} {rs Rs} (h : Get (look · S) (.tmp t) R) (hr : ResOk P S M rs Rs) : ResOk P S M (.tmp t :: rs) (R :: Rs)
  | cellA {t T T' r k sz : Nat} {Ws : List Rp} {rs Rs} (h : Get (look · S) (.tmp t) (Rp.ptr r 0)) (hk : M[k]? = some (MF.box r T' Ws)) (ha : ∀ w, (isAgg T).run P w = .ok true w) (hn : ∀ w, (sizeOf T).run P w = .ok sz w) (hl : Ws.length = sz)
      (hr : ResOk P S M rs Rs) : ResOk P S M (.cell t T :: rs) (Rp.agg Ws :: Rs)
  | cell1 {t T T' r k : Nat} {R : Rp} {rs Rs} (h : Get (look · S) (.tmp t) (Rp.ptr r 0)) (hk : M[k]? = some (MF.box r T' [R])) (ha : ∀ w, (isAgg T).run P w = .ok false w)
      (hr : ResOk P S M rs Rs) : ResOk P S M (.cell t T :: rs) (R :: Rs)

def resOne (tmps : Array Value) : ResultVar → Sem Value
  | .tmp t => pure (tmps.getD t undef)
  | .cell a t => do loadVar t (← asAddr (tmps.getD a undef))

theorem res_run {a : Act} {w : World} {C : Nat → Prop} (st : St B n S M a w C) : ∀ {rs Rs}, ResOk P S M rs Rs → ∃ vs : List Value, (rs.mapM (resOne a.tmps)).run P w = .ok vs w ∧ AllP Rs w C vs := by
  intro rs Rs h
  induction h with
  | nil => exact ⟨[], by simp, trivial⟩
  | tmp h _ ih =>
    obtain ⟨vs, h1, h2⟩ := ih
    exact ⟨_ :: vs, by simp [List.mapM_cons, resOne, h1, Act.eval], h a w C st.slots, h2⟩
  | cellA h hk ha hn hl _ ih =>
    subst hl
    obtain ⟨vs, h1, h2⟩ := ih
    obtain ⟨cs, h3, h4, h5⟩ := row_fact st.mem hk rfl
    rename_i t T T' r k Ws rs Rs _
    have hp : a.tmps.getD t undef = .pointer (some ⟨r, 0, none⟩) := h a w C st.slots
    have := run_loadA_row (P := P) (t := T) h3 (off := 0) (n := Ws.length) (by omega) (ha w) (hn w)
    simp only [Instr.loadAt, Instr.sureAddr, Sem.run_bind, Sem.run_pure, Result.andThen_ok] at this
    refine ⟨.agg ((cs.toList.drop 0).take Ws.length).toArray :: vs, ?_, ⟨_, rfl, by simpa using h5⟩, h2⟩
    simp only [List.mapM_cons, resOne, hp, asAddr, Sem.run_bind, Sem.run_pure, Result.andThen_ok, this, h1]
  | cell1 h hk ha _ ih =>
    obtain ⟨vs, h1, h2⟩ := ih
    obtain ⟨cs, h3, h4, h5⟩ := row_fact st.mem hk rfl
    rename_i t T T' r k R rs Rs _
    have hp : a.tmps.getD t undef = .pointer (some ⟨r, 0, none⟩) := h a w C st.slots
    obtain ⟨v, hv, hR⟩ := h5.1.get 0 (R := R) rfl
    have hv' : cs[0]? = some v := by
      rw [List.getElem?_take] at hv
      simpa using hv
    have := run_load_row (P := P) (t := T) h3 hv' (ha w)
    simp only [Instr.loadAt, Instr.sureAddr, Sem.run_bind, Sem.run_pure, Result.andThen_ok] at this
    refine ⟨v :: vs, ?_, hR, h2⟩
    simp only [List.mapM_cons, resOne, hp, asAddr, Sem.run_bind, Sem.run_pure, Result.andThen_ok, this, h1]

/-- Results together. -/
def pack (vs : List Value) : Value :=
  match vs with
  | [v] => v
  | vs => .tuple vs.toArray

theorem results_run {fn : Func} {a : Act} {w : World} {C : Nat → Prop} (st : St B n S M a w C) {Rs : List Rp} (h : ResOk P S M fn.results.toList Rs) :
    ∃ vs : List Value, (results fn a.tmps).run P w = .ok (pack vs) w ∧ AllP Rs w C vs := by
  obtain ⟨vs, h1, h2⟩ := res_run (P := P) st h
  refine ⟨vs, ?_, h2⟩
  have h3 : (fn.results.mapM (resOne a.tmps)).run P w = .ok vs.toArray w := by
    rw [Array.mapM_eq_mapM_toList]
    simp [h1]
  have h4 : results fn a.tmps = (do
      let vs ← fn.results.mapM (resOne a.tmps)
      pure (if h : vs.size = 1 then vs[0] else .tuple vs)) := by
    unfold results
    congr 1
  rw [h4]
  simp only [Sem.run_bind, h3, Result.andThen_ok, Sem.run_pure]
  congr 1
  match vs with
  | [] => rfl
  | [v] => rfl
  | v :: u :: vs => rfl

/-- A return. -/
theorem N.ret {fn : Func} {X : RA} {e : Exit} {w₀ : World} {C₀ : Nat → Prop} {U : List Nat} {Rs : List Rp} (i : X.ι) (hB : B = ⟨w₀, C₀, U⟩) (hres : ResOk P S M fn.results.toList Rs) (hR : ∀ w C (vs : List Value), AllP Rs w C vs → (X.R i).p w C (pack vs))
    (hF : Pick M (X.F i)) (hQ : ∀ a w, bodyPost P fn (PostC X U w₀ C₀) .ret a w → Q e a w) : N B n S M e Q := by
  intro a w C st
  subst hB
  obtain ⟨vs, h1, h2⟩ := results_run (P := P) (fn := fn) st hres
  exact hQ a w ⟨st.defers, _, h1, i, _, C, rfl, st.eff, hR w C vs h2, st.mem.pick hF, fun b hb => st.since b (feet_pick hF hb)⟩
theorem res1 {R R' : Rp} (h : ∀ w C v, R.p w C v → R'.p w C v) (w : World) (C : Nat → Prop) (vs : List Value) (hA : AllP [R] w C vs) : R'.p w C (pack vs) := by
  match vs, hA with
  | [v], hA => exact h w C v hA.1
theorem res2w {R₁ R₂ R₁' R₂' : Rp} (h₁ : ∀ w C v, R₁.p w C v → R₁'.p w C v) (h₂ : ∀ w C v, R₂.p w C v → R₂'.p w C v) (w : World) (C : Nat → Prop) (vs : List Value) (hA : AllP [R₁, R₂] w C vs) : (Rp.tuple [R₁', R₂']).p w C (pack vs) := by
  match vs, hA with
  | [v, u], hA => exact ⟨[v, u], rfl, h₁ _ _ _ hA.1, h₂ _ _ _ hA.2.1, trivial⟩
theorem res3w {R₁ R₂ R₃ R₁' R₂' R₃' : Rp} (h₁ : ∀ w C v, R₁.p w C v → R₁'.p w C v) (h₂ : ∀ w C v, R₂.p w C v → R₂'.p w C v) (h₃ : ∀ w C v, R₃.p w C v → R₃'.p w C v) (w : World) (C : Nat → Prop) (vs : List Value) (hA : AllP [R₁, R₂, R₃] w C vs) :
    (Rp.tuple [R₁', R₂', R₃']).p w C (pack vs) := by
  match vs, hA with
  | [v, u, x], hA => exact ⟨[v, u, x], rfl, h₁ _ _ _ hA.1, h₂ _ _ _ hA.2.1, h₃ _ _ _ hA.2.2.1, trivial⟩
theorem res0 (w : World) (C : Nat → Prop) (vs : List Value) (hA : AllP [] w C vs) : (Rp.tuple []).p w C (pack vs) := by
  match vs, hA with
  | [], hA => exact ⟨[], rfl, hA⟩

/-- The arguments of a call. -/
inductive ArgsOk (σ : Nat → Option Rp) : List Operand → List Rp → Prop
  | nil : ArgsOk σ [] []
  | cons {x : Operand} {R : Rp} {xs Rs} (h : Get σ x R) (hs : ArgsOk σ xs Rs) : ArgsOk σ (x :: xs) (R :: Rs)
theorem args_run {σ : Nat → Option Rp} {a : Act} {w : World} {C : Nat → Prop} (hs : SlotsOk σ a w C) : ∀ {xs Rs}, ArgsOk σ xs Rs → AllP Rs w C (xs.map a.eval) := by
  intro xs Rs h
  induction h with
  | nil => trivial
  | cons h _ ih => exact ⟨h a w C hs, ih⟩

/-- A call of a named function that takes over no memory. -/
theorem spec_call {σ : Nat → Option Rp} {f : FuncId} {args : Array Operand} {ts : Array TypeId} {A : List Rp} {X : RA} (h : o.op = .call ⟨.value (.func f), args, ts⟩) (hc : ∀ args w, (callFunc f args).run P w = .ok (.enter f args) w)
    (hf : CallT P f A [] X) (ha : ArgsOk σ args.toList A) : Spec P σ M o X := by
  intro a w C K Q hs hm hk
  unfold Oper.wp
  rw [show (execOp a.eval o).run P w = .ok (.enter f (args.map a.eval)) w by
    simp [execOp, h, resolve, Deferred.ofValue, Act.eval, invoke, hc]]
  rw [Oper.upon_enter]
  refine (hf w C _ (by simpa using args_run hs ha) ⟨by simp, by simp [feet], by simp [feet], hm.wf⟩).mono ?_
  rintro e w' ⟨i, v, C', rfl, he, hR, hM, hb⟩
  exact hk i v w' C' he hM.wf hR ⟨hM.facts, hM.nodup, fun b hb' => ⟨(hb b hb').resolve_left (by simp [feet]), hM.own b hb'⟩⟩
/-- A call that takes over the owned facts at the front, and yields others. -/
theorem MOk.frame {F R F' : List MF} {w C w' C'} (h : MOk (F ++ R) w C) (he : Eff (feet F) w C w' C') (hF : MOk F' w' C') (hf : ∀ b ∈ feet F', b ∈ feet F ∨ w.heap.size ≤ b) : MOk (F' ++ R) w' C' := by
  have hnd := h.nodup
  rw [feet_append, List.nodup_append] at hnd
  have hR : ∀ b ∈ feet R, b < w.heap.size ∧ ¬ C b := fun b hb => h.own b (by rw [feet_append]; exact List.mem_append_right _ hb)
  have hdis : ∀ b ∈ feet R, b ∉ feet F := fun b hb hbF => hnd.2.2 b hbF b hb rfl
  have hpub : Pub w C w' C' := he.pub h.wf (fun b hb => (h.own b (by rw [feet_append]; exact List.mem_append_left _ hb)).2)
  refine ⟨fun G hG => ?_, ?_, fun b hb => ?_, hF.wf⟩
  · rcases List.mem_append.1 hG with hG | hG
    · exact hF.facts G hG
    · exact G.loc hpub (fun b hb => have hbR := mem_feet.2 ⟨G, hG, hb⟩; he.keep b (hR b hbR).1 (hdis b hbR)) (h.facts G (List.mem_append_right _ hG))
  · rw [feet_append, List.nodup_append]
    refine ⟨hF.nodup, hnd.2.1, fun b hb c hc hbc => ?_⟩
    subst hbc
    rcases hf b hb with h1 | h1
    · exact hdis b hc h1
    · have := (hR b hc).1; omega
  · rw [feet_append] at hb
    rcases List.mem_append.1 hb with hb | hb
    · exact hF.own b hb
    · exact ⟨Nat.lt_of_lt_of_le (hR b hb).1 he.size, fun hc => (hR b hb).2 ((he.cl b (hR b hb).1 (hdis b hb)).1 hc)⟩

theorem St.call {F R : List MF} {X : RA} {a : Act} {w C w' C'} {v : Value} {dst : Option Nat} (hd : ∀ d, dst = some d → d < n) (st : St B n S (F ++ R) a w C) {i : X.ι} (he : Eff (feet F) w C w' C') (hR : (X.R i).p w' C' v) (hM : MOk (X.F i) w' C')
    (hb : ∀ b ∈ feet (X.F i), b ∈ feet F ∨ w.heap.size ≤ b) : St B n (putS dst (X.R i) S) (X.F i ++ R) (a.put dst v) w' C' := by
  have hFM : ∀ b ∈ feet F, b ∈ feet (F ++ R) := fun b hb => by rw [feet_append]; exact List.mem_append_left _ hb
  have hpub : Pub w C w' C' := he.pub st.mem.wf (fun b hb => (st.mem.own b (hFM b hb)).2)
  refine ⟨(put_size _ _ _).trans st.size, (put_defers' _ _ _).trans st.defers, slots_put st.size hd st.slots hpub hR, st.mem.frame he hM hb, st.eff.trans he (fun b hb => st.since b (hFM b hb)), fun b hb' => ?_⟩
  rw [feet_append] at hb'
  rcases List.mem_append.1 hb' with hb' | hb'
  · rcases hb b hb' with h1 | h1
    · exact st.since b (hFM b h1)
    · exact .inr (Nat.le_trans st.eff.size h1)
  · exact st.since b (by rw [feet_append]; exact List.mem_append_right _ hb')

theorem L.call {f : FuncId} {args : Array Operand} {ts : Array TypeId} {A : List Rp} {F R : List MF} {X : RA} {d : Nat} (hg : o.guard = none) (hd : o.dst = some d) (hlt : Nat.blt d n = true) (h : o.op = .call ⟨.value (.func f), args, ts⟩)
    (hc : ∀ args w, (callFunc f args).run P w = .ok (.enter f args) w) (hf : CallT P f A F X) (hM : Pick M (F ++ R)) (ha : ArgsOk (look · S) args.toList A)
    (hL : ∀ i, L P B n ((d, X.R i) :: S) (X.F i ++ R) ops rest Q) : L P B n S M ops (o :: rest) Q := by
  intro a w C st'
  have st := st'.pick hM
  refine wpList_plain hg fun K hK => ?_
  unfold Oper.wp
  rw [show (execOp a.eval o).run P w = .ok (.enter f (args.map a.eval)) w by
    simp [execOp, h, resolve, Deferred.ofValue, Act.eval, invoke, hc]]
  rw [Oper.upon_enter]
  refine (hf w C _ (by simpa using args_run st.slots ha) st.mem.left).mono ?_
  rintro e w' ⟨i, v, C', rfl, he, hR, hM, hb⟩
  have hlt' : d < n := by simpa [Nat.blt_eq] using hlt
  rw [hd]
  exact hK _ _ (hL i _ _ C' (st.call (dst := some d) (fun d' hd' => by cases hd'; exact hlt') he hR hM hb))
end
end Go.Sim
/- Small rules for printed walks. -/
namespace Go.Sim

def inRB (k : IntKind) (n : Int) : Bool :=
  match k with
  | .i8 => decide (-128 ≤ n) && decide (n ≤ 127)
  | .i16 => decide (-32768 ≤ n) && decide (n ≤ 32767)
  | .i32 => decide (-2147483648 ≤ n) && decide (n ≤ 2147483647)
  | .i64 => decide (-9223372036854775808 ≤ n) && decide (n ≤ 9223372036854775807)
  | .u8 => decide (0 ≤ n) && decide (n ≤ 255)
  | .u16 => decide (0 ≤ n) && decide (n ≤ 65535)
  | .u32 => decide (0 ≤ n) && decide (n ≤ 4294967295)
  | .u64 => decide (0 ≤ n) && decide (n ≤ 18446744073709551615)
theorem inR_of {k : IntKind} {n : Int} (h : inRB k n = true) : InR k n := by
  cases k <;> simpa [inRB, InR] using h

theorem Get.cint {σ : Nat → Option Rp} {k : IntKind} {n : Int} (h : inRB k n = true) : Get σ (.const (.int k n)) (Rp.int k n) := Get.const fun _ _ => ⟨rfl, inR_of h⟩
theorem Get.cbool {σ : Nat → Option Rp} {b : Bool} : Get σ (.const (.bool b)) (Rp.bool b) := Get.const fun _ _ => rfl
theorem Get.cval {σ : Nat → Option Rp} {v : Value} : Get σ (.const v) (Rp.val v) := Get.const fun _ _ => rfl
theorem Get.cnil {σ : Nat → Option Rp} {α : Type} {E : α → List Rp} : Get σ (.const (.slice none 0 0)) (Rp.slice E []) := Get.const fun _ _ => ⟨by simp, .inl ⟨rfl, rfl⟩⟩
theorem Get.cstr {σ : Nat → Option Rp} {l : List UInt8} {s : ByteArray} (h : s = ⟨l.toArray⟩) (hl : Nat.ble l.length 9223372036854775807 = true) : Get σ (.const (.string s)) (Rp.str l) := Get.const fun _ _ => ⟨by rw [h], by simpa using hl⟩

/-! Zero values, elements. -/
theorem allR_of {Rs : List Rp} {w : World} {C : Nat → Prop} {vs : List Value} (h2 : (vs.all Value.oneCell') = true) (h : AllP Rs w C vs) : AllR Rs w C vs := ⟨h, fun v hv => List.all_eq_true.1 h2 v hv⟩
theorem zint {k : IntKind} {n : Int} (h : inRB k n = true) (w : World) (C : Nat → Prop) : (Rp.int k n).p w C (.int k n) := ⟨rfl, inR_of h⟩
theorem zbool {b : Bool} (w : World) (C : Nat → Prop) : (Rp.bool b).p w C (.bool b) := rfl
theorem zslice {α : Type} {E : α → List Rp} (w : World) (C : Nat → Prop) : (Rp.slice E []).p w C (.slice none 0 0) := ⟨by simp, .inl ⟨rfl, rfl⟩⟩
theorem zstr (w : World) (C : Nat → Prop) : (Rp.str []).p w C (.string ⟨#[]⟩) := ⟨rfl, by simp⟩
theorem zval {v : Value} (w : World) (C : Nat → Prop) : (Rp.val v).p w C v := rfl
def eI (n : Int) : List Rp := [Rp.int .i64 n]
def eB (b : Bool) : List Rp := [Rp.bool b]
def eS (l : List UInt8) : List Rp := [Rp.str l]
def eII (l : List Int) : List Rp := [Rp.slice eI l]

theorem eqB {b b' : Bool} (h : b = b') (w : World) (C : Nat → Prop) (v : Value) (hv : (Rp.bool b).p w C v) : (Rp.bool b').p w C v := h ▸ hv
theorem eqI {k : IntKind} {m n : Int} (h : m = n) (w : World) (C : Nat → Prop) (v : Value) (hv : (Rp.int k m).p w C v) : (Rp.int k n).p w C v := h ▸ hv
theorem eqS {l m : List UInt8} (h : l = m) (w : World) (C : Nat → Prop) (v : Value) (hv : (Rp.str l).p w C v) : (Rp.str m).p w C v := h ▸ hv
theorem eqSl {α : Type} {E : α → List Rp} {l m : List α} (h : l = m) (w : World) (C : Nat → Prop) (v : Value) (hv : (Rp.slice E l).p w C v) : (Rp.slice E m).p w C v := h ▸ hv
theorem eqA {l m : List Rp} (h : l = m) (w : World) (C : Nat → Prop) (v : Value) (hv : (Rp.agg l).p w C v) : (Rp.agg m).p w C v := h ▸ hv
section
variable {P : Program} {B : Base} {n : Nat} {S : List (Nat × Rp)} {M : List MF} {Q : Exit → Act → World → Prop} {ops : Array Oper} {rest : List Oper} {o : Oper} {σ : Nat → Option Rp}

theorem L.box {T : TypeId} {Rs : List Rp} {d : Nat} (hd : o.dst = some d) (hlt : Nat.blt d n = true) (hs : GSpec P ops (look · S) M o (.box T Rs))
    (h : ∀ r, L P B n ((d, Rp.ptr r 0) :: S) (MF.box r T Rs :: M) ops rest Q) : L P B n S M ops (o :: rest) Q := L.op hd hlt hs h

theorem spec_indexAddrD {α : Type} [Inhabited α] {T e sz : Nat} {x ix : Operand} {E : α → List Rp} {xs : List α} {k : IntKind} {i : Int} (h : o.op = .indexAddr T x ix) (hu : P.underlying T = some (.slice e)) (hn : ∀ w, (sizeOf e).run P w = .ok sz w)
    (hE : ∀ x, (E x).length = sz) (hx : Get σ x (Rp.slice E xs)) (hi : Get σ ix (Rp.int k i)) (hr : 0 ≤ i ∧ i < xs.length) : Spec P σ M o (.one (Rp.at (E (xs.getD i.toNat default)))) :=
  spec_indexAddr h hu hn hE hx hi ⟨hr.1, by
    have : i.toNat < xs.length := by omega
    simp [List.getD_eq_getElem?_getD, this]⟩

theorem spec_min2 {k : IntKind} {x y : Operand} {m n : Int} {ts : Array TypeId} (h : o.op = .call ⟨.builtin .min, #[x, y], ts⟩) (hx : Get σ x (Rp.int k m)) (hy : Get σ y (Rp.int k n)) : Spec P σ M o (.one (Rp.int k (min m n))) :=
  Spec.of_run fun a w C hs _ => ⟨.int k (min m n), by
    simp only [execOp, h, resolve, Sem.run_bind, Sem.run_pure, Result.andThen_ok, invoke, builtin, Builtin.min_, List.map_toArray, List.map_cons, List.map_nil, get_int hx hs, get_int hy hs, List.foldlM_cons, List.foldlM_nil, Builtin.min2]
    congr 3
    rw [Int.min_def]; split <;> split <;> omega, rfl, by rw [Int.min_def]; split <;> first | exact (hx a w C hs).2 | exact (hy a w C hs).2⟩
theorem fit_i64 {e : Int} (h1 : (-9223372036854775808) ≤ e) (h2 : e ≤ 9223372036854775807) (h : Spec P σ M o (.one (Rp.int .i64 (IntKind.i64.wrap e)))) : Spec P σ M o (.one (Rp.int .i64 e)) := spec_fit (k := .i64) ⟨h1, h2⟩ h
theorem fit_u8 {e : Int} (h1 : 0 ≤ e) (h2 : e ≤ 255) (h : Spec P σ M o (.one (Rp.int .u8 (IntKind.u8.wrap e)))) : Spec P σ M o (.one (Rp.int .u8 e)) := spec_fit (k := .u8) ⟨h1, h2⟩ h
theorem fit_u64 {e : Int} (h1 : 0 ≤ e) (h2 : e ≤ 18446744073709551615) (h : Spec P σ M o (.one (Rp.int .u64 (IntKind.u64.wrap e)))) : Spec P σ M o (.one (Rp.int .u64 e)) := spec_fit (k := .u64) ⟨h1, h2⟩ h

/-! Slices put together. -/
def RA.own {α : Type} (T sz : Nat) (E : α → List Rp) (xs : List α) : RA := ⟨Value, fun v => Rp.val v, fun v => [MF.osl v T sz E xs]⟩
theorem spec_buildSlice0 {α : Type} {T e sz : Nat} {E : α → List Rp} (h : o.op = .buildSlice T 0 #[]) (hu : P.underlying T = some (.slice e)) (hn : ∀ w, (sizeOf e).run P w = .ok sz w) : Spec P σ M o (.own e sz E []) :=
  Spec.new (A := .own e sz E []) (fun r => .slice (some ⟨r, 0, none⟩) 0 0) fun a w C hs hm => ⟨.slice (some ⟨w.heap.size, 0, none⟩) 0 0, .cells #[] e, by
    simp [execOp, h, Instr.buildSlice, run_underlying hu, hn, Instr.fill, newRow, show Array.range 0 = #[] from by decide], rfl, rfl, fun G hG => by
      have : G = MF.osl (.slice (some ⟨w.heap.size, 0, none⟩) 0 0) e sz E [] := by simpa [RA.own] using hG
      subst this
      exact ⟨[], ⟨by simp, .inr ⟨w.heap.size, 0, #[], rfl, Nat.zero_le _, new_at _ _, Nat.le_refl _, by simp [maxLen], by simp, by simp⟩⟩, by simp [AllR, AllP], by simp⟩⟩
theorem spec_buildSlice1 {α : Type} {T e sz bytes : Nat} {E : α → List Rp} {y : α} {x : Operand} {z : Value} {Zs : List Rp} (h : o.op = .buildSlice T 1 #[(0, x)]) (hu : P.underlying T = some (.slice e)) (hT : TI P e sz bytes z)
    (hz : ∀ w C, AllR Zs w C z.cells.toList) (hb : sz ≤ 16777216 ∧ Zs.length = sz ∧ 0 < sz) (hx : GetC σ x (E y)) (hE : ∀ x, (E x).length = sz) : Spec P σ M o (.one (Rp.slice E [y])) :=
  Spec.newPub fun a w C hs hm => by
    have hc := hx a w C hs
    have hl := hc.1.length
    rw [hE] at hl
    have hsz : (a.eval x).cells.size = sz := by rw [← Array.length_toList]; exact hl
    have hzl : z.cells.size = sz := by rw [← Array.length_toList, (hz w C).1.length, hb.2.1]
    refine ⟨.slice (some ⟨w.heap.size, 0, none⟩) 1 1, .cells (a.eval x).cells e, ?_, fun C' hC' => ⟨by simp, .inr ⟨⟨w.heap.size, 0, none⟩, 1, rfl, Nat.le_refl _, .inr ⟨rfl, (hC' _).2 (.inr rfl), _, _, _, new_at _ _, ?_⟩⟩⟩⟩
    · have hfill : Instr.fill (fun i => some (i * sz, sz)) ((Array.range (1 * sz)).map (z.cells[· % z.cells.size]!)) [(0, a.eval x)] = some (a.eval x).cells := by
        have hf := fold_set 0 (a.eval x).cells.toList 0 ((Array.range (1 * sz)).map (z.cells[· % z.cells.size]!)) (by simp; omega)
        simp only [Instr.fill]
        rw [if_neg]
        · congr 1
          rw [← Array.toList_inj, ← Array.foldl_toList, Array.toList_zipIdx]
          have h0 : 0 * sz = 0 := by simp
          rw [h0, hf]
          simp
          omega
        · simp [hsz]
      have h0 : ¬ (1 * sz > 2 ^ 24) := by omega
      have h1 : ¬ (1 * sz = 0) := by omega
      simp only [execOp, h, Instr.buildSlice, Sem.run_bind, run_underlying hu, Result.andThen_ok, hT.size, h0, if_false, h1, hT.zero, Sem.run_pure]
      simp only [List.map_toArray, List.map_cons, List.map_nil, hfill]
      simp [newRow]
    · simp only [List.drop_zero, List.flatMap_cons, List.flatMap_nil, List.append_nil]
      exact allR_take (hc.mono (pub_of_new hm.wf hC'))

/-- A fact that a slot's value carries. -/
theorem W.fact {c : Code} {φ : Prop} {R : Rp} (t : Nat) (ht : look t S = some R) (hφ : ∀ w C v, R.p w C v → φ) (h : φ → W P B n S M c Q) : W P B n S M c Q :=
  fun a w C st => h (hφ _ _ _ (st.slots t R ht)) a w C st
theorem L.fact {φ : Prop} {R : Rp} (t : Nat) (ht : look t S = some R) (hφ : ∀ w C v, R.p w C v → φ) (h : φ → L P B n S M ops rest Q) : L P B n S M ops rest Q :=
  fun a w C st => h (hφ _ _ _ (st.slots t R ht)) a w C st
theorem N.fact {e : Exit} {φ : Prop} {R : Rp} (t : Nat) (ht : look t S = some R) (hφ : ∀ w C v, R.p w C v → φ) (h : φ → N B n S M e Q) : N B n S M e Q :=
  fun a w C st => h (hφ _ _ _ (st.slots t R ht)) a w C st
/-- .. that an owned fact carries. -/
theorem W.factM {c : Code} {φ : Prop} {F : MF} (k : Nat) (hk : M[k]? = some F) (hφ : ∀ w C, F.p w C → φ) (h : φ → W P B n S M c Q) : W P B n S M c Q :=
  fun a w C st => h (hφ _ _ (st.mem.facts F (List.mem_of_getElem? hk))) a w C st
/-- What an integer's slot carries. -/
theorem int_fact {k : IntKind} {m : Int} (w : World) (C : Nat → Prop) (v : Value) (h : (Rp.int k m).p w C v) : InR k m := h.2
theorem slice_fact {α : Type} {E : α → List Rp} {xs : List α} (w : World) (C : Nat → Prop) (v : Value) (h : (Rp.slice E xs).p w C v) : xs.length ≤ 9223372036854775807 := h.1
theorem str_fact {l : List UInt8} (w : World) (C : Nat → Prop) (v : Value) (h : (Rp.str l).p w C v) : l.length ≤ 9223372036854775807 := h.2
/-- The cells of a struct. -/
theorem agg_fact {Rs : List Rp} {φ : Prop} (h : ∀ w C vs, AllP Rs w C vs → φ) (w : World) (C : Nat → Prop) (v : Value) (hv : (Rp.agg Rs).p w C v) : φ := let ⟨cs, _, hcs⟩ := hv; h w C cs hcs.1
end
end Go.Sim
