/- The core of a walk on data: contexts of facts about slots and about memory, the judgements over code and operations, and their structural rules. -/
import Derived.WalkKit
import Derived.Orders
namespace Go.Sim

/-- What persists: published blocks stay published and unchanged. -/
def Pub (w : World) (C : Nat → Prop) (w' : World) (C' : Nat → Prop) : Prop :=
  ∀ b, C b → C' b ∧ w'.heap[b]? = w.heap[b]?

theorem Pub.refl (w : World) (C : Nat → Prop) : Pub w C w C := fun _ h => ⟨h, rfl⟩
theorem Pub.trans {w C w' C' w'' C''} (h : Pub w C w' C') (h' : Pub w' C' w'' C'') : Pub w C w'' C'' :=
  fun b hb => ⟨(h' b (h b hb).1).1, (h' b (h b hb).1).2.trans (h b hb).2⟩

/-- A representation of one value. -/
structure Rp where
  p : World → (Nat → Prop) → Value → Prop
  mono : ∀ {w C w' C' v}, Pub w C w' C' → p w C v → p w' C' v

/-- A fact about memory that the running call owns. -/
structure MF where
  foot : List Nat
  p : World → (Nat → Prop) → Prop
  loc : ∀ {w C w' C'}, Pub w C w' C' → (∀ b ∈ foot, w'.heap[b]? = w.heap[b]?) → p w C → p w' C'

def feet (M : List MF) : List Nat := M.flatMap MF.foot

/-- What a piece of code may have done: new blocks, and changes of the blocks U alone. -/
structure Eff (U : List Nat) (w : World) (C : Nat → Prop) (w' : World) (C' : Nat → Prop) : Prop where
  size : w.heap.size ≤ w'.heap.size
  keep : ∀ b, b < w.heap.size → b ∉ U → w'.heap[b]? = w.heap[b]?
  cl : ∀ b, b < w.heap.size → b ∉ U → (C' b ↔ C b)
  os : w'.os = w.os
  tape : w'.tape = w.tape
  output : w'.output = w.output

theorem Eff.refl (U w C) : Eff U w C w C := ⟨Nat.le_refl _, fun _ _ _ => rfl, fun _ _ _ => Iff.rfl, rfl, rfl, rfl⟩

theorem Eff.trans {U V w C w' C' w'' C''} (h : Eff U w C w' C') (h' : Eff V w' C' w'' C'')
    (hv : ∀ b ∈ V, b ∈ U ∨ w.heap.size ≤ b) : Eff U w C w'' C'' where
  size := Nat.le_trans h.size h'.size
  keep b hb hu := by
    rw [h'.keep b (Nat.lt_of_lt_of_le hb h.size) (fun hbv => (hv b hbv).elim hu (fun hge => absurd hb (by omega))), h.keep b hb hu]
  cl b hb hu := (h'.cl b (Nat.lt_of_lt_of_le hb h.size) (fun hbv => (hv b hbv).elim hu (fun hge => absurd hb (by omega)))).trans (h.cl b hb hu)
  os := h'.os.trans h.os
  tape := h'.tape.trans h.tape
  output := h'.output.trans h.output

theorem Eff.mono {U V w C w' C'} (h : Eff U w C w' C') (hu : ∀ b ∈ U, b ∈ V) : Eff V w C w' C' :=
  ⟨h.size, fun b hb hv => h.keep b hb (fun hb' => hv (hu b hb')), fun b hb hv => h.cl b hb (fun hb' => hv (hu b hb')), h.os, h.tape, h.output⟩

theorem Eff.pub {U w C w' C'} (h : Eff U w C w' C') (hwf : ∀ b, C b → b < w.heap.size) (hu : ∀ b ∈ U, ¬ C b) : Pub w C w' C' :=
  fun b hb => ⟨(h.cl b (hwf b hb) (fun hbu => hu b hbu hb)).2 hb, h.keep b (hwf b hb) (fun hbu => hu b hbu hb)⟩

/-- The memory that is owned. -/
structure MOk (M : List MF) (w : World) (C : Nat → Prop) : Prop where
  facts : ∀ F ∈ M, F.p w C
  nodup : (feet M).Nodup
  own : ∀ b ∈ feet M, b < w.heap.size ∧ ¬ C b
  wf : ∀ b, C b → b < w.heap.size

theorem mem_feet {M : List MF} {b : Nat} : b ∈ feet M ↔ ∃ F ∈ M, b ∈ F.foot := by
  simp [feet, List.mem_flatMap]

/-- The fact of a slot: the first entry counts. -/
def look (t : Nat) : List (Nat × Rp) → Option Rp
  | [] => none
  | (u, R) :: l => bif Nat.beq u t then some R else look t l

def SlotsOk (σ : Nat → Option Rp) (a : Act) (w : World) (C : Nat → Prop) : Prop :=
  ∀ t R, σ t = some R → R.p w C (a.tmps.getD t undef)

/-- Where a call began. -/
structure Base where
  w : World
  C : Nat → Prop
  U : List Nat

structure St (B : Base) (n : Nat) (S : List (Nat × Rp)) (M : List MF) (a : Act) (w : World) (C : Nat → Prop) : Prop where
  size : a.tmps.size = n
  defers : a.defers = []
  slots : SlotsOk (look · S) a w C
  mem : MOk M w C
  eff : Eff B.U B.w B.C w C
  since : ∀ b ∈ feet M, b ∈ B.U ∨ B.w.heap.size ≤ b

/-- The judgements: code, operations, an exit. -/
def W (P : Program) (B : Base) (n : Nat) (S : List (Nat × Rp)) (M : List MF) (c : Code) (Q : Exit → Act → World → Prop) : Prop :=
  ∀ a w C, St B n S M a w C → c.wp P Q a w
def L (P : Program) (B : Base) (n : Nat) (S : List (Nat × Rp)) (M : List MF) (ops : Array Oper) (rest : List Oper) (Q : Exit → Act → World → Prop) : Prop :=
  ∀ a w C, St B n S M a w C → wpList P ops Q rest a w
def N (B : Base) (n : Nat) (S : List (Nat × Rp)) (M : List MF) (e : Exit) (Q : Exit → Act → World → Prop) : Prop :=
  ∀ a w C, St B n S M a w C → Q e a w

section
variable {P : Program} {B : Base} {n : Nat} {S S' : List (Nat × Rp)} {M M' : List MF} {Q Q' : Exit → Act → World → Prop} {ops : Array Oper} {rest : List Oper}

/-! Structural rules. -/
theorem W.seq {x y : Code} (h : W P B n S M x (Exit.then (y.wp P Q) Q)) : W P B n S M (.seq x y) Q :=
  fun a w C hs => wp_seq (h a w C hs)
theorem W.skip (h : N B n S M .normal Q) : W P B n S M .skip Q := fun a w C hs => wp_skip (h a w C hs)
theorem W.exit {id : Nat} (h : N B n S M (.exit id) Q) : W P B n S M (.exit id) Q := fun a w C hs => wp_exit (h a w C hs)
theorem W.ret (h : N B n S M .ret Q) : W P B n S M .ret Q := fun a w C hs => wp_ret (h a w C hs)
theorem W.block {id : Nat} {c : Code} (h : W P B n S M c (Exit.inBlock id Q)) : W P B n S M (.block id c) Q :=
  fun a w C hs => wp_block (h a w C hs)
theorem W.region {id : Nat} {l : List Oper} (h : L P B n S M l.toArray l Q) : W P B n S M (.region id l.toArray false) Q :=
  fun a w C hs => wp_region_lit (h a w C hs)
theorem L.nil (h : N B n S M .normal Q) : L P B n S M ops [] Q := fun a w C hs => wpList_nil (h a w C hs)
theorem N.thenW {y : Code} {Q₀ : Exit → Act → World → Prop} (h : W P B n S M y Q) : N B n S M .normal (Exit.then (y.wp P Q) Q₀) :=
  fun a w C hs => h a w C hs
theorem N.thenExit {id : Nat} {K : Act → World → Prop} (h : N B n S M (.exit id) Q) : N B n S M (.exit id) (Exit.then K Q) :=
  fun a w C hs => h a w C hs
theorem N.thenRet {K : Act → World → Prop} (h : N B n S M .ret Q) : N B n S M .ret (Exit.then K Q) :=
  fun a w C hs => h a w C hs
theorem N.blockNormal {id : Nat} (h : N B n S M .normal Q) : N B n S M .normal (Exit.inBlock id Q) := fun a w C hs => h a w C hs
theorem N.blockRet {id : Nat} (h : N B n S M .ret Q) : N B n S M .ret (Exit.inBlock id Q) := fun a w C hs => h a w C hs
theorem N.blockExit {id : Nat} (h : N B n S M .normal Q) : N B n S M (.exit id) (Exit.inBlock id Q) :=
  fun a w C hs => by simp only [Exit.inBlock, if_true]; exact h a w C hs
theorem N.blockMiss {id id' : Nat} (hne : (id == id') = false) (h : N B n S M (.exit id) Q) : N B n S M (.exit id) (Exit.inBlock id' Q) :=
  fun a w C hs => by
    have : id ≠ id' := by simpa using hne
    simp only [Exit.inBlock, this, if_false]; exact h a w C hs

/-- A cut: what is known at the end of x, for some data s. -/
def Mid (B : Base) (n : Nat) {σ : Type} (S : σ → List (Nat × Rp)) (M : σ → List MF) (a : Act) (w : World) : Prop := ∃ s C, St B n (S s) (M s) a w C
theorem W.cut {σ : Type} {x y : Code} (S₁ : σ → List (Nat × Rp)) (M₁ : σ → List MF)
    (h : W P B n S M x (Exit.then (Mid B n S₁ M₁) Q)) (h' : ∀ s, W P B n (S₁ s) (M₁ s) y Q) : W P B n S M (.seq x y) Q :=
  fun a w C hs => wp_seq (wp_mono (h a w C hs) fun e a w q => by
    cases e <;> first | (obtain ⟨s, C, hs⟩ := q; exact h' s a w C hs) | exact q)

/-! Entailment. -/
def Sub (S S' : List (Nat × Rp)) : Prop := ∀ t R, look t S' = some R → ∃ R₀, look t S = some R₀ ∧ ∀ w C v, R₀.p w C v → R.p w C v
theorem Sub.nil : Sub S [] := fun t R h => by simp [look] at h
theorem Sub.cons {t : Nat} {R : Rp} (h : look t S = some R) (hs : Sub S S') : Sub S ((t, R) :: S') := by
  intro u R' hu
  simp only [look] at hu
  cases htu : Nat.beq t u with
  | true =>
    have : t = u := Nat.eq_of_beq_eq_true htu
    subst this
    rw [htu] at hu
    simp only [cond_true, Option.some.injEq] at hu
    subst hu
    exact ⟨R, h, fun _ _ _ h => h⟩
  | false => rw [htu] at hu; simp only [cond_false] at hu; exact hs u R' hu
theorem Sub.weak {t : Nat} {R R₀ : Rp} (h : look t S = some R₀) (hw : ∀ w C v, R₀.p w C v → R.p w C v) (hs : Sub S S') : Sub S ((t, R) :: S') := by
  intro u R' hu
  simp only [look] at hu
  cases htu : Nat.beq t u with
  | true =>
    have : t = u := Nat.eq_of_beq_eq_true htu
    subst this
    rw [htu] at hu
    simp only [cond_true, Option.some.injEq] at hu
    subst hu
    exact ⟨R₀, h, hw⟩
  | false => rw [htu] at hu; simp only [cond_false] at hu; exact hs u R' hu
theorem Sub.refl : Sub S S := fun _ R h => ⟨R, h, fun _ _ _ h => h⟩

theorem SlotsOk.sub {a : Act} {w : World} {C : Nat → Prop} (hs : Sub S S') (h : SlotsOk (look · S) a w C) : SlotsOk (look · S') a w C :=
  fun t R ht => let ⟨R₀, h₀, hw⟩ := hs t R ht; hw _ _ _ (h t R₀ h₀)

theorem St.sub {a : Act} {w : World} {C : Nat → Prop} (hs : Sub S S') (h : St B n S M a w C) : St B n S' M a w C :=
  ⟨h.size, h.defers, h.slots.sub hs, h.mem, h.eff, h.since⟩

/-- Some of the owned facts, in whatever order. -/
inductive Pick : List MF → List MF → Prop
  | nil {M : List MF} : Pick M []
  | cons {M : List MF} (k : Nat) {F : MF} {M' : List MF} (h : M[k]? = some F) (hs : Pick (M.eraseIdx k) M') : Pick M (F :: M')
  | refl {M : List MF} : Pick M M

theorem perm_eraseIdx {α : Type _} : ∀ (l : List α) (k : Nat) (x : α), l[k]? = some x → l.Perm (x :: l.eraseIdx k)
  | [], k, x, h => by simp at h
  | y :: l, 0, x, h => by simp at h; subst h; exact List.Perm.refl _
  | y :: l, k + 1, x, h => by
    simp only [List.getElem?_cons_succ] at h
    simp only [List.eraseIdx_cons_succ]
    exact ((perm_eraseIdx l k x h).cons y).trans (List.Perm.swap x y _)

theorem Pick.perm {M M' : List MF} (h : Pick M M') : ∃ R, M.Perm (M' ++ R) := by
  induction h with
  | nil => exact ⟨_, List.Perm.refl _⟩
  | refl => exact ⟨[], by simp⟩
  | cons k h hs ih =>
    obtain ⟨R, hR⟩ := ih
    exact ⟨R, (perm_eraseIdx _ k _ h).trans (hR.cons _)⟩

theorem feet_append (M M' : List MF) : feet (M ++ M') = feet M ++ feet M' := by simp [feet]
theorem feet_perm {M M' : List MF} (h : M.Perm M') : (feet M).Perm (feet M') := h.flatMap_right _

theorem MOk.perm {w : World} {C : Nat → Prop} (hp : M.Perm M') (h : MOk M w C) : MOk M' w C :=
  ⟨fun F hF => h.facts F (hp.mem_iff.2 hF), (feet_perm hp).nodup_iff.1 h.nodup, fun b hb => h.own b ((feet_perm hp).mem_iff.2 hb), h.wf⟩
theorem MOk.left {w : World} {C : Nat → Prop} {R : List MF} (h : MOk (M ++ R) w C) : MOk M w C :=
  ⟨fun F hF => h.facts F (List.mem_append_left _ hF), (List.nodup_append.1 (feet_append M R ▸ h.nodup)).1,
    fun b hb => h.own b (by rw [feet_append]; exact List.mem_append_left _ hb), h.wf⟩
theorem MOk.pick {w : World} {C : Nat → Prop} (hp : Pick M M') (h : MOk M w C) : MOk M' w C :=
  let ⟨_, hR⟩ := hp.perm; (h.perm hR).left
theorem feet_pick (hp : Pick M M') {b : Nat} (hb : b ∈ feet M') : b ∈ feet M := by
  obtain ⟨R, hR⟩ := hp.perm
  exact (feet_perm hR).mem_iff.2 (by rw [feet_append]; exact List.mem_append_left _ hb)

theorem St.pick {a : Act} {w : World} {C : Nat → Prop} (hp : Pick M M') (h : St B n S M a w C) : St B n S M' a w C :=
  ⟨h.size, h.defers, h.slots, h.mem.pick hp, h.eff, fun b hb => h.since b (feet_pick hp hb)⟩

theorem W.keep {c : Code} (hs : Sub S S') (hp : Pick M M') (h : W P B n S' M' c Q) : W P B n S M c Q :=
  fun a w C st => h a w C ((st.sub hs).pick hp)
theorem N.keep {e : Exit} (hs : Sub S S') (hp : Pick M M') (h : N B n S' M' e Q) : N B n S M e Q :=
  fun a w C st => h a w C ((st.sub hs).pick hp)
theorem L.keep (hs : Sub S S') (hp : Pick M M') (h : L P B n S' M' ops rest Q) : L P B n S M ops rest Q :=
  fun a w C st => h a w C ((st.sub hs).pick hp)

theorem N.mid {σ : Type} {S₁ : σ → List (Nat × Rp)} {M₁ : σ → List MF} (s : σ) (hs : Sub S (S₁ s)) (hp : Pick M (M₁ s)) : N B n S M .normal (Exit.then (Mid B n S₁ M₁) Q) :=
  fun _ _ C st => ⟨s, C, (st.sub hs).pick hp⟩

/-- The end of a round: the invariant at other data, of a smaller measure. -/
def Rnd (B : Base) (n : Nat) {σ : Type} (S₁ : σ → List (Nat × Rp)) (M₁ : σ → List MF) (I : σ → Prop) (μ : σ → Nat) (s : σ) (a : Act) (w : World) : Prop :=
  ∃ s', I s' ∧ μ s' < μ s ∧ ∃ C, St B n (S₁ s') (M₁ s') a w C

/-- A loop, by an invariant over data and a measure. -/
theorem W.loop {σ : Type} {c : Code} (S₁ : σ → List (Nat × Rp)) (M₁ : σ → List MF) (I : σ → Prop) (μ : σ → Nat) (s₀ : σ) (hI : I s₀) (hs : Sub S (S₁ s₀)) (hp : Pick M (M₁ s₀))
    (round : ∀ s, I s → W P B n (S₁ s) (M₁ s) c (Exit.then (Rnd B n S₁ M₁ I μ s) Q)) : W P B n S M (.loop c) Q := by
  intro a w C st
  have key : ∀ (k : Nat) (s : σ), μ s ≤ k → I s → ∀ a w C, St B n (S₁ s) (M₁ s) a w C → ∀ (b : Frame) (kk : List Item) (cs : List Frame),
      ∃ e a' w', Q e a' w' ∧ Arrives P (lone (b.at a (.code c :: .inLoop c :: kk)) cs w) b kk cs e a' w' := by
    intro k
    induction k with
    | zero =>
      intro s hk hIs a w C st b kk cs
      obtain ⟨e, a₁, w₁, hq, harr⟩ := round s hIs a w C st b (.inLoop c :: kk) cs
      cases e with
      | normal => obtain ⟨s', _, hs', _⟩ := hq; omega
      | exit id => exact ⟨_, a₁, w₁, hq, .pass (x := .inLoop c) rfl (fun _ _ => .inl (by simp)) harr⟩
      | goto l => exact ⟨_, a₁, w₁, hq, .pass (x := .inLoop c) rfl (fun _ _ => .inl (by simp)) harr⟩
      | ret => exact ⟨_, a₁, w₁, hq, .pass (x := .inLoop c) rfl (fun _ _ => .inl (by simp)) harr⟩
      | panic ch => exact ⟨_, a₁, w₁, hq, .pass (x := .inLoop c) rfl (fun _ _ => .inl (by simp)) harr⟩
      | outgrown => exact ⟨_, a₁, w₁, hq, .pass (x := .inLoop c) rfl (fun _ _ => .inl (by simp)) harr⟩
    | succ k ih =>
      intro s hk hIs a w C st b kk cs
      obtain ⟨e, a₁, w₁, hq, harr⟩ := round s hIs a w C st b (.inLoop c :: kk) cs
      cases e with
      | normal =>
        obtain ⟨s', hI', hs', C', st'⟩ := hq
        obtain ⟨e₂, a₂, w₂, hq₂, harr₂⟩ := ih s' (by omega) hI' a₁ w₁ C' st' b kk cs
        exact ⟨e₂, a₂, w₂, hq₂, .of_steps (Steps.trans harr (.one step_inLoop)) harr₂⟩
      | exit id => exact ⟨_, a₁, w₁, hq, .pass (x := .inLoop c) rfl (fun _ _ => .inl (by simp)) harr⟩
      | goto l => exact ⟨_, a₁, w₁, hq, .pass (x := .inLoop c) rfl (fun _ _ => .inl (by simp)) harr⟩
      | ret => exact ⟨_, a₁, w₁, hq, .pass (x := .inLoop c) rfl (fun _ _ => .inl (by simp)) harr⟩
      | panic ch => exact ⟨_, a₁, w₁, hq, .pass (x := .inLoop c) rfl (fun _ _ => .inl (by simp)) harr⟩
      | outgrown => exact ⟨_, a₁, w₁, hq, .pass (x := .inLoop c) rfl (fun _ _ => .inl (by simp)) harr⟩
  intro b kk cs
  obtain ⟨e, a', w', hq, harr⟩ := key _ s₀ (Nat.le_refl _) hI a w C ((st.sub hs).pick hp) b kk cs
  exact ⟨e, a', w', hq, .of_steps (.one step_loop) harr⟩

/-- The end of a round. -/
theorem N.round {σ : Type} {S₁ : σ → List (Nat × Rp)} {M₁ : σ → List MF} {I : σ → Prop} {μ : σ → Nat} {s : σ} (s' : σ) (hI : I s') (hμ : μ s' < μ s) (hs : Sub S (S₁ s')) (hp : Pick M (M₁ s')) :
    N B n S M .normal (Exit.then (Rnd B n S₁ M₁ I μ s) Q) :=
  fun _ _ C st => ⟨s', hI, hμ, C, (st.sub hs).pick hp⟩

/-! What an operand is. -/
def Get (σ : Nat → Option Rp) (x : Operand) (R : Rp) : Prop := ∀ a w C, SlotsOk σ a w C → R.p w C (a.eval x)
theorem Get.tmp {σ : Nat → Option Rp} {t : Nat} {R : Rp} (h : σ t = some R) : Get σ (.tmp t) R := fun _ _ _ hs => hs t R h
theorem Get.weak {σ : Nat → Option Rp} {x : Operand} {R R' : Rp} (h : Get σ x R) (hw : ∀ w C v, R.p w C v → R'.p w C v) : Get σ x R' := fun a w C hs => hw _ _ _ (h a w C hs)
theorem Get.const {σ : Nat → Option Rp} {v : Value} {R : Rp} (h : ∀ w C, R.p w C v) : Get σ (.const v) R := fun _ w C _ => h w C
theorem Get.func {σ : Nat → Option Rp} {f : FuncId} {R : Rp} (h : ∀ w C, R.p w C (.func (.func f) #[] #[])) : Get σ (.func f) R := fun _ w C _ => h w C

/-- A value that is there where c holds, and nowhere else. -/
def Rp.opt (c : Prop) (R : Rp) : Rp where
  p w C v := (c → R.p w C v) ∧ (¬ c → v = undef)
  mono hp h := ⟨fun hc => R.mono hp (h.1 hc), h.2⟩
theorem Get.opt {σ : Nat → Option Rp} {t : Nat} {R : Rp} {c : Prop} (h : σ t = some (Rp.opt c R)) (hc : c) : Get σ (.tmp t) R :=
  fun _ _ _ hs => (hs t _ h).1 hc

/-- What an operation yields: for some index, a fact of its value and facts of new memory. -/
structure RA where
  ι : Type
  R : ι → Rp
  F : ι → List MF
def RA.one (R : Rp) : RA := ⟨Unit, fun _ => R, fun _ => []⟩

/-- New memory: its facts hold, its blocks are new, owned and distinct. -/
structure MNew (F : List MF) (w : World) (w' : World) (C' : Nat → Prop) : Prop where
  facts : ∀ G ∈ F, G.p w' C'
  nodup : (feet F).Nodup
  own : ∀ b ∈ feet F, w.heap.size ≤ b ∧ b < w'.heap.size ∧ ¬ C' b
theorem MNew.nil {w w' C'} : MNew [] w w' C' := ⟨by simp, by simp [feet], by simp [feet]⟩

/-- An operation that changes nothing that was there. -/
def Spec (P : Program) (σ : Nat → Option Rp) (M : List MF) (o : Oper) (A : RA) : Prop :=
  ∀ (a : Act) (w : World) (C : Nat → Prop) (K : Act → World → Prop) (Q : Exit → Act → World → Prop), SlotsOk σ a w C → MOk M w C →
    (∀ i v w' C', Eff [] w C w' C' → (∀ b, C' b → b < w'.heap.size) → (A.R i).p w' C' v → MNew (A.F i) w w' C' → K (a.put o.dst v) w') → o.wp P a w K Q

theorem Spec.of_run {σ : Nat → Option Rp} {o : Oper} {R : Rp}
    (h : ∀ a w C, SlotsOk σ a w C → MOk M w C → ∃ v, (execOp a.eval o).run P w = .ok (.value v) w ∧ R.p w C v) : Spec P σ M o (.one R) := by
  intro a w C K Q hs hm hk
  obtain ⟨v, hr, hv⟩ := h a w C hs hm
  unfold Oper.wp
  rw [hr]
  exact hk () v w C (Eff.refl _ _ _) hm.wf hv MNew.nil

/-! The state behind an operation. -/
theorem getD_put (a : Act) (d t : Nat) (v : Value) : (a.put (some d) v).tmps.getD t undef = if t = d ∧ d < a.tmps.size then v else a.tmps.getD t undef := by
  simp only [Act.put]
  by_cases h : t = d
  · subst h
    by_cases h2 : t < a.tmps.size
    · simp [h2]
    · simp [h2]
  · have : d ≠ t := fun e => h e.symm
    simp [h, Array.getElem?_setIfInBounds_ne this]

theorem look_cons_ne {t d : Nat} {R : Rp} (h : d ≠ t) : look t ((d, R) :: S) = look t S := by
  simp only [look]
  have : Nat.beq d t = false := by
    cases hb : Nat.beq d t with
    | true => exact absurd (Nat.eq_of_beq_eq_true hb) h
    | false => rfl
  rw [this]; rfl
theorem look_cons_eq {t : Nat} {R : Rp} : look t ((t, R) :: S) = some R := by
  simp only [look, Nat.beq_refl, cond_true]

/-- The slots behind an operation. -/
def putS (dst : Option Nat) (R : Rp) (S : List (Nat × Rp)) : List (Nat × Rp) :=
  match dst with
  | some d => (d, R) :: S
  | none => S

theorem slots_put {a : Act} {w C w' C'} {R : Rp} {v : Value} {dst : Option Nat} (hsz : a.tmps.size = n) (hd : ∀ d, dst = some d → d < n)
    (hs : SlotsOk (look · S) a w C) (hp : Pub w C w' C') (hv : R.p w' C' v) : SlotsOk (look · (putS dst R S)) (a.put dst v) w' C' := by
  cases dst with
  | none => exact fun t R' ht => R'.mono hp (hs t R' ht)
  | some d =>
    intro t R' ht
    simp only [putS] at ht
    rw [getD_put]
    by_cases htd : t = d
    · subst htd
      simp only [look_cons_eq, Option.some.injEq] at ht
      subst ht
      rw [if_pos ⟨rfl, hsz ▸ hd t rfl⟩]
      exact hv
    · rw [if_neg (fun h => htd h.1)]
      rw [look_cons_ne (Ne.symm htd)] at ht
      exact R'.mono hp (hs t R' ht)

theorem MOk.add {F : List MF} {w C w' C'} (h : MOk M w C) (he : Eff [] w C w' C') (hwf : ∀ b, C' b → b < w'.heap.size) (hn : MNew F w w' C') : MOk (F ++ M) w' C' where
  facts G hG := by
    rcases List.mem_append.1 hG with hG | hG
    · exact hn.facts G hG
    · exact G.loc (he.pub h.wf (by simp)) (fun b hb => he.keep b (h.own b (mem_feet.2 ⟨G, hG, hb⟩)).1 (by simp)) (h.facts G hG)
  nodup := by
    rw [feet_append, List.nodup_append]
    refine ⟨hn.nodup, h.nodup, fun b hb c hc hbc => ?_⟩
    subst hbc
    have := (hn.own b hb).1
    have := (h.own b hc).1
    omega
  own b hb := by
    rw [feet_append] at hb
    rcases List.mem_append.1 hb with hb | hb
    · exact (hn.own b hb).2
    · exact ⟨Nat.lt_of_lt_of_le (h.own b hb).1 he.size, fun hc => (h.own b hb).2 ((he.cl b (h.own b hb).1 (by simp)).1 hc)⟩
  wf := hwf

theorem put_size (a : Act) (dst : Option Nat) (v : Value) : (a.put dst v).tmps.size = a.tmps.size := by
  cases dst <;> simp [Act.put]
theorem put_defers' (a : Act) (dst : Option Nat) (v : Value) : (a.put dst v).defers = a.defers := by
  cases dst <;> rfl

theorem St.step {a : Act} {w C w' C'} {R : Rp} {v : Value} {F : List MF} {dst : Option Nat} (hd : ∀ d, dst = some d → d < n) (h : St B n S M a w C)
    (he : Eff [] w C w' C') (hwf : ∀ b, C' b → b < w'.heap.size) (hv : R.p w' C' v) (hn : MNew F w w' C') : St B n (putS dst R S) (F ++ M) (a.put dst v) w' C' where
  size := (put_size _ _ _).trans h.size
  defers := (put_defers' _ _ _).trans h.defers
  slots := slots_put h.size hd h.slots (he.pub h.mem.wf (by simp)) hv
  mem := h.mem.add he hwf hn
  eff := h.eff.trans he (by simp)
  since b hb := by
    rw [feet_append] at hb
    rcases List.mem_append.1 hb with hb | hb
    · exact .inr (Nat.le_trans h.eff.size (hn.own b hb).1)
    · exact h.since b hb

/-- An operation with its guard. -/
def GSpec (P : Program) (ops : Array Oper) (σ : Nat → Option Rp) (M : List MF) (o : Oper) (A : RA) : Prop :=
  ∀ (a : Act) (w : World) (C : Nat → Prop) (K : Act → World → Prop) (Q : Exit → Act → World → Prop), SlotsOk σ a w C → MOk M w C →
    (∀ i v w' C', Eff [] w C w' C' → (∀ b, C' b → b < w'.heap.size) → (A.R i).p w' C' v → MNew (A.F i) w w' C' → K (a.put o.dst v) w') →
    if Region.wanted o (yielded ops a.tmps) then o.wp P a w K Q else K (a.put o.dst undef) w

/-- A Bool. -/
def Rp.bool (b : Bool) : Rp where
  p _ _ v := v = .bool b
  mono _ h := h

theorem GSpec.plain {σ : Nat → Option Rp} {o : Oper} {A : RA} (hg : o.guard = none) (hs : Spec P σ M o A) : GSpec P ops σ M o A := by
  intro a w C K Q h hm hk
  rw [if_pos (by simp [Region.wanted, hg])]
  exact hs a w C K Q h hm hk

theorem yielded_bool {a : Act} {j t : Nat} {b : Bool} (ht : (ops[j]?).bind (·.dst) = some t) (h : a.tmps.getD t undef = .bool b) : yielded ops a.tmps j = some b := by
  unfold yielded
  rw [ht]
  simp only [Option.bind_some]
  rcases Nat.lt_or_ge t a.tmps.size with hlt | hge
  · simp only [Array.getD_eq_getD_getElem?] at h
    simp [hlt] at h ⊢
    rw [h]
  · simp only [Array.getD_eq_getD_getElem?] at h
    simp [Array.getElem?_eq_none hge, undef] at h

theorem yielded_undef {a : Act} {j t : Nat} (ht : (ops[j]?).bind (·.dst) = some t) (h : a.tmps.getD t undef = undef) : yielded ops a.tmps j = none := by
  unfold yielded
  rw [ht]
  simp only [Option.bind_some]
  rcases Nat.lt_or_ge t a.tmps.size with hlt | hge
  · simp only [Array.getD_eq_getD_getElem?] at h
    simp [hlt] at h ⊢
    rw [h]; rfl
  · simp [Array.getElem?_eq_none hge]

/-- A guard that is a Bool: the operation is run where it holds. -/
theorem GSpec.guard {σ : Nat → Option Rp} {o : Oper} {R : Rp} {j t : Nat} {want b : Bool} (hg : o.guard = some (j, want)) (ht : (ops[j]?).bind (·.dst) = some t)
    (hb : σ t = some (Rp.bool b)) (hs : b = want → Spec P σ M o (.one R)) : GSpec P ops σ M o (.one (Rp.opt (b = want) R)) := by
  intro a w C K Q h hm hk
  have hy := yielded_bool ht (h t _ hb)
  by_cases hbw : b = want
  · rw [if_pos (by simp [Region.wanted, hg, hy, hbw])]
    exact hs hbw a w C K Q h hm fun i v w' C' he hwf hv hn => hk i v w' C' he hwf ⟨fun _ => hv, fun hn => absurd hbw hn⟩ hn
  · rw [if_neg (by simp [Region.wanted, hg, hy, hbw])]
    exact hk () undef w C (Eff.refl _ _ _) hm.wf ⟨fun hc => absurd hc hbw, fun _ => rfl⟩ MNew.nil

/-- .. that is itself there where c holds. -/
theorem GSpec.guardOpt {σ : Nat → Option Rp} {o : Oper} {R : Rp} {j t : Nat} {want b : Bool} {c : Prop} (hg : o.guard = some (j, want)) (ht : (ops[j]?).bind (·.dst) = some t)
    (hb : σ t = some (Rp.opt c (Rp.bool b))) (hs : c ∧ b = want → Spec P σ M o (.one R)) : GSpec P ops σ M o (.one (Rp.opt (c ∧ b = want) R)) := by
  intro a w C K Q h hm hk
  have h2 := h t _ hb
  by_cases hc : c
  · have hy := yielded_bool ht (h2.1 hc)
    by_cases hbw : b = want
    · rw [if_pos (by simp [Region.wanted, hg, hy, hbw])]
      exact hs ⟨hc, hbw⟩ a w C K Q h hm fun i v w' C' he hwf hv hn => hk i v w' C' he hwf ⟨fun _ => hv, fun hn => absurd ⟨hc, hbw⟩ hn⟩ hn
    · rw [if_neg (by simp [Region.wanted, hg, hy, hbw])]
      exact hk () undef w C (Eff.refl _ _ _) hm.wf ⟨fun hc => absurd hc.2 hbw, fun _ => rfl⟩ MNew.nil
  · have hy := yielded_undef ht (h2.2 hc)
    rw [if_neg (by simp [Region.wanted, hg, hy])]
    exact hk () undef w C (Eff.refl _ _ _) hm.wf ⟨fun hc' => absurd hc'.1 hc, fun _ => rfl⟩ MNew.nil

/-- One operation of a region in the order of the text. -/
theorem L.op {o : Oper} {A : RA} {d : Nat} (hd : o.dst = some d) (hlt : Nat.blt d n = true) (hs : GSpec P ops (look · S) M o A)
    (h : ∀ i, L P B n ((d, A.R i) :: S) (A.F i ++ M) ops rest Q) : L P B n S M ops (o :: rest) Q := by
  intro a w C st
  have hlt' : d < n := by simpa [Nat.blt_eq] using hlt
  refine wpList_step fun K hK => ?_
  refine hs a w C K Q st.slots st.mem fun i v w' C' he hwf hv hn => hK _ _ ?_
  have := st.step (dst := o.dst) (fun d' hd' => by rw [hd] at hd'; cases hd'; exact hlt') he hwf hv hn
  rw [hd] at this ⊢
  exact h i _ _ C' this
theorem L.op1 {o : Oper} {R : Rp} {d : Nat} (hd : o.dst = some d) (hlt : Nat.blt d n = true) (hs : GSpec P ops (look · S) M o (.one R))
    (h : L P B n ((d, R) :: S) M ops rest Q) : L P B n S M ops (o :: rest) Q :=
  L.op hd hlt hs fun _ => h
theorem L.op0 {o : Oper} {R : Rp} (hd : o.dst = none) (hs : GSpec P ops (look · S) M o (.one R))
    (h : L P B n S M ops rest Q) : L P B n S M ops (o :: rest) Q := by
  intro a w C st
  refine wpList_step fun K hK => ?_
  refine hs a w C K Q st.slots st.mem fun i v w' C' he hwf hv hn => hK _ _ ?_
  have := st.step (dst := o.dst) (fun d' hd' => by rw [hd] at hd'; cases hd') he hwf hv hn
  rw [hd] at this ⊢
  exact h _ _ C' this

theorem W.cond {c : Operand} {x y : Code} {b : Bool} (hc : Get (look · S) c (Rp.bool b)) (ht : b = true → W P B n S M x Q) (hf : b = false → W P B n S M y Q) :
    W P B n S M (.cond c x y) Q :=
  fun a w C st => wp_cond_split (hc a w C st.slots) (fun h => ht h a w C st) (fun h => hf h a w C st)

end
end Go.Sim
