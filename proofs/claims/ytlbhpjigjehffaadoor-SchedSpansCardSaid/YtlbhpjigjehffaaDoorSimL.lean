/- A region whose order is open, operation by operation: one that reads only what nobody changes may be taken first; the others are taken when they are the only ones that may come. -/
import Derived.Test.YtlbhpjigjehffaaDoorSimG
import Derived.OrdersHeld
namespace Go.Sim

/-- What is published, or stays as it is, is as it was. -/
def Stab (w : World) (C : Nat → Prop) (Ms : List MF) (w' : World) : Prop := w.heap.size ≤ w'.heap.size ∧ ∀ b, (C b ∨ b ∈ feet Ms) → w'.heap[b]? = w.heap[b]?

theorem Stab.refl (w C Ms) : Stab w C Ms w := ⟨Nat.le_refl _, fun _ _ => rfl⟩
theorem Stab.pub {w C Ms w'} (h : Stab w C Ms w') : Pub w C w' C := fun b hb => ⟨hb, h.2 b (.inl hb)⟩
theorem Stab.mok {w C Ms w'} (h : Stab w C Ms w') (hm : MOk Ms w C) : MOk Ms w' C :=
  ⟨fun F hF => F.loc h.pub (fun b hb => h.2 b (.inr (mem_feet.2 ⟨F, hF, hb⟩))) (hm.facts F hF), hm.nodup, fun b hb => ⟨Nat.lt_of_lt_of_le (hm.own b hb).1 h.1, (hm.own b hb).2⟩, fun b hb => Nat.lt_of_lt_of_le (hm.wf b hb) h.1⟩

section
variable {P : Program} {B : Base} {n : Nat} {S : List (Nat × Rp)} {M Ms : List MF} {Q : Exit → Act → World → Prop} {l : List Oper}

def Qn (Q : Exit → Act → World → Prop) : Exit → Act → World → Prop := fun e a w => e = .normal ∧ Q e a w
def listedOf (n : Nat) (done : List Nat) : Array Bool := done.foldr (fun i acc => acc.setIfInBounds i true) (Array.replicate n false)

theorem wp_monoQ' {o : Oper} {a : Act} {w : World} {K K' : Act → World → Prop} {Q' : Exit → Act → World → Prop} (h : ∀ a w, K a w → K' a w) (hq : ∀ e a w, e ≠ .normal → Q e a w → Q' e a w)
    (hh : o.wp P a w K Q) : o.wp P a w K' Q' := by
  have hout : LetsOut Q → LetsOut Q' := fun ⟨a, w, h⟩ => ⟨a, w, hq _ _ _ (by simp) h⟩
  unfold Oper.wp at *
  generalize (execOp a.eval o).run P w = r at *
  cases r with
  | ok n w' =>
    cases n <;> simp only [Oper.upon] at hh ⊢ <;>
      first
        | exact h _ _ hh
        | exact Calls.mono hh (fun e w'' he => by cases e <;> first | exact h _ _ he | exact hq _ _ _ (by simp) he | exact hout he)
        | exact Rows.mono hh (fun _ _ he => h _ _ he)
  | halt x w' => cases x <;> simp only [Oper.upon] at hh ⊢ <;> exact hq _ _ _ (by simp) hh

theorem wpOp_monoQ {ops : Array Oper} {i : Nat} {a : Act} {w : World} {K K' : Act → World → Prop} {Q' : Exit → Act → World → Prop} (h : ∀ a w, K a w → K' a w) (hq : ∀ e a w, e ≠ .normal → Q e a w → Q' e a w)
    (hh : wpOp P ops Q i K a w) : wpOp P ops Q' i K' a w := by
  unfold wpOp at *
  split at hh
  · exact h _ _ hh
  · split at hh
    · rename_i hw; rw [if_pos hw]
      exact hh.imp (wp_monoQ' h hq) fun ⟨x, ⟨a', w', h'⟩⟩ => ⟨x, a', w', hq _ _ _ (by simp) h'⟩
    · rename_i hw; rw [if_neg hw]; exact h _ _ hh

theorem wpAnyH_mono {ops : Array Oper} {Q' : Exit → Act → World → Prop} {X X' : World → Prop} (hX : ∀ w, X w → X' w) (hq : ∀ e a w, Q e a w → Q' e a w) : ∀ (f : Nat) (listed : Array Bool) (a : Act) (w : World), wpAnyH P .any ops Q X f listed a w → wpAnyH P .any ops Q' X' f listed a w
  | 0, _, _, _, h => ⟨h.1, hq _ _ _ h.2⟩
  | f + 1, _, _, _, h => ⟨fun e => hq _ _ _ (h.1 e), fun i hi => wpOp_monoQ (fun _ _ hh => ⟨hX _ hh.1, wpAnyH_mono hX hq f _ _ _ hh.2⟩) (fun e a w _ hh => hq e a w hh) (h.2 i hi)⟩

/-- What is left of a region, where `done` is done. -/
def AH (P : Program) (B : Base) (n : Nat) (l : List Oper) (Q : Exit → Act → World → Prop) (Ms : List MF) (done : List Nat) (S : List (Nat × Rp)) (M : List MF) : Prop :=
  ∀ a w C, St B n S (M ++ Ms) a w C → ∀ X : World → Prop, (∀ w', Stab w C Ms w' → X w') → wpAnyH P .any l.toArray (Qn Q) X (l.length - done.length) (listedOf l.length done) a w

theorem AH.done {done : List Nat} (hr : Region.ready .any l.toArray (listedOf l.length done) = []) (h : N B n S (M ++ Ms) .normal Q) : AH P B n l Q Ms done S M :=
  fun a w C st _ _ => wpAnyH_done hr ⟨rfl, h a w C st⟩ _

/-- A value that an operation yields in every world in which what it reads is as it was. -/
def QSpec (P : Program) (ops : Array Oper) (σ : Nat → Option Rp) (Ms : List MF) (o : Oper) (R : Rp) : Prop :=
  ∀ a w C, SlotsOk σ a w C → MOk Ms w C → ∃ v, R.p w C v ∧
    ((Region.wanted o (yielded ops a.tmps) = true ∧ ∀ w', Stab w C Ms w' → (execOp a.eval o).run P w' = .ok (.value v) w') ∨ (Region.wanted o (yielded ops a.tmps) = false ∧ v = undef))

theorem St.right {a : Act} {w : World} {C : Nat → Prop} (st : St B n S (M ++ Ms) a w C) : MOk Ms w C := (st.mem.perm List.perm_append_comm).left

theorem listed_size {n : Nat} : ∀ done : List Nat, (listedOf n done).size = n
  | [] => by simp [listedOf]
  | i :: done => by have := listed_size (n := n) done; simp only [listedOf, List.foldr_cons, Array.size_setIfInBounds] at this ⊢; exact this

theorem AH.first {done : List Nat} {o : Oper} {R : Rp} {d : Nat} (i : Nat) (hi : l[i]? = some o) (hns : Region.noSelect l.toArray = true) (hf : Region.free .any l.toArray (listedOf l.length done) i = true)
    (hr : (Region.ready .any l.toArray (listedOf l.length done)).contains i = true) (hlen : Nat.blt done.length l.length = true) (hd : o.dst = some d) (hlt : Nat.blt d n = true)
    (hs : QSpec P l.toArray (look · S) Ms o R) (h : AH P B n l Q Ms (i :: done) ((d, R) :: S) M) : AH P B n l Q Ms done S M := by
  intro a w C st X hX
  obtain ⟨v, hv, hy⟩ := hs a w C st.slots st.right
  have hlen' : done.length < l.length := by simpa [Nat.blt_eq] using hlen
  have hlt' : d < n := by simpa [Nat.blt_eq] using hlt
  have e : l.length - done.length = l.length - (i :: done).length + 1 := by simp; omega
  rw [e]
  have hi' : l.toArray[i]? = some o := by simpa using hi
  refine wpAnyH_mono (X := fun w' => X w' ∧ Stab w C Ms w') (Q := Qn Q) (fun _ h => h.1) (fun _ _ _ h => h) _ _ _ _ ?_
  refine wpAnyH_first hi' (Region.noSelect_spec hns) (fun c a w h => by cases h.1) _ _ a w (Region.free_spec hi' hf) (by simpa using hr) (v := v) ?_ ⟨hX _ (Stab.refl ..), Stab.refl ..⟩ ?_
  · exact hy.imp (fun ⟨h1, h2⟩ => ⟨h1, fun w' hw' => h2 w' hw'.2⟩) id
  · refine h _ w C ?_ _ (fun w' hw' => ⟨hX _ hw', hw'⟩)
    have st' := st.step (R := R) (v := v) (F := []) (dst := some d) (fun d' hd' => by cases hd'; exact hlt') (Eff.refl _ _ _) st.mem.wf hv MNew.nil
    rw [hd]; exact st'

theorem St.rebase {a : Act} {w : World} {C : Nat → Prop} (st : St B n S (M ++ Ms) a w C) : St ⟨w, C, feet M⟩ n S M a w C :=
  ⟨st.size, st.defers, st.slots, st.mem.left, Eff.refl _ _ _, fun _ hb => .inl hb⟩
theorem St.debase {S' : List (Nat × Rp)} {M' : List MF} {a a' : Act} {w w' : World} {C C' : Nat → Prop} (st : St B n S (M ++ Ms) a w C) (st' : St ⟨w, C, feet M⟩ n S' M' a' w' C') : St B n S' (M' ++ Ms) a' w' C' := by
  have hFM : ∀ b ∈ feet M, b ∈ feet (M ++ Ms) := fun b hb => by rw [feet_append]; exact List.mem_append_left _ hb
  refine ⟨st'.size, st'.defers, st'.slots, st.mem.frame st'.eff st'.mem st'.since, st.eff.trans st'.eff (fun b hb => st.since b (hFM b hb)), fun b hb => ?_⟩
  rw [feet_append] at hb
  rcases List.mem_append.1 hb with hb | hb
  · rcases st'.since b hb with h1 | h1
    · exact st.since b (hFM b h1)
    · exact .inr (Nat.le_trans st.eff.size h1)
  · exact st.since b (by rw [feet_append]; exact List.mem_append_right _ hb)
theorem St.stab {S' : List (Nat × Rp)} {M' : List MF} {a a' : Act} {w w' : World} {C C' : Nat → Prop} (st : St B n S (M ++ Ms) a w C) (st' : St ⟨w, C, feet M⟩ n S' M' a' w' C') : Stab w C Ms w' := by
  have hnd := st.mem.nodup
  rw [feet_append, List.nodup_append] at hnd
  refine ⟨st'.eff.size, fun b hb => ?_⟩
  rcases hb with hb | hb
  · exact st'.eff.keep b (st.mem.wf b hb) fun h => (st.mem.own b (by rw [feet_append]; exact List.mem_append_left _ h)).2 hb
  · exact st'.eff.keep b (st.mem.own b (by rw [feet_append]; exact List.mem_append_right _ hb)).1 fun h => hnd.2.2 b h b hb rfl
theorem Stab.trans {w C w' C' w''} (h : Stab w C Ms w') (hp : ∀ b, C b → C' b) (h' : Stab w' C' Ms w'') : Stab w C Ms w'' :=
  ⟨Nat.le_trans h.1 h'.1, fun b hb => (h'.2 b (hb.imp (hp b) id)).trans (h.2 b hb)⟩

/-- Behind an operation. -/
def AftH (P : Program) (B B' : Base) (n : Nat) (l : List Oper) (Q : Exit → Act → World → Prop) (Ms : List MF) (done : List Nat) (e : Exit) (a : Act) (w : World) : Prop :=
  e = .normal ∧ ∃ S' M' C, St B' n S' M' a w C ∧ AH P B n l Q Ms done S' M'
theorem AftH.next {B' : Base} {done : List Nat} (h : AH P B n l Q Ms done S M) : N B' n S M .normal (AftH P B B' n l Q Ms done) := fun _ _ C st => ⟨rfl, S, M, C, st, h⟩

theorem AH.only {done : List Nat} {o : Oper} (i : Nat) (hi : l[i]? = some o) (hr : Region.ready .any l.toArray (listedOf l.length done) = [i]) (hlen : Nat.blt done.length l.length = true)
    (h : ∀ w C, L P ⟨w, C, feet M⟩ n S M l.toArray [o] (AftH P B ⟨w, C, feet M⟩ n l Q Ms (i :: done))) : AH P B n l Q Ms done S M := by
  intro a w C st X hX
  have hlen' : done.length < l.length := by simpa [Nat.blt_eq] using hlen
  have e : l.length - done.length = l.length - (i :: done).length + 1 := by simp; omega
  rw [e]
  refine ⟨fun h0 => (by rw [hr] at h0; cases h0), fun j hj => ?_⟩
  rw [hr] at hj
  have : j = i := by simpa using hj
  subst this
  have hL := h w C a w C st.rebase
  have hnext : ∀ a' w', AftH P B ⟨w, C, feet M⟩ n l Q Ms (j :: done) .normal a' w' → X w' ∧ wpAnyH P .any l.toArray (Qn Q) X (l.length - (j :: done).length) (listedOf l.length (j :: done)) a' w' := by
    intro a' w' ⟨_, S', M', C', st', hA⟩
    have hs := st.stab st'
    refine ⟨hX _ hs, hA a' w' C' (st.debase st') X fun w'' hw'' => hX _ (hs.trans (fun _ hb => ?_) hw'')⟩
    exact (st'.eff.cl _ (st.mem.wf _ hb) fun hbm => (st.mem.own _ (by rw [feet_append]; exact List.mem_append_left _ hbm)).2 hb).2 hb
  have hq : ∀ (e : Exit) (a' : Act) (w' : World), e ≠ .normal → AftH P B ⟨w, C, feet M⟩ n l Q Ms (j :: done) e a' w' → Qn Q e a' w' := fun e a' w' hne h => absurd h.1 hne
  unfold wpOp
  have hi' : l.toArray[j]? = some o := by simpa using hi
  simp only [hi']
  simp only [wpList] at hL
  split
  · rename_i hw
    rw [if_pos hw] at hL
    refine hL.imp (wp_monoQ' hnext hq) (fun h => ⟨h.1, ?_⟩)
    obtain ⟨a', w', h'⟩ := h.2
    exact absurd h'.1 (by simp)
  · rename_i hw
    rw [if_neg hw] at hL
    exact hnext _ _ hL

theorem St.drew' {a : Act} {w : World} {C : Nat → Prop} (h : St B n S M a w C) : St B n S M a { w with drawn := w.drawn + 1 } C := by
  have hp : Pub w C { w with drawn := w.drawn + 1 } C := fun b hb => ⟨hb, rfl⟩
  exact ⟨h.size, h.defers, fun t R ht => R.mono hp (h.slots t R ht),
    ⟨fun F hF => F.loc hp (fun b _ => rfl) (h.mem.facts F hF), h.mem.nodup, h.mem.own, h.mem.wf⟩,
    ⟨h.eff.size, h.eff.keep, h.eff.cl, h.eff.os, h.eff.tape, h.eff.output⟩, h.since⟩

/-- The region: Ms stays as it is. -/
theorem W.anyH {id : Nat} {M₀ : List MF} (M Ms : List MF) (hm : P.follows .mixedOrders = true) (hp : Pick M₀ (M ++ Ms)) (h : AH P B n l Q Ms [] S M) : W P B n S M₀ (.region id l.toArray true) Q := by
  intro a w C st
  refine wp_region_any hm ?_
  have := h a _ C (st.pick hp).drew' (fun _ => True) (fun _ _ => trivial)
  have h2 := wpAny_of_held _ _ _ _ (wpAnyH_mono (Q' := Q) (X' := fun _ => True) (fun _ h => h) (fun _ _ _ h => h.2) _ _ _ _ this)
  simpa [listedOf] using h2
end
end Go.Sim
