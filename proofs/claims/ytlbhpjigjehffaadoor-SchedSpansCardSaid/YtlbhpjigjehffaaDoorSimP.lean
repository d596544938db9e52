/- A function that calls itself through a variable of its own: the variable is published, and leads to a closure that has it. -/
import Derived.Test.YtlbhpjigjehffaaDoorSimO
namespace Go.Sim

/-- A pointer to a published variable with a closure that captures this very pointer. -/
def Rp.self (r : Nat) (f : FuncId) (pre post : List Rp) : Rp where
  p w C v := v = .pointer (some ⟨r, 0, none⟩) ∧ RowAt [Rp.clo f (pre ++ Rp.ptr r 0 :: post)] w C ⟨r, 0, none⟩
  mono hp := fun ⟨hv, h⟩ => ⟨hv, h.mono hp⟩
instance {r f pre post} : One (Rp.self r f pre post) := ⟨fun _ _ _ ⟨h, _⟩ => by rw [h]; rfl⟩
theorem allP_self {pre post : List Rp} {r : Nat} {f : FuncId} {w : World} {C : Nat → Prop} (hr : RowAt [Rp.clo f (pre ++ Rp.ptr r 0 :: post)] w C ⟨r, 0, none⟩) :
    ∀ (Rs : List Rp) (vs : List Value), AllP (Rs ++ Rp.ptr r 0 :: post) w C vs → AllP (Rs ++ Rp.self r f pre post :: post) w C vs
  | [], [], h => h.elim
  | [], _ :: _, h => ⟨⟨h.1, hr⟩, h.2⟩
  | _ :: _, [], h => h.elim
  | _ :: Rs, _ :: vs, h => ⟨h.1, allP_self hr Rs vs h.2⟩
theorem clo_self {pre post : List Rp} {r : Nat} {f : FuncId} {w : World} {C : Nat → Prop} {v : Value} (hr : RowAt [Rp.clo f (pre ++ Rp.ptr r 0 :: post)] w C ⟨r, 0, none⟩) (h : (Rp.clo f (pre ++ Rp.ptr r 0 :: post)).p w C v) : (Rp.clo f (pre ++ Rp.self r f pre post :: post)).p w C v :=
  let ⟨caps, hv, hc⟩ := h; ⟨caps, hv, allP_self hr pre caps hc⟩

section
variable {P : Program} {B : Base} {n : Nat} {S : List (Nat × Rp)} {M : List MF} {Q : Exit → Act → World → Prop} {ops : Array Oper} {rest : List Oper} {o : Oper} {σ : Nat → Option Rp}
theorem qs_loadSelf {t x} {r : Nat} {f : FuncId} {pre post : List Rp} (h : o.op = .load t x) (ha : ∀ w, (isAgg t).run P w = .ok false w) (hx : Get σ x (Rp.self r f pre post)) : QS P σ M o (Rp.clo f (pre ++ Rp.self r f pre post :: post)) :=
  fun a w C hs hm =>
    have hat : Get σ x (Rp.at [Rp.clo f (pre ++ Rp.ptr r 0 :: post)]) := hx.weak fun _ _ _ ⟨hv, hr⟩ => ⟨_, hv, hr⟩
    let ⟨v, hv, hr⟩ := qs_loadP1 (P := P) (M := M) h ha hat a w C hs hm
    ⟨v, clo_self (hx a w C hs).2 hv, hr⟩
theorem spec_loadSelf {t x} {r : Nat} {f : FuncId} {pre post : List Rp} (h : o.op = .load t x) (ha : ∀ w, (isAgg t).run P w = .ok false w) (hx : Get σ x (Rp.self r f pre post)) : Spec P σ M o (.one (Rp.clo f (pre ++ Rp.self r f pre post :: post))) :=
  Spec.of_run fun a w C hs hm => by
    obtain ⟨v, hv, hr⟩ := qs_loadSelf (P := P) (M := M) h ha hx a w C hs hm
    exact ⟨v, hr w (Stab.refl _ _ _), hv⟩
theorem St.pubSelf {a : Act} {w C} {r T m k : Nat} {f : FuncId} {pre post : List Rp} (st : St B n S M a w C) (hk : M[k]? = some (MF.row r T m [Rp.clo f (pre ++ Rp.ptr r 0 :: post)])) :
    ∃ C', St B n S (M.eraseIdx k) a w C' ∧ ∀ v, (Rp.ptr r 0).p w C v → (Rp.self r f pre post).p w C' v := by
  obtain ⟨C', st', h⟩ := st.pubB hk
  refine ⟨C', st', fun v hv => ⟨hv, ?_⟩⟩
  obtain ⟨a', ha, hr⟩ := h v hv
  have e : v = .pointer (some ⟨r, 0, none⟩) := hv
  rw [e] at ha
  cases ha
  exact hr
theorem W.pubSelf {c : Code} {r T m : Nat} {f : FuncId} {pre post : List Rp} (t k : Nat) (ht : look t S = some (Rp.ptr r 0)) (hk : M[k]? = some (MF.row r T m [Rp.clo f (pre ++ Rp.ptr r 0 :: post)])) (h : W P B n ((t, Rp.self r f pre post) :: S) (M.eraseIdx k) c Q) : W P B n S M c Q :=
  fun a w _ st => let ⟨C', st', hv⟩ := st.pubSelf hk; h a w C' (st'.putSlot (hv _ (st.slots t _ ht)))
theorem spec_max3 {k : IntKind} {x y z : Operand} {l m n : Int} {ts : Array TypeId} (h : o.op = .call ⟨.builtin .max, #[x, y, z], ts⟩) (hx : Get σ x (Rp.int k l)) (hy : Get σ y (Rp.int k m)) (hz : Get σ z (Rp.int k n)) : Spec P σ M o (.one (Rp.int k (max (max l m) n))) :=
  Spec.of_run fun a w C hs _ => ⟨.int k (max (max l m) n), by
    have e : ∀ a b : Int, (if a < b then b else a) = max a b := fun a b => by rw [Int.max_def]; split <;> split <;> omega
    simp only [execOp, h, resolve, Sem.run_bind, Sem.run_pure, Result.andThen_ok, invoke, builtin, Builtin.max_, List.map_toArray, List.map_cons, List.map_nil, get_int hx hs, get_int hy hs, get_int hz hs, List.foldlM_cons, List.foldlM_nil, Builtin.max2, e], rfl, by
      have h1 := (hx a w C hs).2; have h2 := (hy a w C hs).2; have h3 := (hz a w C hs).2
      rw [Int.max_def]; split
      · assumption
      · rw [Int.max_def]; split <;> assumption⟩
/-- Several operations are ready: each may be the next one. -/
def Forks (P : Program) (B : Base) (n : Nat) (l : List Oper) (Q : Exit → Act → World → Prop) (Ms : List MF) (done : List Nat) (S : List (Nat × Rp)) (M : List MF) : List Nat → Prop
  | [] => True
  | i :: is => (∃ o, l[i]? = some o ∧ ∀ w C, L P ⟨w, C, feet M⟩ n S M l.toArray [o] (AftH P B ⟨w, C, feet M⟩ n l Q Ms (i :: done))) ∧ Forks P B n l Q Ms done S M is
theorem Forks.get {l : List Oper} {Ms : List MF} {done : List Nat} : ∀ {is : List Nat}, Forks P B n l Q Ms done S M is → ∀ i ∈ is, ∃ o, l[i]? = some o ∧ ∀ w C, L P ⟨w, C, feet M⟩ n S M l.toArray [o] (AftH P B ⟨w, C, feet M⟩ n l Q Ms (i :: done))
  | [], _, i, hi => by cases hi
  | j :: is, h, i, hi => by
    rcases List.mem_cons.1 hi with rfl | hi
    · exact h.1
    · exact h.2.get i hi
theorem AH.forks {l : List Oper} {Ms : List MF} {done : List Nat} (i₀ : Nat) (is : List Nat) (hr : Region.ready .any l.toArray (listedOf l.length done) = i₀ :: is) (hlen : Nat.blt done.length l.length = true)
    (h : Forks P B n l Q Ms done S M (i₀ :: is)) : AH P B n l Q Ms done S M := by
  intro a w C st X hX
  have hlen' : done.length < l.length := by simpa [Nat.blt_eq] using hlen
  have e : l.length - done.length = l.length - (i₀ :: done).length + 1 := by simp; omega
  rw [e]
  refine ⟨fun h0 => (by rw [hr] at h0; cases h0), fun j hj => ?_⟩
  rw [hr] at hj
  obtain ⟨o, hi, h⟩ := h.get j hj
  have hL := h w C a w C st.rebase
  have hnext : ∀ a' w', AftH P B ⟨w, C, feet M⟩ n l Q Ms (j :: done) .normal a' w' → X w' ∧ wpAnyH P .any l.toArray (Qn Q) X (l.length - (i₀ :: done).length) (listedOf l.length (j :: done)) a' w' := by
    intro a' w' ⟨_, S', M', C', st', hA⟩
    have hs := st.stab st'
    refine ⟨hX _ hs, hA a' w' C' (st.debase st') X fun w'' hw'' => hX _ (hs.trans (fun _ hb => ?_) hw'')⟩
    exact (st'.eff.cl _ (st.mem.wf _ hb) fun hbm => (st.mem.own _ (by rw [feet_append]; exact List.mem_append_left _ hbm)).2 hb).2 hb
  have hq : ∀ (e : Exit) (a' : Act) (w' : World), e ≠ .normal → AftH P B ⟨w, C, feet M⟩ n l Q Ms (j :: done) e a' w' → Qn Q e a' w' := fun e a' w' hne h => absurd h.1 hne
  unfold wpOp
  have hi' : l.toArray[j]? = some o := by simpa using hi
  simp only [hi']
  simp only [wpList] at hL
  split
  · rename_i hw
    rw [if_pos hw] at hL
    refine hL.imp (wp_monoQ' hnext hq) (fun h => ⟨h.1, ?_⟩)
    obtain ⟨a', w', h'⟩ := h.2
    exact absurd h'.1 (by simp)
  · rename_i hw
    rw [if_neg hw] at hL
    exact hnext _ _ hL
end
end Go.Sim
