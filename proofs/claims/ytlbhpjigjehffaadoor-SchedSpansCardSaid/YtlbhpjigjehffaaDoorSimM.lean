/- Keys of maps, closures, calls that only read what the caller owns, elements of owned slices. -/
import Derived.Test.YtlbhpjigjehffaaDoorSimK
import Derived.Test.YtlbhpjigjehffaaDoorSimL
namespace Go.Sim

section
variable {P : Program} {B : Base} {n : Nat} {S : List (Nat × Rp)} {M : List MF} {Q : Exit → Act → World → Prop} {ops : Array Oper} {rest : List Oper} {o : Oper} {σ : Nat → Option Rp}

/-! Keys. -/
theorem KeyT.int {K : TypeId} {k : IntKind} (hu : P.underlying K = some (.int k)) : KeyT P K (fun n : Int => .int .i64 n) where
  find {ν} vv w k es l h := by
    have key : ∀ (es : List MapEntry) (l : List (Int × ν)) (i : Nat), es.map (fun e => (e.key, e.val)) = l.map (fun x => (Value.int .i64 x.1, vv x.2)) →
        Instr.findNow (.int ‹IntKind›) (.int .i64 k) es i = some ((mfind k l i).map fun x => (x.1, vv x.2)) := by
      intro es
      induction es with
      | nil => intro l i h; cases l with
        | nil => rfl
        | cons x l => cases h
      | cons e es ih => intro l i h; cases l with
        | nil => cases h
        | cons x l =>
          simp only [List.map_cons, List.cons.injEq, Prod.mk.injEq] at h
          obtain ⟨⟨h1, h2⟩, h3⟩ := h
          simp only [Instr.findNow, h1, Instr.sameNow, if_true, mfind]
          by_cases hk : k = x.1
          · subst hk; simp [h2]
          · have : (k == x.1) = false := by simpa using hk
            rw [this]; simp only [hk, if_false]; exact ih l (i + 1) h3
    simp only [Instr.findKey, Sem.run_bind, run_underlying hu, Result.andThen_ok, key es l 0 h, Sem.run_pure]
  check w k b := by
    show (Instr.checkKey b (9999 + 1) K _).run P w = _
    generalize 9999 = m
    simp only [Instr.checkKey, Sem.run_bind, run_underlying hu, Result.andThen_ok, Sem.run_pure]
  stays k := by
    show Instr.sameBits (9999 + 1) _ _ = true
    generalize 9999 = m
    simp [Instr.sameBits]

/-- A value that is compared as it stands. -/
def Simple : Value → Prop
  | .int _ _ | .bool _ | .string _ => True
  | _ => False
theorem same_simple {v : Value} (h : Simple v) (d : Nat) : Instr.sameBits d v v = true := by
  cases v <;> simp_all [Simple, Instr.sameBits]
  rename_i s
  show (s.data == s.data) = true
  simp
theorem plain_simple {D : TypeDesc} {x y : Value} {b : Bool} (h : Plain D x y b) : Simple x := by cases h <;> trivial
theorem plain_check {e : Bool} {d : Nat} {t : TypeId} {D : TypeDesc} {x y : Value} {b : Bool} {w : World} (hu : P.underlying t = some D) (h : Plain D x y b) : (Instr.checkKey e (d + 1) t x).run P w = .ok () w := by
  cases h <;> simp [Instr.checkKey, run_underlying hu]
theorem run_checks {e : Bool} {d : Nat} {X : Array Value} {w : World} : ∀ {fs : List Field} {xs ys : List Value} {bs : List Bool} {k : Nat}, PlainF P fs xs ys bs k → X.toList.drop k = xs →
    (forIn (m := Sem) fs PUnit.unit fun f _ => do
      if f.name ≠ "_" then Instr.checkKey e (d + 1) f.type (← part f.type X f.offset)
      pure (ForInStep.yield PUnit.unit)).run P w = .ok PUnit.unit w
  | [], _, _, _, _, .nil, _ => by simp
  | f :: fs, x :: xs, y :: ys, b :: bs, k, .cons hn ho hu ha h hs, hX => by
    have hx : X[k]? = some x := by
      have := congrArg (fun l => l[0]?) hX
      simpa using this
    have hX' : X.toList.drop (k + 1) = xs := by rw [← List.drop_drop, hX]; rfl
    have ih := run_checks (e := e) (d := d) (X := X) (w := w) hs hX'
    rw [List.forIn_cons]
    subst ho
    simp only [ne_eq, hn, not_false_eq_true, if_true, Sem.run_bind, run_part ha hx, Result.andThen_ok, plain_check hu h, Sem.run_pure]
    exact ih

/-- Keys that are structs of plain fields. -/
theorem KeyT.struct {κ : Type} [DecidableEq κ] {K : TypeId} {fs : Array Field} {kvs : κ → List Value} (hu : P.underlying K = some (.struct fs)) (hst : P.stoodInHeld K = false)
    (hp : ∀ k k', ∃ bs, PlainF P fs.toList (kvs k) (kvs k') bs 0 ∧ bs.all id = decide (k = k')) (hsm : ∀ k, ∀ v ∈ kvs k, Simple v) : KeyT P K (fun k => .agg (kvs k).toArray) where
  find {ν} vv w k es l h := by
    have heq : ∀ k' w, (Op.equal K (.agg (kvs k).toArray) (.agg (kvs k').toArray)).run P w = .ok (decide (k = k')) w := by
      intro k' w
      obtain ⟨bs, h1, h2⟩ := hp k k'
      rw [← h2]; exact equalIn_struct (d := 9998) hu hst h1
    have key : ∀ (es : List MapEntry) (l : List (κ × ν)) (i : Nat), es.map (fun e => (e.key, e.val)) = l.map (fun x => (Value.agg (kvs x.1).toArray, vv x.2)) →
        (Instr.findAsking K (.agg (kvs k).toArray) es i).run P w = .ok ((mfind k l i).map fun x => (x.1, vv x.2)) w := by
      intro es
      induction es with
      | nil => intro l i h; cases l with
        | nil => simp [Instr.findAsking, mfind]
        | cons x l => cases h
      | cons e es ih => intro l i h; cases l with
        | nil => cases h
        | cons x l =>
          simp only [List.map_cons, List.cons.injEq, Prod.mk.injEq] at h
          obtain ⟨⟨h1, h2⟩, h3⟩ := h
          simp only [Instr.findAsking, h1, Sem.run_bind, heq, Result.andThen_ok, mfind]
          by_cases hk : k = x.1
          · subst hk; simp [h2]
          · simp only [hk, decide_false, Bool.false_eq_true, if_false]; exact ih l (i + 1) h3
    simp only [Instr.findKey, Sem.run_bind, run_underlying hu, Result.andThen_ok]
    cases es with
    | nil => cases l with
      | nil => simp [Instr.findNow, mfind]
      | cons x l => cases h
    | cons e es =>
      have : Instr.findNow (.struct fs) (.agg (kvs k).toArray) (e :: es) 0 = none := by
        cases l with
        | nil => cases h
        | cons x l =>
          simp only [List.map_cons, List.cons.injEq, Prod.mk.injEq] at h
          simp [Instr.findNow, Instr.sameNow]
      rw [this]; exact key _ l 0 h
  check w k b := by
    show (Instr.checkKey b (9998 + 1 + 1) K _).run P w = _
    obtain ⟨bs, h1, _⟩ := hp k k
    have := run_checks (P := P) (e := b) (d := 9998) (X := (kvs k).toArray) (w := w) h1 (by simp)
    rw [Array.forIn_toList] at this
    generalize 9998 + 1 = m at *
    simp only [Instr.checkKey, Sem.run_bind, run_underlying hu, Result.andThen_ok]
    simp at this ⊢
    rw [this]; rfl
  stays k := by
    show Instr.sameBits (9999 + 1) _ _ = true
    generalize 9999 = m
    simp only [Instr.sameBits, beq_self_eq_true, Bool.true_and, List.all_eq_true]
    rintro ⟨x, y⟩ hxy
    have : x = y ∧ x ∈ kvs k := by
      have h1 := List.of_mem_zip hxy
      obtain ⟨i, hi, he⟩ := List.getElem_of_mem hxy
      simp only [List.getElem_zip, Prod.mk.injEq] at he
      exact ⟨he.1.symm.trans he.2, h1.1⟩
    obtain ⟨rfl, hm⟩ := this
    exact same_simple (hsm k _ hm) m

/-! The check that a pointer is there. -/
class NonNil (R : Rp) : Prop where
  some : ∀ w C v, R.p w C v → ∃ a, v = .pointer (Option.some a)
instance {r off} : NonNil (Rp.ptr r off) := ⟨fun _ _ v h => ⟨_, show v = _ from h⟩⟩
instance {a} : NonNil (Rp.val (.pointer (some a))) := ⟨fun _ _ v h => ⟨_, show v = _ from h⟩⟩
instance {Rs} : NonNil (Rp.at Rs) := ⟨fun _ _ _ ⟨a, h, _⟩ => ⟨a, h⟩⟩
theorem spec_nilCheck {x : Operand} {R : Rp} [hn : NonNil R] (h : o.op = .nilCheck x) (hx : Get σ x R) : Spec P σ M o (.one R) :=
  Spec.of_run fun a w C hs _ => by
    have h1 := hx a w C hs
    obtain ⟨ad, hv⟩ := hn.some _ _ _ h1
    exact ⟨a.eval x, by simp [execOp, h, hv], h1⟩

/-! Closures. -/
def Rp.clo (f : FuncId) (Rs : List Rp) : Rp where
  p w C v := ∃ caps : List Value, v = .func (.func f) #[] caps.toArray ∧ AllP Rs w C caps
  mono hp := fun ⟨caps, hv, h⟩ => ⟨caps, hv, h.mono hp⟩
instance {f Rs} : One (Rp.clo f Rs) := ⟨fun _ _ _ ⟨_, h, _⟩ => by rw [h]; rfl⟩
theorem Get.clo {f : FuncId} : Get σ (.func f) (Rp.clo f []) := Get.func fun _ _ => ⟨[], rfl, trivial⟩
theorem spec_makeFunc {f : FuncId} {caps : Array Operand} {Rs : List Rp} (h : o.op = .makeFunc (.func f) #[] caps) (ha : ArgsOk σ caps.toList Rs) : Spec P σ M o (.one (Rp.clo f Rs)) :=
  Spec.of_run fun a w C hs _ => ⟨.func (.func f) #[] (caps.map a.eval), by simp [execOp, h, Instr.makeFunc], (caps.map a.eval).toList, by rw [Array.toArray_toList], by have := args_run hs ha; simpa using this⟩

/-- A function value: what it does. -/
def Rp.fn (P : Program) {ι : Type} (A : ι → List Rp) (X : ι → RA) : Rp where
  p w C v := ∃ f Rs, (Rp.clo f Rs).p w C v ∧ (∀ args w, (callFunc f args).run P w = .ok (.enter f args) w) ∧ ∀ i, CallT P f (A i ++ Rs) [] (X i)
  mono hp := fun ⟨f, Rs, hv, h⟩ => ⟨f, Rs, (Rp.clo f Rs).mono hp hv, h⟩
instance {ι : Type} {A : ι → List Rp} {X : ι → RA} : One (Rp.fn P A X) := ⟨fun w C v ⟨_, _, h, _⟩ => One.one w C v h⟩
theorem fn_of_clo {ι : Type} {A : ι → List Rp} {X : ι → RA} {f : FuncId} {Rs : List Rp} (hc : ∀ args w, (callFunc f args).run P w = .ok (.enter f args) w) (hf : ∀ i, CallT P f (A i ++ Rs) [] (X i)) (w : World) (C : Nat → Prop) (v : Value)
    (h : (Rp.clo f Rs).p w C v) : (Rp.fn P A X).p w C v := ⟨f, Rs, h, hc, hf⟩

theorem run_callV {x : Operand} {f : FuncId} {caps : List Value} {args : Array Operand} {ts : Array TypeId} {a : Act} {w : World} (h : o.op = .call ⟨.value x, args, ts⟩) (hv : a.eval x = .func (.func f) #[] caps.toArray) (hc : ∀ args w, (callFunc f args).run P w = .ok (.enter f args) w) :
    (execOp a.eval o).run P w = .ok (.enter f (args.map a.eval ++ caps.toArray)) w := by
  simp [execOp, h, resolve, Deferred.ofValue, hv, invoke, hc]

theorem spec_callF {ι : Type} {A : ι → List Rp} {X : ι → RA} (i : ι) {x : Operand} {args : Array Operand} {ts : Array TypeId} (h : o.op = .call ⟨.value x, args, ts⟩) (hx : Get σ x (Rp.fn P A X)) (ha : ArgsOk σ args.toList (A i)) : Spec P σ M o (X i) := by
  intro a w C K Q hs hm hk
  obtain ⟨f, Rs, ⟨caps, hv, hcaps⟩, hc, hf⟩ := hx a w C hs
  unfold Oper.wp
  rw [run_callV h hv hc, Oper.upon_enter]
  refine (hf i w C _ (by simpa using (args_run hs ha).append hcaps) ⟨by simp, by simp [feet], by simp [feet], hm.wf⟩).mono ?_
  rintro e w' ⟨j, v, C', rfl, he, hR, hM, hb⟩
  exact hk j v w' C' he hM.wf hR ⟨hM.facts, hM.nodup, fun b hb' => ⟨(hb b hb').resolve_left (by simp [feet]), hM.own b hb'⟩⟩
theorem spec_callC {f : FuncId} {Rs : List Rp} {A : List Rp} {X : RA} {x : Operand} {args : Array Operand} {ts : Array TypeId} (h : o.op = .call ⟨.value x, args, ts⟩) (hx : Get σ x (Rp.clo f Rs)) (hc : ∀ args w, (callFunc f args).run P w = .ok (.enter f args) w)
    (hf : CallT P f (A ++ Rs) [] X) (ha : ArgsOk σ args.toList A) : Spec P σ M o X :=
  spec_callF (ι := Unit) (A := fun _ => A) (X := fun _ => X) () h (hx.weak (fn_of_clo hc fun _ => hf)) ha
theorem L.callC {f : FuncId} {Rs : List Rp} {x : Operand} {args : Array Operand} {ts : Array TypeId} {A : List Rp} {F R : List MF} {X : RA} {d : Nat} (hg : o.guard = none) (hd : o.dst = some d) (hlt : Nat.blt d n = true) (h : o.op = .call ⟨.value x, args, ts⟩)
    (hx : Get (look · S) x (Rp.clo f Rs)) (hc : ∀ args w, (callFunc f args).run P w = .ok (.enter f args) w) (hf : CallT P f (A ++ Rs) F X) (hM : Pick M (F ++ R)) (ha : ArgsOk (look · S) args.toList A)
    (hL : ∀ i, L P B n ((d, X.R i) :: S) (X.F i ++ R) ops rest Q) : L P B n S M ops (o :: rest) Q := by
  intro a w C st'
  have st := st'.pick hM
  refine wpList_plain hg fun K hK => ?_
  unfold Oper.wp
  obtain ⟨caps, hv, hcaps⟩ := hx a w C st.slots
  rw [run_callV h hv hc, Oper.upon_enter]
  refine (hf w C _ (by simpa using (args_run st.slots ha).append hcaps) st.mem.left).mono ?_
  rintro e w' ⟨i, v, C', rfl, he, hR, hM, hb⟩
  have hlt' : d < n := by simpa [Nat.blt_eq] using hlt
  rw [hd]
  exact hK _ _ (hL i _ _ C' (st.call (dst := some d) (fun d' hd' => by cases hd'; exact hlt') he hR hM hb))

/-! A call that only reads what the caller owns: it sees it as published. -/
def Lift (M : List MF) (R A : Rp) : Prop := ∀ w C C' v, (∀ b, C b → C' b) → (∀ b ∈ feet M, C' b) → (∀ F ∈ M, F.p w C) → R.p w C v → A.p w C' v
theorem Lift.same {R : Rp} : Lift M R R := fun _ _ _ _ hC _ _ h => R.mono (fun b hb => ⟨hC b hb, rfl⟩) h
theorem Lift.any {R : Rp} : Lift M R Rp.any := fun _ _ _ _ _ _ _ _ => trivial
theorem osl_read {α : Type} {w : World} {C C' : Nat → Prop} {v : Value} {T sz : Nat} {E : α → List Rp} {xs : List α} (hE : ∀ x, (E x).length = sz) (hp : Pub w C w C') (hv : ∀ b, v.ownBlock = some b → C' b) (h : (MF.osl v T sz E xs).p w C) : (Rp.slice E xs).p w C' v := by
  obtain ⟨cs, h1, h2, h3⟩ := h
  refine ⟨by omega, ?_⟩
  rcases h1.2 with ⟨hv0, hn0⟩ | ⟨g, cap, cur, hv1, _, hg, hlc, _, hcs, htk⟩
  · exact .inl ⟨hv0, List.eq_nil_of_length_eq_zero hn0⟩
  · refine .inr ⟨⟨g, 0, none⟩, cap, hv1, hlc, .inr ⟨rfl, hv g (by rw [hv1]; rfl), cur, T, (0, 0), hg, ?_⟩⟩
    simp only [List.drop_zero]
    rw [flatMap_len hE, htk]
    exact h2.mono hp
theorem Lift.slice {α : Type} {v : Value} {T sz : Nat} {E : α → List Rp} {xs : List α} (k : Nat) (hk : M[k]? = some (MF.osl v T sz E xs)) (hE : ∀ x, (E x).length = sz) : Lift M (Rp.val v) (Rp.slice E xs) := fun w C C' u hC hf hm hu => by
  rw [show u = v from hu]
  have hk' := List.mem_of_getElem? hk
  exact osl_read hE (fun b hb => ⟨hC b hb, rfl⟩) (fun b hb => hf b (mem_feet.2 ⟨_, hk', by simp [MF.osl, hb]⟩)) (hm _ hk')
inductive LiftAll (M : List MF) : List Rp → List Rp → Prop
  | nil : LiftAll M [] []
  | cons {R A : Rp} {Rs As} (h : Lift M R A) (hs : LiftAll M Rs As) : LiftAll M (R :: Rs) (A :: As)
theorem LiftAll.same : ∀ {Rs : List Rp}, LiftAll M Rs Rs
  | [] => .nil
  | _ :: _ => .cons .same .same
theorem LiftAll.run {w C C'} (hC : ∀ b, C b → C' b) (hf : ∀ b ∈ feet M, C' b) (hm : ∀ F ∈ M, F.p w C) : ∀ {Rs As}, LiftAll M Rs As → ∀ {vs}, AllP Rs w C vs → AllP As w C' vs
  | [], [], .nil, [], _ => trivial
  | _ :: _, _ :: _, .cons h hs, _ :: _, hA => ⟨h _ _ _ _ hC hf hm hA.1, LiftAll.run hC hf hm hs hA.2⟩
  | _ :: _, _ :: _, .cons _ _, [], hA => hA.elim
theorem LiftAll.length : ∀ {Rs As}, LiftAll M Rs As → Rs.length = As.length
  | [], [], .nil => rfl
  | _ :: _, _ :: _, .cons _ hs => by simp [LiftAll.length hs]
theorem Lift.at {r T m : Nat} {Rs As : List Rp} (k : Nat) (hk : M[k]? = some (MF.row r T m Rs)) (hl : LiftAll M Rs As) : Lift M (Rp.ptr r 0) (Rp.at As) := fun w C C' u hC hf hm hu => by
  have hk' := List.mem_of_getElem? hk
  obtain ⟨cs, h1, h2, h3⟩ := hm _ hk'
  refine ⟨⟨r, 0, none⟩, hu, rfl, hf r (mem_feet.2 ⟨_, hk', by simp [MF.row]⟩), cs, T, _, h1, ?_⟩
  rw [← hl.length]
  exact ⟨hl.run hC hf hm h3.1, h3.2⟩
theorem Lift.box {r T : Nat} {Rs As : List Rp} (k : Nat) (hk : M[k]? = some (MF.box r T Rs)) (hl : LiftAll M Rs As) : Lift M (Rp.ptr r 0) (Rp.at As) := Lift.at k hk hl

/-- A value that leads to no memory. -/
class Flat (R : Rp) : Prop where
  flat : ∀ w C w' C' v, R.p w C v → R.p w' C' v
instance {k n} : Flat (Rp.int k n) := ⟨fun _ _ _ _ _ h => h⟩
instance {b} : Flat (Rp.bool b) := ⟨fun _ _ _ _ _ h => h⟩
instance {l} : Flat (Rp.str l) := ⟨fun _ _ _ _ _ h => h⟩
instance {v} : Flat (Rp.val v) := ⟨fun _ _ _ _ _ h => h⟩
instance {r off} : Flat (Rp.ptr r off) := ⟨fun _ _ _ _ _ h => h⟩
class FlatAll (Rs : List Rp) : Prop where
  flat : ∀ w C w' C' vs, AllP Rs w C vs → AllP Rs w' C' vs
instance : FlatAll [] := ⟨fun _ _ _ _ vs h => by cases vs <;> exact h⟩
instance {R Rs} [hR : Flat R] [hs : FlatAll Rs] : FlatAll (R :: Rs) := ⟨fun _ _ _ _ vs h => by
  cases vs with
  | nil => exact h.elim
  | cons v vs => exact ⟨hR.flat _ _ _ _ _ h.1, hs.flat _ _ _ _ _ h.2⟩⟩
instance {Rs} [hs : FlatAll Rs] : Flat (Rp.agg Rs) := ⟨fun _ _ _ _ _ ⟨cs, h1, h2⟩ => ⟨cs, h1, hs.flat _ _ _ _ _ h2.1, h2.2⟩⟩
instance {Rs} [hs : FlatAll Rs] : Flat (Rp.tuple Rs) := ⟨fun _ _ _ _ _ ⟨cs, h1, h2⟩ => ⟨cs, h1, hs.flat _ _ _ _ _ h2⟩⟩
instance : Flat (Rp.tuple []) := ⟨fun _ _ _ _ _ ⟨cs, h1, h2⟩ => ⟨cs, h1, FlatAll.flat _ _ _ _ _ h2⟩⟩

theorem spec_callB {f : FuncId} {args : Array Operand} {ts : Array TypeId} {Rs A : List Rp} {R : Rp} [hfl : Flat R] (h : o.op = .call ⟨.value (.func f), args, ts⟩) (hc : ∀ args w, (callFunc f args).run P w = .ok (.enter f args) w)
    (hf : CallT P f A [] (.one R)) (ha : ArgsOk σ args.toList Rs) (hl : LiftAll M Rs A) : Spec P σ M o (.one R) := by
  intro a w C K Q hs hm hk
  unfold Oper.wp
  rw [show (execOp a.eval o).run P w = .ok (.enter f (args.map a.eval)) w by
    simp [execOp, h, resolve, Deferred.ofValue, Act.eval, invoke, hc]]
  rw [Oper.upon_enter]
  have hwf : ∀ b, (C b ∨ b ∈ feet M) → b < w.heap.size := fun b hb => hb.elim (hm.wf b) fun h => (hm.own b h).1
  refine (hf w (fun b => C b ∨ b ∈ feet M) _ ?_ ⟨by simp, by simp [feet], by simp [feet], hwf⟩).mono ?_
  · have := hl.run (w := w) (C := C) (C' := fun b => C b ∨ b ∈ feet M) (fun b hb => .inl hb) (fun b hb => .inr hb) hm.facts (args_run hs ha)
    simpa using this
  · rintro e w' ⟨i, v, C', rfl, he, hR, hM, _⟩
    have hko : ∀ b, b < w.heap.size → w'.heap[b]? = w.heap[b]? := fun b hb => he.keep b hb (by simp [feet])
    refine hk () v w' (fun b => C' b ∧ b ∉ feet M) ⟨he.size, fun b hb _ => hko b hb, fun b hb _ => ?_, he.os, he.tape, he.output⟩ (fun b hb => hM.wf b hb.1) (hfl.flat _ _ _ _ _ hR) MNew.nil
    have h1 := he.cl b hb (by simp [feet])
    constructor
    · rintro ⟨h2, h3⟩; exact (h1.1 h2).resolve_right h3
    · intro h2; exact ⟨h1.2 (.inl h2), fun h3 => (hm.own b h3).2 h2⟩

/-- An owned variable is published: its pointer then leads to a published row. -/
theorem St.pubB {a : Act} {w C} {r T m k : Nat} {Rs : List Rp} (st : St B n S M a w C) (hk : M[k]? = some (MF.row r T m Rs)) :
    ∃ C', St B n S (M.eraseIdx k) a w C' ∧ ∀ v, (Rp.ptr r 0).p w C v → (Rp.at Rs).p w C' v := by
  obtain ⟨cs, h1, h2, h3⟩ := row_fact st.mem hk rfl
  have hp := perm_eraseIdx M k _ hk
  have hm := st.mem.perm hp
  have hfe : feet (MF.row r T m Rs :: M.eraseIdx k) = r :: feet (M.eraseIdx k) := by simp [feet, MF.row]
  let C' : Nat → Prop := fun b => C b ∨ b = r
  have hpub : Pub w C w C' := fun b hb => ⟨.inl hb, rfl⟩
  have hr : r ∈ feet M := mem_feet.2 ⟨_, List.mem_of_getElem? hk, by simp [MF.row]⟩
  have hnd := hm.nodup
  rw [hfe, List.nodup_cons] at hnd
  refine ⟨C', ⟨st.size, st.defers, fun u R hu => R.mono hpub (st.slots u R hu), ⟨?_, hnd.2, ?_, ?_⟩, ⟨st.eff.size, st.eff.keep, ?_, st.eff.os, st.eff.tape, st.eff.output⟩, ?_⟩, ?_⟩
  · exact fun G hG => G.loc hpub (fun _ _ => rfl) (st.mem.facts G (List.mem_of_mem_eraseIdx hG))
  · intro b hb
    have h4 := hm.own b (by rw [hfe]; exact List.mem_cons_of_mem _ hb)
    exact ⟨h4.1, fun hc => hc.elim h4.2 (fun e => hnd.1 (e ▸ hb))⟩
  · intro b hb
    rcases hb with hb | rfl
    · exact st.mem.wf b hb
    · exact (st.mem.own _ hr).1
  · intro b hb hu
    refine ⟨fun hc => hc.elim (st.eff.cl b hb hu).1 (fun hv => ?_), fun hc => .inl ((st.eff.cl b hb hu).2 hc)⟩
    subst hv
    exact ((st.since b hr).elim hu (fun h => absurd hb (by omega))).elim
  · intro b hb
    obtain ⟨G, hG, hbG⟩ := mem_feet.1 hb
    exact st.since b (mem_feet.2 ⟨G, List.mem_of_mem_eraseIdx hG, hbG⟩)
  · intro v hv
    exact ⟨⟨r, 0, none⟩, hv, rfl, .inr rfl, cs, T, _, h1, h3.mono hpub⟩
theorem St.putSlot {a : Act} {w C} {R : Rp} {t : Nat} (st : St B n S M a w C) (h : R.p w C (a.tmps.getD t undef)) : St B n ((t, R) :: S) M a w C :=
  ⟨st.size, st.defers, fun u R' hu => by
    by_cases htu : t = u
    · subst htu
      simp only [look_cons_eq, Option.some.injEq] at hu
      subst hu; exact h
    · simp only at hu
      rw [look_cons_ne htu] at hu
      exact st.slots u R' hu, st.mem, st.eff, st.since⟩
theorem L.pubB {r T m : Nat} {Rs : List Rp} (t k : Nat) (ht : look t S = some (Rp.ptr r 0)) (hk : M[k]? = some (MF.row r T m Rs)) (h : L P B n ((t, Rp.at Rs) :: S) (M.eraseIdx k) ops rest Q) : L P B n S M ops rest Q :=
  fun a w _ st => let ⟨C', st', hv⟩ := st.pubB hk; h a w C' (st'.putSlot (hv _ (st.slots t _ ht)))
theorem W.pubB {c : Code} {r T m : Nat} {Rs : List Rp} (t k : Nat) (ht : look t S = some (Rp.ptr r 0)) (hk : M[k]? = some (MF.row r T m Rs)) (h : W P B n ((t, Rp.at Rs) :: S) (M.eraseIdx k) c Q) : W P B n S M c Q :=
  fun a w _ st => let ⟨C', st', hv⟩ := st.pubB hk; h a w C' (st'.putSlot (hv _ (st.slots t _ ht)))
theorem N.pubB {e : Exit} {r T m : Nat} {Rs : List Rp} (t k : Nat) (ht : look t S = some (Rp.ptr r 0)) (hk : M[k]? = some (MF.row r T m Rs)) (h : N B n ((t, Rp.at Rs) :: S) (M.eraseIdx k) e Q) : N B n S M e Q :=
  fun a w _ st => let ⟨C', st', hv⟩ := st.pubB hk; h a w C' (st'.putSlot (hv _ (st.slots t _ ht)))

/-! A function value that works on memory of the caller's own. -/
def Rp.fnM (P : Program) {ι : Type} (A : ι → List Rp) (Mi : ι → List MF) (X : ι → RA) : Rp where
  p w C v := ∃ f Rs, (Rp.clo f Rs).p w C v ∧ (∀ args w, (callFunc f args).run P w = .ok (.enter f args) w) ∧ ∀ i, CallT P f (A i ++ Rs) (Mi i) (X i)
  mono hp := fun ⟨f, Rs, hv, h⟩ => ⟨f, Rs, (Rp.clo f Rs).mono hp hv, h⟩
instance {ι : Type} {A : ι → List Rp} {Mi : ι → List MF} {X : ι → RA} : One (Rp.fnM P A Mi X) := ⟨fun w C v ⟨_, _, h, _⟩ => One.one w C v h⟩
theorem fnM_of_clo {ι : Type} {A : ι → List Rp} {Mi : ι → List MF} {X : ι → RA} {f : FuncId} {Rs : List Rp} (hc : ∀ args w, (callFunc f args).run P w = .ok (.enter f args) w) (hf : ∀ i, CallT P f (A i ++ Rs) (Mi i) (X i)) (w : World) (C : Nat → Prop) (v : Value)
    (h : (Rp.clo f Rs).p w C v) : (Rp.fnM P A Mi X).p w C v := ⟨f, Rs, h, hc, hf⟩
theorem L.callM {ι : Type} {A : ι → List Rp} {Mi : ι → List MF} {X : ι → RA} (i : ι) {R : List MF} {x : Operand} {args : Array Operand} {ts : Array TypeId} {d : Nat} (hg : o.guard = none) (hd : o.dst = some d) (hlt : Nat.blt d n = true) (h : o.op = .call ⟨.value x, args, ts⟩)
    (hx : Get (look · S) x (Rp.fnM P A Mi X)) (hM : Pick M (Mi i ++ R)) (ha : ArgsOk (look · S) args.toList (A i))
    (hL : ∀ j, L P B n ((d, (X i).R j) :: S) ((X i).F j ++ R) ops rest Q) : L P B n S M ops (o :: rest) Q := by
  intro a w C st'
  have st := st'.pick hM
  refine wpList_plain hg fun K hK => ?_
  unfold Oper.wp
  obtain ⟨f, Rs, ⟨caps, hv, hcaps⟩, hc, hf⟩ := hx a w C st.slots
  rw [run_callV h hv hc, Oper.upon_enter]
  refine (hf i w C _ (by simpa using (args_run st.slots ha).append hcaps) st.mem.left).mono ?_
  rintro e w' ⟨j, v, C', rfl, he, hR, hM, hb⟩
  have hlt' : d < n := by simpa [Nat.blt_eq] using hlt
  rw [hd]
  exact hK _ _ (hL j _ _ C' (st.call (dst := some d) (fun d' hd' => by cases hd'; exact hlt') he hR hM hb))

/-- Owned facts are published together. -/
theorem St.pubF {a : Act} {w C} {F R : List MF} (st' : St B n S M a w C) (hp : Pick M (F ++ R)) : ∃ C', St B n S R a w C' ∧ (∀ G ∈ F, G.p w C') ∧ (∀ b ∈ feet F, C' b) ∧ Pub w C w C' := by
  have st := st'.pick hp
  let C' : Nat → Prop := fun b => C b ∨ b ∈ feet F
  have hpub : Pub w C w C' := fun b hb => ⟨.inl hb, rfl⟩
  have hnd := st.mem.nodup
  rw [feet_append, List.nodup_append] at hnd
  refine ⟨C', ⟨st.size, st.defers, fun u R hu => R.mono hpub (st.slots u R hu), ⟨?_, hnd.2.1, ?_, ?_⟩, ⟨st.eff.size, st.eff.keep, ?_, st.eff.os, st.eff.tape, st.eff.output⟩, ?_⟩, ?_, fun b hb => .inr hb, hpub⟩
  · exact fun G hG => G.loc hpub (fun _ _ => rfl) (st.mem.facts G (List.mem_append_right _ hG))
  · intro b hb
    have h4 := st.mem.own b (by rw [feet_append]; exact List.mem_append_right _ hb)
    exact ⟨h4.1, fun hc => hc.elim h4.2 (fun e => hnd.2.2 b e b hb rfl)⟩
  · intro b hb
    rcases hb with hb | hb
    · exact st.mem.wf b hb
    · exact (st.mem.own b (by rw [feet_append]; exact List.mem_append_left _ hb)).1
  · intro b hb hu
    refine ⟨fun hc => hc.elim (st.eff.cl b hb hu).1 (fun hv => ?_), fun hc => .inl ((st.eff.cl b hb hu).2 hc)⟩
    exact ((st.since b (by rw [feet_append]; exact List.mem_append_left _ hv)).elim hu (fun h => absurd hb (by omega))).elim
  · intro b hb
    exact st.since b (by rw [feet_append]; exact List.mem_append_right _ hb)
  · exact fun G hG => G.loc hpub (fun _ _ => rfl) (st.mem.facts G (List.mem_append_left _ hG))
theorem W.publish {c : Code} {F R : List MF} {R₀ R' : Rp} (t : Nat) (hp : Pick M (F ++ R)) (ht : look t S = some R₀) (hR : ∀ w C v, (∀ G ∈ F, G.p w C) → (∀ b ∈ feet F, C b) → R₀.p w C v → R'.p w C v) (h : W P B n ((t, R') :: S) R c Q) : W P B n S M c Q :=
  fun a w _ st => let ⟨C', st', h1, h2, _⟩ := st.pubF hp; h a w C' (st'.putSlot (hR _ _ _ h1 h2 (st'.slots t _ ht)))
end
end Go.Sim
