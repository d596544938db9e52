/- Structs compared, maps of the call's own. -/
import Derived.Test.YtlbhpjigjehffaaDoorSimG
namespace Go.Sim

section
variable {P : Program}

/-- Values of one cell that can be compared: an integer, a Bool, a string. -/
inductive Plain : TypeDesc → Value → Value → Bool → Prop
  | int {k k' : IntKind} {a b : Int} : Plain (.int k') (.int k a) (.int k b) (a == b)
  | bool {a b : Bool} : Plain .bool (.bool a) (.bool b) (a == b)
  | str {a b : ByteArray} : Plain .string (.string a) (.string b) (a == b)
theorem equalIn_plain {d : Nat} {t : TypeId} {D : TypeDesc} {x y : Value} {b : Bool} {w : World} (hu : P.underlying t = some D) (h : Plain D x y b) : (Op.equalIn (d + 1) t x y).run P w = .ok b w := by
  cases h <;> simp [Op.equalIn, run_underlying hu]

/-- The fields of a struct, compared one after the other. -/
inductive PlainF (P : Program) : List Field → List Value → List Value → List Bool → Nat → Prop
  | nil {xs ys : List Value} {k : Nat} : PlainF P [] xs ys [] k
  | cons {f : Field} {fs : List Field} {x y : Value} {xs ys : List Value} {b : Bool} {bs : List Bool} {k : Nat} {D : TypeDesc} (hn : f.name ≠ "_") (ho : f.offset = k) (hu : P.underlying f.type = some D) (ha : ∀ w, (isAgg f.type).run P w = .ok false w)
      (h : Plain D x y b) (hs : PlainF P fs xs ys bs (k + 1)) : PlainF P (f :: fs) (x :: xs) (y :: ys) (b :: bs) k

theorem run_part {t : TypeId} {cs : Array Value} {k : Nat} {v : Value} {w : World} (ha : ∀ w, (isAgg t).run P w = .ok false w) (h : cs[k]? = some v) : (part t cs k).run P w = .ok v w := by
  simp [part, ha, h]

theorem run_fields {d : Nat} {X Y : Array Value} {w : World} : ∀ {fs : List Field} {xs ys : List Value} {bs : List Bool} {k : Nat}, PlainF P fs xs ys bs k → X.toList.drop k = xs → Y.toList.drop k = ys →
    (forIn (m := Sem) fs ((none : Option Bool), ()) fun f __s =>
      if f.name = "_" then pure (ForInStep.yield (none, ()))
      else do
        let a ← part f.type X f.offset
        let b ← part f.type Y f.offset
        let c ← Op.equalIn (d + 1) f.type a b
        if c = false then pure (ForInStep.done (some false, ())) else pure (ForInStep.yield (none, ()))).run P w = .ok (if bs.all id then (none, ()) else (some false, ())) w
  | [], _, _, _, _, .nil, _, _ => by simp
  | f :: fs, x :: xs, y :: ys, b :: bs, k, .cons hn ho hu ha h hs, hX, hY => by
    have hx : X[k]? = some x := by
      have := congrArg (fun l => l[0]?) hX
      simpa using this
    have hy : Y[k]? = some y := by
      have := congrArg (fun l => l[0]?) hY
      simpa using this
    have hX' : X.toList.drop (k + 1) = xs := by rw [← List.drop_drop, hX]; rfl
    have hY' : Y.toList.drop (k + 1) = ys := by rw [← List.drop_drop, hY]; rfl
    have ih := run_fields (d := d) (X := X) (Y := Y) (w := w) hs hX' hY'
    rw [List.forIn_cons]
    subst ho
    simp only [hn, if_false, Sem.run_bind, run_part ha hx, run_part ha hy, Result.andThen_ok, equalIn_plain hu h]
    cases b with
    | false => simp
    | true => simpa using ih
theorem equalIn_struct {T : TypeId} {d : Nat} {fs : Array Field} {xs ys : List Value} {bs : List Bool} {w : World} (hu : P.underlying T = some (.struct fs)) (hst : P.stoodInHeld T = false) (hp : PlainF P fs.toList xs ys bs 0) :
    (Op.equalIn (d + 2) T (.agg xs.toArray) (.agg ys.toArray)).run P w = .ok (bs.all id) w := by
  have h := run_fields (d := d) (X := xs.toArray) (Y := ys.toArray) (w := w) hp (by simp) (by simp)
  rw [Array.forIn_toList] at h
  have e : d + 2 = (d + 1) + 1 := rfl
  rw [e]
  generalize d + 1 = n at h
  simp [Op.equalIn, run_underlying hu, hst, h]
  cases hb : bs.all id <;> simp_all

/-- Kinds of plain cells. -/
inductive Kd
  | int
  | bool
  | str
def Kd.ok : Kd → TypeDesc → Prop
  | .int, .int _ => True
  | .bool, .bool => True
  | .str, .string => True
  | _, _ => False

/-- Two rows of plain values and whether they are equal, cell by cell. -/
inductive EqR : List Kd → List Rp → List Rp → List Bool → Prop
  | nil : EqR [] [] [] []
  | int {k : IntKind} {a b : Int} {ks : List Kd} {Rs Ss : List Rp} {bs : List Bool} (h : EqR ks Rs Ss bs) : EqR (.int :: ks) (Rp.int k a :: Rs) (Rp.int k b :: Ss) (decide (a = b) :: bs)
  | bool {a b : Bool} {ks : List Kd} {Rs Ss : List Rp} {bs : List Bool} (h : EqR ks Rs Ss bs) : EqR (.bool :: ks) (Rp.bool a :: Rs) (Rp.bool b :: Ss) ((a == b) :: bs)
  | str {a b : List UInt8} {ks : List Kd} {Rs Ss : List Rp} {bs : List Bool} (h : EqR ks Rs Ss bs) : EqR (.str :: ks) (Rp.str a :: Rs) (Rp.str b :: Ss) (decide (a = b) :: bs)

/-- The fields of a type of one-cell fields. -/
inductive FldP (P : Program) : List Field → List Kd → Nat → Prop
  | nil {k : Nat} : FldP P [] [] k
  | cons {f : Field} {fs : List Field} {D : TypeDesc} {d : Kd} {ks : List Kd} {k : Nat} (hn : f.name ≠ "_") (ho : f.offset = k) (hu : P.underlying f.type = some D) (hd : d.ok D) (ha : ∀ w, (isAgg f.type).run P w = .ok false w) (hs : FldP P fs ks (k + 1)) : FldP P (f :: fs) (d :: ks) k

theorem Kd.ok_int {D : TypeDesc} (h : Kd.ok .int D) : ∃ k, D = .int k := by cases D <;> simp_all [Kd.ok]
theorem Kd.ok_bool {D : TypeDesc} (h : Kd.ok .bool D) : D = .bool := by cases D <;> simp_all [Kd.ok]
theorem Kd.ok_str {D : TypeDesc} (h : Kd.ok .str D) : D = .string := by cases D <;> simp_all [Kd.ok]
theorem plainF_of {ks : List Kd} {Rs Ss : List Rp} {bs : List Bool} {w : World} {C : Nat → Prop} (he : EqR ks Rs Ss bs) : ∀ {fs : List Field} {k : Nat} {xs ys : List Value}, FldP P fs ks k → AllP Rs w C xs → AllP Ss w C ys → PlainF P fs xs ys bs k := by
  induction he with
  | nil => intro fs k xs ys hf _ _; cases hf; exact .nil
  | @int q a b ks Rs Ss bs h ih =>
    intro fs k xs ys hf hx hy
    cases hf with
    | cons hn ho hu hd ha hs =>
      match xs, ys, hx, hy with
      | x :: xs, y :: ys, hx, hy =>
        obtain ⟨k', rfl⟩ := Kd.ok_int hd
        obtain ⟨rfl, _⟩ := hx.1
        obtain ⟨rfl, _⟩ := hy.1
        exact .cons hn ho hu ha .int (ih hs hx.2 hy.2)
  | @bool a b ks Rs Ss bs h ih =>
    intro fs k xs ys hf hx hy
    cases hf with
    | cons hn ho hu hd ha hs =>
      match xs, ys, hx, hy with
      | x :: xs, y :: ys, hx, hy =>
        have := Kd.ok_bool hd
        subst this
        obtain rfl : x = .bool a := hx.1
        obtain rfl : y = .bool b := hy.1
        exact .cons hn ho hu ha .bool (ih hs hx.2 hy.2)
  | @str a b ks Rs Ss bs h ih =>
    intro fs k xs ys hf hx hy
    cases hf with
    | cons hn ho hu hd ha hs =>
      match xs, ys, hx, hy with
      | x :: xs, y :: ys, hx, hy =>
        have := Kd.ok_str hd
        subst this
        obtain ⟨rfl, _⟩ := hx.1
        obtain ⟨rfl, _⟩ := hy.1
        have e : decide (a = b) = ((⟨a.toArray⟩ : ByteArray) == ⟨b.toArray⟩) := by
          rw [Bool.eq_iff_iff, decide_eq_true_eq]
          show a = b ↔ (a.toArray == b.toArray) = true
          simp
        rw [e]
        exact .cons hn ho hu ha .str (ih hs hx.2 hy.2)

variable {σ : Nat → Option Rp} {M : List MF} {o : Oper}
theorem equal_struct {T : TypeId} {fs : Array Field} {ks : List Kd} {Rs Ss : List Rp} {bs : List Bool} {w w' : World} {C : Nat → Prop} {xs ys : List Value} (hu : P.underlying T = some (.struct fs)) (hst : P.stoodInHeld T = false) (hf : FldP P fs.toList ks 0)
    (he : EqR ks Rs Ss bs) (hx : AllP Rs w' C xs) (hy : AllP Ss w' C ys) : (Op.equal T (.agg xs.toArray) (.agg ys.toArray)).run P w = .ok (bs.all id) w :=
  equalIn_struct (d := 9998) hu hst (plainF_of he hf hx hy)
theorem eqGuard_agg {op : BinOp} {T : TypeId} {x y : Operand} {a b : Array Value} {w : World} (hg : P.eqGuardType P.depth T = false) : (eqGuard op T x y (.agg a) (.agg b)).run P w = .ok () w := by
  unfold eqGuard; split <;> simp [hg]
theorem spec_eqlA {T T' : TypeId} {x y : Operand} {fs : Array Field} {ks : List Kd} {Rs Ss : List Rp} {bs : List Bool} (h : o.op = .binOp .eql T x y T') (hu : P.underlying T = some (.struct fs)) (hst : P.stoodInHeld T = false) (hg : P.eqGuardType P.depth T = false) (hf : FldP P fs.toList ks 0)
    (he : EqR ks Rs Ss bs) (hx : Get σ x (Rp.agg Rs)) (hy : Get σ y (Rp.agg Ss)) : Spec P σ M o (.one (Rp.bool (bs.all id))) :=
  Spec.of_run fun a w C hs _ => by
    obtain ⟨xs, hvx, hxs⟩ := hx a w C hs
    obtain ⟨ys, hvy, hys⟩ := hy a w C hs
    refine ⟨.bool (bs.all id), ?_, rfl⟩
    have he := equal_struct (w := w) hu hst hf he hxs.1 hys.1
    simp only [execOp, h, hvx, hvy, Sem.run_bind, binOp, eqGuard_agg hg, Result.andThen_ok, he, Sem.run_pure]
theorem spec_neqA {T T' : TypeId} {x y : Operand} {fs : Array Field} {ks : List Kd} {Rs Ss : List Rp} {bs : List Bool} (h : o.op = .binOp .neq T x y T') (hu : P.underlying T = some (.struct fs)) (hst : P.stoodInHeld T = false) (hg : P.eqGuardType P.depth T = false) (hf : FldP P fs.toList ks 0)
    (he : EqR ks Rs Ss bs) (hx : Get σ x (Rp.agg Rs)) (hy : Get σ y (Rp.agg Ss)) : Spec P σ M o (.one (Rp.bool (!bs.all id))) :=
  Spec.of_run fun a w C hs _ => by
    obtain ⟨xs, hvx, hxs⟩ := hx a w C hs
    obtain ⟨ys, hvy, hys⟩ := hy a w C hs
    refine ⟨.bool (!bs.all id), ?_, rfl⟩
    have he := equal_struct (w := w) hu hst hf he hxs.1 hys.1
    simp only [execOp, h, hvx, hvy, Sem.run_bind, binOp, eqGuard_agg hg, Result.andThen_ok, he, Sem.run_pure]
end
end Go.Sim
