/- Representations of values and memory, and what each plain operation does on them. -/
import Derived.Test.YtlbhpjigjehffaaDoorSimB
namespace Go.Sim

/-! Integers. -/
def InR : IntKind → Int → Prop
  | .i8, n => -128 ≤ n ∧ n ≤ 127
  | .i16, n => -32768 ≤ n ∧ n ≤ 32767
  | .i32, n => -2147483648 ≤ n ∧ n ≤ 2147483647
  | .i64, n => -9223372036854775808 ≤ n ∧ n ≤ 9223372036854775807
  | .u8, n => 0 ≤ n ∧ n ≤ 255
  | .u16, n => 0 ≤ n ∧ n ≤ 65535
  | .u32, n => 0 ≤ n ∧ n ≤ 4294967295
  | .u64, n => 0 ≤ n ∧ n ≤ 18446744073709551615

theorem wrap_in {k : IntKind} {n : Int} (h : InR k n) : k.wrap n = n := by
  cases k <;> simp only [InR] at h
  · exact IntWalk.i8_in n h
  · exact IntWalk.i16_in n h
  · exact IntWalk.i32_in n h
  · exact IntWalk.i64_in n h
  · exact IntWalk.u8_in n h
  · exact IntWalk.u16_in n h
  · exact IntWalk.u32_in n h
  · exact IntWalk.u64_in n h

theorem in_wrap (k : IntKind) (n : Int) : InR k (k.wrap n) := by
  cases k <;> simp only [InR, IntKind.wrap, IntKind.bits, IntKind.signed] <;> simp <;> (try split) <;> omega

def Rp.int (k : IntKind) (n : Int) : Rp where
  p _ _ v := v = .int k n ∧ InR k n
  mono _ h := h
def Rp.val (u : Value) : Rp where
  p _ _ v := v = u
  mono _ h := h
def Rp.ptr (r off : Nat) : Rp := Rp.val (.pointer (some ⟨r, off, none⟩))
def Rp.str (l : List UInt8) : Rp where
  p _ _ v := v = .string ⟨l.toArray⟩ ∧ l.length ≤ 9223372036854775807
  mono _ h := h

/-! Rows of values. -/
def AllP : List Rp → World → (Nat → Prop) → List Value → Prop
  | [], _, _, [] => True
  | R :: Rs, w, C, v :: vs => R.p w C v ∧ AllP Rs w C vs
  | _, _, _, _ => False
def AllR (Rs : List Rp) (w : World) (C : Nat → Prop) (vs : List Value) : Prop := AllP Rs w C vs ∧ ∀ v ∈ vs, v.oneCell' = true

theorem AllP.mono {w C w' C'} (hp : Pub w C w' C') : ∀ {Rs vs}, AllP Rs w C vs → AllP Rs w' C' vs
  | [], [], _ => trivial
  | R :: _, _ :: _, h => ⟨R.mono hp h.1, AllP.mono hp h.2⟩
  | [], _ :: _, h => h.elim
  | _ :: _, [], h => h.elim
theorem AllR.mono {w C w' C' Rs vs} (hp : Pub w C w' C') (h : AllR Rs w C vs) : AllR Rs w' C' vs := ⟨h.1.mono hp, h.2⟩

theorem AllP.length {w C} : ∀ {Rs vs}, AllP Rs w C vs → vs.length = Rs.length
  | [], [], _ => rfl
  | _ :: _, _ :: _, h => by simp [AllP.length h.2]
  | [], _ :: _, h => h.elim
  | _ :: _, [], h => h.elim
theorem AllP.get {w C} : ∀ {Rs vs} (i : Nat) {R}, AllP Rs w C vs → Rs[i]? = some R → ∃ v, vs[i]? = some v ∧ R.p w C v
  | [], _, i, R, _, h => by simp at h
  | _ :: _, [], _, _, h, _ => h.elim
  | S :: Rs, v :: vs, 0, R, h, hi => ⟨v, rfl, by simp at hi; exact hi ▸ h.1⟩
  | S :: Rs, v :: vs, i + 1, R, h, hi => by simpa using AllP.get i h.2 (by simpa using hi)
theorem AllP.sub {w C} : ∀ {Rs vs} (i k : Nat), AllP Rs w C vs → AllP ((Rs.drop i).take k) w C ((vs.drop i).take k)
  | [], [], i, k, _ => by simp [AllP]
  | [], _ :: _, _, _, h => h.elim
  | _ :: _, [], _, _, h => h.elim
  | _ :: _, _ :: _, 0, 0, _ => trivial
  | _ :: _, _ :: _, 0, k + 1, h => ⟨h.1, by have := AllP.sub 0 k h.2; simpa using this⟩
  | _ :: _, _ :: _, i + 1, k, h => by simpa using AllP.sub i k h.2
theorem AllR.sub {w C Rs vs} (i k : Nat) (h : AllR Rs w C vs) : AllR ((Rs.drop i).take k) w C ((vs.drop i).take k) :=
  ⟨h.1.sub i k, fun v hv => h.2 v (List.mem_of_mem_drop (List.mem_of_mem_take hv))⟩
theorem AllP.append {w C} : ∀ {Rs vs Rs' vs'}, AllP Rs w C vs → AllP Rs' w C vs' → AllP (Rs ++ Rs') w C (vs ++ vs')
  | [], [], _, _, _, h => h
  | _ :: _, _ :: _, _, _, h, h' => ⟨h.1, AllP.append h.2 h'⟩
  | [], _ :: _, _, _, h, _ => h.elim
  | _ :: _, [], _, _, h, _ => h.elim
theorem AllR.append {w C Rs vs Rs' vs'} (h : AllR Rs w C vs) (h' : AllR Rs' w C vs') : AllR (Rs ++ Rs') w C (vs ++ vs') :=
  ⟨h.1.append h'.1, fun v hv => (List.mem_append.1 hv).elim (h.2 v) (h'.2 v)⟩
theorem AllP.set {w C} : ∀ {Rs vs} (i : Nat) {R v}, AllP Rs w C vs → R.p w C v → AllP (Rs.set i R) w C (vs.set i v)
  | [], [], _, _, _, _, _ => by simp [AllP]
  | [], _ :: _, _, _, _, h, _ => h.elim
  | _ :: _, [], _, _, _, h, _ => h.elim
  | _ :: _, _ :: _, 0, _, _, h, hv => ⟨hv, h.2⟩
  | _ :: _, _ :: _, i + 1, _, _, h, hv => ⟨h.1, AllP.set i h.2 hv⟩

def Rp.agg (Rs : List Rp) : Rp where
  p w C v := ∃ cs : List Value, v = .agg cs.toArray ∧ AllR Rs w C cs
  mono hp := fun ⟨cs, hv, h⟩ => ⟨cs, hv, h.mono hp⟩
def Rp.tuple (Rs : List Rp) : Rp where
  p w C v := ∃ cs : List Value, v = .tuple cs.toArray ∧ AllP Rs w C cs
  mono hp := fun ⟨cs, hv, h⟩ => ⟨cs, hv, h.mono hp⟩

/-- A row of a published block. -/
def RowAt (Rs : List Rp) (w : World) (C : Nat → Prop) (a : Addr) : Prop :=
  a.spot = none ∧ C a.block ∧ ∃ cs T fr, w.heap[a.block]? = some (.cells cs T fr) ∧ AllR Rs w C ((cs.toList.drop a.off).take Rs.length)
theorem RowAt.mono {w C w' C' Rs a} (hp : Pub w C w' C') (h : RowAt Rs w C a) : RowAt Rs w' C' a := by
  obtain ⟨h1, h2, cs, T, fr, h3, h4⟩ := h
  exact ⟨h1, (hp _ h2).1, cs, T, fr, (hp _ h2).2.trans h3, h4.mono hp⟩
def Rp.at (Rs : List Rp) : Rp where
  p w C v := ∃ a, v = .pointer (some a) ∧ RowAt Rs w C a
  mono hp := fun ⟨a, hv, h⟩ => ⟨a, hv, h.mono hp⟩

/-- A slice whose elements are published. -/
def Rp.slice {α : Type} (E : α → List Rp) (xs : List α) : Rp where
  p w C v := xs.length ≤ 9223372036854775807 ∧ ((v = .slice none 0 0 ∧ xs = []) ∨ ∃ a cap, v = .slice (some a) xs.length cap ∧ xs.length ≤ cap ∧ (xs = [] ∨ RowAt (xs.flatMap E) w C a))
  mono hp := fun ⟨hl, h⟩ => ⟨hl, h.imp id fun ⟨a, cap, hv, hc, h⟩ => ⟨a, cap, hv, hc, h.imp id (RowAt.mono hp)⟩⟩

/-- A row of cells that the call owns: block r, m cells, of which the first ones represent Rs. -/
def MF.row (r T m : Nat) (Rs : List Rp) : MF where
  foot := [r]
  p w C := ∃ cs : Array Value, w.heap[r]? = some (.cells cs T (0, 0)) ∧ cs.size = m ∧ AllR Rs w C (cs.toList.take Rs.length)
  loc hp hf := fun ⟨cs, h1, h2, h3⟩ => ⟨cs, (hf r (by simp)).trans h1, h2, h3.mono hp⟩
/-- A variable of the call's own. -/
def MF.box (r T : Nat) (Rs : List Rp) : MF := MF.row r T Rs.length Rs

section
variable {P : Program} {σ : Nat → Option Rp} {M : List MF} {o : Oper}

/-! Moves. -/
theorem spec_move {x : Operand} {R : Rp} (h : o.op = .move x) (hx : Get σ x R) : Spec P σ M o (.one R) :=
  Spec.of_run fun a w C hs _ => ⟨a.eval x, by simp [execOp, h], hx a w C hs⟩
theorem spec_assign {x : Operand} {R : Rp} (h : o.op = .assign x) (hx : Get σ x R) : Spec P σ M o (.one R) :=
  Spec.of_run fun a w C hs _ => ⟨a.eval x, by simp [execOp, h], hx a w C hs⟩
theorem spec_pick {c x y : Operand} {b : Bool} {R : Rp} (h : o.op = .pick c x y) (hc : Get σ c (Rp.bool b)) (hx : b = true → Get σ x R) (hy : b = false → Get σ y R) : Spec P σ M o (.one R) :=
  Spec.of_run fun a w C hs _ => ⟨if b then a.eval x else a.eval y, by
    have := hc a w C hs
    simp only [Rp.bool] at this
    simp [execOp, h, this, asBool], by
    cases b
    · exact hy rfl a w C hs
    · exact hx rfl a w C hs⟩
/-- 'x && y'. -/
theorem spec_and {c x : Operand} {b b' : Bool} (h : o.op = .pick c x (.const (.bool false))) (hc : Get σ c (Rp.bool b)) (hx : b = true → Get σ x (Rp.bool b')) : Spec P σ M o (.one (Rp.bool (b && b'))) :=
  spec_pick h hc (fun hb => by subst hb; exact hx rfl) (fun hb => by subst hb; exact Get.const fun _ _ => rfl)
/-- 'x || y'. -/
theorem spec_or {c y : Operand} {b b' : Bool} (h : o.op = .pick c (.const (.bool true)) y) (hc : Get σ c (Rp.bool b)) (hy : b = false → Get σ y (Rp.bool b')) : Spec P σ M o (.one (Rp.bool (b || b'))) :=
  spec_pick h hc (fun hb => by subst hb; exact Get.const fun _ _ => rfl) (fun hb => by subst hb; exact hy rfl)
theorem spec_not {T : TypeId} {x : Operand} {b : Bool} (h : o.op = .unOp .not T x) (hx : Get σ x (Rp.bool b)) : Spec P σ M o (.one (Rp.bool (!b))) :=
  Spec.of_run fun a w C hs _ => ⟨.bool !b, by
    have := hx a w C hs
    simp only [Rp.bool] at this
    simp [execOp, h, this, Op.unary], rfl⟩
theorem spec_neg {T : TypeId} {k : IntKind} {x : Operand} {n : Int} (h : o.op = .unOp .neg T x) (hx : Get σ x (Rp.int k n)) : Spec P σ M o (.one (Rp.int k (k.wrap (-n)))) :=
  Spec.of_run fun a w C hs _ => ⟨.int k (k.wrap (-n)), by
    have := (hx a w C hs).1
    simp [execOp, h, this, Op.unary, Op.intArith], rfl, in_wrap _ _⟩

/-! Arithmetic. -/
theorem get_int {x : Operand} {k : IntKind} {n : Int} (hx : Get σ x (Rp.int k n)) {a w C} (hs : SlotsOk σ a w C) : a.eval x = .int k n := (hx a w C hs).1
theorem eqGuard_int {P : Program} {w : World} (op : BinOp) (t : TypeId) (x y : Operand) {k k' : IntKind} {a b : Int} : (eqGuard op t x y (.int k a) (.int k' b)).run P w = .ok () w := by
  unfold eqGuard; split <;> simp

theorem spec_add {T T' : TypeId} {k : IntKind} {x y : Operand} {m n : Int} (h : o.op = .binOp .add T x y T') (hx : Get σ x (Rp.int k m)) (hy : Get σ y (Rp.int k n)) : Spec P σ M o (.one (Rp.int k (k.wrap (m + n)))) :=
  Spec.of_run fun a w C hs _ => ⟨.int k (k.wrap (m + n)), by
    simp [execOp, h, get_int hx hs, get_int hy hs, eqGuard_int, binOp, Op.intArith], rfl, in_wrap _ _⟩
theorem spec_sub {T T' : TypeId} {k : IntKind} {x y : Operand} {m n : Int} (h : o.op = .binOp .sub T x y T') (hx : Get σ x (Rp.int k m)) (hy : Get σ y (Rp.int k n)) : Spec P σ M o (.one (Rp.int k (k.wrap (m - n)))) :=
  Spec.of_run fun a w C hs _ => ⟨.int k (k.wrap (m - n)), by
    simp [execOp, h, get_int hx hs, get_int hy hs, eqGuard_int, binOp, Op.intArith], rfl, in_wrap _ _⟩
theorem spec_mul {T T' : TypeId} {k : IntKind} {x y : Operand} {m n : Int} (h : o.op = .binOp .mul T x y T') (hx : Get σ x (Rp.int k m)) (hy : Get σ y (Rp.int k n)) : Spec P σ M o (.one (Rp.int k (k.wrap (m * n)))) :=
  Spec.of_run fun a w C hs _ => ⟨.int k (k.wrap (m * n)), by
    simp [execOp, h, get_int hx hs, get_int hy hs, eqGuard_int, binOp, Op.intArith], rfl, in_wrap _ _⟩
theorem spec_quo {T T' : TypeId} {k : IntKind} {x y : Operand} {m n : Int} (h : o.op = .binOp .quo T x y T') (hx : Get σ x (Rp.int k m)) (hy : Get σ y (Rp.int k n)) (hn : n ≠ 0) : Spec P σ M o (.one (Rp.int k (k.wrap (m.tdiv n)))) :=
  Spec.of_run fun a w C hs _ => ⟨.int k (k.wrap (m.tdiv n)), by
    simp [execOp, h, get_int hx hs, get_int hy hs, eqGuard_int, binOp, Op.intDiv, hn], rfl, in_wrap _ _⟩
theorem in_tmod {k : IntKind} {m n : Int} (hm : InR k m) : InR k (m.tmod n) := by
  have h : (0 ≤ m → 0 ≤ m.tmod n ∧ m.tmod n ≤ m) ∧ (m ≤ 0 → m ≤ m.tmod n ∧ m.tmod n ≤ 0) := by
    constructor
    · intro h0
      have := Int.tmod_nonneg n h0
      refine ⟨this, ?_⟩
      have h2 : (m.tmod n).natAbs ≤ m.natAbs := by rw [Int.natAbs_tmod]; exact Nat.mod_le _ _
      omega
    · intro h0
      have h1 : 0 ≤ (-m).tmod n := Int.tmod_nonneg n (by omega)
      rw [Int.neg_tmod] at h1
      have h2 : (m.tmod n).natAbs ≤ m.natAbs := by rw [Int.natAbs_tmod]; exact Nat.mod_le _ _
      omega
  cases k <;> simp only [InR] at hm ⊢ <;> omega
theorem spec_rem {T T' : TypeId} {k : IntKind} {x y : Operand} {m n : Int} (h : o.op = .binOp .rem T x y T') (hx : Get σ x (Rp.int k m)) (hy : Get σ y (Rp.int k n)) (hn : n ≠ 0) : Spec P σ M o (.one (Rp.int k (m.tmod n))) :=
  Spec.of_run fun a w C hs _ => ⟨.int k (m.tmod n), by
    simp [execOp, h, get_int hx hs, get_int hy hs, eqGuard_int, binOp, Op.intDiv, hn], rfl, in_tmod (hx a w C hs).2⟩
/-- The result where it fits. -/
theorem spec_fit {k : IntKind} {e : Int} (hf : InR k e) (h : Spec P σ M o (.one (Rp.int k (k.wrap e)))) : Spec P σ M o (.one (Rp.int k e)) := by
  rw [wrap_in hf] at h; exact h

theorem spec_lss {T T' : TypeId} {k : IntKind} {x y : Operand} {m n : Int} (h : o.op = .binOp .lss T x y T') (hx : Get σ x (Rp.int k m)) (hy : Get σ y (Rp.int k n)) : Spec P σ M o (.one (Rp.bool (decide (m < n)))) :=
  Spec.of_run fun a w C hs _ => ⟨.bool (decide (m < n)), by
    simp [execOp, h, get_int hx hs, get_int hy hs, eqGuard_int, binOp, Op.intCmp], rfl⟩
theorem spec_leq {T T' : TypeId} {k : IntKind} {x y : Operand} {m n : Int} (h : o.op = .binOp .leq T x y T') (hx : Get σ x (Rp.int k m)) (hy : Get σ y (Rp.int k n)) : Spec P σ M o (.one (Rp.bool (decide (m ≤ n)))) :=
  Spec.of_run fun a w C hs _ => ⟨.bool (decide (m ≤ n)), by
    simp [execOp, h, get_int hx hs, get_int hy hs, eqGuard_int, binOp, Op.intCmp], rfl⟩
theorem spec_gtr {T T' : TypeId} {k : IntKind} {x y : Operand} {m n : Int} (h : o.op = .binOp .gtr T x y T') (hx : Get σ x (Rp.int k m)) (hy : Get σ y (Rp.int k n)) : Spec P σ M o (.one (Rp.bool (decide (n < m)))) :=
  Spec.of_run fun a w C hs _ => ⟨.bool (decide (n < m)), by
    simp [execOp, h, get_int hx hs, get_int hy hs, eqGuard_int, binOp, Op.intCmp], rfl⟩
theorem spec_geq {T T' : TypeId} {k : IntKind} {x y : Operand} {m n : Int} (h : o.op = .binOp .geq T x y T') (hx : Get σ x (Rp.int k m)) (hy : Get σ y (Rp.int k n)) : Spec P σ M o (.one (Rp.bool (decide (n ≤ m)))) :=
  Spec.of_run fun a w C hs _ => ⟨.bool (decide (n ≤ m)), by
    simp [execOp, h, get_int hx hs, get_int hy hs, eqGuard_int, binOp, Op.intCmp], rfl⟩
theorem spec_eql {T T' : TypeId} {k : IntKind} {x y : Operand} {m n : Int} (h : o.op = .binOp .eql T x y T') (hx : Get σ x (Rp.int k m)) (hy : Get σ y (Rp.int k n)) : Spec P σ M o (.one (Rp.bool (decide (m = n)))) :=
  Spec.of_run fun a w C hs _ => ⟨.bool (decide (m = n)), by
    simp only [execOp, h, get_int hx hs, get_int hy hs, Sem.run_bind, eqGuard_int, Result.andThen_ok, binOp, Op.intCmp, ne_eq, not_true, if_false, Sem.run_pure]
    rw [show (m == n) = decide (m = n) from rfl], rfl⟩
theorem spec_neq {T T' : TypeId} {k : IntKind} {x y : Operand} {m n : Int} (h : o.op = .binOp .neq T x y T') (hx : Get σ x (Rp.int k m)) (hy : Get σ y (Rp.int k n)) : Spec P σ M o (.one (Rp.bool (!decide (m = n)))) :=
  Spec.of_run fun a w C hs _ => ⟨.bool (!decide (m = n)), by
    simp only [execOp, h, get_int hx hs, get_int hy hs, Sem.run_bind, eqGuard_int, Result.andThen_ok, binOp, Op.intCmp, ne_eq, not_true, if_false, Sem.run_pure]
    rw [show (m != n) = !decide (m = n) from rfl], rfl⟩
theorem spec_shl {T T' : TypeId} {k k' : IntKind} {x y : Operand} {m n : Int} (h : o.op = .binOp .shl T x y T') (hx : Get σ x (Rp.int k m)) (hy : Get σ y (Rp.int k' n)) (hn : 0 ≤ n) :
    Spec P σ M o (.one (Rp.int k (k.wrap (m * 2 ^ (min n.toNat k.bits))))) :=
  Spec.of_run fun a w C hs _ => ⟨.int k (k.wrap (m * 2 ^ (min n.toNat k.bits))), by
    simp [execOp, h, get_int hx hs, get_int hy hs, eqGuard_int, binOp, Op.shift, show ¬ n < 0 by omega], rfl, in_wrap _ _⟩
theorem fdiv_pow_in {k : IntKind} {m : Int} (hm : InR k m) (j : Nat) : InR k (m.fdiv (2 ^ j)) := by
  have hp : (0 : Int) < 2 ^ j := Int.pow_pos (by decide)
  rw [Int.fdiv_eq_ediv_of_nonneg _ (Int.le_of_lt hp)]
  have h : (0 ≤ m → 0 ≤ m / 2 ^ j ∧ m / 2 ^ j ≤ m) ∧ (m ≤ 0 → m ≤ m / 2 ^ j ∧ m / 2 ^ j ≤ 0) := by
    constructor
    · intro h0
      exact ⟨Int.ediv_nonneg h0 (Int.le_of_lt hp), Int.ediv_le_self _ h0⟩
    · intro h0
      refine ⟨?_, ?_⟩
      · rw [Int.le_ediv_iff_mul_le hp]
        have : m * 2 ^ j ≤ m * 1 := Int.mul_le_mul_of_nonpos_left h0 (by omega)
        omega
      · have := Int.ediv_le_ediv hp h0; simpa using this
  cases k <;> simp only [InR] at hm ⊢ <;> omega
theorem spec_shr {T T' : TypeId} {k k' : IntKind} {x y : Operand} {m n : Int} (h : o.op = .binOp .shr T x y T') (hx : Get σ x (Rp.int k m)) (hy : Get σ y (Rp.int k' n)) (hn : 0 ≤ n) :
    Spec P σ M o (.one (Rp.int k (m.fdiv (2 ^ (min n.toNat k.bits))))) :=
  Spec.of_run fun a w C hs _ => ⟨.int k (m.fdiv (2 ^ (min n.toNat k.bits))), by
    simp [execOp, h, get_int hx hs, get_int hy hs, eqGuard_int, binOp, Op.shift, show ¬ n < 0 by omega], rfl, fdiv_pow_in (hx a w C hs).2 _⟩
def bitsOf (op : BinOp) (k : IntKind) (m n : Int) : Int :=
  k.wrap (match op with
    | .and => (BitVec.ofInt k.bits m &&& BitVec.ofInt k.bits n).toNat
    | .or => (BitVec.ofInt k.bits m ||| BitVec.ofInt k.bits n).toNat
    | .xor => (BitVec.ofInt k.bits m ^^^ BitVec.ofInt k.bits n).toNat
    | .andNot => (BitVec.ofInt k.bits m &&& ~~~BitVec.ofInt k.bits n).toNat
    | _ => 0 : Nat)
theorem spec_bits {T T' : TypeId} {k : IntKind} {x y : Operand} {m n : Int} {op : BinOp} (h : o.op = .binOp op T x y T') (hop : op = .and ∨ op = .or ∨ op = .xor ∨ op = .andNot)
    (hx : Get σ x (Rp.int k m)) (hy : Get σ y (Rp.int k n)) : Spec P σ M o (.one (Rp.int k (bitsOf op k m n))) :=
  Spec.of_run fun a w C hs _ => ⟨.int k (bitsOf op k m n), by
    rcases hop with rfl | rfl | rfl | rfl <;> simp [execOp, h, get_int hx hs, get_int hy hs, eqGuard_int, binOp, Op.intBits, bitsOf], rfl, in_wrap _ _⟩
theorem spec_conv {T T' : TypeId} {k k' : IntKind} {x : Operand} {n : Int} (h : o.op = .convert T T' x) (hu : P.underlying T' = some (.int k')) (hT : ∃ d, P.underlying T = some d) (hx : Get σ x (Rp.int k n)) :
    Spec P σ M o (.one (Rp.int k' (k'.wrap n))) :=
  Spec.of_run fun a w C hs _ => ⟨.int k' (k'.wrap n), by
    obtain ⟨d, hd⟩ := hT
    simp [execOp, h, get_int hx hs, convert, run_underlying hu, run_underlying hd, Conv.intToInt], rfl, in_wrap _ _⟩

/-! Bools and strings compared. -/
theorem get_bool {x : Operand} {b : Bool} (hx : Get σ x (Rp.bool b)) {a w C} (hs : SlotsOk σ a w C) : a.eval x = .bool b := hx a w C hs
theorem eqGuard_bool {P : Program} {w : World} (op : BinOp) (t : TypeId) (x y : Operand) {a b : Bool} : (eqGuard op t x y (.bool a) (.bool b)).run P w = .ok () w := by
  unfold eqGuard; split <;> simp
theorem equalIn_bool {w : World} {T : TypeId} {b c : Bool} (d : Nat) (hu : P.underlying T = some .bool) : (Op.equalIn (d + 1) T (.bool b) (.bool c)).run P w = .ok (b == c) w := by
  simp only [Op.equalIn, Sem.run_bind, run_underlying hu, Result.andThen_ok, Sem.run_pure]
theorem equal_bool {w : World} {T : TypeId} {b c : Bool} (hu : P.underlying T = some .bool) : (Op.equal T (.bool b) (.bool c)).run P w = .ok (b == c) w :=
  equalIn_bool 9999 hu
theorem spec_eqlB {T T' : TypeId} {x y : Operand} {b c : Bool} (h : o.op = .binOp .eql T x y T') (hu : P.underlying T = some .bool) (hx : Get σ x (Rp.bool b)) (hy : Get σ y (Rp.bool c)) : Spec P σ M o (.one (Rp.bool (b == c))) :=
  Spec.of_run fun a w C hs _ => ⟨.bool (b == c), by
    simp only [execOp, h, get_bool hx hs, get_bool hy hs, Sem.run_bind, eqGuard_bool, Result.andThen_ok, binOp, equal_bool hu, Sem.run_pure], rfl⟩
theorem spec_neqB {T T' : TypeId} {x y : Operand} {b c : Bool} (h : o.op = .binOp .neq T x y T') (hu : P.underlying T = some .bool) (hx : Get σ x (Rp.bool b)) (hy : Get σ y (Rp.bool c)) : Spec P σ M o (.one (Rp.bool (!(b == c)))) :=
  Spec.of_run fun a w C hs _ => ⟨.bool (!(b == c)), by
    simp only [execOp, h, get_bool hx hs, get_bool hy hs, Sem.run_bind, eqGuard_bool, Result.andThen_ok, binOp, equal_bool hu, Sem.run_pure], rfl⟩
theorem get_str {x : Operand} {l : List UInt8} (hx : Get σ x (Rp.str l)) {a w C} (hs : SlotsOk σ a w C) : a.eval x = .string ⟨l.toArray⟩ := (hx a w C hs).1
theorem eqGuard_str {P : Program} {w : World} (op : BinOp) (t : TypeId) (x y : Operand) {a b : ByteArray} : (eqGuard op t x y (.string a) (.string b)).run P w = .ok () w := by
  unfold eqGuard; split <;> simp
theorem toList_mk (l : List UInt8) : (ByteArray.mk l.toArray).toList = l := by simp
theorem spec_eqlS {T T' : TypeId} {x y : Operand} {l m : List UInt8} (h : o.op = .binOp .eql T x y T') (hx : Get σ x (Rp.str l)) (hy : Get σ y (Rp.str m)) : Spec P σ M o (.one (Rp.bool (l == m))) :=
  Spec.of_run fun a w C hs _ => ⟨.bool (l == m), by
    simp only [execOp, h, get_str hx hs, get_str hy hs, Sem.run_bind, eqGuard_str, Result.andThen_ok, binOp, Op.stringOp, Sem.run_pure, toList_mk], rfl⟩
theorem spec_neqS {T T' : TypeId} {x y : Operand} {l m : List UInt8} (h : o.op = .binOp .neq T x y T') (hx : Get σ x (Rp.str l)) (hy : Get σ y (Rp.str m)) : Spec P σ M o (.one (Rp.bool (!(l == m)))) :=
  Spec.of_run fun a w C hs _ => ⟨.bool (!(l == m)), by
    simp only [execOp, h, get_str hx hs, get_str hy hs, Sem.run_bind, eqGuard_str, Result.andThen_ok, binOp, Op.stringOp, Sem.run_pure, toList_mk], rfl⟩

/-! Structs by value, tuples. -/
theorem spec_extract {x : Operand} {i : Nat} {Rs : List Rp} {R : Rp} (h : o.op = .extract x i) (hx : Get σ x (Rp.tuple Rs)) (hi : Rs[i]? = some R) : Spec P σ M o (.one R) :=
  Spec.of_run fun a w C hs _ => by
    obtain ⟨cs, hv, hcs⟩ := hx a w C hs
    obtain ⟨v, hv', hR⟩ := hcs.get i hi
    exact ⟨v, by simp [execOp, h, hv, Instr.extract, hv'], hR⟩

theorem spec_field {T x f} {Rs : List Rp} {fs : Array Field} {fd : Field} {R : Rp} (h : o.op = .field T x f) (hu : P.underlying T = some (.struct fs)) (hf : fs[f]? = some fd)
    (ha : ∀ w, (isAgg fd.type).run P w = .ok false w) (hx : Get σ x (Rp.agg Rs)) (hR : Rs[fd.offset]? = some R) : Spec P σ M o (.one R) :=
  Spec.of_run fun a w C hs _ => by
    obtain ⟨cs, hv, hcs⟩ := hx a w C hs
    obtain ⟨v, hv', hR'⟩ := hcs.1.get _ hR
    exact ⟨v, by simp [execOp, h, hv, Instr.field, run_underlying hu, hf, part, ha, asAgg, hv'], hR'⟩
theorem spec_fieldA {T x f} {Rs : List Rp} {fs : Array Field} {fd : Field} {n : Nat} (h : o.op = .field T x f) (hu : P.underlying T = some (.struct fs)) (hf : fs[f]? = some fd)
    (ha : ∀ w, (isAgg fd.type).run P w = .ok true w) (hn : ∀ w, (sizeOf fd.type).run P w = .ok n w) (hx : Get σ x (Rp.agg Rs)) : Spec P σ M o (.one (Rp.agg ((Rs.drop fd.offset).take n))) :=
  Spec.of_run fun a w C hs _ => by
    obtain ⟨cs, hv, hcs⟩ := hx a w C hs
    exact ⟨.agg ((cs.drop fd.offset).take n).toArray, by
      simp [execOp, h, hv, Instr.field, run_underlying hu, hf, part, ha, hn, asAgg], _, rfl, hcs.sub _ _⟩

end
end Go.Sim
