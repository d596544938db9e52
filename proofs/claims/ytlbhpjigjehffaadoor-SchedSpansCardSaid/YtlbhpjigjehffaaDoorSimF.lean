/- Small rules for printed walks. -/
import Derived.Test.YtlbhpjigjehffaaDoorSimE
namespace Go.Sim

def inRB (k : IntKind) (n : Int) : Bool :=
  match k with
  | .i8 => decide (-128 ≤ n) && decide (n ≤ 127)
  | .i16 => decide (-32768 ≤ n) && decide (n ≤ 32767)
  | .i32 => decide (-2147483648 ≤ n) && decide (n ≤ 2147483647)
  | .i64 => decide (-9223372036854775808 ≤ n) && decide (n ≤ 9223372036854775807)
  | .u8 => decide (0 ≤ n) && decide (n ≤ 255)
  | .u16 => decide (0 ≤ n) && decide (n ≤ 65535)
  | .u32 => decide (0 ≤ n) && decide (n ≤ 4294967295)
  | .u64 => decide (0 ≤ n) && decide (n ≤ 18446744073709551615)
theorem inR_of {k : IntKind} {n : Int} (h : inRB k n = true) : InR k n := by
  cases k <;> simpa [inRB, InR] using h

theorem Get.cint {σ : Nat → Option Rp} {k : IntKind} {n : Int} (h : inRB k n = true) : Get σ (.const (.int k n)) (Rp.int k n) := Get.const fun _ _ => ⟨rfl, inR_of h⟩
theorem Get.cbool {σ : Nat → Option Rp} {b : Bool} : Get σ (.const (.bool b)) (Rp.bool b) := Get.const fun _ _ => rfl
theorem Get.cval {σ : Nat → Option Rp} {v : Value} : Get σ (.const v) (Rp.val v) := Get.const fun _ _ => rfl
theorem Get.cnil {σ : Nat → Option Rp} {α : Type} {E : α → List Rp} : Get σ (.const (.slice none 0 0)) (Rp.slice E []) := Get.const fun _ _ => ⟨by simp, .inl ⟨rfl, rfl⟩⟩
theorem Get.cstr {σ : Nat → Option Rp} {l : List UInt8} {s : ByteArray} (h : s = ⟨l.toArray⟩) (hl : Nat.ble l.length 9223372036854775807 = true) : Get σ (.const (.string s)) (Rp.str l) := Get.const fun _ _ => ⟨by rw [h], by simpa using hl⟩

/-! Zero values, elements. -/
theorem allR_of {Rs : List Rp} {w : World} {C : Nat → Prop} {vs : List Value} (h2 : (vs.all Value.oneCell') = true) (h : AllP Rs w C vs) : AllR Rs w C vs := ⟨h, fun v hv => List.all_eq_true.1 h2 v hv⟩
theorem zint {k : IntKind} {n : Int} (h : inRB k n = true) (w : World) (C : Nat → Prop) : (Rp.int k n).p w C (.int k n) := ⟨rfl, inR_of h⟩
theorem zbool {b : Bool} (w : World) (C : Nat → Prop) : (Rp.bool b).p w C (.bool b) := rfl
theorem zslice {α : Type} {E : α → List Rp} (w : World) (C : Nat → Prop) : (Rp.slice E []).p w C (.slice none 0 0) := ⟨by simp, .inl ⟨rfl, rfl⟩⟩
theorem zstr (w : World) (C : Nat → Prop) : (Rp.str []).p w C (.string ⟨#[]⟩) := ⟨rfl, by simp⟩
theorem zval {v : Value} (w : World) (C : Nat → Prop) : (Rp.val v).p w C v := rfl
def eI (n : Int) : List Rp := [Rp.int .i64 n]
def eU8 (n : Int) : List Rp := [Rp.int .u8 n]
def eB (b : Bool) : List Rp := [Rp.bool b]
def eS (l : List UInt8) : List Rp := [Rp.str l]
def eII (l : List Int) : List Rp := [Rp.slice eI l]

theorem eqB {b b' : Bool} (h : b = b') (w : World) (C : Nat → Prop) (v : Value) (hv : (Rp.bool b).p w C v) : (Rp.bool b').p w C v := h ▸ hv
theorem eqI {k : IntKind} {m n : Int} (h : m = n) (w : World) (C : Nat → Prop) (v : Value) (hv : (Rp.int k m).p w C v) : (Rp.int k n).p w C v := h ▸ hv
theorem eqS {l m : List UInt8} (h : l = m) (w : World) (C : Nat → Prop) (v : Value) (hv : (Rp.str l).p w C v) : (Rp.str m).p w C v := h ▸ hv
theorem eqSl {α : Type} {E : α → List Rp} {l m : List α} (h : l = m) (w : World) (C : Nat → Prop) (v : Value) (hv : (Rp.slice E l).p w C v) : (Rp.slice E m).p w C v := h ▸ hv
theorem eqA {l m : List Rp} (h : l = m) (w : World) (C : Nat → Prop) (v : Value) (hv : (Rp.agg l).p w C v) : (Rp.agg m).p w C v := h ▸ hv
theorem eqR {R R' : Rp} (h : R = R') (w : World) (C : Nat → Prop) (v : Value) (hv : R.p w C v) : R'.p w C v := h ▸ hv

section
variable {P : Program} {B : Base} {n : Nat} {S : List (Nat × Rp)} {M : List MF} {Q : Exit → Act → World → Prop} {ops : Array Oper} {rest : List Oper} {o : Oper} {σ : Nat → Option Rp}

theorem L.box {T : TypeId} {Rs : List Rp} {d : Nat} (hd : o.dst = some d) (hlt : Nat.blt d n = true) (hs : GSpec P ops (look · S) M o (.box T Rs))
    (h : ∀ r, L P B n ((d, Rp.ptr r 0) :: S) (MF.box r T Rs :: M) ops rest Q) : L P B n S M ops (o :: rest) Q := L.op hd hlt hs h

theorem spec_indexAddrD {α : Type} [Inhabited α] {T e sz : Nat} {x ix : Operand} {E : α → List Rp} {xs : List α} {k : IntKind} {i : Int} (h : o.op = .indexAddr T x ix) (hu : P.underlying T = some (.slice e)) (hn : ∀ w, (sizeOf e).run P w = .ok sz w)
    (hE : ∀ x, (E x).length = sz) (hx : Get σ x (Rp.slice E xs)) (hi : Get σ ix (Rp.int k i)) (hr : 0 ≤ i ∧ i < xs.length) : Spec P σ M o (.one (Rp.at (E (xs.getD i.toNat default)))) :=
  spec_indexAddr h hu hn hE hx hi ⟨hr.1, by
    have : i.toNat < xs.length := by omega
    simp [List.getD_eq_getElem?_getD, this]⟩

theorem spec_min2 {k : IntKind} {x y : Operand} {m n : Int} {ts : Array TypeId} (h : o.op = .call ⟨.builtin .min, #[x, y], ts⟩) (hx : Get σ x (Rp.int k m)) (hy : Get σ y (Rp.int k n)) : Spec P σ M o (.one (Rp.int k (min m n))) :=
  Spec.of_run fun a w C hs _ => ⟨.int k (min m n), by
    simp only [execOp, h, resolve, Sem.run_bind, Sem.run_pure, Result.andThen_ok, invoke, builtin, Builtin.min_, List.map_toArray, List.map_cons, List.map_nil, get_int hx hs, get_int hy hs, List.foldlM_cons, List.foldlM_nil, Builtin.min2]
    congr 3
    rw [Int.min_def]; split <;> split <;> omega, rfl, by rw [Int.min_def]; split <;> first | exact (hx a w C hs).2 | exact (hy a w C hs).2⟩
theorem spec_max2 {k : IntKind} {x y : Operand} {m n : Int} {ts : Array TypeId} (h : o.op = .call ⟨.builtin .max, #[x, y], ts⟩) (hx : Get σ x (Rp.int k m)) (hy : Get σ y (Rp.int k n)) : Spec P σ M o (.one (Rp.int k (max m n))) :=
  Spec.of_run fun a w C hs _ => ⟨.int k (max m n), by
    simp only [execOp, h, resolve, Sem.run_bind, Sem.run_pure, Result.andThen_ok, invoke, builtin, Builtin.max_, List.map_toArray, List.map_cons, List.map_nil, get_int hx hs, get_int hy hs, List.foldlM_cons, List.foldlM_nil, Builtin.max2]
    congr 3
    rw [Int.max_def]; split <;> split <;> omega, rfl, by rw [Int.max_def]; split <;> first | exact (hx a w C hs).2 | exact (hy a w C hs).2⟩

theorem fit_i8 {e : Int} (h1 : (-128) ≤ e) (h2 : e ≤ 127) (h : Spec P σ M o (.one (Rp.int .i8 (IntKind.i8.wrap e)))) : Spec P σ M o (.one (Rp.int .i8 e)) := spec_fit (k := .i8) ⟨h1, h2⟩ h
theorem fit_i16 {e : Int} (h1 : (-32768) ≤ e) (h2 : e ≤ 32767) (h : Spec P σ M o (.one (Rp.int .i16 (IntKind.i16.wrap e)))) : Spec P σ M o (.one (Rp.int .i16 e)) := spec_fit (k := .i16) ⟨h1, h2⟩ h
theorem fit_i32 {e : Int} (h1 : (-2147483648) ≤ e) (h2 : e ≤ 2147483647) (h : Spec P σ M o (.one (Rp.int .i32 (IntKind.i32.wrap e)))) : Spec P σ M o (.one (Rp.int .i32 e)) := spec_fit (k := .i32) ⟨h1, h2⟩ h
theorem fit_i64 {e : Int} (h1 : (-9223372036854775808) ≤ e) (h2 : e ≤ 9223372036854775807) (h : Spec P σ M o (.one (Rp.int .i64 (IntKind.i64.wrap e)))) : Spec P σ M o (.one (Rp.int .i64 e)) := spec_fit (k := .i64) ⟨h1, h2⟩ h
theorem fit_u8 {e : Int} (h1 : 0 ≤ e) (h2 : e ≤ 255) (h : Spec P σ M o (.one (Rp.int .u8 (IntKind.u8.wrap e)))) : Spec P σ M o (.one (Rp.int .u8 e)) := spec_fit (k := .u8) ⟨h1, h2⟩ h
theorem fit_u16 {e : Int} (h1 : 0 ≤ e) (h2 : e ≤ 65535) (h : Spec P σ M o (.one (Rp.int .u16 (IntKind.u16.wrap e)))) : Spec P σ M o (.one (Rp.int .u16 e)) := spec_fit (k := .u16) ⟨h1, h2⟩ h
theorem fit_u32 {e : Int} (h1 : 0 ≤ e) (h2 : e ≤ 4294967295) (h : Spec P σ M o (.one (Rp.int .u32 (IntKind.u32.wrap e)))) : Spec P σ M o (.one (Rp.int .u32 e)) := spec_fit (k := .u32) ⟨h1, h2⟩ h
theorem fit_u64 {e : Int} (h1 : 0 ≤ e) (h2 : e ≤ 18446744073709551615) (h : Spec P σ M o (.one (Rp.int .u64 (IntKind.u64.wrap e)))) : Spec P σ M o (.one (Rp.int .u64 e)) := spec_fit (k := .u64) ⟨h1, h2⟩ h

/-! Slices put together. -/
def RA.own {α : Type} (T sz : Nat) (E : α → List Rp) (xs : List α) : RA := ⟨Value, fun v => Rp.val v, fun v => [MF.osl v T sz E xs]⟩
theorem spec_buildSlice0 {α : Type} {T e sz : Nat} {E : α → List Rp} (h : o.op = .buildSlice T 0 #[]) (hu : P.underlying T = some (.slice e)) (hn : ∀ w, (sizeOf e).run P w = .ok sz w) : Spec P σ M o (.own e sz E []) :=
  Spec.new (A := .own e sz E []) (fun r => .slice (some ⟨r, 0, none⟩) 0 0) fun a w C hs hm => ⟨.slice (some ⟨w.heap.size, 0, none⟩) 0 0, .cells #[] e, by
    simp [execOp, h, Instr.buildSlice, run_underlying hu, hn, Instr.fill, newRow, show Array.range 0 = #[] from by decide], rfl, rfl, fun G hG => by
      have : G = MF.osl (.slice (some ⟨w.heap.size, 0, none⟩) 0 0) e sz E [] := by simpa [RA.own] using hG
      subst this
      exact ⟨[], ⟨by simp, .inr ⟨w.heap.size, 0, #[], rfl, Nat.zero_le _, new_at _ _, Nat.le_refl _, by simp [maxLen], by simp, by simp⟩⟩, by simp [AllR, AllP], by simp⟩⟩
theorem spec_buildSlice1 {α : Type} {T e sz bytes : Nat} {E : α → List Rp} {y : α} {x : Operand} {z : Value} {Zs : List Rp} (h : o.op = .buildSlice T 1 #[(0, x)]) (hu : P.underlying T = some (.slice e)) (hT : TI P e sz bytes z)
    (hz : ∀ w C, AllR Zs w C z.cells.toList) (hb : sz ≤ 16777216 ∧ Zs.length = sz ∧ 0 < sz) (hx : GetC σ x (E y)) (hE : ∀ x, (E x).length = sz) : Spec P σ M o (.one (Rp.slice E [y])) :=
  Spec.newPub fun a w C hs hm => by
    have hc := hx a w C hs
    have hl := hc.1.length
    rw [hE] at hl
    have hsz : (a.eval x).cells.size = sz := by rw [← Array.length_toList]; exact hl
    have hzl : z.cells.size = sz := by rw [← Array.length_toList, (hz w C).1.length, hb.2.1]
    refine ⟨.slice (some ⟨w.heap.size, 0, none⟩) 1 1, .cells (a.eval x).cells e, ?_, fun C' hC' => ⟨by simp, .inr ⟨⟨w.heap.size, 0, none⟩, 1, rfl, Nat.le_refl _, .inr ⟨rfl, (hC' _).2 (.inr rfl), _, _, _, new_at _ _, ?_⟩⟩⟩⟩
    · have hfill : Instr.fill (fun i => some (i * sz, sz)) ((Array.range (1 * sz)).map (z.cells[· % z.cells.size]!)) [(0, a.eval x)] = some (a.eval x).cells := by
        have hf := fold_set 0 (a.eval x).cells.toList 0 ((Array.range (1 * sz)).map (z.cells[· % z.cells.size]!)) (by simp; omega)
        simp only [Instr.fill]
        rw [if_neg]
        · congr 1
          rw [← Array.toList_inj, ← Array.foldl_toList, Array.toList_zipIdx]
          have h0 : 0 * sz = 0 := by simp
          rw [h0, hf]
          simp
          omega
        · simp [hsz]
      have h0 : ¬ (1 * sz > 2 ^ 24) := by omega
      have h1 : ¬ (1 * sz = 0) := by omega
      simp only [execOp, h, Instr.buildSlice, Sem.run_bind, run_underlying hu, Result.andThen_ok, hT.size, h0, if_false, h1, hT.zero, Sem.run_pure]
      simp only [List.map_toArray, List.map_cons, List.map_nil, hfill]
      simp [newRow]
    · simp only [List.drop_zero, List.flatMap_cons, List.flatMap_nil, List.append_nil]
      exact allR_take (hc.mono (pub_of_new hm.wf hC'))

/-- A fact that a slot's value carries. -/
theorem W.fact {c : Code} {φ : Prop} {R : Rp} (t : Nat) (ht : look t S = some R) (hφ : ∀ w C v, R.p w C v → φ) (h : φ → W P B n S M c Q) : W P B n S M c Q :=
  fun a w C st => h (hφ _ _ _ (st.slots t R ht)) a w C st
theorem L.fact {φ : Prop} {R : Rp} (t : Nat) (ht : look t S = some R) (hφ : ∀ w C v, R.p w C v → φ) (h : φ → L P B n S M ops rest Q) : L P B n S M ops rest Q :=
  fun a w C st => h (hφ _ _ _ (st.slots t R ht)) a w C st
theorem N.fact {e : Exit} {φ : Prop} {R : Rp} (t : Nat) (ht : look t S = some R) (hφ : ∀ w C v, R.p w C v → φ) (h : φ → N B n S M e Q) : N B n S M e Q :=
  fun a w C st => h (hφ _ _ _ (st.slots t R ht)) a w C st
/-- .. that an owned fact carries. -/
theorem W.factM {c : Code} {φ : Prop} {F : MF} (k : Nat) (hk : M[k]? = some F) (hφ : ∀ w C, F.p w C → φ) (h : φ → W P B n S M c Q) : W P B n S M c Q :=
  fun a w C st => h (hφ _ _ (st.mem.facts F (List.mem_of_getElem? hk))) a w C st
/-- What an integer's slot carries. -/
theorem int_fact {k : IntKind} {m : Int} (w : World) (C : Nat → Prop) (v : Value) (h : (Rp.int k m).p w C v) : InR k m := h.2
theorem slice_fact {α : Type} {E : α → List Rp} {xs : List α} (w : World) (C : Nat → Prop) (v : Value) (h : (Rp.slice E xs).p w C v) : xs.length ≤ 9223372036854775807 := h.1
theorem str_fact {l : List UInt8} (w : World) (C : Nat → Prop) (v : Value) (h : (Rp.str l).p w C v) : l.length ≤ 9223372036854775807 := h.2
theorem osl_fact' {α : Type} {v : Value} {T sz : Nat} {E : α → List Rp} {xs : List α} (w : World) (C : Nat → Prop) (h : (MF.osl v T sz E xs).p w C) : xs.length ≤ 281474976710656 := let ⟨_, _, _, h⟩ := h; h
/-- The cells of a struct. -/
theorem agg_fact {Rs : List Rp} {φ : Prop} (h : ∀ w C vs, AllP Rs w C vs → φ) (w : World) (C : Nat → Prop) (v : Value) (hv : (Rp.agg Rs).p w C v) : φ := let ⟨cs, _, hcs⟩ := hv; h w C cs hcs.1
end
end Go.Sim
