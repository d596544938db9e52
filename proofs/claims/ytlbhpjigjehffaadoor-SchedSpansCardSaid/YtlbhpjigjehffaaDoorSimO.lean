/- Values that may be taken first: for each kind of operation that reads only what stays as it is. -/
import Derived.Test.YtlbhpjigjehffaaDoorSimN
namespace Go.Sim

section
variable {P : Program} {M : List MF} {ops : Array Oper} {o : Oper} {σ : Nat → Option Rp}

def QS (P : Program) (σ : Nat → Option Rp) (M : List MF) (o : Oper) (R : Rp) : Prop :=
  ∀ a w C, SlotsOk σ a w C → MOk M w C → ∃ v, R.p w C v ∧ ∀ w', Stab w C M w' → (execOp a.eval o).run P w' = .ok (.value v) w'
theorem QSpec.plain {R : Rp} (hg : o.guard = none) (h : QS P σ M o R) : QSpec P ops σ M o R := fun a w C hs hm =>
  let ⟨v, hv, hr⟩ := h a w C hs hm; ⟨v, hv, .inl ⟨by simp [Region.wanted, hg], hr⟩⟩
theorem QSpec.guard {R : Rp} {j t : Nat} {want b : Bool} (hg : o.guard = some (j, want)) (ht : (ops[j]?).bind (·.dst) = some t)
    (hb : σ t = some (Rp.bool b)) (hs : b = want → QS P σ M o R) : QSpec P ops σ M o (Rp.opt (b = want) R) := by
  intro a w C h hm
  have hy := yielded_bool ht (h t _ hb)
  by_cases hbw : b = want
  · obtain ⟨v, hv, hr⟩ := hs hbw a w C h hm
    exact ⟨v, ⟨fun _ => hv, fun hn => absurd hbw hn⟩, .inl ⟨by simp [Region.wanted, hg, hy, hbw], hr⟩⟩
  · exact ⟨undef, ⟨fun hc => absurd hc hbw, fun _ => rfl⟩, .inr ⟨by simp [Region.wanted, hg, hy, hbw], rfl⟩⟩
theorem QSpec.guardOpt {R : Rp} {j t : Nat} {want b : Bool} {c : Prop} (hg : o.guard = some (j, want)) (ht : (ops[j]?).bind (·.dst) = some t)
    (hb : σ t = some (Rp.opt c (Rp.bool b))) (hs : c ∧ b = want → QS P σ M o R) : QSpec P ops σ M o (Rp.opt (c ∧ b = want) R) := by
  intro a w C h hm
  have h2 := h t _ hb
  by_cases hc : c
  · have hy := yielded_bool ht (h2.1 hc)
    by_cases hbw : b = want
    · obtain ⟨v, hv, hr⟩ := hs ⟨hc, hbw⟩ a w C h hm
      exact ⟨v, ⟨fun _ => hv, fun hn => absurd ⟨hc, hbw⟩ hn⟩, .inl ⟨by simp [Region.wanted, hg, hy, hbw], hr⟩⟩
    · exact ⟨undef, ⟨fun hc => absurd hc.2 hbw, fun _ => rfl⟩, .inr ⟨by simp [Region.wanted, hg, hy, hbw], rfl⟩⟩
  · have hy := yielded_undef ht (h2.2 hc)
    exact ⟨undef, ⟨fun hc' => absurd hc'.1 hc, fun _ => rfl⟩, .inr ⟨by simp [Region.wanted, hg, hy], rfl⟩⟩

theorem qs_move {x : Operand} {R : Rp} (h : o.op = .move x) (hx : Get σ x R) : QS P σ M o R := fun a w C hs _ => ⟨a.eval x, hx a w C hs, fun w' _ => by simp [execOp, h]⟩
theorem qs_assign {x : Operand} {R : Rp} (h : o.op = .assign x) (hx : Get σ x R) : QS P σ M o R := fun a w C hs _ => ⟨a.eval x, hx a w C hs, fun w' _ => by simp [execOp, h]⟩
theorem qs_nilCheck {x : Operand} {R : Rp} [hn : NonNil R] (h : o.op = .nilCheck x) (hx : Get σ x R) : QS P σ M o R := fun a w C hs _ => by
  have h1 := hx a w C hs
  obtain ⟨ad, hv⟩ := hn.some _ _ _ h1
  exact ⟨a.eval x, h1, fun w' _ => by simp [execOp, h, hv]⟩
theorem qs_extract {x : Operand} {i : Nat} {Rs : List Rp} {R : Rp} (h : o.op = .extract x i) (hx : Get σ x (Rp.tuple Rs)) (hi : Rs[i]? = some R) : QS P σ M o R := fun a w C hs _ => by
  obtain ⟨cs, hv, hcs⟩ := hx a w C hs
  obtain ⟨v, hv', hR⟩ := hcs.get i hi
  exact ⟨v, hR, fun w' _ => by simp [execOp, h, hv, Instr.extract, hv']⟩
theorem qs_not {T : TypeId} {x : Operand} {b : Bool} (h : o.op = .unOp .not T x) (hx : Get σ x (Rp.bool b)) : QS P σ M o (Rp.bool (!b)) := fun a w C hs _ =>
  ⟨.bool !b, rfl, fun w' _ => by simp [execOp, h, show a.eval x = _ from hx a w C hs, Op.unary]⟩
theorem qs_pick {c x y : Operand} {b : Bool} {R : Rp} (h : o.op = .pick c x y) (hc : Get σ c (Rp.bool b)) (hx : b = true → Get σ x R) (hy : b = false → Get σ y R) : QS P σ M o R := fun a w C hs _ =>
  ⟨if b then a.eval x else a.eval y, by
    cases b
    · exact hy rfl a w C hs
    · exact hx rfl a w C hs, fun w' _ => by simp [execOp, h, show a.eval c = _ from hc a w C hs, asBool]⟩
theorem qs_and {c x : Operand} {b b' : Bool} (h : o.op = .pick c x (.const (.bool false))) (hc : Get σ c (Rp.bool b)) (hx : b = true → Get σ x (Rp.bool b')) : QS P σ M o (Rp.bool (b && b')) :=
  qs_pick h hc (fun hb => by subst hb; exact hx rfl) (fun hb => by subst hb; exact Get.const fun _ _ => rfl)
theorem qs_or {c y : Operand} {b b' : Bool} (h : o.op = .pick c (.const (.bool true)) y) (hc : Get σ c (Rp.bool b)) (hy : b = false → Get σ y (Rp.bool b')) : QS P σ M o (Rp.bool (b || b')) :=
  qs_pick h hc (fun hb => by subst hb; exact Get.const fun _ _ => rfl) (fun hb => by subst hb; exact hy rfl)
theorem qs_add {T T' : TypeId} {k : IntKind} {x y : Operand} {m n : Int} (h : o.op = .binOp .add T x y T') (hx : Get σ x (Rp.int k m)) (hy : Get σ y (Rp.int k n)) : QS P σ M o (Rp.int k (k.wrap (m + n))) := fun a w C hs _ =>
  ⟨.int k (k.wrap (m + n)), ⟨rfl, in_wrap _ _⟩, fun w' _ => by simp [execOp, h, get_int hx hs, get_int hy hs, eqGuard_int, binOp, Op.intArith]⟩
theorem qs_sub {T T' : TypeId} {k : IntKind} {x y : Operand} {m n : Int} (h : o.op = .binOp .sub T x y T') (hx : Get σ x (Rp.int k m)) (hy : Get σ y (Rp.int k n)) : QS P σ M o (Rp.int k (k.wrap (m - n))) := fun a w C hs _ =>
  ⟨.int k (k.wrap (m - n)), ⟨rfl, in_wrap _ _⟩, fun w' _ => by simp [execOp, h, get_int hx hs, get_int hy hs, eqGuard_int, binOp, Op.intArith]⟩
theorem qs_fit {k : IntKind} {e : Int} (hf : InR k e) (h : QS P σ M o (Rp.int k (k.wrap e))) : QS P σ M o (Rp.int k e) := by
  rw [wrap_in hf] at h; exact h
theorem qfit_i64 {e : Int} (h1 : (-9223372036854775808) ≤ e) (h2 : e ≤ 9223372036854775807) (h : QS P σ M o (Rp.int .i64 (IntKind.i64.wrap e))) : QS P σ M o (Rp.int .i64 e) := qs_fit (k := .i64) ⟨h1, h2⟩ h
theorem qs_lss {T T' : TypeId} {k : IntKind} {x y : Operand} {m n : Int} (h : o.op = .binOp .lss T x y T') (hx : Get σ x (Rp.int k m)) (hy : Get σ y (Rp.int k n)) : QS P σ M o (Rp.bool (decide (m < n))) := fun a w C hs _ =>
  ⟨.bool (decide (m < n)), rfl, fun w' _ => by simp [execOp, h, get_int hx hs, get_int hy hs, eqGuard_int, binOp, Op.intCmp]⟩
theorem qs_leq {T T' : TypeId} {k : IntKind} {x y : Operand} {m n : Int} (h : o.op = .binOp .leq T x y T') (hx : Get σ x (Rp.int k m)) (hy : Get σ y (Rp.int k n)) : QS P σ M o (Rp.bool (decide (m ≤ n))) := fun a w C hs _ =>
  ⟨.bool (decide (m ≤ n)), rfl, fun w' _ => by simp [execOp, h, get_int hx hs, get_int hy hs, eqGuard_int, binOp, Op.intCmp]⟩
theorem qs_gtr {T T' : TypeId} {k : IntKind} {x y : Operand} {m n : Int} (h : o.op = .binOp .gtr T x y T') (hx : Get σ x (Rp.int k m)) (hy : Get σ y (Rp.int k n)) : QS P σ M o (Rp.bool (decide (n < m))) := fun a w C hs _ =>
  ⟨.bool (decide (n < m)), rfl, fun w' _ => by simp [execOp, h, get_int hx hs, get_int hy hs, eqGuard_int, binOp, Op.intCmp]⟩
theorem qs_geq {T T' : TypeId} {k : IntKind} {x y : Operand} {m n : Int} (h : o.op = .binOp .geq T x y T') (hx : Get σ x (Rp.int k m)) (hy : Get σ y (Rp.int k n)) : QS P σ M o (Rp.bool (decide (n ≤ m))) := fun a w C hs _ =>
  ⟨.bool (decide (n ≤ m)), rfl, fun w' _ => by simp [execOp, h, get_int hx hs, get_int hy hs, eqGuard_int, binOp, Op.intCmp]⟩
theorem qs_eql {T T' : TypeId} {k : IntKind} {x y : Operand} {m n : Int} (h : o.op = .binOp .eql T x y T') (hx : Get σ x (Rp.int k m)) (hy : Get σ y (Rp.int k n)) : QS P σ M o (Rp.bool (decide (m = n))) := fun a w C hs _ =>
  ⟨.bool (decide (m = n)), rfl, fun w' _ => by
    simp only [execOp, h, get_int hx hs, get_int hy hs, Sem.run_bind, eqGuard_int, Result.andThen_ok, binOp, Op.intCmp, ne_eq, not_true, if_false, Sem.run_pure]
    rw [show (m == n) = decide (m = n) from rfl]⟩
theorem qs_neq {T T' : TypeId} {k : IntKind} {x y : Operand} {m n : Int} (h : o.op = .binOp .neq T x y T') (hx : Get σ x (Rp.int k m)) (hy : Get σ y (Rp.int k n)) : QS P σ M o (Rp.bool (!decide (m = n))) := fun a w C hs _ =>
  ⟨.bool (!decide (m = n)), rfl, fun w' _ => by
    simp only [execOp, h, get_int hx hs, get_int hy hs, Sem.run_bind, eqGuard_int, Result.andThen_ok, binOp, Op.intCmp, ne_eq, not_true, if_false, Sem.run_pure]
    rw [show (m != n) = !decide (m = n) from rfl]⟩
theorem qs_field {T x f} {Rs : List Rp} {fs : Array Field} {fd : Field} {R : Rp} (h : o.op = .field T x f) (hu : P.underlying T = some (.struct fs)) (hf : fs[f]? = some fd)
    (ha : ∀ w, (isAgg fd.type).run P w = .ok false w) (hx : Get σ x (Rp.agg Rs)) (hR : Rs[fd.offset]? = some R) : QS P σ M o R := fun a w C hs _ => by
  obtain ⟨cs, hv, hcs⟩ := hx a w C hs
  obtain ⟨v, hv', hR'⟩ := hcs.1.get _ hR
  exact ⟨v, hR', fun w' _ => by simp [execOp, h, hv, Instr.field, run_underlying hu, hf, part, ha, asAgg, hv']⟩
theorem qs_fieldAddr {T x f r off off'} {fs : Array Field} {fd : Field} {n : Nat} (h : o.op = .fieldAddr T x f) (hu : P.underlying T = some (.struct fs)) (hf : fs[f]? = some fd) (hn : ∀ w, (sizeOf fd.type).run P w = .ok (n + 1) w)
    (hx : Get σ x (Rp.ptr r off)) (ho : off + fd.offset = off') : QS P σ M o (Rp.ptr r off') := fun a w C hs _ =>
  ⟨.pointer (some ⟨r, off', none⟩), rfl, fun w' _ => by
    subst ho
    simp [execOp, h, show a.eval x = _ from hx a w C hs, Instr.fieldAt, run_underlying hu, hf, Instr.sureAddr, fieldPlace, hn, addr_add]⟩
theorem qs_fieldAddrP {T x f} {Rs Rs' : List Rp} {fs : Array Field} {fd : Field} {n : Nat} (h : o.op = .fieldAddr T x f) (hu : P.underlying T = some (.struct fs)) (hf : fs[f]? = some fd) (hn : ∀ w, (sizeOf fd.type).run P w = .ok (n + 1) w)
    (hx : Get σ x (Rp.at Rs)) (hb : Nat.ble (fd.offset + (n + 1)) Rs.length = true) (ho : (Rs.drop fd.offset).take (n + 1) = Rs') : QS P σ M o (Rp.at Rs') := fun a w C hs _ => by
  obtain ⟨ad, hv, hrow⟩ := hx a w C hs
  refine ⟨.pointer (some (ad.add fd.offset)), ⟨_, rfl, ?_⟩, fun w' _ => by simp [execOp, h, hv, Instr.fieldAt, run_underlying hu, hf, Instr.sureAddr, fieldPlace, hn]⟩
  rw [← ho]
  exact rowAt_sub _ _ (by simpa using hb) hrow
theorem qs_load1 {t : TypeId} {x : Operand} {r off T m k : Nat} {Rs : List Rp} {R : Rp} (h : o.op = .load t x) (ha : ∀ w, (isAgg t).run P w = .ok false w) (hx : Get σ x (Rp.ptr r off)) (hk : M[k]? = some (MF.row r T m Rs)) (hR : Rs[off]? = some R) : QS P σ M o R :=
  fun a w C hs hm => by
    obtain ⟨cs, h1, h2, h3⟩ := row_fact hm hk rfl
    obtain ⟨v, hv, hR'⟩ := h3.1.get _ hR
    have hv' : cs[off]? = some v := by
      rw [List.getElem?_take] at hv
      split at hv
      · simpa using hv
      · cases hv
    refine ⟨v, hR', fun w' hw' => ?_⟩
    have h1' := (hw'.2 r (.inr (mem_feet.2 ⟨_, List.mem_of_getElem? hk, by simp [MF.row]⟩))).trans h1
    simp [execOp, h, show a.eval x = _ from hx a w C hs, run_load_row h1' hv' (ha w')]
theorem qs_loadW {t : TypeId} {x : Operand} {r T k n : Nat} {Rs : List Rp} (h : o.op = .load t x) (ha : ∀ w, (isAgg t).run P w = .ok true w) (hn : ∀ w, (sizeOf t).run P w = .ok n w) (hx : Get σ x (Rp.ptr r 0)) (hk : M[k]? = some (MF.box r T Rs))
    (hb : Rs.length = n) : QS P σ M o (Rp.agg Rs) :=
  fun a w C hs hm => by
    obtain ⟨cs, h1, h2, h3⟩ := row_fact hm hk rfl
    have hl := h3.1.length
    simp only [List.length_take, Array.length_toList] at hl
    subst hb
    refine ⟨_, ⟨_, rfl, h3⟩, fun w' hw' => ?_⟩
    have h1' := (hw'.2 r (.inr (mem_feet.2 ⟨_, List.mem_of_getElem? hk, by simp [MF.box, MF.row]⟩))).trans h1
    simp [execOp, h, show a.eval x = _ from hx a w C hs, run_loadA_row h1' (n := Rs.length) (off := 0) (by omega) (ha w') (hn w')]
theorem qs_loadP1 {t x} {R : Rp} (h : o.op = .load t x) (ha : ∀ w, (isAgg t).run P w = .ok false w) (hx : Get σ x (Rp.at [R])) : QS P σ M o R :=
  fun a w C hs hm => by
    obtain ⟨ad, hv, hsp, hC, cs, T, fr, h1, h3⟩ := hx a w C hs
    obtain ⟨v, hv', hR'⟩ := h3.1.get 0 (R := R) rfl
    have hv'' : cs[ad.off]? = some v := by
      rw [List.getElem?_take] at hv'
      simpa using hv'
    have : ad = ⟨ad.block, ad.off, none⟩ := by cases ad; simp_all
    rw [this] at hv
    refine ⟨v, hR', fun w' hw' => ?_⟩
    have h1' := (hw'.2 _ (.inl hC)).trans h1
    simp [execOp, h, hv, run_load_row h1' hv'' (ha w')]
theorem qs_loadPA {t x n} {Rs : List Rp} (h : o.op = .load t x) (ha : ∀ w, (isAgg t).run P w = .ok true w) (hn : ∀ w, (sizeOf t).run P w = .ok n w) (hx : Get σ x (Rp.at Rs)) (hl : Rs.length = n) : QS P σ M o (Rp.agg Rs) :=
  fun a w C hs hm => by
    obtain ⟨ad, hv, hsp, hC, cs, T, fr, h1, h3⟩ := hx a w C hs
    have hlen := h3.1.length
    simp only [List.length_take, List.length_drop, Array.length_toList] at hlen
    have : ad = ⟨ad.block, ad.off, none⟩ := by cases ad; simp_all
    rw [this] at hv
    refine ⟨.agg ((cs.toList.drop ad.off).take n).toArray, ⟨_, rfl, hl ▸ h3⟩, fun w' hw' => ?_⟩
    have h1' := (hw'.2 _ (.inl hC)).trans h1
    by_cases hn0 : n = 0
    · subst hn0
      simp [execOp, h, hv, Instr.loadAt, Instr.sureAddr, loadVar, ha, hn, loadCells, loadCellsFrom]
    · simp [execOp, h, hv, run_loadA_row h1' (n := n) (off := ad.off) (by omega) (ha w') (hn w')]
theorem qs_indexAddr {α : Type} {T x ix e n} {E : α → List Rp} {xs : List α} {k : IntKind} {i : Int} {y : α} (h : o.op = .indexAddr T x ix) (hu : P.underlying T = some (.slice e)) (hn : ∀ w, (sizeOf e).run P w = .ok n w)
    (hE : ∀ x, (E x).length = n) (hx : Get σ x (Rp.slice E xs)) (hi : Get σ ix (Rp.int k i)) (hr : 0 ≤ i ∧ xs[i.toNat]? = some y) : QS P σ M o (Rp.at (E y)) :=
  fun a w C hs hm => by
    have hlt : i.toNat < xs.length := (List.getElem?_eq_some_iff.1 hr.2).1
    obtain ⟨_, hv⟩ := hx a w C hs
    rcases hv with ⟨_, hnil⟩ | ⟨ad, cap, hv, _, hrow⟩
    · rw [hnil] at hlt; simp at hlt
    · have hrow := hrow.resolve_left (fun h0 => by rw [h0] at hlt; simp at hlt)
      refine ⟨.pointer (some (ad.add (i.toNat * n))), ⟨_, rfl, ?_⟩, fun w' _ => ?_⟩
      · have := rowAt_sub (i.toNat * n) n (by rw [flatMap_len hE]; calc i.toNat * n + n = (i.toNat + 1) * n := by rw [Nat.add_mul]; omega
                                                _ ≤ xs.length * n := Nat.mul_le_mul_right _ hlt) hrow
        rw [flatMap_one hE xs hr.2] at this
        exact this
      · simp [execOp, h, hv, get_int hi hs, Instr.indexAt, asIntOf, run_underlying hu, hn, hr.1, show i < (xs.length : Int) by omega]
theorem qs_indexAddrD {α : Type} [Inhabited α] {T e sz : Nat} {x ix : Operand} {E : α → List Rp} {xs : List α} {k : IntKind} {i : Int} (h : o.op = .indexAddr T x ix) (hu : P.underlying T = some (.slice e)) (hn : ∀ w, (sizeOf e).run P w = .ok sz w)
    (hE : ∀ x, (E x).length = sz) (hx : Get σ x (Rp.slice E xs)) (hi : Get σ ix (Rp.int k i)) (hr : 0 ≤ i ∧ i < xs.length) : QS P σ M o (Rp.at (E (xs.getD i.toNat default))) :=
  qs_indexAddr h hu hn hE hx hi ⟨hr.1, by
    have : i.toNat < xs.length := by omega
    simp [List.getD_eq_getElem?_getD, this]⟩
theorem qs_len {α : Type} {T e x} {E : α → List Rp} {xs : List α} (h : o.op = .call ⟨.builtin .len, #[x], #[T]⟩) (hu : P.underlying T = some (.slice e)) (hx : Get σ x (Rp.slice E xs)) : QS P σ M o (Rp.int .i64 xs.length) :=
  fun a w C hs hm => by
    obtain ⟨hl, hv⟩ := hx a w C hs
    refine ⟨.int .i64 xs.length, ⟨rfl, by simp only [InR]; omega⟩, fun w' _ => ?_⟩
    rcases hv with ⟨hv, hnil⟩ | ⟨ad, cap, hv, _, hrow⟩
    · simp [execOp, h, resolve, invoke, builtin, Builtin.len_, run_underlying hu, hv, hnil, goInt]
    · simp [execOp, h, resolve, invoke, builtin, Builtin.len_, run_underlying hu, hv, goInt]
end

theorem getD_some {α : Type} [Inhabited α] {xs : List α} {i : Int} (h : 0 ≤ i ∧ i < xs.length) : xs[i.toNat]? = some (xs.getD i.toNat default) := by
  have : i.toNat < xs.length := by omega
  simp [List.getD_eq_getElem?_getD, this]

/-! Loops whose other slots and facts stay. -/
section
variable {P : Program} {B : Base} {n : Nat} {S : List (Nat × Rp)} {M : List MF} {Q : Exit → Act → World → Prop}
theorem look_app {t : Nat} : ∀ (A C : List (Nat × Rp)), look t (A ++ C) = (look t A).or (look t C)
  | [], C => by simp [look]
  | (d, R) :: A, C => by
    by_cases h : d = t
    · subst h; rw [List.cons_append, look_cons_eq, look_cons_eq]; rfl
    · rw [List.cons_append, look_cons_ne h, look_cons_ne h, look_app A C]
theorem Sub.append {A K : List (Nat × Rp)} (h : Sub S A) (h' : Sub S K) : Sub S (A ++ K) := fun t R ht => by
  rw [look_app] at ht
  cases hA : look t A with
  | some R' => rw [hA] at ht; exact h t R (by rw [hA]; exact ht)
  | none => rw [hA] at ht; exact h' t R (by simpa using ht)
theorem W.loopK {σ : Type} {c : Code} {K : List (Nat × Rp)} {MK : List MF} (hK : Sub S K) (Ch : σ → List (Nat × Rp)) (Mz : σ → List MF) (I : σ → Prop) (μ : σ → Nat) (s₀ : σ) (hI : I s₀) (hs : Sub S (Ch s₀)) (hp : Pick M (Mz s₀ ++ MK))
    (round : ∀ s, I s → ∀ S' M', S' = Ch s ++ K → M' = Mz s ++ MK → W P B n S' M' c (Exit.then (Rnd B n (fun s => Ch s ++ K) (fun s => Mz s ++ MK) I μ s) Q)) : W P B n S M (.loop c) Q :=
  W.loop (fun s => Ch s ++ K) (fun s => Mz s ++ MK) I μ s₀ hI (hs.append hK) hp fun s hI => round s hI _ _ rfl rfl
theorem N.roundK {σ : Type} {K : List (Nat × Rp)} {MK : List MF} {Ch : σ → List (Nat × Rp)} {Mz : σ → List MF} {I : σ → Prop} {μ : σ → Nat} {s : σ} (s' : σ) (hI : I s') (hμ : μ s' < μ s) (hs : Sub S (Ch s')) (hk : Sub S K) (hp : Pick M (Mz s' ++ MK)) :
    N B n S M .normal (Exit.then (Rnd B n (fun s => Ch s ++ K) (fun s => Mz s ++ MK) I μ s) Q) :=
  N.round s' hI hμ (hs.append hk) hp
end
end Go.Sim
