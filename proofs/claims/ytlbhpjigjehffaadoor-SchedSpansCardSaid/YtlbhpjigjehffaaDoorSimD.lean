/- What operations do on memory: new variables and rows, loads, stores, addresses, slices. -/
import Derived.Test.YtlbhpjigjehffaaDoorSimC
namespace Go.Sim

/-- A value of one cell. -/
class One (R : Rp) : Prop where
  one : ∀ w C v, R.p w C v → v.oneCell' = true
instance {k n} : One (Rp.int k n) := ⟨fun _ _ _ h => by rw [h.1]; rfl⟩
instance {b} : One (Rp.bool b) := ⟨fun _ _ v h => by rw [show v = .bool b from h]; rfl⟩
instance {l} : One (Rp.str l) := ⟨fun _ _ _ h => by rw [h.1]; rfl⟩
instance {r off} : One (Rp.ptr r off) := ⟨fun _ _ v h => by rw [show v = .pointer (some ⟨r, off, none⟩) from h]; rfl⟩
instance {Rs} : One (Rp.at Rs) := ⟨fun _ _ _ ⟨_, h, _⟩ => by rw [h]; rfl⟩
instance {α : Type} {E : α → List Rp} {xs} : One (Rp.slice E xs) := ⟨fun _ _ _ ⟨_, h⟩ => by rcases h with ⟨h, _⟩ | ⟨_, _, h, _⟩ <;> rw [h] <;> rfl⟩
theorem One.val {u : Value} (h : u.oneCell' = true) : One (Rp.val u) := ⟨fun _ _ v hv => by rw [show v = u from hv]; exact h⟩
instance {a n c} : One (Rp.val (.slice a n c)) := One.val rfl
instance {a} : One (Rp.val (.pointer a)) := One.val rfl
instance {a} : One (Rp.val (.map a)) := One.val rfl
instance {a b c} : One (Rp.val (.func a b c)) := One.val rfl
instance : One (Rp.val .nilFunc) := One.val rfl
instance : One (Rp.val .nilIface) := One.val rfl

/-- The cells of an operand. -/
def GetC (σ : Nat → Option Rp) (x : Operand) (Rs : List Rp) : Prop := ∀ a w C, SlotsOk σ a w C → AllR Rs w C (a.eval x).cells.toList
theorem cells_one {v : Value} (h : v.oneCell' = true) : v.cells = #[v] := by cases v <;> first | rfl | (simp [Value.oneCell'] at h)
theorem GetC.one {σ : Nat → Option Rp} {x : Operand} {R : Rp} (h : Get σ x R) [ho : One R] : GetC σ x [R] := fun a w C hs => by
  have h1 := h a w C hs
  have h2 := ho.one _ _ _ h1
  rw [cells_one h2]
  exact ⟨⟨h1, trivial⟩, by simpa using h2⟩
theorem GetC.agg {σ : Nat → Option Rp} {x : Operand} {Rs : List Rp} (h : Get σ x (Rp.agg Rs)) : GetC σ x Rs := fun a w C hs => by
  obtain ⟨cs, hv, hcs⟩ := h a w C hs
  rw [hv]; simpa [Value.cells] using hcs

/-- What is known of a type. -/
structure TI (P : Program) (T : TypeId) (size bytes : Nat) (z : Value) : Prop where
  ex : ∃ i, P.info? T = some i ∧ i.size = size ∧ i.bytes = bytes ∧ i.zero = some z

section
variable {P : Program} {σ : Nat → Option Rp} {M : List MF} {o : Oper}

theorem TI.size {T size bytes z} (h : TI P T size bytes z) (w : World) : (sizeOf T).run P w = .ok size w := by
  obtain ⟨i, hi, h1, _, _⟩ := h.ex
  simp [sizeOf, typeInfo, hi, h1]
theorem TI.zero {T size bytes z} (h : TI P T size bytes z) (w : World) : (zeroValue T).run P w = .ok z w := by
  obtain ⟨i, hi, _, _, h3⟩ := h.ex
  simp [zeroValue, typeInfo, hi, h3]

/-! New blocks. -/
theorem new_eff (w : World) (C : Nat → Prop) (ob : Obj) : Eff [] w C (w.alloc ob) C where
  size := by simp
  keep b hb _ := heap_alloc_old w ob hb
  cl _ _ _ := Iff.rfl
  os := rfl
  tape := rfl
  output := rfl
theorem new_at (w : World) (ob : Obj) : (w.alloc ob).heap[w.heap.size]? = some ob := heap_alloc_new w ob
theorem new_size (w : World) (ob : Obj) : (w.alloc ob).heap.size = w.heap.size + 1 := by simp

/-- A new block of the call's own. -/
theorem Spec.new {A : RA} (i : Nat → A.ι) (h : ∀ a w C, SlotsOk σ a w C → MOk M w C → ∃ v ob, (execOp a.eval o).run P w = .ok (.value v) (w.alloc ob) ∧
    ((A.R (i w.heap.size)).p (w.alloc ob) C v) ∧ feet (A.F (i w.heap.size)) = [w.heap.size] ∧ ∀ G ∈ A.F (i w.heap.size), G.p (w.alloc ob) C) : Spec P σ M o A := by
  intro a w C K Q hs hm hk
  obtain ⟨v, ob, hr, hv, hf, hG⟩ := h a w C hs hm
  unfold Oper.wp
  rw [hr]
  refine hk (i w.heap.size) v _ C (new_eff w C ob) (fun b hb => ?_) hv ⟨hG, by rw [hf]; simp, fun b hb => ?_⟩
  · rw [new_size]; have := hm.wf b hb; omega
  · rw [hf] at hb
    have : b = w.heap.size := by simpa using hb
    subst this
    refine ⟨Nat.le_refl _, by rw [new_size]; omega, fun hc => ?_⟩
    have := hm.wf _ hc; omega

/-- A new block that is published at once. -/
theorem Spec.newPub {R : Rp} (h : ∀ a w C, SlotsOk σ a w C → MOk M w C → ∃ v ob, (execOp a.eval o).run P w = .ok (.value v) (w.alloc ob) ∧
    (∀ C' : Nat → Prop, (∀ b, C' b ↔ C b ∨ b = w.heap.size) → R.p (w.alloc ob) C' v)) : Spec P σ M o (.one R) := by
  intro a w C K Q hs hm hk
  obtain ⟨v, ob, hr, hv⟩ := h a w C hs hm
  unfold Oper.wp
  rw [hr]
  have he := new_eff w C ob
  refine hk () v _ (fun b => C b ∨ b = w.heap.size) ⟨he.size, he.keep, fun b hb _ => ?_, rfl, rfl, rfl⟩ (fun b hb => ?_) (hv _ fun b => Iff.rfl) MNew.nil
  · exact ⟨fun h => h.resolve_right (by omega), .inl⟩
  · rw [new_size]
    rcases hb with hb | hb
    · have := hm.wf b hb; omega
    · omega

theorem pub_of_new {w : World} {C C' : Nat → Prop} {ob : Obj} (hwf : ∀ b, C b → b < w.heap.size) (h : ∀ b, C' b ↔ C b ∨ b = w.heap.size) : Pub w C (w.alloc ob) C' :=
  fun b hb => ⟨(h b).2 (.inl hb), (new_eff w C ob).keep b (hwf b hb) (by simp)⟩

/-- What 'alloc', 'box' yield. -/
def RA.box (T : TypeId) (Rs : List Rp) : RA := ⟨Nat, fun r => Rp.ptr r 0, fun r => [MF.box r T Rs]⟩

theorem allR_take {Rs w C} {cs : List Value} (h : AllR Rs w C cs) : AllR Rs w C (cs.take Rs.length) := by
  have := h.1.length
  rw [List.take_of_length_le (by omega)]; exact h

theorem row_new {w : World} {C : Nat → Prop} {T : TypeId} {Rs : List Rp} {cs : Array Value} (hwf : ∀ b, C b → b < w.heap.size) (h : AllR Rs w C cs.toList) :
    (MF.box w.heap.size T Rs).p (w.alloc (.cells cs T)) C := by
  refine ⟨cs, new_at _ _, ?_, allR_take (h.mono ((new_eff w C _).pub hwf (by simp)))⟩
  have := h.1.length
  simpa using this

theorem spec_box {T : TypeId} {x : Operand} {Rs : List Rp} (h : o.op = .box T x) (hx : GetC σ x Rs) : Spec P σ M o (.box T Rs) :=
  Spec.new (A := .box T Rs) (fun r => r) fun a w C hs hm => ⟨.pointer (some ⟨w.heap.size, 0, none⟩), .cells (a.eval x).cells T, by
    simp [execOp, h, Instr.box, newVar, newRow], rfl, rfl, fun G hG => by
      have : G = MF.box w.heap.size T Rs := by simpa [RA.box] using hG
      subst this
      exact row_new hm.wf (hx a w C hs)⟩

theorem spec_alloc {T size bytes z} {Rs : List Rp} (h : o.op = .alloc T) (hT : TI P T size bytes z) (hz : ∀ w C, AllR Rs w C z.cells.toList) : Spec P σ M o (.box T Rs) :=
  Spec.new (A := .box T Rs) (fun r => r) fun a w C hs hm => ⟨.pointer (some ⟨w.heap.size, 0, none⟩), .cells z.cells T, by
    simp [execOp, h, Instr.alloc, hT.zero, newVar, newRow], rfl, rfl, fun G hG => by
      have : G = MF.box w.heap.size T Rs := by simpa [RA.box] using hG
      subst this
      exact row_new hm.wf (hz w C)⟩

/-! Values put together. -/
def splice (Zs : List Rp) (off : Nat) (Rs : List Rp) : List Rp := Zs.take off ++ Rs ++ Zs.drop (off + Rs.length)

theorem fold_set (off : Nat) : ∀ (cs : List Value) (k : Nat) (cells : Array Value), off + k + cs.length ≤ cells.size →
    ((cs.zipIdx k).foldl (fun acc x => acc.setIfInBounds (off + x.2) x.1) cells).toList = cells.toList.take (off + k) ++ cs ++ cells.toList.drop (off + k + cs.length) := by
  intro cs
  induction cs with
  | nil => intro k cells h; simp
  | cons c cs ih =>
    intro k cells h
    simp only [List.zipIdx_cons, List.foldl_cons]
    rw [ih (k + 1) _ (by simp at h ⊢; omega)]
    simp only [Array.toList_setIfInBounds, List.length_cons] at h ⊢
    have h1 : off + k < cells.toList.length := by simp; omega
    have h2 : (cells.toList.set (off + k) c).take (off + (k + 1)) = cells.toList.take (off + k) ++ [c] := by
      rw [show off + (k + 1) = off + k + 1 by omega, List.take_add_one, List.take_set_of_le (Nat.le_refl _)]
      rw [List.getElem?_set_self h1]; rfl
    have h3 : (cells.toList.set (off + k) c).drop (off + (k + 1) + cs.length) = cells.toList.drop (off + k + (cs.length + 1)) := by
      rw [List.drop_set_of_lt (by omega)]; congr 1; omega
    rw [h2, h3]; simp

theorem AllR.splice {w C Zs} {cells : List Value} {off : Nat} {Rs : List Rp} {cs : List Value} (hz : AllR Zs w C cells) (hc : AllR Rs w C cs) :
    AllR (splice Zs off Rs) w C (cells.take off ++ cs ++ cells.drop (off + cs.length)) := by
  unfold Sim.splice
  rw [hc.1.length]
  refine AllR.append (AllR.append ?_ hc) ?_
  · have := hz.sub 0 off; simpa using this
  · have h1 := hz.sub (off + Rs.length) Zs.length
    rw [List.take_of_length_le (by simp), List.take_of_length_le (by have := hz.1.length; simp; omega)] at h1
    exact h1

/-- The parts of a composite: what stands where. -/
inductive Parts (σ : Nat → Option Rp) (place : Nat → Option (Nat × Nat)) : List (Nat × Operand) → List Rp → List Rp → Prop
  | nil {Zs : List Rp} : Parts σ place [] Zs Zs
  | cons {i : Nat} {x : Operand} {rest : List (Nat × Operand)} {Zs Rs Zs' : List Rp} {off size : Nat} (hx : GetC σ x Rs) (hp : place i = some (off, size)) (hl : Rs.length = size) (hf : Nat.ble (off + size) Zs.length = true)
      (h : Parts σ place rest (splice Zs off Rs) Zs') : Parts σ place ((i, x) :: rest) Zs Zs'

theorem fill_parts {place : Nat → Option (Nat × Nat)} {a : Act} {w : World} {C : Nat → Prop} (hs : SlotsOk σ a w C) : ∀ {ps Zs Zs'}, Parts σ place ps Zs Zs' → ∀ cells : Array Value, AllR Zs w C cells.toList →
    ∃ cells' : Array Value, Instr.fill place cells (ps.map fun x => (x.1, a.eval x.2)) = some cells' ∧ AllR Zs' w C cells'.toList := by
  intro ps Zs Zs' h
  induction h with
  | nil => intro cells hc; exact ⟨cells, rfl, hc⟩
  | cons hx hp hl hf _ ih =>
    intro cells hc
    rename_i i x rest Zs Rs Zs' off size _
    have hxc := hx a w C hs
    have hlen := hxc.1.length
    have hclen := hc.1.length
    have hf' : off + size ≤ Zs.length := by simpa using hf
    have hsz : (a.eval x).cells.size = size := by rw [← Array.length_toList, hlen, hl]
    have hcs : cells.size = Zs.length := by rw [← Array.length_toList]; exact hclen
    obtain ⟨cells', h1, h2⟩ := ih ((a.eval x).cells.zipIdx.foldl (fun cs (c, j) => cs.setIfInBounds (off + j) c) cells) (by
      have := fold_set off (a.eval x).cells.toList 0 cells (by simp; omega)
      rw [← Array.foldl_toList]
      rw [Array.toList_zipIdx]
      rw [this]
      simp only [Nat.add_zero]
      exact hc.splice hxc)
    refine ⟨cells', ?_, h2⟩
    simp only [List.map_cons, Instr.fill, hp]
    rw [if_neg]
    · exact h1
    · simp only [hsz, ne_eq, not_true, decide_false, Bool.false_or, decide_eq_true_eq]
      omega

theorem spec_build {T : TypeId} {ps : Array (Nat × Operand)} {size bytes : Nat} {z : Value} {fs : Array Field} {places : Array (Nat × Nat)} {Zs Rs : List Rp}
    (h : o.op = .build T ps) (hT : TI P T size bytes z) (hz : ∀ w C, AllR Zs w C z.cells.toList) (hu : P.underlying T = some (.struct fs))
    (hpl : ∀ w, (fs.mapM fun f => do pure (f.offset, ← sizeOf f.type) : Sem (Array (Nat × Nat))).run P w = .ok places w) (hps : Parts σ (places[·]?) ps.toList Zs Rs) : Spec P σ M o (.one (Rp.agg Rs)) :=
  Spec.of_run fun a w C hs _ => by
    obtain ⟨cells', h1, h2⟩ := fill_parts hs hps z.cells (hz w C)
    refine ⟨.agg cells', ?_, cells'.toList, by simp, h2⟩
    simp only [execOp, h, Instr.build, Sem.run_bind, hT.zero, Result.andThen_ok, run_underlying hu, hpl]
    simp only [Array.toList_map, h1]
    rfl
theorem spec_buildArr {T : TypeId} {ps : Array (Nat × Operand)} {size bytes n esize : Nat} {E : TypeId} {z : Value} {Zs Rs : List Rp}
    (h : o.op = .build T ps) (hT : TI P T size bytes z) (hz : ∀ w C, AllR Zs w C z.cells.toList) (hu : P.underlying T = some (.array n E))
    (hE : ∀ w, (sizeOf E).run P w = .ok esize w) (hps : Parts σ (fun i => some (i * esize, esize)) ps.toList Zs Rs) : Spec P σ M o (.one (Rp.agg Rs)) :=
  Spec.of_run fun a w C hs _ => by
    obtain ⟨cells', h1, h2⟩ := fill_parts hs hps z.cells (hz w C)
    refine ⟨.agg cells', ?_, cells'.toList, by simp, h2⟩
    simp only [execOp, h, Instr.build, Sem.run_bind, hT.zero, Result.andThen_ok, run_underlying hu, hE]
    simp only [Array.toList_map, h1]
    rfl

/-! Loads. -/
theorem cell_row {w : World} {r : Nat} {cs : Array Value} {T fr} (h : w.heap[r]? = some (.cells cs T fr)) (i : Nat) : w.cell? ⟨r, i, none⟩ = cs[i]? := by
  simp [World.cell?, h]
theorem addr_add (r off j : Nat) : (⟨r, off, none⟩ : Addr).add j = ⟨r, off + j, none⟩ := by
  unfold Addr.add; split <;> simp_all

theorem run_load_row {w : World} {r off : Nat} {cs : Array Value} {T fr} {v : Value} (h : w.heap[r]? = some (.cells cs T fr)) (hv : cs[off]? = some v) {t : TypeId} (ha : (isAgg t).run P w = .ok false w) :
    (Instr.loadAt t (.pointer (some ⟨r, off, none⟩))).run P w = .ok v w := by
  simp [Instr.loadAt, Instr.sureAddr, loadVar, ha, cell_row h, hv]
theorem run_loadA_row {w : World} {r off n : Nat} {cs : Array Value} {T fr} (h : w.heap[r]? = some (.cells cs T fr)) (hn : off + n ≤ cs.size) {t : TypeId} (ha : (isAgg t).run P w = .ok true w) (hs : (sizeOf t).run P w = .ok n w) :
    (Instr.loadAt t (.pointer (some ⟨r, off, none⟩))).run P w = .ok (.agg ((cs.toList.drop off).take n).toArray) w := by
  have := run_loadCells_list (P := P) (w := w) ⟨r, off, none⟩ ((cs.toList.drop off).take n) (fun j v hj => by
    rw [addr_add, cell_row h]
    rw [List.getElem?_take] at hj
    split at hj
    · simpa using hj
    · cases hj)
  have hl : ((cs.toList.drop off).take n).length = n := by simp; omega
  rw [hl] at this
  simp [Instr.loadAt, Instr.sureAddr, loadVar, ha, hs, this]

theorem row_fact {F : MF} {r T m : Nat} {Rs : List Rp} {w C} (hm : MOk M w C) {k : Nat} (hk : M[k]? = some F) (hF : F = MF.row r T m Rs) :
    ∃ cs : Array Value, w.heap[r]? = some (.cells cs T (0, 0)) ∧ cs.size = m ∧ AllR Rs w C (cs.toList.take Rs.length) := by
  subst hF; exact hm.facts _ (List.mem_of_getElem? hk)

theorem spec_load1 {t : TypeId} {x : Operand} {r off T m k : Nat} {Rs : List Rp} {R : Rp} (h : o.op = .load t x) (ha : ∀ w, (isAgg t).run P w = .ok false w) (hx : Get σ x (Rp.ptr r off)) (hk : M[k]? = some (MF.row r T m Rs)) (hR : Rs[off]? = some R) : Spec P σ M o (.one R) :=
  Spec.of_run fun a w C hs hm => by
    obtain ⟨cs, h1, h2, h3⟩ := row_fact hm hk rfl
    obtain ⟨v, hv, hR'⟩ := h3.1.get _ hR
    have hv' : cs[off]? = some v := by
      rw [List.getElem?_take] at hv
      split at hv
      · simpa using hv
      · cases hv
    exact ⟨v, by simp [execOp, h, show a.eval x = _ from hx a w C hs, run_load_row h1 hv' (ha w)], hR'⟩
theorem spec_loadA {t : TypeId} {x : Operand} {r off T m k n : Nat} {Rs : List Rp} (h : o.op = .load t x) (ha : ∀ w, (isAgg t).run P w = .ok true w) (hn : ∀ w, (sizeOf t).run P w = .ok n w) (hx : Get σ x (Rp.ptr r off)) (hk : M[k]? = some (MF.row r T m Rs))
    (hb : Nat.ble (off + n) Rs.length = true) : Spec P σ M o (.one (Rp.agg ((Rs.drop off).take n))) :=
  Spec.of_run fun a w C hs hm => by
    obtain ⟨cs, h1, h2, h3⟩ := row_fact hm hk rfl
    have hb' : off + n ≤ Rs.length := by simpa using hb
    have hl := h3.1.length
    simp only [List.length_take, Array.length_toList] at hl
    refine ⟨_, by simp [execOp, h, show a.eval x = _ from hx a w C hs, run_loadA_row h1 (n := n) (off := off) (by omega) (ha w) (hn w)]; rfl, _, rfl, ?_⟩
    have := h3.sub off n
    rw [List.drop_take, List.take_take, Nat.min_eq_left (by omega)] at this
    exact this
/-- A whole variable. -/
theorem spec_loadW {t : TypeId} {x : Operand} {r T k n : Nat} {Rs : List Rp} (h : o.op = .load t x) (ha : ∀ w, (isAgg t).run P w = .ok true w) (hn : ∀ w, (sizeOf t).run P w = .ok n w) (hx : Get σ x (Rp.ptr r 0)) (hk : M[k]? = some (MF.box r T Rs))
    (hb : Rs.length = n) : Spec P σ M o (.one (Rp.agg Rs)) := by
  have := spec_loadA (P := P) (o := o) h ha hn hx hk (by rw [hb]; simp)
  rw [List.drop_zero, List.take_of_length_le (by omega)] at this
  exact this

/-- From a published place. -/
theorem spec_loadP1 {t x} {R : Rp} (h : o.op = .load t x) (ha : ∀ w, (isAgg t).run P w = .ok false w) (hx : Get σ x (Rp.at [R])) : Spec P σ M o (.one R) :=
  Spec.of_run fun a w C hs hm => by
    obtain ⟨ad, hv, hsp, hC, cs, T, fr, h1, h3⟩ := hx a w C hs
    obtain ⟨v, hv', hR'⟩ := h3.1.get 0 (R := R) rfl
    have hv'' : cs[ad.off]? = some v := by
      rw [List.getElem?_take] at hv'
      simpa using hv'
    have : ad = ⟨ad.block, ad.off, none⟩ := by cases ad; simp_all
    rw [this] at hv
    exact ⟨v, by simp [execOp, h, hv, run_load_row h1 hv'' (ha w)], hR'⟩
theorem spec_loadPA {t x n} {Rs : List Rp} (h : o.op = .load t x) (ha : ∀ w, (isAgg t).run P w = .ok true w) (hn : ∀ w, (sizeOf t).run P w = .ok n w) (hx : Get σ x (Rp.at Rs)) (hl : Rs.length = n) : Spec P σ M o (.one (Rp.agg Rs)) :=
  Spec.of_run fun a w C hs hm => by
    obtain ⟨ad, hv, hsp, hC, cs, T, fr, h1, h3⟩ := hx a w C hs
    have hlen := h3.1.length
    simp only [List.length_take, List.length_drop, Array.length_toList] at hlen
    have : ad = ⟨ad.block, ad.off, none⟩ := by cases ad; simp_all
    rw [this] at hv
    refine ⟨.agg ((cs.toList.drop ad.off).take n).toArray, ?_, _, rfl, hl ▸ h3⟩
    by_cases hn0 : n = 0
    · subst hn0
      simp [execOp, h, hv, Instr.loadAt, Instr.sureAddr, loadVar, ha, hn, loadCells, loadCellsFrom]
    · simp [execOp, h, hv, run_loadA_row h1 (n := n) (off := ad.off) (by omega) (ha w) (hn w)]

/-! Addresses. -/
theorem spec_fieldAddr {T x f r off off'} {fs : Array Field} {fd : Field} {n : Nat} (h : o.op = .fieldAddr T x f) (hu : P.underlying T = some (.struct fs)) (hf : fs[f]? = some fd) (hn : ∀ w, (sizeOf fd.type).run P w = .ok (n + 1) w)
    (hx : Get σ x (Rp.ptr r off)) (ho : off + fd.offset = off') : Spec P σ M o (.one (Rp.ptr r off')) :=
  Spec.of_run fun a w C hs hm => ⟨.pointer (some ⟨r, off', none⟩), by
    subst ho
    simp [execOp, h, show a.eval x = _ from hx a w C hs, Instr.fieldAt, run_underlying hu, hf, Instr.sureAddr, fieldPlace, hn, addr_add], rfl⟩
theorem rowAt_sub {w C Rs a} (i k : Nat) (hk : i + k ≤ Rs.length) (h : RowAt Rs w C a) : RowAt ((Rs.drop i).take k) w C (a.add i) := by
  obtain ⟨h1, h2, cs, T, fr, h3, h4⟩ := h
  have hadd : a.add i = ⟨a.block, a.off + i, none⟩ := by unfold Addr.add; split <;> (cases a; simp_all)
  rw [hadd]
  refine ⟨rfl, h2, cs, T, fr, h3, ?_⟩
  have := h4.sub i k
  rw [List.drop_take, List.take_take, List.drop_drop, Nat.min_eq_left (by omega)] at this
  simp only [List.length_take, List.length_drop]
  rw [Nat.min_eq_left (by omega)]
  exact this
theorem spec_fieldAddrP {T x f} {Rs Rs' : List Rp} {fs : Array Field} {fd : Field} {n : Nat} (h : o.op = .fieldAddr T x f) (hu : P.underlying T = some (.struct fs)) (hf : fs[f]? = some fd) (hn : ∀ w, (sizeOf fd.type).run P w = .ok (n + 1) w)
    (hx : Get σ x (Rp.at Rs)) (hb : Nat.ble (fd.offset + (n + 1)) Rs.length = true) (ho : (Rs.drop fd.offset).take (n + 1) = Rs') : Spec P σ M o (.one (Rp.at Rs')) :=
  Spec.of_run fun a w C hs hm => by
    obtain ⟨ad, hv, hrow⟩ := hx a w C hs
    refine ⟨.pointer (some (ad.add fd.offset)), by simp [execOp, h, hv, Instr.fieldAt, run_underlying hu, hf, Instr.sureAddr, fieldPlace, hn], _, rfl, ?_⟩
    rw [← ho]
    exact rowAt_sub _ _ (by simpa using hb) hrow

theorem flatMap_drop {α : Type} {E : α → List Rp} {n : Nat} (hn : ∀ x, (E x).length = n) : ∀ (xs : List α) (i : Nat), (xs.flatMap E).drop (i * n) = (xs.drop i).flatMap E
  | [], i => by simp
  | x :: xs, 0 => by simp
  | x :: xs, i + 1 => by
    rw [List.flatMap_cons, List.drop_succ_cons, ← flatMap_drop hn xs i, List.drop_append, hn]
    rw [List.drop_of_length_le (by rw [hn]; exact Nat.le_mul_of_pos_left _ (by omega)), List.nil_append]
    congr 1
    rw [Nat.add_mul]; omega
theorem flatMap_take {α : Type} {E : α → List Rp} {n : Nat} (hn : ∀ x, (E x).length = n) : ∀ (xs : List α) (i : Nat), (xs.flatMap E).take (i * n) = (xs.take i).flatMap E
  | [], i => by simp
  | x :: xs, 0 => by simp
  | x :: xs, i + 1 => by
    rw [List.flatMap_cons, List.take_succ_cons, List.flatMap_cons, ← flatMap_take hn xs i, List.take_append, hn]
    rw [List.take_of_length_le (by rw [hn]; exact Nat.le_mul_of_pos_left _ (by omega))]
    congr 2
    rw [Nat.add_mul]; omega
theorem flatMap_len {α : Type} {E : α → List Rp} {n : Nat} (hn : ∀ x, (E x).length = n) : ∀ (xs : List α), (xs.flatMap E).length = xs.length * n
  | [] => by simp
  | x :: xs => by rw [List.flatMap_cons, List.length_append, hn, flatMap_len hn xs, List.length_cons, Nat.add_mul]; omega
theorem flatMap_one {α : Type} {E : α → List Rp} {n : Nat} (hn : ∀ x, (E x).length = n) (xs : List α) {i : Nat} {y : α} (h : xs[i]? = some y) : ((xs.flatMap E).drop (i * n)).take n = E y := by
  rw [flatMap_drop hn]
  have hi : i < xs.length := (List.getElem?_eq_some_iff.1 h).1
  rw [List.drop_eq_getElem_cons hi, List.flatMap_cons]
  have : xs[i] = y := (List.getElem?_eq_some_iff.1 h).2
  rw [this, List.take_append_of_le_length (by rw [hn]; exact Nat.le_refl _), List.take_of_length_le (by rw [hn]; exact Nat.le_refl _)]

theorem spec_indexAddr {α : Type} {T x ix e n} {E : α → List Rp} {xs : List α} {k : IntKind} {i : Int} {y : α} (h : o.op = .indexAddr T x ix) (hu : P.underlying T = some (.slice e)) (hn : ∀ w, (sizeOf e).run P w = .ok n w)
    (hE : ∀ x, (E x).length = n) (hx : Get σ x (Rp.slice E xs)) (hi : Get σ ix (Rp.int k i)) (hr : 0 ≤ i ∧ xs[i.toNat]? = some y) : Spec P σ M o (.one (Rp.at (E y))) :=
  Spec.of_run fun a w C hs hm => by
    have hlt : i.toNat < xs.length := (List.getElem?_eq_some_iff.1 hr.2).1
    obtain ⟨_, hv⟩ := hx a w C hs
    rcases hv with ⟨_, hnil⟩ | ⟨ad, cap, hv, _, hrow⟩
    · rw [hnil] at hlt; simp at hlt
    · have hrow := hrow.resolve_left (fun h0 => by rw [h0] at hlt; simp at hlt)
      refine ⟨.pointer (some (ad.add (i.toNat * n))), ?_, _, rfl, ?_⟩
      · simp [execOp, h, hv, get_int hi hs, Instr.indexAt, asIntOf, run_underlying hu, hn, hr.1, show i < (xs.length : Int) by omega]
      · have := rowAt_sub (i.toNat * n) n (by rw [flatMap_len hE]; calc i.toNat * n + n = (i.toNat + 1) * n := by rw [Nat.add_mul]; omega
                                                _ ≤ xs.length * n := Nat.mul_le_mul_right _ hlt) hrow
        rw [flatMap_one hE xs hr.2] at this
        exact this

/-! Lengths, parts of slices. -/
theorem spec_len {α : Type} {T e x} {E : α → List Rp} {xs : List α} (h : o.op = .call ⟨.builtin .len, #[x], #[T]⟩) (hu : P.underlying T = some (.slice e)) (hx : Get σ x (Rp.slice E xs)) : Spec P σ M o (.one (Rp.int .i64 xs.length)) :=
  Spec.of_run fun a w C hs hm => by
    obtain ⟨hl, hv⟩ := hx a w C hs
    refine ⟨.int .i64 xs.length, ?_, rfl, by simp only [InR]; omega⟩
    rcases hv with ⟨hv, hnil⟩ | ⟨ad, cap, hv, _, hrow⟩
    · simp [execOp, h, resolve, invoke, builtin, Builtin.len_, run_underlying hu, hv, hnil, goInt]
    · simp [execOp, h, resolve, invoke, builtin, Builtin.len_, run_underlying hu, hv, goInt]
theorem spec_lenS {T x} {l : List UInt8} (h : o.op = .call ⟨.builtin .len, #[x], #[T]⟩) (hu : P.underlying T = some .string) (hx : Get σ x (Rp.str l)) : Spec P σ M o (.one (Rp.int .i64 l.length)) :=
  Spec.of_run fun a w C hs hm => by
    obtain ⟨hv, hl⟩ := hx a w C hs
    refine ⟨.int .i64 l.length, ?_, rfl, by simp only [InR]; omega⟩
    simp [execOp, h, resolve, invoke, builtin, Builtin.len_, run_underlying hu, hv, goInt]
    rfl

/-- An optional bound of a slice. -/
inductive Bnd (σ : Nat → Option Rp) : Option Operand → Nat → Nat → Prop
  | none {d : Nat} : Bnd σ Option.none d d
  | some {x : Operand} {k : IntKind} {i : Int} {d : Nat} (hx : Get σ x (Rp.int k i)) (hi : 0 ≤ i) : Bnd σ (Option.some x) d i.toNat

theorem run_bound {x : Operand} {k : IntKind} {i : Int} {a : Act} {w : World} {C : Nat → Prop} (hs : SlotsOk σ a w C) (hx : Get σ x (Rp.int k i)) (hi : 0 ≤ i) {y : Nat} (hy : i.toNat ≤ y) (code : BoundsCode) :
    (Instr.sliceBound (a.eval x) y code).run P w = .ok i.toNat w := by
  simp [Instr.sliceBound, get_int hx hs, asIntOf, hi, show i ≤ (y : Int) by omega]

theorem run_bounds {lo hi : Option Operand} {l r len cap : Nat} {b : Bool} {a : Act} {w : World} {C : Nat → Prop} (hs : SlotsOk σ a w C) (hlo : Bnd σ lo 0 l) (hhi : Bnd σ hi len r) (hlr : l ≤ r) (hr : r ≤ len) (hcap : len ≤ cap) :
    (Instr.sliceBounds b len cap (lo.map a.eval) (hi.map a.eval) none).run P w = .ok (l, r, cap) w := by
  unfold Instr.sliceBounds
  cases hlo with
  | none =>
    cases hhi with
    | none => simp
    | some hx hi => simp [run_bound hs hx hi (show _ ≤ cap by omega)]
  | some hx hi =>
    cases hhi with
    | none => simp [run_bound hs hx hi hlr]
    | some hx' hi' => simp [run_bound hs hx' hi' (show _ ≤ cap by omega), run_bound hs hx hi hlr]

theorem spec_slice {α : Type} {T x e n} {lo hi : Option Operand} {E : α → List Rp} {xs : List α} {l r : Nat} (h : o.op = .slice T x lo hi none) (hu : P.underlying T = some (.slice e)) (hn : ∀ w, (sizeOf e).run P w = .ok n w)
    (hE : ∀ x, (E x).length = n) (hx : Get σ x (Rp.slice E xs)) (hlo : Bnd σ lo 0 l) (hhi : Bnd σ hi xs.length r) (hb : l ≤ r ∧ r ≤ xs.length) : Spec P σ M o (.one (Rp.slice E ((xs.drop l).take (r - l)))) :=
  Spec.of_run fun a w C hs hm => by
    obtain ⟨hl, hv⟩ := hx a w C hs
    have hlen : ((xs.drop l).take (r - l)).length = r - l := by simp; omega
    rcases hv with ⟨hv, hnil⟩ | ⟨ad, cap, hv, hcap, hrow⟩
    · subst hnil
      have h0 : l = 0 ∧ r = 0 := by simp at hb; omega
      obtain ⟨rfl, rfl⟩ := h0
      refine ⟨.slice none 0 0, ?_, by simp, .inl ⟨rfl, by simp⟩⟩
      have := run_bounds (P := P) (b := true) (w := w) (cap := 0) hs hlo (by simpa using hhi) (Nat.le_refl 0) (Nat.le_refl 0) (Nat.le_refl 0)
      simp [execOp, h, Instr.sliceAt, run_underlying hu, hv, Instr.slice, this, hn]
    · have hb1 := run_bounds (P := P) (b := true) (w := w) (cap := cap) hs hlo hhi hb.1 hb.2 hcap
      refine ⟨.slice (some (if cap = l then ad else ad.add (l * n))) (r - l) (cap - l), ?_, by rw [hlen]; omega, .inr ⟨_, cap - l, by rw [hlen], by rw [hlen]; omega, ?_⟩⟩
      · simp [execOp, h, Instr.sliceAt, run_underlying hu, hv, Instr.slice, hb1, hn]
        split <;> rfl
      · rcases hrow with h0 | hrow
        · exact .inl (by rw [h0]; simp)
        refine .inr ?_
        have hsub := rowAt_sub (l * n) ((r - l) * n) (by rw [flatMap_len hE, ← Nat.add_mul]; exact Nat.mul_le_mul_right _ (by omega)) hrow
        rw [flatMap_drop hE, flatMap_take hE] at hsub
        split
        · rename_i hcl
          have h0 : r - l = 0 := by omega
          rw [h0] at hsub ⊢
          simp only [List.take_zero, List.flatMap_nil] at hsub ⊢
          obtain ⟨h1, h2, cs, T', fr, h3, h4⟩ := hrow
          exact ⟨h1, h2, cs, T', fr, h3, by simp [AllR, AllP]⟩
        · exact hsub

/-! Nil. -/
theorem eval_const {a : Act} {v : Value} : a.eval (.const v) = v := rfl
theorem equalIn_nil_right {w : World} {T e : TypeId} {a n c b m} (d : Nat) (hu : P.underlying T = some (.slice e)) (ha : a ≠ none) : (Op.equalIn (d + 1) T (.slice a n c) (.slice none b m)).run P w = .ok false w := by
  cases a with
  | none => exact absurd rfl ha
  | some a => simp only [Op.equalIn, Sem.run_bind, run_underlying hu, Result.andThen_ok, Sem.run_pure]
theorem equalIn_nil_nil {w : World} {T e : TypeId} {n c b m} (d : Nat) (hu : P.underlying T = some (.slice e)) : (Op.equalIn (d + 1) T (.slice none n c) (.slice none b m)).run P w = .ok true w := by
  simp only [Op.equalIn, Sem.run_bind, run_underlying hu, Result.andThen_ok, Sem.run_pure]; rfl
theorem eqGuard_slice {P : Program} {w : World} (op : BinOp) (t : TypeId) (x y : Operand) {a n c b m d} : (eqGuard op t x y (.slice a n c) (.slice b m d)).run P w = .ok () w := by
  unfold eqGuard; split <;> simp
def RA.nilTest {α : Type} (xs : List α) : RA := ⟨{b : Bool // b = true → xs = []}, fun b => Rp.bool b.1, fun _ => []⟩
theorem spec_eqlNil {α : Type} {T T' e x n c} {E : α → List Rp} {xs : List α} (h : o.op = .binOp .eql T x (.const (.slice none n c)) T') (hu : P.underlying T = some (.slice e)) (hx : Get σ x (Rp.slice E xs)) : Spec P σ M o (.nilTest xs) := by
  intro a w C K Q hs hm hk
  obtain ⟨hl, hv⟩ := hx a w C hs
  unfold Oper.wp
  rcases hv with ⟨hv, hnil⟩ | ⟨ad, cap, hv, _, hrow⟩
  · have : (execOp a.eval o).run P w = .ok (.value (.bool true)) w := by
      simp only [execOp, h, hv, eval_const, Sem.run_bind, eqGuard_slice, Result.andThen_ok, binOp, show ∀ (x y : Value), Op.equal T x y = Op.equalIn (9999 + 1) T x y from fun _ _ => rfl, equalIn_nil_nil _ hu, Sem.run_pure]
    rw [this]
    exact hk ⟨true, fun _ => hnil⟩ _ w C (Eff.refl _ _ _) hm.wf rfl MNew.nil
  · have : (execOp a.eval o).run P w = .ok (.value (.bool false)) w := by
      simp only [execOp, h, hv, eval_const, Sem.run_bind, eqGuard_slice, Result.andThen_ok, binOp, show ∀ (x y : Value), Op.equal T x y = Op.equalIn (9999 + 1) T x y from fun _ _ => rfl, equalIn_nil_right _ hu (a := some ad) (by simp), Sem.run_pure]
    rw [this]
    exact hk ⟨false, fun h => by cases h⟩ _ w C (Eff.refl _ _ _) hm.wf rfl MNew.nil

end
end Go.Sim
