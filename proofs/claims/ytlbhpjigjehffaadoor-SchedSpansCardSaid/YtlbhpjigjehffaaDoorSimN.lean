/- Elements of slices that the call owns, rows made by make, arrays in variables, values that may be taken first. -/
import Derived.Test.YtlbhpjigjehffaaDoorSimM
namespace Go.Sim

/-- A place in the row of an owned slice. -/
def Rp.ix (v : Value) (off : Nat) : Rp where
  p _ _ u := ∃ g len cap, v = .slice (some ⟨g, 0, none⟩) len cap ∧ u = .pointer (some ⟨g, off, none⟩)
  mono _ h := h
instance {v off} : Flat (Rp.ix v off) := ⟨fun _ _ _ _ _ h => h⟩

section
variable {P : Program} {B : Base} {n : Nat} {S : List (Nat × Rp)} {M : List MF} {Q : Exit → Act → World → Prop} {ops : Array Oper} {rest : List Oper} {o : Oper} {σ : Nat → Option Rp}

/-- The row of an owned slice that has an element. -/
theorem osl_row {α : Type} {v : Value} {T sz : Nat} {E : α → List Rp} {xs : List α} {w : World} {C : Nat → Prop} (h : (MF.osl v T sz E xs).p w C) (hne : xs ≠ []) :
    ∃ g cap cur, v = .slice (some ⟨g, 0, none⟩) xs.length cap ∧ w.heap[g]? = some (.cells cur T (0, 0)) ∧ xs.length ≤ cap ∧ cur.size = cap * sz ∧ cap ≤ maxLen ∧ AllR (xs.flatMap E) w C (cur.toList.take (xs.length * sz)) := by
  obtain ⟨cs, h1, h2, h3⟩ := h
  rcases h1.2 with ⟨_, hn0⟩ | ⟨g, cap, cur, hv1, _, hg, hlc, hcm, hcs, htk⟩
  · exact absurd (List.eq_nil_of_length_eq_zero hn0) hne
  · exact ⟨g, cap, cur, hv1, hg, hlc, hcs, hcm, by rw [htk]; exact h2⟩

theorem spec_indexAddrO {α : Type} {T e sz k : Nat} {xo io : Operand} {v : Value} {T' : TypeId} {E : α → List Rp} {xs : List α} {kk : IntKind} {i : Int} (h : o.op = .indexAddr T xo io) (hu : P.underlying T = some (.slice e)) (hn : ∀ w, (sizeOf e).run P w = .ok sz w)
    (hx : Get σ xo (Rp.val v)) (hi : Get σ io (Rp.int kk i)) (hk : M[k]? = some (MF.osl v T' sz E xs)) (hr : 0 ≤ i ∧ i < xs.length) : Spec P σ M o (.one (Rp.ix v (i.toNat * sz))) :=
  Spec.of_run fun a w C hs hm => by
    have hne : xs ≠ [] := fun e => by rw [e] at hr; simp at hr; omega
    obtain ⟨g, cap, cur, hv, _⟩ := osl_row (hm.facts _ (List.mem_of_getElem? hk)) hne
    have hvx : a.eval xo = v := hx a w C hs
    refine ⟨.pointer (some ⟨g, i.toNat * sz, none⟩), ?_, g, _, cap, hv, rfl⟩
    simp [execOp, h, hvx, hv, get_int hi hs, Instr.indexAt, asIntOf, run_underlying hu, hn, hr.1, hr.2, addr_add]
theorem spec_fieldAddrO {T x f off off'} {v : Value} {fs : Array Field} {fd : Field} {n : Nat} (h : o.op = .fieldAddr T x f) (hu : P.underlying T = some (.struct fs)) (hf : fs[f]? = some fd) (hn : ∀ w, (sizeOf fd.type).run P w = .ok (n + 1) w)
    (hx : Get σ x (Rp.ix v off)) (ho : off + fd.offset = off') : Spec P σ M o (.one (Rp.ix v off')) :=
  Spec.of_run fun a w C hs hm => by
    obtain ⟨g, len, cap, hv, hu'⟩ := hx a w C hs
    subst ho
    exact ⟨.pointer (some ⟨g, off + fd.offset, none⟩), by
      simp [execOp, h, hu', Instr.fieldAt, run_underlying hu, hf, Instr.sureAddr, fieldPlace, hn, addr_add], g, len, cap, hv, rfl⟩

theorem row_piece {α : Type} {E : α → List Rp} {sz : Nat} (hE : ∀ x, (E x).length = sz) {xs : List α} {i : Nat} {y : α} (hy : xs[i]? = some y) {w : World} {C : Nat → Prop} {cur : Array Value} (h : AllR (xs.flatMap E) w C (cur.toList.take (xs.length * sz))) :
    AllR (E y) w C ((cur.toList.drop (i * sz)).take sz) := by
  have h1 := h.sub (i * sz) sz
  rw [flatMap_one hE xs hy] at h1
  have hi : i < xs.length := (List.getElem?_eq_some_iff.1 hy).1
  have h2 : (i + 1) * sz ≤ xs.length * sz := Nat.mul_le_mul_right _ hi
  rw [Nat.add_mul, Nat.one_mul] at h2
  rw [List.drop_take, List.take_take, Nat.min_eq_left (by omega)] at h1
  exact h1

theorem spec_loadO1 {α : Type} {t : TypeId} {x : Operand} {v : Value} {off T sz k i j : Nat} {E : α → List Rp} {xs : List α} {y : α} {R : Rp} (h : o.op = .load t x) (ha : ∀ w, (isAgg t).run P w = .ok false w) (hE : ∀ x, (E x).length = sz)
    (hx : Get σ x (Rp.ix v off)) (hk : M[k]? = some (MF.osl v T sz E xs)) (hoff : off = i * sz + j) (hy : xs[i]? = some y) (hR : (E y)[j]? = some R) : Spec P σ M o (.one R) :=
  Spec.of_run fun a w C hs hm => by
    have hne : xs ≠ [] := fun e => by rw [e] at hy; simp at hy
    obtain ⟨g, cap, cur, hv, hg, hlc, hcs, _, hall⟩ := osl_row (hm.facts _ (List.mem_of_getElem? hk)) hne
    obtain ⟨g', len, cap', hv', hu'⟩ := hx a w C hs
    rw [hv] at hv'; cases hv'
    have h1 := row_piece hE hy hall
    obtain ⟨u, hu, hRu⟩ := h1.1.get j hR
    have hj : j < sz := by rw [← hE y]; exact (List.getElem?_eq_some_iff.1 hR).1
    have hu2 : cur[off]? = some u := by
      rw [List.getElem?_take, if_pos hj, List.getElem?_drop, Array.getElem?_toList] at hu
      rw [hoff]; exact hu
    exact ⟨u, by simp [execOp, h, hu', run_load_row hg hu2 (ha w)], hRu⟩
theorem spec_loadOA {α : Type} {t : TypeId} {x : Operand} {v : Value} {off T sz k i : Nat} {E : α → List Rp} {xs : List α} {y : α} (h : o.op = .load t x) (ha : ∀ w, (isAgg t).run P w = .ok true w) (hn : ∀ w, (sizeOf t).run P w = .ok sz w) (hE : ∀ x, (E x).length = sz)
    (hx : Get σ x (Rp.ix v off)) (hk : M[k]? = some (MF.osl v T sz E xs)) (hoff : off = i * sz) (hy : xs[i]? = some y) : Spec P σ M o (.one (Rp.agg (E y))) :=
  Spec.of_run fun a w C hs hm => by
    have hne : xs ≠ [] := fun e => by rw [e] at hy; simp at hy
    obtain ⟨g, cap, cur, hv, hg, hlc, hcs, _, hall⟩ := osl_row (hm.facts _ (List.mem_of_getElem? hk)) hne
    obtain ⟨g', len, cap', hv', hu'⟩ := hx a w C hs
    rw [hv] at hv'; cases hv'
    have h1 := row_piece hE hy hall
    have hi : i < xs.length := (List.getElem?_eq_some_iff.1 hy).1
    have h2 : (i + 1) * sz ≤ cap * sz := Nat.mul_le_mul_right _ (by omega)
    rw [Nat.add_mul, Nat.one_mul] at h2
    exact ⟨_, by simp [execOp, h, hu', run_loadA_row hg (off := off) (n := sz) (by rw [hcs]; omega) (ha w) (hn w)]; rfl, _, rfl, by rw [hoff]; exact h1⟩

theorem flatMap_set {α : Type} {E : α → List Rp} {sz : Nat} (hE : ∀ x, (E x).length = sz) : ∀ (xs : List α) (i : Nat) (y : α), i < xs.length → (xs.set i y).flatMap E = (xs.flatMap E).take (i * sz) ++ E y ++ (xs.flatMap E).drop (i * sz + sz)
  | [], _, _, h => by simp at h
  | x :: xs, 0, y, _ => by simp [hE]
  | x :: xs, i + 1, y, h => by
    have ih := flatMap_set hE xs i y (by simpa using h)
    have e1 : (i + 1) * sz = sz + i * sz := by rw [Nat.add_mul]; omega
    simp only [List.set_cons_succ, List.flatMap_cons, ih, e1]
    rw [List.take_append, List.drop_append, List.take_of_length_le (l := E x) (by rw [hE]; omega), List.drop_of_length_le (l := E x) (by rw [hE]; omega), hE]
    simp only [List.append_assoc, List.nil_append]
    congr 2
    · congr 1; omega
    · congr 2; omega

/-- The state behind a store into the row of an owned slice. -/
theorem L.storeO {α : Type} {t : TypeId} {x y : Operand} {v : Value} {off T sz k i j m : Nat} {E : α → List Rp} {xs : List α} {u u' : α} {Rs : List Rp} (hg : o.guard = none) (hd : o.dst = none) (h : o.op = .store t x y) (hn : ∀ w, (sizeOf t).run P w = .ok m w) (hE : ∀ x, (E x).length = sz)
    (hx : Get (look · S) x (Rp.ix v off)) (hy : GetC (look · S) y Rs) (hm : Rs.length = m) (hk : M[k]? = some (MF.osl v T sz E xs)) (hoff : off = i * sz + j) (hjm : j + m ≤ sz) (hu : xs[i]? = some u) (hu' : E u' = splice (E u) j Rs)
    (hL : L P B n S (M.set k (MF.osl v T sz E (xs.set i u'))) ops rest Q) : L P B n S M ops (o :: rest) Q := by
  intro a w C st
  refine wpList_plain hg fun K hK => ?_
  have hfact := st.mem.facts _ (List.mem_of_getElem? hk)
  have hne : xs ≠ [] := fun e => by rw [e] at hu; simp at hu
  obtain ⟨g, cap, cur, hv, hgg, hlc, hcs, hcm, hall⟩ := osl_row hfact hne
  obtain ⟨_, _, _, h3⟩ := hfact
  obtain ⟨g', len, cap', hv', hux⟩ := hx a w C st.slots
  rw [hv] at hv'; cases hv'
  have hvs := hy a w C st.slots
  have hvl : (a.eval y).cells.toList.length = m := by rw [hvs.1.length, hm]
  have hi : i < xs.length := (List.getElem?_eq_some_iff.1 hu).1
  have h2 : (i + 1) * sz ≤ xs.length * sz := Nat.mul_le_mul_right _ hi
  have h2c : xs.length * sz ≤ cap * sz := Nat.mul_le_mul_right _ hlc
  rw [Nat.add_mul, Nat.one_mul] at h2
  have hoffb : off + m ≤ xs.length * sz := by omega
  let vs := (a.eval y).cells.toList
  have hsz : (a.eval y).cells.size = m := by rw [← Array.length_toList]; exact hvl
  have hrun : (Instr.storeAt t (.pointer (some ⟨g, off, none⟩)) (a.eval y)).run P w = .ok () (w.setRow g (cur.toList.take off ++ vs ++ cur.toList.drop (off + vs.length)).toArray) := by
    have hh := run_storeCells_at P g off T vs 0 cur w hgg (by simp only [vs]; omega) hvs.2
    simp only [Nat.add_zero] at hh
    simp [Instr.storeAt, Instr.sureAddr, storeVar, hn, hsz, vs] at hh ⊢
    exact hh
  have hFM : ∀ b ∈ (MF.osl v T sz E xs).foot, b ∈ feet M := fun b hb => mem_feet.2 ⟨_, List.mem_of_getElem? hk, hb⟩
  have hfoot : (MF.osl v T sz E xs).foot = [g] := by simp [MF.osl, hv, Value.ownBlock]
  have hpub : Pub w C (w.setRow g (cur.toList.take off ++ vs ++ cur.toList.drop (off + vs.length)).toArray) C := setRow_eff.pub st.mem.wf (fun b hb => (st.mem.own b (hFM b (by rw [hfoot]; exact hb))).2)
  unfold Oper.wp
  rw [show (execOp a.eval o).run P w = .ok .skip (w.setRow g (cur.toList.take off ++ vs ++ cur.toList.drop (off + vs.length)).toArray) by
    simp [execOp, h, hux, hrun]]
  have hvl' : vs.length = m := hvl
  have st' := st.upd (R := Rp.val undef) (v := undef) (dst := none) (F' := MF.osl v T sz E (xs.set i u')) (by simp) hk (by rw [hfoot]; exact setRow_eff (cs := (cur.toList.take off ++ vs ++ cur.toList.drop (off + vs.length)).toArray)) (fun b hb => by have := st.mem.wf b hb; simpa using this) rfl
    (by
      have hlen : (xs.set i u').length = xs.length := by simp
      have hcl : cur.toList.length = cap * sz := by rw [Array.length_toList]; exact hcs
      refine ⟨(cur.toList.take off ++ vs ++ cur.toList.drop (off + vs.length)).take (xs.length * sz), ⟨?_, .inr ⟨g, cap, (cur.toList.take off ++ vs ++ cur.toList.drop (off + vs.length)).toArray, by rw [hv, hlen], Nat.zero_le _, ?_, by rw [hlen]; exact hlc, hcm, ?_, ?_⟩⟩, ?_, by rw [hlen]; exact h3⟩
      · rw [hlen]; simp only [List.length_take, List.length_append, List.length_drop, hcl, hvl']; omega
      · exact setRow_heap w g cur _ T _ hgg
      · simp only [List.size_toArray, List.length_append, List.length_take, List.length_drop, hcl, hvl']; omega
      · rw [hlen]
      · rw [flatMap_set hE xs i u' hi, hu']
        have h4 := (hall.mono hpub).splice (off := off) (hvs.mono hpub)
        have e1 : splice (xs.flatMap E) off Rs = (xs.flatMap E).take (i * sz) ++ splice (E u) j Rs ++ (xs.flatMap E).drop (i * sz + sz) := by
          have hp1 : xs.flatMap E = (xs.flatMap E).take (i * sz) ++ (E u ++ (xs.flatMap E).drop (i * sz + sz)) := by
            have hd : (xs.flatMap E).drop (i * sz) = E u ++ (xs.flatMap E).drop (i * sz + sz) := by
              have := flatMap_one hE xs hu
              rw [← this, ← List.drop_drop, List.take_append_drop]
            rw [← hd, List.take_append_drop]
          have hl1 : ((xs.flatMap E).take (i * sz)).length = i * sz := by rw [List.length_take, flatMap_len hE]; omega
          unfold splice
          conv => lhs; rw [hp1]
          rw [List.take_append, List.drop_append, hl1, hoff, List.take_of_length_le (by omega), List.drop_of_length_le (l := (xs.flatMap E).take (i * sz)) (by omega), List.take_append, List.drop_append, hE]
          have e2 : i * sz + j - i * sz = j := by omega
          have e3 : i * sz + j + Rs.length - i * sz = j + Rs.length := by omega
          rw [e2, e3, show j - sz = 0 by omega, show j + Rs.length - sz = 0 by omega]
          simp
        rw [e1] at h4
        have e2 : (cur.toList.take (xs.length * sz)).take off ++ vs ++ (cur.toList.take (xs.length * sz)).drop (off + vs.length) = (cur.toList.take off ++ vs ++ cur.toList.drop (off + vs.length)).take (xs.length * sz) := by
          rw [List.take_take, Nat.min_eq_left (by omega), List.drop_take, List.take_append, List.take_append, List.take_take, Nat.min_eq_right (by omega), List.take_of_length_le (l := vs) (by simp [hcl]; omega)]
          congr 1
          simp only [List.length_append, List.length_take, hcl]
          rw [Nat.min_eq_left (by omega)]
        rw [← e2]; exact h4) (by simp [MF.osl, hv, Value.ownBlock]) (fun b hb => .inl ⟨hb, (st.mem.own b (hFM b hb)).2⟩)
  rw [Oper.upon_skip, hd]
  exact hK _ _ (hL _ _ C st')
theorem L.storeO1 {α : Type} {t : TypeId} {x y : Operand} {v : Value} {off T sz k i j : Nat} {E : α → List Rp} {xs : List α} {u u' : α} {R : Rp} [One R] (hg : o.guard = none) (hd : o.dst = none) (h : o.op = .store t x y) (hn : ∀ w, (sizeOf t).run P w = .ok 1 w) (hE : ∀ x, (E x).length = sz)
    (hx : Get (look · S) x (Rp.ix v off)) (hy : Get (look · S) y R) (hk : M[k]? = some (MF.osl v T sz E xs)) (hoff : off = i * sz + j) (hjm : j < sz) (hu : xs[i]? = some u) (hu' : E u' = (E u).set j R)
    (hL : L P B n S (M.set k (MF.osl v T sz E (xs.set i u'))) ops rest Q) : L P B n S M ops (o :: rest) Q :=
  L.storeO hg hd h hn hE hx (GetC.one hy) rfl hk hoff (by omega) hu (by
    rw [hu']; unfold splice
    have hj : j < (E u).length := by rw [hE]; exact hjm
    rw [List.set_eq_take_append_cons_drop, if_pos hj]; simp) hL
theorem L.storeOA {α : Type} {t : TypeId} {x y : Operand} {v : Value} {off T sz k i : Nat} {E : α → List Rp} {xs : List α} {u' : α} (hg : o.guard = none) (hd : o.dst = none) (h : o.op = .store t x y) (hn : ∀ w, (sizeOf t).run P w = .ok sz w) (hE : ∀ x, (E x).length = sz)
    (hx : Get (look · S) x (Rp.ix v off)) (hy : Get (look · S) y (Rp.agg (E u'))) (hk : M[k]? = some (MF.osl v T sz E xs)) (hoff : off = i * sz) (hi : i < xs.length)
    (hL : L P B n S (M.set k (MF.osl v T sz E (xs.set i u'))) ops rest Q) : L P B n S M ops (o :: rest) Q :=
  L.storeO (j := 0) hg hd h hn hE hx (GetC.agg hy) (hE u') hk (by omega) (by omega) (List.getElem?_eq_getElem hi) (by unfold splice; simp [hE]) hL

/-! make. -/
theorem spec_makeSlice {α : Type} {T e sz bytes : Nat} {x y : Operand} {z : Value} {E : α → List Rp} {z₀ : α} {m : Int} (h : o.op = .makeSlice T x y) (hu : P.underlying T = some (.slice e)) (hT : TI P e sz bytes z) (hz : ∀ w C, AllR (E z₀) w C z.cells.toList) (hE : ∀ x, (E x).length = sz)
    (hx : Get σ x (Rp.int .i64 m)) (hy : Get σ y (Rp.int .i64 m)) (hm0 : 0 ≤ m) (hm1 : m.toNat * bytes ≤ 140737488355328) (hm2 : m ≤ 281474976710656) : Spec P σ M o (.own e sz E (List.replicate m.toNat z₀)) :=
  Spec.new (A := .own e sz E (List.replicate m.toNat z₀)) (fun r => .slice (some ⟨r, 0, none⟩) m.toNat m.toNat) fun a w C hs hm => by
    obtain ⟨i, hi, hi1, hi2, hi3⟩ := hT.ex
    have hzs : z.cells.size = sz := by rw [← Array.length_toList, (hz w C).1.length, hE]
    have hmi := wrap_in (hx a w C hs).2
    have hmn : ¬ m < 0 := by omega
    have hmb : ¬ (2 ^ 48 < (bytes : Int) * m) := by
      have h1 : (m.toNat * bytes : Nat) = (m * (bytes : Int)) := by rw [Int.natCast_mul, Int.toNat_of_nonneg (by omega)]
      have : ((m.toNat * bytes : Nat) : Int) ≤ 140737488355328 := Int.ofNat_le.2 hm1
      rw [Int.mul_comm]; omega
    have hrow := zero_row (z := z.cells) hzs m.toNat
    have hmb' : ¬ (281474976710656 < (bytes : Int) * m) := by omega
    refine ⟨.slice (some ⟨w.heap.size, 0, none⟩) m.toNat m.toNat, .cells ((Array.range (m.toNat * sz)).map (z.cells[· % z.cells.size]!)) e, ?_, rfl, rfl, fun G hG => ?_⟩
    · by_cases h0 : m.toNat * sz = 0
      · simp [execOp, h, Instr.makeSlice, run_underlying hu, get_int hx hs, get_int hy hs, asInt, asIntOf, hmi, typeInfo, hi, hi2, hT.size, hmn, hmb', askRoom, h0, newRow, show Array.range 0 = #[] from by decide]
      · simp [execOp, h, Instr.makeSlice, run_underlying hu, get_int hx hs, get_int hy hs, asInt, asIntOf, hmi, typeInfo, hi, hi2, hT.size, hmn, hmb', askRoom, h0, hT.zero, newRow]
    · have : G = MF.osl (.slice (some ⟨w.heap.size, 0, none⟩) m.toNat m.toNat) e sz E (List.replicate m.toNat z₀) := by simpa [RA.own] using hG
      subst this
      refine ⟨(List.replicate m.toNat z.cells.toList).flatten, ⟨?_, .inr ⟨w.heap.size, m.toNat, _, by simp, Nat.zero_le _, new_at _ _, by simp, by simp only [maxLen]; omega, by simp, ?_⟩⟩, ?_, by simp; omega⟩
      · simp [hzs]
      · rw [hrow, List.take_of_length_le (by simp [hzs])]
      · have h1 := ((hz (w.alloc (.cells ((Array.range (m.toNat * sz)).map (z.cells[· % z.cells.size]!)) e)) C).rep m.toNat)
        rw [List.flatMap_replicate]
        exact h1

/-! Arrays in variables. -/
theorem spec_indexAddrA {T e n r off sz off' : Nat} {xo io : Operand} {kk : IntKind} {i : Int} (h : o.op = .indexAddr T xo io) (hu : P.underlying T = some (.array n e)) (hn : ∀ w, (sizeOf e).run P w = .ok sz w)
    (hx : Get σ xo (Rp.ptr r off)) (hi : Get σ io (Rp.int kk i)) (hr : 0 ≤ i ∧ i < n) (ho : off + i.toNat * sz = off') : Spec P σ M o (.one (Rp.ptr r off')) :=
  Spec.of_run fun a w C hs hm => ⟨.pointer (some ⟨r, off', none⟩), by
    subst ho
    have hnt : ¬ ((n : Int) ≤ i) := by omega
    simp [execOp, h, show a.eval xo = _ from hx a w C hs, get_int hi hs, Instr.indexAt, asIntOf, run_underlying hu, hn, hr.1, hr.2, Instr.sureAddr, addr_add], rfl⟩
theorem spec_indexAddrAP {T e n sz : Nat} {xo io : Operand} {kk : IntKind} {i : Int} {Rs Rs' : List Rp} (h : o.op = .indexAddr T xo io) (hu : P.underlying T = some (.array n e)) (hn : ∀ w, (sizeOf e).run P w = .ok sz w)
    (hx : Get σ xo (Rp.at Rs)) (hi : Get σ io (Rp.int kk i)) (hr : 0 ≤ i ∧ i < n) (hl : n * sz ≤ Rs.length) (ho : (Rs.drop (i.toNat * sz)).take sz = Rs') : Spec P σ M o (.one (Rp.at Rs')) :=
  Spec.of_run fun a w C hs hm => by
    obtain ⟨ad, hv, hrow⟩ := hx a w C hs
    have h2 : (i.toNat + 1) * sz ≤ n * sz := Nat.mul_le_mul_right _ (by omega)
    rw [Nat.add_mul, Nat.one_mul] at h2
    refine ⟨.pointer (some (ad.add (i.toNat * sz))), by simp [execOp, h, hv, get_int hi hs, Instr.indexAt, asIntOf, run_underlying hu, hn, hr.1, hr.2, Instr.sureAddr], _, rfl, ?_⟩
    rw [← ho]; exact rowAt_sub _ _ (by omega) hrow
/-- A part of a row of like pieces. -/
theorem spec_loadXA {α : Type} {t : TypeId} {x : Operand} {r off T m k sz i : Nat} {E : α → List Rp} {Rs : List Rp} {xs : List α} {y : α} (h : o.op = .load t x) (ha : ∀ w, (isAgg t).run P w = .ok true w) (hn : ∀ w, (sizeOf t).run P w = .ok sz w) (hE : ∀ x, (E x).length = sz)
    (hx : Get σ x (Rp.ptr r off)) (hk : M[k]? = some (MF.row r T m Rs)) (hRs : Rs = xs.flatMap E) (hoff : off = i * sz) (hy : xs[i]? = some y) : Spec P σ M o (.one (Rp.agg (E y))) := by
  subst hRs hoff
  have hi : i < xs.length := (List.getElem?_eq_some_iff.1 hy).1
  have h2 : (i + 1) * sz ≤ xs.length * sz := Nat.mul_le_mul_right _ hi
  rw [Nat.add_mul, Nat.one_mul] at h2
  have := spec_loadA (P := P) (o := o) h ha hn hx hk (by rw [flatMap_len hE]; simpa using h2)
  rw [flatMap_one hE xs hy] at this
  exact this
theorem spec_loadX1 {α : Type} {t : TypeId} {x : Operand} {r off T m k sz i j : Nat} {E : α → List Rp} {Rs : List Rp} {xs : List α} {y : α} {R : Rp} (h : o.op = .load t x) (ha : ∀ w, (isAgg t).run P w = .ok false w) (hE : ∀ x, (E x).length = sz)
    (hx : Get σ x (Rp.ptr r off)) (hk : M[k]? = some (MF.row r T m Rs)) (hRs : Rs = xs.flatMap E) (hoff : off = i * sz + j) (hy : xs[i]? = some y) (hR : (E y)[j]? = some R) : Spec P σ M o (.one R) := by
  subst hRs hoff
  refine spec_load1 h ha hx hk ?_
  have hj : j < sz := by rw [← hE y]; exact (List.getElem?_eq_some_iff.1 hR).1
  have h1 := flatMap_one hE xs hy
  have h2 : ((List.flatMap E xs).drop (i * sz))[j]? = (E y)[j]? := by rw [← h1, List.getElem?_take, if_pos hj]
  rw [List.getElem?_drop] at h2
  rw [h2, hR]

/-! Three numbers. -/
theorem spec_min3 {k : IntKind} {x y z : Operand} {l m n : Int} {ts : Array TypeId} (h : o.op = .call ⟨.builtin .min, #[x, y, z], ts⟩) (hx : Get σ x (Rp.int k l)) (hy : Get σ y (Rp.int k m)) (hz : Get σ z (Rp.int k n)) : Spec P σ M o (.one (Rp.int k (min (min l m) n))) :=
  Spec.of_run fun a w C hs _ => ⟨.int k (min (min l m) n), by
    have e : ∀ a b : Int, (if b < a then b else a) = min a b := fun a b => by rw [Int.min_def]; split <;> split <;> omega
    simp only [execOp, h, resolve, Sem.run_bind, Sem.run_pure, Result.andThen_ok, invoke, builtin, Builtin.min_, List.map_toArray, List.map_cons, List.map_nil, get_int hx hs, get_int hy hs, get_int hz hs, List.foldlM_cons, List.foldlM_nil, Builtin.min2, e], rfl, by
      have h1 := (hx a w C hs).2; have h2 := (hy a w C hs).2; have h3 := (hz a w C hs).2
      rw [Int.min_def]; split
      · rw [Int.min_def]; split <;> assumption
      · exact h3⟩
end
end Go.Sim
