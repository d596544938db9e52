/- More rules: publishing inside a row, slices put together, slices that the call owns cut and grown. -/
import Derived.Test.YtlbhpjigjehffaaDoorSimF
namespace Go.Sim

section
variable {P : Program} {B : Base} {n : Nat} {S : List (Nat × Rp)} {M : List MF} {Q : Exit → Act → World → Prop} {ops : Array Oper} {rest : List Oper} {o : Oper} {σ : Nat → Option Rp}

/-- An owned slice is published: its value is then a slice of published elements. -/
theorem St.pubV {α : Type} {a : Act} {w C} {v : Value} {T sz k : Nat} {E : α → List Rp} {xs : List α} (st : St B n S M a w C) (hk : M[k]? = some (MF.osl v T sz E xs)) (hE : ∀ x, (E x).length = sz) :
    ∃ C', St B n S (M.eraseIdx k) a w C' ∧ (Rp.slice E xs).p w C' v := by
  obtain ⟨cs, h1, h2, h3⟩ := osl_fact st.mem hk
  have hp := perm_eraseIdx M k _ hk
  have hm := st.mem.perm hp
  have hfe : feet (MF.osl v T sz E xs :: M.eraseIdx k) = v.ownBlock.toList ++ feet (M.eraseIdx k) := by simp [feet, MF.osl]
  let C' : Nat → Prop := fun b => C b ∨ v.ownBlock = some b
  have hpub : Pub w C w C' := fun b hb => ⟨.inl hb, rfl⟩
  have hvb : ∀ b, v.ownBlock = some b → b ∈ feet M := fun b hb => mem_feet.2 ⟨_, List.mem_of_getElem? hk, by simp [MF.osl, hb]⟩
  have hrest : ∀ b ∈ feet (M.eraseIdx k), v.ownBlock ≠ some b := fun b hb hv => by
    have := hm.nodup
    rw [hfe, List.nodup_append] at this
    exact this.2.2 b (by simp [hv]) b hb rfl
  refine ⟨C', ⟨st.size, st.defers, fun u R hu => R.mono hpub (st.slots u R hu), ⟨?_, ?_, ?_, ?_⟩, ⟨st.eff.size, st.eff.keep, ?_, st.eff.os, st.eff.tape, st.eff.output⟩, ?_⟩, (by omega), ?_⟩
  · exact fun G hG => G.loc hpub (fun _ _ => rfl) (st.mem.facts G (List.mem_of_mem_eraseIdx hG))
  · have := hm.nodup
    rw [hfe, List.nodup_append] at this
    exact this.2.1
  · intro b hb
    have h4 := hm.own b (by rw [hfe]; exact List.mem_append_right _ hb)
    exact ⟨h4.1, fun hc => hc.elim h4.2 (hrest b hb)⟩
  · intro b hb
    rcases hb with hb | hb
    · exact st.mem.wf b hb
    · exact (st.mem.own b (hvb b hb)).1
  · intro b hb hu
    refine ⟨fun hc => hc.elim (st.eff.cl b hb hu).1 (fun hv => ?_), fun hc => .inl ((st.eff.cl b hb hu).2 hc)⟩
    exact ((st.since b (hvb b hv)).elim hu (fun h => absurd hb (by omega))).elim
  · intro b hb
    obtain ⟨G, hG, hbG⟩ := mem_feet.1 hb
    exact st.since b (mem_feet.2 ⟨G, List.mem_of_mem_eraseIdx hG, hbG⟩)
  · rcases h1.2 with ⟨hv0, hn0⟩ | ⟨g, cap, cur, hv1, _, hg, hlc, _, hcs, htk⟩
    · exact .inl ⟨hv0, List.eq_nil_of_length_eq_zero hn0⟩
    · refine .inr ⟨⟨g, 0, none⟩, cap, hv1, hlc, .inr ⟨rfl, .inr (by rw [hv1]; rfl), cur, T, (0, 0), hg, ?_⟩⟩
      simp only [List.drop_zero]
      rw [flatMap_len hE, htk]
      exact h2.mono hpub

theorem feet_set {F F' : MF} (hf : F'.foot = F.foot) : ∀ (M : List MF) (k : Nat), M[k]? = some F → feet (M.set k F') = feet M
  | [], k, h => by simp at h
  | G :: M, 0, h => by
    simp at h; subst h; simp [feet, hf]
  | G :: M, k + 1, h => by
    have := feet_set hf M k (by simpa using h)
    simp only [List.set_cons_succ]
    simp only [feet, List.flatMap_cons] at this ⊢
    rw [this]

/-- One owned fact for another one about the same blocks. -/
theorem St.swap {a : Act} {w C} {F F' : MF} {k : Nat} (st : St B n S M a w C) (hk : M[k]? = some F) (hf : F'.foot = F.foot) (hF : F.p w C → F'.p w C) : St B n S (M.set k F') a w C := by
  have hfe := feet_set hf M k hk
  refine ⟨st.size, st.defers, st.slots, ⟨fun G hG => ?_, by rw [hfe]; exact st.mem.nodup, by rw [hfe]; exact st.mem.own, st.mem.wf⟩, st.eff, by rw [hfe]; exact st.since⟩
  rcases List.mem_or_eq_of_mem_set hG with hG | rfl
  · exact st.mem.facts G hG
  · exact hF (st.mem.facts F (List.mem_of_getElem? hk))

/-- A cell of a row is known better. -/
theorem row_better {w : World} {C : Nat → Prop} {r T m off : Nat} {Rs : List Rp} {R R' : Rp} (hR : Rs[off]? = some R) (hw : ∀ v, R.p w C v → R'.p w C v) (h : (MF.row r T m Rs).p w C) : (MF.row r T m (Rs.set off R')).p w C := by
  obtain ⟨cs, h1, h2, h3⟩ := h
  refine ⟨cs, h1, h2, ?_⟩
  simp only [List.length_set]
  obtain ⟨v, hv, hRv⟩ := h3.1.get off hR
  have := h3.1.set off (hw v hRv)
  refine ⟨?_, h3.2⟩
  have hset : ((cs.toList.take Rs.length).set off v) = cs.toList.take Rs.length := by
    apply List.ext_getElem?
    intro i
    rw [List.getElem?_set]
    split
    · rename_i hi; subst hi
      split
      · exact hv.symm
      · rename_i hge; rw [List.getElem?_eq_none (by omega)]
    · rfl
  rw [hset] at this
  exact this

theorem W.pubRow {α : Type} {c : Code} {v : Value} {T sz r T' m off : Nat} {E : α → List Rp} {xs : List α} {Rs : List Rp} (k j : Nat) (hk : M[k]? = some (MF.osl v T sz E xs)) (hj : (M.eraseIdx k)[j]? = some (MF.row r T' m Rs)) (hoff : Rs[off]? = some (Rp.val v)) (hE : ∀ x, (E x).length = sz)
    (h : W P B n S ((M.eraseIdx k).set j (MF.row r T' m (Rs.set off (Rp.slice E xs)))) c Q) : W P B n S M c Q := by
  intro a w C st
  obtain ⟨C', st', hv⟩ := st.pubV hk hE
  exact h a w C' (st'.swap hj rfl (row_better hoff fun u hu => by rw [show u = v from hu]; exact hv))
theorem L.pubRow {α : Type} {v : Value} {T sz r T' m off : Nat} {E : α → List Rp} {xs : List α} {Rs : List Rp} (k j : Nat) (hk : M[k]? = some (MF.osl v T sz E xs)) (hj : (M.eraseIdx k)[j]? = some (MF.row r T' m Rs)) (hoff : Rs[off]? = some (Rp.val v)) (hE : ∀ x, (E x).length = sz)
    (h : L P B n S ((M.eraseIdx k).set j (MF.row r T' m (Rs.set off (Rp.slice E xs)))) ops rest Q) : L P B n S M ops rest Q := by
  intro a w C st
  obtain ⟨C', st', hv⟩ := st.pubV hk hE
  exact h a w C' (st'.swap hj rfl (row_better hoff fun u hu => by rw [show u = v from hu]; exact hv))

theorem W.pubBox {α : Type} {c : Code} {v : Value} {T sz r T' off : Nat} {E : α → List Rp} {xs : List α} {Rs : List Rp} (k j : Nat) (hk : M[k]? = some (MF.osl v T sz E xs)) (hj : (M.eraseIdx k)[j]? = some (MF.box r T' Rs)) (hoff : Rs[off]? = some (Rp.val v)) (hE : ∀ x, (E x).length = sz)
    (h : W P B n S ((M.eraseIdx k).set j (MF.box r T' (Rs.set off (Rp.slice E xs)))) c Q) : W P B n S M c Q :=
  W.pubRow k j hk hj hoff hE (by unfold MF.box at h; rw [List.length_set] at h; exact h)
theorem L.pubBox {α : Type} {v : Value} {T sz r T' off : Nat} {E : α → List Rp} {xs : List α} {Rs : List Rp} (k j : Nat) (hk : M[k]? = some (MF.osl v T sz E xs)) (hj : (M.eraseIdx k)[j]? = some (MF.box r T' Rs)) (hoff : Rs[off]? = some (Rp.val v)) (hE : ∀ x, (E x).length = sz)
    (h : L P B n S ((M.eraseIdx k).set j (MF.box r T' (Rs.set off (Rp.slice E xs)))) ops rest Q) : L P B n S M ops rest Q :=
  L.pubRow k j hk hj hoff hE (by unfold MF.box at h; rw [List.length_set] at h; exact h)

/-- The value of an owned slice is of one cell. -/
theorem osl_one {α : Type} {v : Value} {T sz : Nat} {E : α → List Rp} {xs : List α} (w : World) (C : Nat → Prop) (h : (MF.osl v T sz E xs).p w C) : v.oneCell' = true := by
  obtain ⟨cs, h, _⟩ := h
  rcases h.2 with ⟨h, _⟩ | ⟨_, _, _, h, _⟩ <;> rw [h] <;> rfl
theorem L.factM {φ : Prop} {F : MF} (k : Nat) (hk : M[k]? = some F) (hφ : ∀ w C, F.p w C → φ) (h : φ → L P B n S M ops rest Q) : L P B n S M ops rest Q :=
  fun a w C st => h (hφ _ _ (st.mem.facts F (List.mem_of_getElem? hk))) a w C st

/-- A store into a variable. -/
theorem L.storeB {t : TypeId} {x y : Operand} {r off T k : Nat} {Rs : List Rp} {R : Rp} [ho : One R] (hg : o.guard = none) (hd : o.dst = none) (h : o.op = .store t x y) (hn : ∀ w, (sizeOf t).run P w = .ok 1 w)
    (hx : Get (look · S) x (Rp.ptr r off)) (hy : Get (look · S) y R) (hk : M[k]? = some (MF.box r T Rs)) (hoff : Nat.blt off Rs.length = true)
    (hL : L P B n S (M.set k (MF.box r T (Rs.set off R))) ops rest Q) : L P B n S M ops (o :: rest) Q :=
  L.store1 hg hd h hn hx hy hk hoff (by unfold MF.box at hL; rw [List.length_set] at hL; exact hL)
theorem L.storeC {t : TypeId} {x y : Operand} {r off T k sz : Nat} {Rs Rs' : List Rp} (hg : o.guard = none) (hd : o.dst = none) (h : o.op = .store t x y) (hn : ∀ w, (sizeOf t).run P w = .ok sz w)
    (hx : Get (look · S) x (Rp.ptr r off)) (hy : Get (look · S) y (Rp.agg Rs')) (hk : M[k]? = some (MF.box r T Rs)) (hsz : Rs'.length = sz) (hoff : Nat.ble (off + Rs'.length) Rs.length = true)
    (hL : L P B n S (M.set k (MF.box r T (splice Rs off Rs'))) ops rest Q) : L P B n S M ops (o :: rest) Q :=
  L.storeA hg hd h hn hx hy hk hsz hoff (by
    have hl : (splice Rs off Rs').length = Rs.length := by
      have : off + Rs'.length ≤ Rs.length := by simpa using hoff
      simp [splice]; omega
    unfold MF.box at hL; rw [hl] at hL; exact hL)

/-! A quotient of numbers that are not negative. -/
theorem spec_quoP {T T' : TypeId} {k : IntKind} {x y : Operand} {m d : Int} (h : o.op = .binOp .quo T x y T') (hx : Get σ x (Rp.int k m)) (hy : Get σ y (Rp.int k d)) (hm : 0 ≤ m) (hd : 0 < d) : Spec P σ M o (.one (Rp.int k (m / d))) :=
  Spec.of_run fun a w C hs _ => by
    have hin : InR k (m / d) := by
      have h1 := (hx a w C hs).2
      have h2 := Int.ediv_nonneg hm (Int.le_of_lt hd)
      have h3 := Int.ediv_le_self d hm
      cases k <;> simp only [InR] at h1 ⊢ <;> omega
    refine ⟨.int k (m / d), ?_, rfl, hin⟩
    have : d ≠ 0 := by omega
    simp [execOp, h, get_int hx hs, get_int hy hs, eqGuard_int, binOp, Op.intDiv, this, Int.tdiv_eq_ediv_of_nonneg hm, wrap_in hin]
theorem spec_remP {T T' : TypeId} {k : IntKind} {x y : Operand} {m d : Int} (h : o.op = .binOp .rem T x y T') (hx : Get σ x (Rp.int k m)) (hy : Get σ y (Rp.int k d)) (hm : 0 ≤ m) (hd : 0 < d) : Spec P σ M o (.one (Rp.int k (m % d))) := by
  have := spec_rem (P := P) (M := M) h hx hy (by omega)
  rw [Int.tmod_eq_emod_of_nonneg hm] at this
  exact this

/-! Slices put together. -/
theorem zero_row {z : Array Value} {sz : Nat} (hz : z.size = sz) : ∀ len, ((Array.range (len * sz)).map (z[· % z.size]!)).toList = (List.replicate len z.toList).flatten := by
  intro len
  apply List.ext_getElem?
  intro i
  have hfl : ∀ (m j : Nat), ((List.replicate m z.toList).flatten)[j]? = if j < m * sz then z[j % sz]? else none := by
    intro m
    induction m with
    | zero => intro j; simp
    | succ m ih =>
      intro j
      rw [List.replicate_succ, List.flatten_cons]
      rcases Nat.lt_or_ge j sz with h | h
      · rw [List.getElem?_append_left (by simp [hz]; exact h), if_pos (by rw [Nat.add_mul]; omega), Nat.mod_eq_of_lt h]; simp
      · rw [List.getElem?_append_right (by simp [hz]; exact h), ih]
        simp only [Array.length_toList, hz]
        have h1 : (j - sz) % sz = j % sz := by
          have : j = (j - sz) + sz := by omega
          conv => rhs; rw [this, Nat.add_mod_right]
        rw [h1]
        congr 1
        rw [Nat.add_mul]
        apply propext
        constructor <;> intro <;> omega
  rw [hfl]
  simp only [Array.toList_map, Array.toList_range, List.getElem?_map]
  split
  · rename_i h
    rw [List.getElem?_range h]
    have hsz : 0 < sz := by
      rcases Nat.eq_zero_or_pos sz with h0 | h0
      · rw [h0] at h; simp at h
      · exact h0
    have hm : i % sz < z.size := by rw [hz]; exact Nat.mod_lt _ hsz
    simp only [Option.map_some, hz]
    rw [getElem!_pos z (i % sz) hm, Array.getElem?_eq_getElem hm]
  · rename_i h
    rw [List.getElem?_eq_none (by simp; omega)]; rfl

theorem AllR.rep {w C Zs} {cs : List Value} (h : AllR Zs w C cs) : ∀ len, AllR (List.replicate len Zs).flatten w C (List.replicate len cs).flatten
  | 0 => ⟨trivial, by simp⟩
  | len + 1 => by
    rw [List.replicate_succ, List.replicate_succ, List.flatten_cons, List.flatten_cons]
    exact h.append (AllR.rep h len)

theorem spec_buildSliceN {α : Type} {T e sz bytes len : Nat} {E : α → List Rp} {xs : List α} {ps : Array (Nat × Operand)} {z : Value} {Zs Rs : List Rp} (h : o.op = .buildSlice T len ps) (hu : P.underlying T = some (.slice e)) (hT : TI P e sz bytes z)
    (hz : ∀ w C, AllR Zs w C z.cells.toList) (hb : len * sz ≤ 16777216 ∧ 0 < len * sz) (hzl : Zs.length = sz) (hps : Parts σ (fun i => some (i * sz, sz)) ps.toList (List.replicate len Zs).flatten Rs) (hR : Rs = xs.flatMap E) (hl : xs.length = len) : Spec P σ M o (.one (Rp.slice E xs)) :=
  Spec.newPub fun a w C hs hm => by
    have hzs : z.cells.size = sz := by rw [← Array.length_toList, (hz w C).1.length, hzl]
    have hrow := zero_row (z := z.cells) hzs len
    obtain ⟨cells', h1, h2⟩ := fill_parts hs hps ((Array.range (len * sz)).map (z.cells[· % z.cells.size]!)) (by rw [hrow]; exact (hz w C).rep len)
    have hsz0 : 0 < sz := by
      rcases Nat.eq_zero_or_pos sz with h0 | h0
      · rw [h0] at hb; simp at hb
      · exact h0
    have hln : len ≤ 16777216 := Nat.le_trans (Nat.le_mul_of_pos_right len hsz0) hb.1
    refine ⟨.slice (some ⟨w.heap.size, 0, none⟩) len len, .cells cells' e, ?_, fun C' hC' => ⟨by omega, .inr ⟨⟨w.heap.size, 0, none⟩, len, by rw [hl], by omega, .inr ⟨rfl, (hC' _).2 (.inr rfl), _, _, _, new_at _ _, ?_⟩⟩⟩⟩
    · have h0 : ¬ (len * sz > 2 ^ 24) := by omega
      have h0' : ¬ (len * sz = 0) := by omega
      simp only [execOp, h, Instr.buildSlice, Sem.run_bind, run_underlying hu, Result.andThen_ok, hT.size, h0, if_false, h0', hT.zero, Sem.run_pure]
      simp only [Array.toList_map] at h1 ⊢
      simp only [h1]
      simp [newRow]
    · simp only [List.drop_zero]
      rw [← hR]
      exact allR_take (h2.mono (pub_of_new hm.wf hC'))

theorem N.nilS {α : Type} (T sz : Nat) (E : α → List Rp) {e : Exit} (h : N B n S (MF.osl (.slice none 0 0) T sz E [] :: M) e Q) : N B n S M e Q := fun a w C st => h a w C st.nil

/-! nil and owned slices. -/
theorem spec_capV {T e : TypeId} {x : Operand} {ad len c} (h : o.op = .call ⟨.builtin .cap, #[x], #[T]⟩) (hu : P.underlying T = some (.slice e)) (hx : Get σ x (Rp.val (.slice ad len c))) (hc : inRB .i64 c = true) : Spec P σ M o (.one (Rp.int .i64 c)) :=
  Spec.of_run fun a w C hs hm => ⟨.int .i64 c, by simp [execOp, h, resolve, invoke, builtin, Builtin.cap_, run_underlying hu, show a.eval x = _ from hx a w C hs, goInt], rfl, inR_of hc⟩
theorem spec_lenV {T e : TypeId} {x : Operand} {ad c} {len : Nat} (h : o.op = .call ⟨.builtin .len, #[x], #[T]⟩) (hu : P.underlying T = some (.slice e)) (hx : Get σ x (Rp.val (.slice ad len c))) (hc : inRB .i64 len = true) : Spec P σ M o (.one (Rp.int .i64 len)) :=
  Spec.of_run fun a w C hs hm => ⟨.int .i64 len, by simp [execOp, h, resolve, invoke, builtin, Builtin.len_, run_underlying hu, show a.eval x = _ from hx a w C hs, goInt], rfl, inR_of hc⟩
/-- The length of an owned slice. -/
theorem spec_lenO {α : Type} {T e T' sz k : Nat} {x : Operand} {v : Value} {E : α → List Rp} {xs : List α} (h : o.op = .call ⟨.builtin .len, #[x], #[T]⟩) (hu : P.underlying T = some (.slice e)) (hx : Get σ x (Rp.val v)) (hk : M[k]? = some (MF.osl v T' sz E xs)) : Spec P σ M o (.one (Rp.int .i64 xs.length)) :=
  Spec.of_run fun a w C hs hm => by
    obtain ⟨cs, h1, _, h3⟩ := osl_fact hm hk
    refine ⟨.int .i64 xs.length, ?_, rfl, by simp only [InR]; omega⟩
    have hv : a.eval x = v := hx a w C hs
    rcases h1.2 with ⟨rfl, hn⟩ | ⟨g, cap, cur, rfl, _⟩
    · simp [execOp, h, resolve, invoke, builtin, Builtin.len_, run_underlying hu, hv, goInt, hn]
    · simp [execOp, h, resolve, invoke, builtin, Builtin.len_, run_underlying hu, hv, goInt]
theorem spec_sliceNil {T e sz : Nat} {x hi : Operand} {k : IntKind} (h : o.op = .slice T x none (some hi) none) (hu : P.underlying T = some (.slice e)) (hn : ∀ w, (sizeOf e).run P w = .ok sz w) (hx : Get σ x (Rp.val (.slice none 0 0))) (hh : Get σ hi (Rp.int k 0)) :
    Spec P σ M o (.one (Rp.val (.slice none 0 0))) :=
  Spec.of_run fun a w C hs hm => ⟨.slice none 0 0, by
    have hb := run_bound (P := P) (w := w) hs hh (Int.le_refl 0) (y := 0) (Nat.le_refl 0) .sliceAcap
    simp [execOp, h, Instr.sliceAt, run_underlying hu, show a.eval x = _ from hx a w C hs, Instr.slice, Instr.sliceBounds, hb, hn], rfl⟩

/-- 'append(nil, make([]T, m)...)'. -/
theorem L.appendZ {α : Type} {t e sz bytes d : Nat} {x y : Operand} {tt : TypeId} {kk : IntKind} {z : Value} {E : α → List Rp} {z₀ : α} {m : Int} (hg : o.guard = none) (hd : o.dst = some d) (hlt : Nat.blt d n = true)
    (h : o.op = .call ⟨.builtin .append, #[x, y], #[t, tt]⟩) (ht : P.underlying t = some (.slice e)) (htt : P.underlying tt = some (.int kk)) (hT : TI P e sz bytes z) (hz : ∀ w C, AllR (E z₀) w C z.cells.toList) (hsz : 0 < sz) (hE : ∀ x, (E x).length = sz)
    (hx : Get (look · S) x (Rp.val (.slice none 0 0))) (hy : Get (look · S) y (Rp.int .i64 m)) (hm : 0 < m) (hbytes : m.toNat * bytes ≤ 140737488355328) (hsmall : m ≤ 281474976710656)
    (hL : ∀ v, L P B n ((d, Rp.val v) :: S) (MF.osl v e sz E (List.replicate m.toNat z₀) :: M) ops rest Q) : L P B n S M ops (o :: rest) Q := by
  refine L.op (A := RA.own e sz E (List.replicate m.toNat z₀)) hd hlt (GSpec.plain hg ?_) hL
  intro a w C K Q hs hM hk
  obtain ⟨i, hi, hi1, hi2, hi3⟩ := hT.ex
  have hzs : z.cells.size = sz := by rw [← Array.length_toList, (hz w C).1.length, hE]
  have hmi := wrap_in (hy a w C hs).2
  have hvx : a.eval x = .slice none 0 0 := hx a w C hs
  have hmn : ¬ m < 0 := by omega
  have hmb : ¬ (m * (bytes : Int) > 2 ^ 48) := by
    have h1 : (m.toNat * bytes : Nat) = (m * (bytes : Int)) := by rw [Int.natCast_mul, Int.toNat_of_nonneg (by omega)]
    have : ((m.toNat * bytes : Nat) : Int) ≤ 140737488355328 := Int.ofNat_le.2 hbytes
    omega
  have hpos : ¬ (m.toNat * sz = 0) := by
    have := Nat.mul_pos (show 0 < m.toNat by omega) hsz; omega
  have h63' : ¬ (9223372036854775807 < max m 0) := by omega
  have hmb' : ¬ (281474976710656 < m * (bytes : Int)) := by omega
  have hm0 : ¬ (m ≤ 0) := by omega
  have hcap' : ¬ (281474976710656 < Builtin.nextslicecap m.toNat 0 * bytes) := by rw [nextslicecap_zero (by omega)]; omega
  have hrow := zero_row (z := z.cells) hzs
  have hzc : ∀ len, (Builtin.zeroCells z.cells len).toList = (List.replicate len z.cells.toList).flatten := by
    intro len; unfold Builtin.zeroCells; rw [hzs]; have := hrow len; rw [hzs] at this; exact this
  have hcapge : m.toNat ≤ grownCap w m.toNat 0 e := grownCap_ge w _ _ e
  have hcaple : grownCap w m.toNat 0 e ≤ maxLen := grownCap_le_maxLen w _ _ e (by simp only [maxLen]; omega)
  have hsz1 : ∀ len, (Builtin.zeroCells z.cells len).size = len * sz := by intro len; rw [size_zeroCells, hzs]
  have hrun : (execOp a.eval o).run P w = .ok (.value (.slice (some ⟨w.heap.size, 0, none⟩) m.toNat (grownCap w m.toNat 0 e))) (w.drew.alloc (.cells (Builtin.zeroCells z.cells m.toNat ++ Builtin.zeroCells z.cells (grownCap w m.toNat 0 e - m.toNat)) e)) := by
    simp only [execOp, h, resolve, Sem.run_bind, Sem.run_pure, Result.andThen_ok, invoke, builtin, Builtin.append_, List.map_toArray, List.map_cons, List.map_nil, hvx, get_int hy hs]
    simp [run_underlying ht, run_underlying htt, hT.size, asInt, asIntOf, hmi, hmn, typeInfo, hi, hi2, hpos, hT.zero, Builtin.firstCells, newRow, Question.forced]
    rw [if_neg hmb', if_neg hm0, if_neg h63', if_neg hcap']
    rfl
  unfold Oper.wp
  rw [hrun]
  refine hk _ _ (w.drew.alloc _) C ⟨by simp, fun b hb _ => heap_alloc_old w.drew _ hb, fun _ _ _ => Iff.rfl, rfl, rfl, rfl⟩ (fun b hb => by have := hM.wf b hb; simp; omega) rfl ⟨fun G hG => ?_, by simp [RA.own, feet, MF.osl, Value.ownBlock], fun b hb => ?_⟩
  · have : G = MF.osl (.slice (some ⟨w.heap.size, 0, none⟩) m.toNat (grownCap w m.toNat 0 e)) e sz E (List.replicate m.toNat z₀) := by simpa [RA.own] using hG
    subst this
    refine ⟨(List.replicate m.toNat z.cells.toList).flatten, ⟨?_, .inr ⟨w.heap.size, _, _, by simp, Nat.zero_le _, heap_alloc_new w.drew _, by simpa using hcapge, hcaple, ?_, ?_⟩⟩, ?_, by simp; omega⟩
    · rw [← hzc, Array.length_toList, hsz1]; simp
    · simp only [Array.size_append, hsz1, ← Nat.add_mul]; congr 1; omega
    · rw [Array.toList_append, List.take_append_of_le_length (by simp [hsz1]), List.take_of_length_le (by simp [hsz1]), hzc]
    · have h1 := ((hz (w.drew.alloc (.cells (Builtin.zeroCells z.cells m.toNat ++ Builtin.zeroCells z.cells (grownCap w m.toNat 0 e - m.toNat)) e)) C).rep m.toNat)
      rw [List.flatMap_replicate]
      exact h1
  · have : b = w.heap.size := by simpa [RA.own, feet, MF.osl, Value.ownBlock] using hb
    subst this
    exact ⟨Nat.le_refl _, by simp, fun hc => by have := hM.wf _ hc; omega⟩

/-- An owned slice cut at its end: 'v[:k]'. -/
theorem L.cutO {α : Type} {T e sz k d : Nat} {x hi : Operand} {kk : IntKind} {i : Int} {v : Value} {E : α → List Rp} {xs : List α} (hg : o.guard = none) (hd : o.dst = some d) (hlt : Nat.blt d n = true)
    (h : o.op = .slice T x none (some hi) none) (hu : P.underlying T = some (.slice e)) (hn : ∀ w, (sizeOf e).run P w = .ok sz w) (hE : ∀ x, (E x).length = sz) (hx : Get (look · S) x (Rp.val v)) (hh : Get (look · S) hi (Rp.int kk i)) (hi0 : 0 ≤ i) (hil : i ≤ xs.length)
    (hk : M[k]? = some (MF.osl v e sz E xs)) (hL : ∀ v', L P B n ((d, Rp.val v') :: S) (M.set k (MF.osl v' e sz E (xs.take i.toNat))) ops rest Q) : L P B n S M ops (o :: rest) Q := by
  intro a w C st
  refine wpList_plain hg fun K hK => ?_
  obtain ⟨cs, h1, h2, h3⟩ := osl_fact st.mem hk
  have hlt' : d < n := by simpa [Nat.blt_eq] using hlt
  have hv : a.eval x = v := hx a w C st.slots
  have hlen : (xs.take i.toNat).length = i.toNat := by simp; omega
  have hrest : ∀ v' : Value, v'.ownBlock = v.ownBlock → (MF.osl v' e sz E (xs.take i.toNat)).p w C → (execOp a.eval o).run P w = .ok (.value v') w → o.wp P a w K Q := by
    intro v' hob hp hr
    unfold Oper.wp
    rw [hr]
    have st' := (st.swap (F' := MF.osl v' e sz E (xs.take i.toNat)) hk (by simp [MF.osl, hob]) (fun _ => hp)).step (R := Rp.val v') (v := v') (F := []) (dst := some d) (fun d' hd' => by cases hd'; exact hlt') (Eff.refl _ _ _) st.mem.wf rfl MNew.nil
    rw [Oper.upon_value, hd]
    exact hK _ _ (hL v' _ _ C st')
  have hal : AllR ((xs.take i.toNat).flatMap E) w C (cs.take (i.toNat * sz)) := by
    have := h2.sub 0 (i.toNat * sz)
    simp only [List.drop_zero] at this
    rw [flatMap_take hE] at this
    exact this
  rcases h1.2 with ⟨rfl, hn0⟩ | ⟨g, cap, cur, rfl, hb, hgg, hlc, hcm, hcs, htk⟩
  · have hx0 : xs = [] := List.eq_nil_of_length_eq_zero hn0
    subst hx0
    have hi1 : i = 0 := by simp at hil; omega
    subst hi1
    refine hrest (.slice none 0 0) rfl ⟨[], World.ownsRow_nil w 0 e sz, by simp [AllR, AllP], by simp⟩ ?_
    have hb := run_bound (P := P) (w := w) st.slots hh (Int.le_refl 0) (y := 0) (Nat.le_refl 0) .sliceAcap
    simp [execOp, h, Instr.sliceAt, run_underlying hu, hv, Instr.slice, Instr.sliceBounds, hb, hn]
  · refine hrest (.slice (some ⟨g, 0, none⟩) i.toNat cap) rfl ⟨cs.take (i.toNat * sz), ⟨?_, .inr ⟨g, cap, cur, by rw [hlen], hb, hgg, by rw [hlen]; omega, hcm, hcs, ?_⟩⟩, hal, by rw [hlen]; omega⟩ ?_
    · rw [hlen, List.length_take, h1.1]
      exact Nat.min_eq_left (Nat.mul_le_mul_right _ (by omega))
    · rw [hlen, ← htk, List.take_take, Nat.min_eq_left (Nat.mul_le_mul_right _ (by omega))]
    · have hb := run_bound (P := P) (w := w) st.slots hh hi0 (y := cap) (by omega) .sliceAcap
      simp [execOp, h, Instr.sliceAt, run_underlying hu, hv, Instr.slice, Instr.sliceBounds, hb, hn, Addr.add]
end

theorem upto {p : Nat → Prop} {i : Nat} (h : ∀ j, j < i → p j) (hi : p i) (j : Nat) (hj : j < i + 1) : p j :=
  (Nat.lt_succ_iff_lt_or_eq.1 hj).elim (h j) fun e => e ▸ hi

/-! Lists by their elements. -/
theorem ext_getD {a b : List Int} (hl : a.length = b.length) (h : ∀ j : Nat, j < a.length → a.getD j default = b.getD j default) : a = b := by
  apply List.ext_getElem hl
  intro i h1 h2
  have := h i h1
  simpa [List.getD_eq_getElem?_getD, h1, h2] using this
theorem getD_mem {l : List Int} {i : Nat} (h : i < l.length) : l.getD i default ∈ l := by
  simp [List.getD_eq_getElem?_getD, h]
end Go.Sim
