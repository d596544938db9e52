/- What is changed: stores, slices that the call owns, and calls, entries and returns of functions. -/
import Derived.Test.YtlbhpjigjehffaaDoorSimD
namespace Go.Sim

section
variable {P : Program} {B : Base} {n : Nat} {S : List (Nat × Rp)} {M : List MF} {Q : Exit → Act → World → Prop} {ops : Array Oper} {rest : List Oper} {o : Oper}

theorem set_perm {α : Type _} : ∀ (l : List α) (k : Nat) (x y : α), l[k]? = some x → (l.set k y).Perm (y :: l.eraseIdx k)
  | [], k, x, y, h => by simp at h
  | z :: l, 0, x, y, h => by simp
  | z :: l, k + 1, x, y, h => by
    simp only [List.getElem?_cons_succ] at h
    simp only [List.set_cons_succ, List.eraseIdx_cons_succ]
    exact ((set_perm l k x y h).cons z).trans (List.Perm.swap y z _)

/-- The memory behind a change of one owned fact. -/
theorem MOk.upd {F F' : MF} {R : List MF} {w C w' C'} (h : MOk (F :: R) w C) (he : Eff F.foot w C w' C') (hwf : ∀ b, C' b → b < w'.heap.size) (hF : F'.p w' C') (hnd : F'.foot.Nodup)
    (hf : ∀ b ∈ F'.foot, (b ∈ F.foot ∧ ¬ C' b) ∨ (w.heap.size ≤ b ∧ b < w'.heap.size ∧ ¬ C' b)) : MOk (F' :: R) w' C' := by
  have hfe : feet (F :: R) = F.foot ++ feet R := by simp [feet]
  have hfe' : feet (F' :: R) = F'.foot ++ feet R := by simp [feet]
  have hdis : ∀ b ∈ feet R, b ∉ F.foot := by
    intro b hb hbF
    have := h.nodup
    rw [hfe, List.nodup_append] at this
    exact this.2.2 b hbF b hb rfl
  have hpub : Pub w C w' C' := he.pub h.wf (fun b hb => (h.own b (by rw [hfe]; exact List.mem_append_left _ hb)).2)
  have hR : ∀ b ∈ feet R, b < w.heap.size ∧ ¬ C b := fun b hb => h.own b (by rw [hfe]; exact List.mem_append_right _ hb)
  refine ⟨fun G hG => ?_, ?_, fun b hb => ?_, hwf⟩
  · rcases List.mem_cons.1 hG with rfl | hG
    · exact hF
    · refine G.loc hpub (fun b hb => ?_) (h.facts G (List.mem_cons_of_mem _ hG))
      have hbR : b ∈ feet R := mem_feet.2 ⟨G, hG, hb⟩
      exact he.keep b (hR b hbR).1 (hdis b hbR)
  · rw [hfe', List.nodup_append]
    have := h.nodup
    rw [hfe, List.nodup_append] at this
    refine ⟨hnd, this.2.1, fun b hb c hc hbc => ?_⟩
    subst hbc
    rcases hf b hb with h1 | h1
    · exact hdis b hc h1.1
    · have := (hR b hc).1; omega
  · rw [hfe'] at hb
    rcases List.mem_append.1 hb with hb | hb
    · rcases hf b hb with h1 | h1
      · exact ⟨Nat.lt_of_lt_of_le (h.own b (by rw [hfe]; exact List.mem_append_left _ h1.1)).1 he.size, h1.2⟩
      · exact h1.2
    · exact ⟨Nat.lt_of_lt_of_le (hR b hb).1 he.size, fun hc => (hR b hb).2 ((he.cl b (hR b hb).1 (hdis b hb)).1 hc)⟩

/-- The state behind an operation that changes the k-th owned fact. -/
theorem St.upd {a : Act} {w C w' C'} {F F' : MF} {k : Nat} {R : Rp} {v : Value} {dst : Option Nat} (hd : ∀ d, dst = some d → d < n) (st : St B n S M a w C) (hk : M[k]? = some F)
    (he : Eff F.foot w C w' C') (hwf : ∀ b, C' b → b < w'.heap.size) (hv : R.p w' C' v) (hF : F'.p w' C') (hnd : F'.foot.Nodup)
    (hf : ∀ b ∈ F'.foot, (b ∈ F.foot ∧ ¬ C' b) ∨ (w.heap.size ≤ b ∧ b < w'.heap.size ∧ ¬ C' b)) : St B n (putS dst R S) (M.set k F') (a.put dst v) w' C' := by
  have hp := perm_eraseIdx M k F hk
  have hm := st.mem.perm hp
  have hFM : ∀ b ∈ F.foot, b ∈ feet M := fun b hb => mem_feet.2 ⟨F, List.mem_of_getElem? hk, hb⟩
  have hpub : Pub w C w' C' := he.pub st.mem.wf (fun b hb => (st.mem.own b (hFM b hb)).2)
  have hm' := (hm.upd he hwf hF hnd hf).perm (set_perm M k F F' hk).symm
  refine ⟨(put_size _ _ _).trans st.size, (put_defers' _ _ _).trans st.defers, slots_put st.size hd st.slots hpub hv, hm', st.eff.trans he (fun b hb => st.since b (hFM b hb)), fun b hb => ?_⟩
  rcases List.mem_append.1 (show b ∈ F'.foot ++ feet (M.eraseIdx k) by
    have := (feet_perm (set_perm M k F F' hk)).mem_iff.1 hb
    simpa [feet] using this) with hb | hb
  · rcases hf b hb with h1 | h1
    · exact st.since b (hFM b h1.1)
    · exact .inr (Nat.le_trans st.eff.size h1.1)
  · obtain ⟨G, hG, hbG⟩ := mem_feet.1 hb
    exact st.since b (mem_feet.2 ⟨G, List.mem_of_mem_eraseIdx hG, hbG⟩)

/-! Stores. -/
theorem setCell_eff {w : World} {C : Nat → Prop} {r off : Nat} {v : Value} : Eff [r] w C (w.setCell ⟨r, off, none⟩ v) C where
  size := by simp [World.setCell]
  keep b _ hu := by
    simp only [World.setCell, Array.getElem?_modify]
    rw [if_neg (by simp at hu; omega)]
  cl _ _ _ := Iff.rfl
  os := rfl
  tape := rfl
  output := rfl
theorem setCell_at {w : World} {r off : Nat} {v : Value} {cs : Array Value} {T fr} (h : w.heap[r]? = some (.cells cs T fr)) :
    (w.setCell ⟨r, off, none⟩ v).heap[r]? = some (.cells (cs.setIfInBounds off v) T fr) := by
  simp [World.setCell, Array.getElem?_modify, h]

theorem run_store_row {w : World} {r off : Nat} {cs : Array Value} {T : TypeId} {v : Value} {t : TypeId} (h : w.heap[r]? = some (.cells cs T (0, 0))) (hoff : off < cs.size) (hv : v.oneCell' = true) (hn : (sizeOf t).run P w = .ok 1 w) :
    (Instr.storeAt t (.pointer (some ⟨r, off, none⟩)) v).run P w = .ok () (w.setCell ⟨r, off, none⟩ v) := by
  have hc : w.cell? ⟨r, off, none⟩ = some cs[off] := by rw [cell_row h]; simp [hoff]
  have hf : w.frozen? ⟨r, off, none⟩ = false := by simp [World.frozen?, h]
  have := run_store P w ⟨r, off, none⟩ v .plain hv
  rw [hc] at this
  simp only [hf] at this
  simp [Instr.storeAt, Instr.sureAddr, storeVar, cells_one hv, hn, storeCells, addr_add, this]

/-- A row that is changed at one cell. -/
theorem row_set {w : World} {C : Nat → Prop} {r T m off : Nat} {Rs : List Rp} {R : Rp} {v : Value} {cs : Array Value} (h : w.heap[r]? = some (.cells cs T (0, 0))) (hm : cs.size = m) (hc : AllR Rs w C (cs.toList.take Rs.length))
    (hp : Pub w C (w.setCell ⟨r, off, none⟩ v) C) (hv : R.p (w.setCell ⟨r, off, none⟩ v) C v) (h1 : v.oneCell' = true) :
    (MF.row r T m (Rs.set off R)).p (w.setCell ⟨r, off, none⟩ v) C := by
  refine ⟨_, setCell_at h, by simpa using hm, ?_⟩
  simp only [List.length_set, Array.toList_setIfInBounds]
  rw [List.take_set]
  refine ⟨(hc.mono hp).1.set off hv, fun u hu => ?_⟩
  rcases List.mem_or_eq_of_mem_set hu with hu | rfl
  · exact hc.2 u hu
  · exact h1

theorem L.store1 {t : TypeId} {x y : Operand} {r off T m k : Nat} {Rs : List Rp} {R : Rp} [ho : One R] (hg : o.guard = none) (hd : o.dst = none) (h : o.op = .store t x y) (hn : ∀ w, (sizeOf t).run P w = .ok 1 w)
    (hx : Get (look · S) x (Rp.ptr r off)) (hy : Get (look · S) y R) (hk : M[k]? = some (MF.row r T m Rs)) (hoff : Nat.blt off Rs.length = true)
    (hL : L P B n S (M.set k (MF.row r T m (Rs.set off R))) ops rest Q) : L P B n S M ops (o :: rest) Q := by
  intro a w C st
  refine wpList_plain hg fun K hK => ?_
  obtain ⟨cs, h1, h2, h3⟩ := row_fact st.mem hk rfl
  have hoff' : off < Rs.length := by simpa [Nat.blt_eq] using hoff
  have hv := hy a w C st.slots
  have h1c := ho.one _ _ _ hv
  have hlen := h3.1.length
  simp only [List.length_take, Array.length_toList] at hlen
  have hpub : Pub w C (w.setCell ⟨r, off, none⟩ (a.eval y)) C := setCell_eff.pub st.mem.wf (fun b hb => (st.mem.own b (mem_feet.2 ⟨_, List.mem_of_getElem? hk, hb⟩)).2)
  have hrun := run_store_row (P := P) (t := t) h1 (off := off) (by omega) h1c (hn w)
  unfold Oper.wp
  rw [show (execOp a.eval o).run P w = .ok .skip (w.setCell ⟨r, off, none⟩ (a.eval y)) by
    simp [execOp, h, show a.eval x = _ from hx a w C st.slots, hrun]]
  have st' := st.upd (R := Rp.val undef) (v := undef) (dst := none) (F' := MF.row r T m (Rs.set off R)) (by simp) hk (setCell_eff (off := off) (v := a.eval y)) (fun b hb => by have := st.mem.wf b hb; simpa [World.setCell] using this) rfl
    (row_set h1 h2 h3 hpub (R.mono hpub hv) h1c) (by simp [MF.row]) (fun b hb => .inl ⟨hb, (st.mem.own b (mem_feet.2 ⟨_, List.mem_of_getElem? hk, hb⟩)).2⟩)
  rw [Oper.upon_skip, hd]
  exact hK _ _ (hL _ _ C st')

/-- Several cells at once. -/
theorem run_storeA_row {w : World} {r off : Nat} {cs : Array Value} {T : TypeId} {vs : List Value} {t : TypeId} (h : w.heap[r]? = some (.cells cs T (0, 0))) (hoff : off + vs.length ≤ cs.size) (hv : ∀ v ∈ vs, v.oneCell' = true) (hn : (sizeOf t).run P w = .ok vs.length w) :
    (Instr.storeAt t (.pointer (some ⟨r, off, none⟩)) (.agg vs.toArray)).run P w = .ok () (w.setRow r (cs.toList.take off ++ vs ++ cs.toList.drop (off + vs.length)).toArray) := by
  have := run_storeCells_at P r off T vs 0 cs w h (by simpa using hoff) hv
  simp only [Nat.add_zero] at this
  simp [Instr.storeAt, Instr.sureAddr, storeVar, Value.cells, hn, this]

theorem setRow_eff {w : World} {C : Nat → Prop} {r : Nat} {cs : Array Value} : Eff [r] w C (w.setRow r cs) C where
  size := by simp
  keep b _ hu := setRow_other w r b cs (by simp at hu; omega)
  cl _ _ _ := Iff.rfl
  os := rfl
  tape := rfl
  output := rfl

theorem L.storeA {t : TypeId} {x y : Operand} {r off T m k sz : Nat} {Rs Rs' : List Rp} (hg : o.guard = none) (hd : o.dst = none) (h : o.op = .store t x y) (hn : ∀ w, (sizeOf t).run P w = .ok sz w)
    (hx : Get (look · S) x (Rp.ptr r off)) (hy : Get (look · S) y (Rp.agg Rs')) (hk : M[k]? = some (MF.row r T m Rs)) (hsz : Rs'.length = sz) (hoff : Nat.ble (off + Rs'.length) Rs.length = true)
    (hL : L P B n S (M.set k (MF.row r T m (splice Rs off Rs'))) ops rest Q) : L P B n S M ops (o :: rest) Q := by
  subst hsz
  intro a w C st
  refine wpList_plain hg fun K hK => ?_
  obtain ⟨cs, h1, h2, h3⟩ := row_fact st.mem hk rfl
  have hoff' : off + Rs'.length ≤ Rs.length := by simpa using hoff
  obtain ⟨vs, hv, hvs⟩ := hy a w C st.slots
  have hlen := h3.1.length
  simp only [List.length_take, Array.length_toList] at hlen
  have hvl := hvs.1.length
  have hpub : Pub w C (w.setRow r (cs.toList.take off ++ vs ++ cs.toList.drop (off + vs.length)).toArray) C := setRow_eff.pub st.mem.wf (fun b hb => (st.mem.own b (mem_feet.2 ⟨_, List.mem_of_getElem? hk, hb⟩)).2)
  have hrun := run_storeA_row (P := P) (t := t) h1 (off := off) (vs := vs) (by omega) hvs.2 (by rw [hn w, hvl])
  unfold Oper.wp
  rw [show (execOp a.eval o).run P w = .ok .skip (w.setRow r (cs.toList.take off ++ vs ++ cs.toList.drop (off + vs.length)).toArray) by
    simp [execOp, h, show a.eval x = _ from hx a w C st.slots, hv, hrun]]
  have hsp : (splice Rs off Rs').length = Rs.length := by simp [splice]; omega
  have st' := st.upd (R := Rp.val undef) (v := undef) (dst := none) (F' := MF.row r T m (splice Rs off Rs')) (by simp) hk (setRow_eff (cs := (cs.toList.take off ++ vs ++ cs.toList.drop (off + vs.length)).toArray)) (fun b hb => by have := st.mem.wf b hb; simpa using this) rfl
    (by
      refine ⟨_, setRow_heap w r cs _ T _ h1, by simp; omega, ?_⟩
      have h4 := ((h3.mono hpub).splice (off := off) (hvs.mono hpub))
      rw [hsp]
      simp only
      have : (cs.toList.take off ++ vs ++ cs.toList.drop (off + vs.length)).take Rs.length = (cs.toList.take Rs.length).take off ++ vs ++ (cs.toList.take Rs.length).drop (off + vs.length) := by
        rw [List.take_take, Nat.min_eq_left (by omega), List.take_append, List.take_append, List.take_take, Nat.min_eq_right (by omega), List.take_of_length_le (l := vs) (by simp; omega), List.drop_take]
        congr 1
        simp only [List.length_append, List.length_take, Array.length_toList]
        rw [Nat.min_eq_left (by omega)]
      rw [this]; exact h4) (by simp [MF.row]) (fun b hb => .inl ⟨hb, (st.mem.own b (mem_feet.2 ⟨_, List.mem_of_getElem? hk, hb⟩)).2⟩)
  rw [Oper.upon_skip, hd]
  exact hK _ _ (hL _ _ C st')
/-- A whole variable. -/
theorem L.storeW {t : TypeId} {x y : Operand} {r T k sz : Nat} {Rs Rs' : List Rp} (hg : o.guard = none) (hd : o.dst = none) (h : o.op = .store t x y) (hn : ∀ w, (sizeOf t).run P w = .ok sz w)
    (hx : Get (look · S) x (Rp.ptr r 0)) (hy : Get (look · S) y (Rp.agg Rs')) (hk : M[k]? = some (MF.box r T Rs)) (hsz : Rs'.length = sz) (hl : Rs'.length = Rs.length)
    (hL : L P B n S (M.set k (MF.box r T Rs')) ops rest Q) : L P B n S M ops (o :: rest) Q := by
  refine L.storeA hg hd h hn hx hy hk hsz (by simp [hl]) ?_
  have : splice Rs 0 Rs' = Rs' := by unfold splice; simp; omega
  rw [this, ← hl]
  exact hL

/-! Slices that the call owns. -/
def MF.osl {α : Type} (v : Value) (T sz : Nat) (E : α → List Rp) (xs : List α) : MF where
  foot := v.ownBlock.toList
  p w C := ∃ cs : List Value, w.ownsRow 0 T sz v xs.length cs ∧ AllR (xs.flatMap E) w C cs ∧ xs.length ≤ 281474976710656
  loc hp hf := fun ⟨cs, h1, h2, h3⟩ => by
    refine ⟨cs, ⟨h1.1, ?_⟩, h2.mono hp, h3⟩
    rcases h1.2 with h | ⟨g, cap, cur, hv, hb, hg, hr⟩
    · exact .inl h
    · exact .inr ⟨g, cap, cur, hv, hb, (hf g (by rw [hv]; simp [Value.ownBlock])).trans hg, hr⟩

theorem osl_fact {α : Type} {v : Value} {T sz : Nat} {E : α → List Rp} {xs : List α} {w C} (hm : MOk M w C) {k : Nat} (hk : M[k]? = some (MF.osl v T sz E xs)) :
    ∃ cs : List Value, w.ownsRow 0 T sz v xs.length cs ∧ AllR (xs.flatMap E) w C cs ∧ xs.length ≤ 281474976710656 := hm.facts _ (List.mem_of_getElem? hk)

/-- An owned slice is published: whoever holds it holds a slice of published elements. -/
theorem St.pub {α : Type} {a : Act} {w C} {v : Value} {T sz k t : Nat} {E : α → List Rp} {xs : List α} (st : St B n S M a w C) (ht : look t S = some (Rp.val v)) (hk : M[k]? = some (MF.osl v T sz E xs)) (hE : ∀ x, (E x).length = sz) :
    ∃ C', St B n ((t, Rp.slice E xs) :: S) (M.eraseIdx k) a w C' := by
  obtain ⟨cs, h1, h2, h3⟩ := osl_fact st.mem hk
  have hp := perm_eraseIdx M k _ hk
  have hm := st.mem.perm hp
  have hfe : feet (MF.osl v T sz E xs :: M.eraseIdx k) = v.ownBlock.toList ++ feet (M.eraseIdx k) := by simp [feet, MF.osl]
  let C' : Nat → Prop := fun b => C b ∨ v.ownBlock = some b
  have hpub : Pub w C w C' := fun b hb => ⟨.inl hb, rfl⟩
  have hvb : ∀ b, v.ownBlock = some b → b ∈ feet M := fun b hb => mem_feet.2 ⟨_, List.mem_of_getElem? hk, by simp [MF.osl, hb]⟩
  have hrest : ∀ b ∈ feet (M.eraseIdx k), v.ownBlock ≠ some b := fun b hb hv => by
    have := hm.nodup
    rw [hfe, List.nodup_append] at this
    exact this.2.2 b (by simp [hv]) b hb rfl
  refine ⟨C', st.size, st.defers, ?_, ⟨?_, ?_, ?_, ?_⟩, ⟨st.eff.size, st.eff.keep, ?_, st.eff.os, st.eff.tape, st.eff.output⟩, ?_⟩
  · intro u R hu
    by_cases htu : t = u
    · subst htu
      simp only [look_cons_eq, Option.some.injEq] at hu
      subst hu
      have hv := st.slots t _ ht
      rw [show a.tmps.getD t undef = v from hv]
      refine ⟨by omega, ?_⟩
      rcases h1.2 with ⟨hv0, hn0⟩ | ⟨g, cap, cur, hv1, _, hg, hlc, _, hcs, htk⟩
      · exact .inl ⟨hv0, List.eq_nil_of_length_eq_zero hn0⟩
      · refine .inr ⟨⟨g, 0, none⟩, cap, hv1, hlc, .inr ⟨rfl, .inr (by rw [hv1]; rfl), cur, T, (0, 0), hg, ?_⟩⟩
        simp only [List.drop_zero]
        rw [flatMap_len hE, htk]
        exact h2.mono hpub
    · simp only at hu
      rw [look_cons_ne htu] at hu
      exact R.mono hpub (st.slots u R hu)
  · exact fun G hG => G.loc hpub (fun _ _ => rfl) (st.mem.facts G (List.mem_of_mem_eraseIdx hG))
  · have := hm.nodup
    rw [hfe, List.nodup_append] at this
    exact this.2.1
  · intro b hb
    have h4 := hm.own b (by rw [hfe]; exact List.mem_append_right _ hb)
    exact ⟨h4.1, fun hc => hc.elim h4.2 (hrest b hb)⟩
  · intro b hb
    rcases hb with hb | hb
    · exact st.mem.wf b hb
    · exact (st.mem.own b (hvb b hb)).1
  · intro b hb hu
    refine ⟨fun hc => hc.elim (st.eff.cl b hb hu).1 (fun hv => ?_), fun hc => .inl ((st.eff.cl b hb hu).2 hc)⟩
    exact ((st.since b (hvb b hv)).elim hu (fun h => absurd hb (by omega))).elim
  · intro b hb
    obtain ⟨G, hG, hbG⟩ := mem_feet.1 hb
    exact st.since b (mem_feet.2 ⟨G, List.mem_of_mem_eraseIdx hG, hbG⟩)

theorem N.pub {α : Type} {e : Exit} {v : Value} {T sz : Nat} {E : α → List Rp} {xs : List α} (t k : Nat) (ht : look t S = some (Rp.val v)) (hk : M[k]? = some (MF.osl v T sz E xs)) (hE : ∀ x, (E x).length = sz)
    (h : N B n ((t, Rp.slice E xs) :: S) (M.eraseIdx k) e Q) : N B n S M e Q :=
  fun a w _ st => let ⟨C', st'⟩ := st.pub ht hk hE; h a w C' st'
theorem W.pub {α : Type} {c : Code} {v : Value} {T sz : Nat} {E : α → List Rp} {xs : List α} (t k : Nat) (ht : look t S = some (Rp.val v)) (hk : M[k]? = some (MF.osl v T sz E xs)) (hE : ∀ x, (E x).length = sz)
    (h : W P B n ((t, Rp.slice E xs) :: S) (M.eraseIdx k) c Q) : W P B n S M c Q :=
  fun a w _ st => let ⟨C', st'⟩ := st.pub ht hk hE; h a w C' st'
theorem L.pub {α : Type} {v : Value} {T sz : Nat} {E : α → List Rp} {xs : List α} (t k : Nat) (ht : look t S = some (Rp.val v)) (hk : M[k]? = some (MF.osl v T sz E xs)) (hE : ∀ x, (E x).length = sz)
    (h : L P B n ((t, Rp.slice E xs) :: S) (M.eraseIdx k) ops rest Q) : L P B n S M ops rest Q :=
  fun a w _ st => let ⟨C', st'⟩ := st.pub ht hk hE; h a w C' st'

/-- A nil slice is the call's own. -/
theorem St.nil {α : Type} {a : Act} {w C} {T sz : Nat} {E : α → List Rp} (st : St B n S M a w C) : St B n S (MF.osl (.slice none 0 0) T sz E [] :: M) a w C := by
  have hfe : feet (MF.osl (.slice none 0 0) T sz E [] :: M) = feet M := by simp [feet, MF.osl, Value.ownBlock]
  refine ⟨st.size, st.defers, st.slots, ⟨fun G hG => ?_, by rw [hfe]; exact st.mem.nodup, by rw [hfe]; exact st.mem.own, st.mem.wf⟩, st.eff, by rw [hfe]; exact st.since⟩
  rcases List.mem_cons.1 hG with rfl | hG
  · exact ⟨[], World.ownsRow_nil w 0 T sz, by simp [AllR, AllP], by simp⟩
  · exact st.mem.facts G hG
theorem W.nil {α : Type} (T sz : Nat) (E : α → List Rp) {c : Code} (h : W P B n S (MF.osl (.slice none 0 0) T sz E [] :: M) c Q) : W P B n S M c Q := fun a w C st => h a w C st.nil
theorem L.nilS {α : Type} (T sz : Nat) (E : α → List Rp) (h : L P B n S (MF.osl (.slice none 0 0) T sz E [] :: M) ops rest Q) : L P B n S M ops rest Q := fun a w C st => h a w C st.nil

/-! append to an owned slice. -/
theorem osl_grown {α : Type} {v' : Value} {T sz : Nat} {E : α → List Rp} {zs : List α} {w' : World} {C : Nat → Prop} {cs : List Value} (h : w'.ownsRow 0 T sz v' zs.length cs) (hc : AllR (zs.flatMap E) w' C cs) (hl : zs.length ≤ 281474976710656) : (MF.osl v' T sz E zs).p w' C := ⟨cs, h, hc, hl⟩

theorem run_append_osl {t ty e : TypeId} {size bytes : Nat} {z : Value} {w : World} (ht : P.underlying t = some (.slice e)) (hT : TI P e size bytes z) (hzs : z.cells.size = size) (hsz : 0 < size)
    {v : Value} {len : Nat} {xs : List Value} (hown : w.ownsRow 0 e size v len xs) {a : Addr} {m c : Nat} {news : List Value} (hl : news.length = m * size) (hnews : ∀ j u, news[j]? = some u → w.cell? (a.add j) = some u) (h1 : ∀ u ∈ news, u.oneCell' = true)
    (hbytes : (len + m) * bytes ≤ 140737488355328) (hsmall : len + m ≤ 281474976710656) :
    ∃ v' w', (Builtin.append_ #[t, t] ty #[v, .slice (some a) m c]).run P w = .ok v' w' ∧ w'.ownsRow 0 e size v' (len + m) (xs ++ news) ∧ w.grownBy w' v.ownBlock ∧ (v'.ownBlock = v.ownBlock ∨ v'.ownBlock = some w.heap.size) := by
  obtain ⟨i, hi, rfl, rfl, hz⟩ := hT.ex
  have h63 : len + m ≤ maxLen := by simp only [maxLen]; omega
  have hlen : (xs ++ news).length = (len + m) * i.size := by rw [List.length_append, hown.1, hl, Nat.add_mul]
  have grown : ∀ (old : Nat), old < len + m → ∀ (row : Option Nat),
      (w.drew.alloc (.cells (xs.toArray ++ news.toArray ++ Builtin.zeroCells z.cells (grownCap w (len + m) old e - (len + m))) e)).ownsRow 0 e i.size
        (.slice (some ⟨w.heap.size, 0, none⟩) (len + m) (grownCap w (len + m) old e)) (len + m) (xs ++ news) ∧
      w.grownBy (w.drew.alloc (.cells (xs.toArray ++ news.toArray ++ Builtin.zeroCells z.cells (grownCap w (len + m) old e - (len + m))) e)) row := by
    intro old ho row
    have hge := grownCap_ge w (len + m) old e
    have hcm : grownCap w (len + m) old e ≤ maxLen := grownCap_le_maxLen w (len + m) old e h63
    refine ⟨⟨hlen, .inr ⟨w.heap.size, _, _, rfl, Nat.zero_le _, heap_alloc_new w.drew _, hge, hcm, ?_, ?_⟩⟩, ⟨rfl, rfl, rfl, by simp, fun k hk _ => heap_alloc_old w.drew _ hk⟩⟩
    · simp only [Array.size_append, List.size_toArray, size_zeroCells, hzs, hown.1, hl, ← Nat.add_mul]
      congr 1
      omega
    · simp only [Array.toList_append, List.append_assoc]
      rw [← List.append_assoc, ← hlen]
      exact List.take_left
  rcases hown.2 with ⟨rfl, rfl⟩ | ⟨g, cap, cur, rfl, hbg, hg, hnc, hcm, hcs, htake⟩
  · have hx : xs = [] := List.eq_nil_of_length_eq_zero (by simpa using hown.1)
    subst hx
    by_cases hm : m = 0
    · subst hm
      have hn : news = [] := List.eq_nil_of_length_eq_zero (by simpa using hl)
      subst hn
      refine ⟨.slice none 0 0, w, ?_, World.ownsRow_nil w 0 e i.size, ⟨rfl, rfl, rfl, Nat.le_refl _, fun _ _ _ => rfl⟩, .inl rfl⟩
      simp [Builtin.append_, run_underlying ht, sizeOf, typeInfo, hi, Builtin.lenOf, Builtin.firstCells, loadCells, loadCellsFrom]
    · have hr := run_append_nil (P := P) w t ty e i z ht hi hz a m c news hl hnews (by omega) (by omega) (by have hb := hbytes; simp only [Nat.zero_add] at hb; omega)
      have hgr := grown 0 (by omega) (Value.ownBlock (.slice none 0 0))
      simp only [Nat.zero_add, List.nil_append, Array.empty_append] at hgr ⊢
      exact ⟨_, _, hr, hgr.1, hgr.2, .inr rfl⟩
  · by_cases hroom : len + m ≤ cap
    · have hfit : len * i.size + news.length ≤ cur.size := by rw [hl, hcs, ← Nat.add_mul]; exact Nat.mul_le_mul_right _ hroom
      have hr := run_append_room (P := P) w t ty e i ht hi g len cap cur hg a m c news hl hnews h1 hroom hfit
      refine ⟨_, _, hr, ⟨hlen, .inr ⟨g, cap, _, rfl, hbg, setRow_heap w g cur _ e _ hg, hroom, hcm, ?_, ?_⟩⟩, ⟨rfl, rfl, rfl, by simp, fun k _ hk => setRow_other w g k _ (fun e => hk (by simp [Value.ownBlock, e]))⟩, .inl rfl⟩
      · simp only [List.size_toArray, List.length_append, List.length_take, List.length_drop, Array.length_toList]
        omega
      · rw [htake, ← hlen]
        exact List.take_left
    · have holds : ∀ j u, xs[j]? = some u → w.cell? ((⟨g, 0, none⟩ : Addr).add j) = some u := hown.cells (g := g) rfl
      have hr := run_append_grow (P := P) w t ty e i z ht hi hz ⟨g, 0, none⟩ len cap xs hown.1 holds a m c news hl hnews (by omega) (by omega) (growslice_fits (by omega) hbytes)
      have hgr := grown cap (by omega) (Value.ownBlock (.slice (some ⟨g, 0, none⟩) len cap))
      exact ⟨_, _, hr, hgr.1, hgr.2, .inr rfl⟩

theorem eff_of_grown {w w' : World} {C : Nat → Prop} {v : Value} (h : w.grownBy w' v.ownBlock) : Eff v.ownBlock.toList w C w' C where
  size := h.size
  keep b hb hu := h.block b hb (fun e => hu (by rw [← e]; simp))
  cl _ _ _ := Iff.rfl
  os := h.os
  tape := h.tape
  output := h.output

theorem run_append_none {t ty e : TypeId} {size bytes : Nat} {z : Value} {w : World} (ht : P.underlying t = some (.slice e)) (hT : TI P e size bytes z) {v : Value} {len : Nat} {xs : List Value} (hown : w.ownsRow 0 e size v len xs) :
    (Builtin.append_ #[t, t] ty #[v, .slice none 0 0]).run P w = .ok v w := by
  obtain ⟨i, hi, rfl, rfl, hz⟩ := hT.ex
  exact run_append_owned_none (P := P) (w := w) 0 t ty e i i.size ht hi v len xs hown

theorem L.append {α : Type} {t e : TypeId} {x y : Operand} {size bytes k d : Nat} {z v : Value} {E : α → List Rp} {xs ys : List α} (hg : o.guard = none) (hd : o.dst = some d) (hlt : Nat.blt d n = true)
    (h : o.op = .call ⟨.builtin .append, #[x, y], #[t, t]⟩) (ht : P.underlying t = some (.slice e)) (hT : TI P e size bytes z) (hzs : z.cells.size = size) (hsz : 0 < size) (hE : ∀ x, (E x).length = size)
    (hx : Get (look · S) x (Rp.val v)) (hy : Get (look · S) y (Rp.slice E ys)) (hk : M[k]? = some (MF.osl v e size E xs)) (hbytes : (xs.length + ys.length) * bytes ≤ 140737488355328) (hsmall : xs.length + ys.length ≤ 281474976710656)
    (hL : ∀ v', L P B n ((d, Rp.val v') :: S) (M.set k (MF.osl v' e size E (xs ++ ys))) ops rest Q) : L P B n S M ops (o :: rest) Q := by
  intro a w C st
  refine wpList_plain hg fun K hK => ?_
  obtain ⟨cs, h1, h2, h3⟩ := osl_fact st.mem hk
  have hlt' : d < n := by simpa [Nat.blt_eq] using hlt
  have hvx : a.eval x = v := hx a w C st.slots
  obtain ⟨hyl, hy'⟩ := hy a w C st.slots
  have hown : ∀ b ∈ v.ownBlock.toList, b ∈ feet M := fun b hb => mem_feet.2 ⟨_, List.mem_of_getElem? hk, hb⟩
  unfold Oper.wp
  rcases hy' with ⟨hyn, hynil⟩ | ⟨ad, cap, hyv, hcap, hrs⟩
  · have hr := run_append_none (P := P) (ty := o.type) ht hT h1
    rw [show (execOp a.eval o).run P w = .ok (.value v) w by simp [execOp, h, resolve, invoke, builtin, hvx, hyn, hr]]
    have st' := st.step (R := Rp.val v) (v := v) (F := []) (dst := some d) (fun d' hd' => by cases hd'; exact hlt') (Eff.refl _ _ _) st.mem.wf rfl MNew.nil
    rw [Oper.upon_value, hd]
    refine hK _ _ (hL v _ _ C ?_)
    rw [hynil, List.append_nil]
    have : M.set k (MF.osl v e size E xs) = M := by
      apply List.ext_getElem?
      intro j
      rw [List.getElem?_set]
      split
      · rename_i hkj; subst hkj; split
        · exact hk.symm
        · rename_i hge; rw [List.getElem?_eq_none (by omega)]
      · rfl
    rw [this]; exact st'
  · have hkey : ∃ news : List Value, news.length = ys.length * size ∧ (∀ j u, news[j]? = some u → w.cell? (ad.add j) = some u) ∧ AllR (ys.flatMap E) w C news := by
      rcases hrs with h0 | ⟨hsp, hC, cs', T', fr, hh, hrow⟩
      · exact ⟨[], by simp [h0], fun j u hj => by simp at hj, by simp [h0, AllR, AllP]⟩
      · have had : ad = ⟨ad.block, ad.off, none⟩ := by cases ad; simp_all
        refine ⟨_, hrow.1.length.trans (flatMap_len hE ys), fun j u hj => ?_, hrow⟩
        rw [had, addr_add, cell_row hh]
        rw [List.getElem?_take] at hj
        split at hj
        · simpa using hj
        · cases hj
    obtain ⟨news, hlen, hcell, hrow⟩ := hkey
    obtain ⟨v', w', hr, ho, hgr, hb⟩ := run_append_osl (P := P) (ty := o.type) (a := ad) (c := cap) ht hT hzs hsz h1 (news := news) hlen hcell hrow.2 hbytes hsmall
    rw [show (execOp a.eval o).run P w = .ok (.value v') w' by simp [execOp, h, resolve, invoke, builtin, hvx, hyv, hr]]
    have he := eff_of_grown (C := C) hgr
    have hpub : Pub w C w' C := he.pub st.mem.wf (fun b hb => (st.mem.own b (hown b hb)).2)
    have st' := st.upd (R := Rp.val v') (v := v') (dst := some d) (F' := MF.osl v' e size E (xs ++ ys)) (fun d' hd' => by cases hd'; exact hlt') hk he (fun b hb => Nat.lt_of_lt_of_le (st.mem.wf b hb) hgr.size) rfl
      ⟨_, by rw [List.length_append]; exact ho, by rw [List.flatMap_append]; exact (h2.mono hpub).append (hrow.mono hpub), by simpa using hsmall⟩ (by simp only [MF.osl]; cases v'.ownBlock <;> simp) (fun b hbf => by
        have hbf' : v'.ownBlock = some b := by simpa [MF.osl] using hbf
        rcases hb with hb | hb
        · have : b ∈ v.ownBlock.toList := by rw [← hb, hbf']; simp
          exact .inl ⟨this, (st.mem.own b (hown b this)).2⟩
        · have : b = w.heap.size := by rw [hb] at hbf'; simpa using hbf'.symm
          subst this
          refine .inr ⟨Nat.le_refl _, ?_, fun hc => ?_⟩
          · exact (ho.lt _ hbf').2
          · have := st.mem.wf _ hc; omega)
    rw [Oper.upon_value, hd]
    exact hK _ _ (hL v' _ _ C st')

/-! Calls. -/
/-- A contract: arguments by A, owned memory by M (taken over), what is yielded by X. -/
def PostC (X : RA) (U : List Nat) (w : World) (C : Nat → Prop) (e : Ending) (w' : World) : Prop :=
  ∃ i v C', e = .returned v ∧ Eff U w C w' C' ∧ (X.R i).p w' C' v ∧ MOk (X.F i) w' C' ∧ ∀ b ∈ feet (X.F i), b ∈ U ∨ w.heap.size ≤ b
def CallT (P : Program) (f : FuncId) (A : List Rp) (M : List MF) (X : RA) : Prop :=
  ∀ w C (args : Array Value), AllP A w C args.toList → MOk M w C → Calls P f args w (PostC X (feet M) w C)

def argS : Nat → List Rp → List (Nat × Rp)
  | _, [] => []
  | k, R :: Rs => (k, R) :: argS (k + 1) Rs
theorem argS_look {w : World} {C : Nat → Prop} {t : Nat} {R : Rp} : ∀ {A : List Rp} {vs : List Value} (k : Nat), AllP A w C vs → look t (argS k A) = some R → ∃ v, k ≤ t ∧ vs[t - k]? = some v ∧ R.p w C v
  | [], _, k, _, h => by simp [argS, look] at h
  | _ :: _, [], _, h, _ => h.elim
  | A :: As, v :: vs, k, hA, h => by
    simp only [argS] at h
    by_cases hkt : k = t
    · subst hkt
      simp only [look_cons_eq, Option.some.injEq] at h
      subst h
      exact ⟨v, Nat.le_refl _, by simp, hA.1⟩
    · rw [look_cons_ne hkt] at h
      obtain ⟨u, h1, h2, h3⟩ := argS_look (k + 1) hA.2 h
      refine ⟨u, by omega, ?_, h3⟩
      rw [show t - k = (t - (k + 1)) + 1 by omega]; simpa using h2

theorem W.enter {f : FuncId} {fn : Func} {c : Code} {A : List Rp} {X : RA} (hf : P.funcs[f]? = some fn) (hb : fn.body = some c) (hn : fn.ntmps = n) (hl : Nat.ble A.length n = true)
    (h : ∀ w C, W P ⟨w, C, feet M⟩ n (argS 0 A) M c (bodyPost P fn (PostC X (feet M) w C))) : CallT P f A M X := by
  intro w C args hA hM
  have hlen := hA.length
  have hl' : A.length ≤ n := by simpa using hl
  have hsz : args.size = A.length := by rw [← Array.length_toList]; exact hlen
  refine calls_of_wp hf hb ?_
  refine h w C _ w C ⟨?_, rfl, fun t R ht => ?_, hM, Eff.refl _ _ _, fun b hb => .inl hb⟩
  · simp only [Array.size_append, Array.size_replicate, hn]; omega
  · obtain ⟨v, _, hv, hR⟩ := argS_look 0 hA ht
    have hlt : t < args.size := by
      rw [← Array.length_toList]
      exact (List.getElem?_eq_some_iff.1 hv).1
    have h2 : (args ++ Array.replicate (fn.ntmps - args.size) undef).getD t undef = v := by
      have h3 : args.toList[t]? = some v := by simpa using hv
      rw [Array.getElem?_toList] at h3
      simp [Array.getElem?_append_left hlt, h3]
    show R.p w C _
    rw [h2]; exact hR

/-- What the results' variables hold. -/
inductive ResOk (P : Program) (S : List (Nat × Rp)) (M : List MF) : List ResultVar → List Rp → Prop
  | nil : ResOk P S M [] []
  | tmp {t : Nat} {R : Rp} {rs Rs} (h : Get (look · S) (.tmp t) R) (hr : ResOk P S M rs Rs) : ResOk P S M (.tmp t :: rs) (R :: Rs)
  | cellA {t T T' r k sz : Nat} {Ws : List Rp} {rs Rs} (h : Get (look · S) (.tmp t) (Rp.ptr r 0)) (hk : M[k]? = some (MF.box r T' Ws)) (ha : ∀ w, (isAgg T).run P w = .ok true w) (hn : ∀ w, (sizeOf T).run P w = .ok sz w) (hl : Ws.length = sz)
      (hr : ResOk P S M rs Rs) : ResOk P S M (.cell t T :: rs) (Rp.agg Ws :: Rs)
  | cell1 {t T T' r k : Nat} {R : Rp} {rs Rs} (h : Get (look · S) (.tmp t) (Rp.ptr r 0)) (hk : M[k]? = some (MF.box r T' [R])) (ha : ∀ w, (isAgg T).run P w = .ok false w)
      (hr : ResOk P S M rs Rs) : ResOk P S M (.cell t T :: rs) (R :: Rs)

def resOne (tmps : Array Value) : ResultVar → Sem Value
  | .tmp t => pure (tmps.getD t undef)
  | .cell a t => do loadVar t (← asAddr (tmps.getD a undef))

theorem res_run {a : Act} {w : World} {C : Nat → Prop} (st : St B n S M a w C) : ∀ {rs Rs}, ResOk P S M rs Rs → ∃ vs : List Value, (rs.mapM (resOne a.tmps)).run P w = .ok vs w ∧ AllP Rs w C vs := by
  intro rs Rs h
  induction h with
  | nil => exact ⟨[], by simp, trivial⟩
  | tmp h _ ih =>
    obtain ⟨vs, h1, h2⟩ := ih
    exact ⟨_ :: vs, by simp [List.mapM_cons, resOne, h1, Act.eval], h a w C st.slots, h2⟩
  | cellA h hk ha hn hl _ ih =>
    subst hl
    obtain ⟨vs, h1, h2⟩ := ih
    obtain ⟨cs, h3, h4, h5⟩ := row_fact st.mem hk rfl
    rename_i t T T' r k Ws rs Rs _
    have hp : a.tmps.getD t undef = .pointer (some ⟨r, 0, none⟩) := h a w C st.slots
    have := run_loadA_row (P := P) (t := T) h3 (off := 0) (n := Ws.length) (by omega) (ha w) (hn w)
    simp only [Instr.loadAt, Instr.sureAddr, Sem.run_bind, Sem.run_pure, Result.andThen_ok] at this
    refine ⟨.agg ((cs.toList.drop 0).take Ws.length).toArray :: vs, ?_, ⟨_, rfl, by simpa using h5⟩, h2⟩
    simp only [List.mapM_cons, resOne, hp, asAddr, Sem.run_bind, Sem.run_pure, Result.andThen_ok, this, h1]
  | cell1 h hk ha _ ih =>
    obtain ⟨vs, h1, h2⟩ := ih
    obtain ⟨cs, h3, h4, h5⟩ := row_fact st.mem hk rfl
    rename_i t T T' r k R rs Rs _
    have hp : a.tmps.getD t undef = .pointer (some ⟨r, 0, none⟩) := h a w C st.slots
    obtain ⟨v, hv, hR⟩ := h5.1.get 0 (R := R) rfl
    have hv' : cs[0]? = some v := by
      rw [List.getElem?_take] at hv
      simpa using hv
    have := run_load_row (P := P) (t := T) h3 hv' (ha w)
    simp only [Instr.loadAt, Instr.sureAddr, Sem.run_bind, Sem.run_pure, Result.andThen_ok] at this
    refine ⟨v :: vs, ?_, hR, h2⟩
    simp only [List.mapM_cons, resOne, hp, asAddr, Sem.run_bind, Sem.run_pure, Result.andThen_ok, this, h1]

/-- Results together. -/
def pack (vs : List Value) : Value :=
  match vs with
  | [v] => v
  | vs => .tuple vs.toArray

theorem results_run {fn : Func} {a : Act} {w : World} {C : Nat → Prop} (st : St B n S M a w C) {Rs : List Rp} (h : ResOk P S M fn.results.toList Rs) :
    ∃ vs : List Value, (results fn a.tmps).run P w = .ok (pack vs) w ∧ AllP Rs w C vs := by
  obtain ⟨vs, h1, h2⟩ := res_run (P := P) st h
  refine ⟨vs, ?_, h2⟩
  have h3 : (fn.results.mapM (resOne a.tmps)).run P w = .ok vs.toArray w := by
    rw [Array.mapM_eq_mapM_toList]
    simp [h1]
  have h4 : results fn a.tmps = (do
      let vs ← fn.results.mapM (resOne a.tmps)
      pure (if h : vs.size = 1 then vs[0] else .tuple vs)) := by
    unfold results
    congr 1
  rw [h4]
  simp only [Sem.run_bind, h3, Result.andThen_ok, Sem.run_pure]
  congr 1
  match vs with
  | [] => rfl
  | [v] => rfl
  | v :: u :: vs => rfl

/-- A return. -/
theorem N.ret {fn : Func} {X : RA} {e : Exit} {w₀ : World} {C₀ : Nat → Prop} {U : List Nat} {Rs : List Rp} (i : X.ι) (hB : B = ⟨w₀, C₀, U⟩) (hres : ResOk P S M fn.results.toList Rs) (hR : ∀ w C (vs : List Value), AllP Rs w C vs → (X.R i).p w C (pack vs))
    (hF : Pick M (X.F i)) (hQ : ∀ a w, bodyPost P fn (PostC X U w₀ C₀) .ret a w → Q e a w) : N B n S M e Q := by
  intro a w C st
  subst hB
  obtain ⟨vs, h1, h2⟩ := results_run (P := P) (fn := fn) st hres
  exact hQ a w ⟨st.defers, _, h1, i, _, C, rfl, st.eff, hR w C vs h2, st.mem.pick hF, fun b hb => st.since b (feet_pick hF hb)⟩
theorem res1 {R R' : Rp} (h : ∀ w C v, R.p w C v → R'.p w C v) (w : World) (C : Nat → Prop) (vs : List Value) (hA : AllP [R] w C vs) : R'.p w C (pack vs) := by
  match vs, hA with
  | [v], hA => exact h w C v hA.1
theorem res2 {R₁ R₂ : Rp} {Rs : List Rp} (w : World) (C : Nat → Prop) (vs : List Value) (hA : AllP (R₁ :: R₂ :: Rs) w C vs) : (Rp.tuple (R₁ :: R₂ :: Rs)).p w C (pack vs) := by
  match vs, hA with
  | v :: u :: vs, hA => exact ⟨_, rfl, hA⟩
theorem res2w {R₁ R₂ R₁' R₂' : Rp} (h₁ : ∀ w C v, R₁.p w C v → R₁'.p w C v) (h₂ : ∀ w C v, R₂.p w C v → R₂'.p w C v) (w : World) (C : Nat → Prop) (vs : List Value) (hA : AllP [R₁, R₂] w C vs) : (Rp.tuple [R₁', R₂']).p w C (pack vs) := by
  match vs, hA with
  | [v, u], hA => exact ⟨[v, u], rfl, h₁ _ _ _ hA.1, h₂ _ _ _ hA.2.1, trivial⟩
theorem res3w {R₁ R₂ R₃ R₁' R₂' R₃' : Rp} (h₁ : ∀ w C v, R₁.p w C v → R₁'.p w C v) (h₂ : ∀ w C v, R₂.p w C v → R₂'.p w C v) (h₃ : ∀ w C v, R₃.p w C v → R₃'.p w C v) (w : World) (C : Nat → Prop) (vs : List Value) (hA : AllP [R₁, R₂, R₃] w C vs) :
    (Rp.tuple [R₁', R₂', R₃']).p w C (pack vs) := by
  match vs, hA with
  | [v, u, x], hA => exact ⟨[v, u, x], rfl, h₁ _ _ _ hA.1, h₂ _ _ _ hA.2.1, h₃ _ _ _ hA.2.2.1, trivial⟩
theorem res0 (w : World) (C : Nat → Prop) (vs : List Value) (hA : AllP [] w C vs) : (Rp.tuple []).p w C (pack vs) := by
  match vs, hA with
  | [], hA => exact ⟨[], rfl, hA⟩

/-- The arguments of a call. -/
inductive ArgsOk (σ : Nat → Option Rp) : List Operand → List Rp → Prop
  | nil : ArgsOk σ [] []
  | cons {x : Operand} {R : Rp} {xs Rs} (h : Get σ x R) (hs : ArgsOk σ xs Rs) : ArgsOk σ (x :: xs) (R :: Rs)
theorem args_run {σ : Nat → Option Rp} {a : Act} {w : World} {C : Nat → Prop} (hs : SlotsOk σ a w C) : ∀ {xs Rs}, ArgsOk σ xs Rs → AllP Rs w C (xs.map a.eval) := by
  intro xs Rs h
  induction h with
  | nil => trivial
  | cons h _ ih => exact ⟨h a w C hs, ih⟩

/-- A call of a named function that takes over no memory. -/
theorem spec_call {σ : Nat → Option Rp} {f : FuncId} {args : Array Operand} {ts : Array TypeId} {A : List Rp} {X : RA} (h : o.op = .call ⟨.value (.func f), args, ts⟩) (hc : ∀ args w, (callFunc f args).run P w = .ok (.enter f args) w)
    (hf : CallT P f A [] X) (ha : ArgsOk σ args.toList A) : Spec P σ M o X := by
  intro a w C K Q hs hm hk
  unfold Oper.wp
  rw [show (execOp a.eval o).run P w = .ok (.enter f (args.map a.eval)) w by
    simp [execOp, h, resolve, Deferred.ofValue, Act.eval, invoke, hc]]
  rw [Oper.upon_enter]
  refine (hf w C _ (by simpa using args_run hs ha) ⟨by simp, by simp [feet], by simp [feet], hm.wf⟩).mono ?_
  rintro e w' ⟨i, v, C', rfl, he, hR, hM, hb⟩
  exact hk i v w' C' he hM.wf hR ⟨hM.facts, hM.nodup, fun b hb' => ⟨(hb b hb').resolve_left (by simp [feet]), hM.own b hb'⟩⟩
/-- .. of a function value. -/
theorem spec_callV {σ : Nat → Option Rp} {f : FuncId} {x : Operand} {caps : Array Value} {args : Array Operand} {ts : Array TypeId} {A Ac : List Rp} {X : RA} (h : o.op = .call ⟨.value x, args, ts⟩) (hx : Get σ x (Rp.val (.func (.func f) #[] caps)))
    (hc : ∀ args w, (callFunc f args).run P w = .ok (.enter f args) w) (hf : CallT P f (A ++ Ac) [] X) (ha : ArgsOk σ args.toList A) (hcap : ∀ w C, AllP Ac w C caps.toList) : Spec P σ M o X := by
  intro a w C K Q hs hm hk
  unfold Oper.wp
  have hv : a.eval x = _ := hx a w C hs
  rw [show (execOp a.eval o).run P w = .ok (.enter f (args.map a.eval ++ caps)) w by
    simp [execOp, h, resolve, Deferred.ofValue, hv, invoke, hc]]
  rw [Oper.upon_enter]
  refine (hf w C _ (by simpa using (args_run hs ha).append (hcap w C)) ⟨by simp, by simp [feet], by simp [feet], hm.wf⟩).mono ?_
  rintro e w' ⟨i, v, C', rfl, he, hR, hM, hb⟩
  exact hk i v w' C' he hM.wf hR ⟨hM.facts, hM.nodup, fun b hb' => ⟨(hb b hb').resolve_left (by simp [feet]), hM.own b hb'⟩⟩

/-- A call that takes over the owned facts at the front, and yields others. -/
theorem MOk.frame {F R F' : List MF} {w C w' C'} (h : MOk (F ++ R) w C) (he : Eff (feet F) w C w' C') (hF : MOk F' w' C') (hf : ∀ b ∈ feet F', b ∈ feet F ∨ w.heap.size ≤ b) : MOk (F' ++ R) w' C' := by
  have hnd := h.nodup
  rw [feet_append, List.nodup_append] at hnd
  have hR : ∀ b ∈ feet R, b < w.heap.size ∧ ¬ C b := fun b hb => h.own b (by rw [feet_append]; exact List.mem_append_right _ hb)
  have hdis : ∀ b ∈ feet R, b ∉ feet F := fun b hb hbF => hnd.2.2 b hbF b hb rfl
  have hpub : Pub w C w' C' := he.pub h.wf (fun b hb => (h.own b (by rw [feet_append]; exact List.mem_append_left _ hb)).2)
  refine ⟨fun G hG => ?_, ?_, fun b hb => ?_, hF.wf⟩
  · rcases List.mem_append.1 hG with hG | hG
    · exact hF.facts G hG
    · exact G.loc hpub (fun b hb => have hbR := mem_feet.2 ⟨G, hG, hb⟩; he.keep b (hR b hbR).1 (hdis b hbR)) (h.facts G (List.mem_append_right _ hG))
  · rw [feet_append, List.nodup_append]
    refine ⟨hF.nodup, hnd.2.1, fun b hb c hc hbc => ?_⟩
    subst hbc
    rcases hf b hb with h1 | h1
    · exact hdis b hc h1
    · have := (hR b hc).1; omega
  · rw [feet_append] at hb
    rcases List.mem_append.1 hb with hb | hb
    · exact hF.own b hb
    · exact ⟨Nat.lt_of_lt_of_le (hR b hb).1 he.size, fun hc => (hR b hb).2 ((he.cl b (hR b hb).1 (hdis b hb)).1 hc)⟩

theorem St.call {F R : List MF} {X : RA} {a : Act} {w C w' C'} {v : Value} {dst : Option Nat} (hd : ∀ d, dst = some d → d < n) (st : St B n S (F ++ R) a w C) {i : X.ι} (he : Eff (feet F) w C w' C') (hR : (X.R i).p w' C' v) (hM : MOk (X.F i) w' C')
    (hb : ∀ b ∈ feet (X.F i), b ∈ feet F ∨ w.heap.size ≤ b) : St B n (putS dst (X.R i) S) (X.F i ++ R) (a.put dst v) w' C' := by
  have hFM : ∀ b ∈ feet F, b ∈ feet (F ++ R) := fun b hb => by rw [feet_append]; exact List.mem_append_left _ hb
  have hpub : Pub w C w' C' := he.pub st.mem.wf (fun b hb => (st.mem.own b (hFM b hb)).2)
  refine ⟨(put_size _ _ _).trans st.size, (put_defers' _ _ _).trans st.defers, slots_put st.size hd st.slots hpub hR, st.mem.frame he hM hb, st.eff.trans he (fun b hb => st.since b (hFM b hb)), fun b hb' => ?_⟩
  rw [feet_append] at hb'
  rcases List.mem_append.1 hb' with hb' | hb'
  · rcases hb b hb' with h1 | h1
    · exact st.since b (hFM b h1)
    · exact .inr (Nat.le_trans st.eff.size h1)
  · exact st.since b (by rw [feet_append]; exact List.mem_append_right _ hb')

theorem L.call {f : FuncId} {args : Array Operand} {ts : Array TypeId} {A : List Rp} {F R : List MF} {X : RA} {d : Nat} (hg : o.guard = none) (hd : o.dst = some d) (hlt : Nat.blt d n = true) (h : o.op = .call ⟨.value (.func f), args, ts⟩)
    (hc : ∀ args w, (callFunc f args).run P w = .ok (.enter f args) w) (hf : CallT P f A F X) (hM : Pick M (F ++ R)) (ha : ArgsOk (look · S) args.toList A)
    (hL : ∀ i, L P B n ((d, X.R i) :: S) (X.F i ++ R) ops rest Q) : L P B n S M ops (o :: rest) Q := by
  intro a w C st'
  have st := st'.pick hM
  refine wpList_plain hg fun K hK => ?_
  unfold Oper.wp
  rw [show (execOp a.eval o).run P w = .ok (.enter f (args.map a.eval)) w by
    simp [execOp, h, resolve, Deferred.ofValue, Act.eval, invoke, hc]]
  rw [Oper.upon_enter]
  refine (hf w C _ (by simpa using args_run st.slots ha) st.mem.left).mono ?_
  rintro e w' ⟨i, v, C', rfl, he, hR, hM, hb⟩
  have hlt' : d < n := by simpa [Nat.blt_eq] using hlt
  rw [hd]
  exact hK _ _ (hL i _ _ C' (st.call (dst := some d) (fun d' hd' => by cases hd'; exact hlt') he hR hM hb))
theorem L.callV {f : FuncId} {x : Operand} {caps : Array Value} {args : Array Operand} {ts : Array TypeId} {A Ac : List Rp} {F R : List MF} {X : RA} {d : Nat} (hg : o.guard = none) (hd : o.dst = some d) (hlt : Nat.blt d n = true) (h : o.op = .call ⟨.value x, args, ts⟩)
    (hx : Get (look · S) x (Rp.val (.func (.func f) #[] caps))) (hc : ∀ args w, (callFunc f args).run P w = .ok (.enter f args) w) (hf : CallT P f (A ++ Ac) F X) (hM : Pick M (F ++ R)) (ha : ArgsOk (look · S) args.toList A) (hcap : ∀ w C, AllP Ac w C caps.toList)
    (hL : ∀ i, L P B n ((d, X.R i) :: S) (X.F i ++ R) ops rest Q) : L P B n S M ops (o :: rest) Q := by
  intro a w C st'
  have st := st'.pick hM
  refine wpList_plain hg fun K hK => ?_
  unfold Oper.wp
  have hv : a.eval x = _ := hx a w C st.slots
  rw [show (execOp a.eval o).run P w = .ok (.enter f (args.map a.eval ++ caps)) w by
    simp [execOp, h, resolve, Deferred.ofValue, hv, invoke, hc]]
  rw [Oper.upon_enter]
  refine (hf w C _ (by simpa using (args_run st.slots ha).append (hcap w C)) st.mem.left).mono ?_
  rintro e w' ⟨i, v, C', rfl, he, hR, hM, hb⟩
  have hlt' : d < n := by simpa [Nat.blt_eq] using hlt
  rw [hd]
  exact hK _ _ (hL i _ _ C' (st.call (dst := some d) (fun d' hd' => by cases hd'; exact hlt') he hR hM hb))
end
end Go.Sim
