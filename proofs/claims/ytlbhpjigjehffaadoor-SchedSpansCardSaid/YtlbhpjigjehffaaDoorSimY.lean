/- Many owned facts as one: an own slice of own slices. -/
import Derived.Test.YtlbhpjigjehffaaDoorSimX
import Derived.Test.YtlbhpjigjehffaaDoorSimM
namespace Go.Sim
open Go
def MF.many (Ms : List MF) : MF where
  foot := feet Ms
  p w C := ∀ F ∈ Ms, F.p w C
  loc hp hf h F hF := F.loc hp (fun b hb => hf b (mem_feet.2 ⟨F, hF, hb⟩)) (h F hF)
theorem feet_cons (F : MF) (M : List MF) : feet (F :: M) = F.foot ++ feet M := by simp [feet]
section
variable {P : Program} {B : Base} {n : Nat} {S : List (Nat × Rp)} {M : List MF} {Q : Exit → Act → World → Prop} {ops : Array Oper} {rest : List Oper}
theorem St.swapM {M' : List MF} {a : Act} {w : World} {C : Nat → Prop} (hp : (feet M').Perm (feet M)) (hf : ∀ F ∈ M', F.p w C) (st : St B n S M a w C) : St B n S M' a w C :=
  ⟨st.size, st.defers, st.slots, ⟨hf, hp.nodup_iff.2 st.mem.nodup, fun b hb => st.mem.own b (hp.mem_iff.1 hb), st.mem.wf⟩, st.eff, fun b hb => st.since b (hp.mem_iff.1 hb)⟩
theorem St.focus {Ms R : List MF} {F : MF} {i : Nat} {a : Act} {w : World} {C : Nat → Prop} (hM : Pick M (MF.many Ms :: R)) (hi : Ms[i]? = some F) (st' : St B n S M a w C) : St B n S (F :: MF.many (Ms.eraseIdx i) :: R) a w C := by
  have st := st'.pick hM
  refine st.swapM ?_ fun G hG => ?_
  · rw [feet_cons, feet_cons, feet_cons, ← List.append_assoc]
    refine List.Perm.append_right _ ?_
    have := feet_perm (perm_eraseIdx Ms i F hi)
    rw [feet_cons] at this
    exact this.symm
  · have h0 := st.mem.facts _ (List.mem_cons_self)
    rcases List.mem_cons.1 hG with rfl | hG
    · exact h0 _ (List.mem_of_getElem? hi)
    rcases List.mem_cons.1 hG with rfl | hG
    · exact fun F' hF' => h0 F' (List.mem_of_mem_eraseIdx hF')
    · exact st.mem.facts G (List.mem_cons_of_mem _ hG)
theorem St.unfocus {Ms R : List MF} {F : MF} {i : Nat} {a : Act} {w : World} {C : Nat → Prop} (hM : Pick M (F :: MF.many (Ms.eraseIdx i) :: R)) (hi : i < Ms.length) (st' : St B n S M a w C) : St B n S (MF.many (Ms.set i F) :: R) a w C := by
  have st := st'.pick hM
  have he : (Ms.set i F).eraseIdx i = Ms.eraseIdx i := by
    apply List.ext_getElem?
    intro j
    rw [List.getElem?_eraseIdx, List.getElem?_eraseIdx]
    split
    · rw [List.getElem?_set_ne (by omega)]
    · rw [List.getElem?_set_ne (by omega)]
  have hp := perm_eraseIdx (Ms.set i F) i F (by simp [hi])
  rw [he] at hp
  refine st.swapM ?_ fun G hG => ?_
  · rw [feet_cons, feet_cons, feet_cons, ← List.append_assoc]
    refine List.Perm.append_right _ ?_
    have := feet_perm hp
    rwa [feet_cons] at this
  · rcases List.mem_cons.1 hG with rfl | hG
    · intro F' hF'
      rcases List.mem_cons.1 (hp.mem_iff.1 hF') with rfl | hF'
      · exact st.mem.facts _ (List.mem_cons_self)
      · exact st.mem.facts _ (List.mem_cons_of_mem _ List.mem_cons_self) F' hF'
    · exact st.mem.facts G (List.mem_cons_of_mem _ (List.mem_cons_of_mem _ hG))
theorem W.focus {c : Code} {Ms R : List MF} {F : MF} {i : Nat} (hM : Pick M (MF.many Ms :: R)) (hi : Ms[i]? = some F) (h : W P B n S (F :: MF.many (Ms.eraseIdx i) :: R) c Q) : W P B n S M c Q := fun a w C st => h a w C (st.focus hM hi)
theorem W.unfocus {c : Code} {Ms R : List MF} {F : MF} {i : Nat} (hM : Pick M (F :: MF.many (Ms.eraseIdx i) :: R)) (hi : i < Ms.length) (h : W P B n S (MF.many (Ms.set i F) :: R) c Q) : W P B n S M c Q := fun a w C st => h a w C (st.unfocus hM hi)
/-- Of nothing but nil slices. -/
theorem W.many {c : Code} {Ms : List MF} (hf : feet Ms = []) (h0 : ∀ w C, ∀ F ∈ Ms, F.p w C) (h : W P B n S (MF.many Ms :: M) c Q) : W P B n S M c Q := fun a w C st => h a w C (st.swapM (by rw [feet_cons]; simp [MF.many, hf]) (fun G hG => by
  rcases List.mem_cons.1 hG with rfl | hG
  · exact h0 w C
  · exact st.mem.facts G hG))
end
theorem osl_slice {α : Type} {v : Value} {T sz : Nat} {E : α → List Rp} {xs : List α} (hE : ∀ x, (E x).length = sz) {w : World} {C : Nat → Prop} (h : (MF.osl v T sz E xs).p w C) (hb : ∀ b, v.ownBlock = some b → C b) : (Rp.slice E xs).p w C v := by
  obtain ⟨cs, h1, h2, h3⟩ := h
  refine ⟨by omega, ?_⟩
  rcases h1.2 with ⟨hv0, hn0⟩ | ⟨g, cap, cur, hv1, _, hg, hlc, _, hcs, htk⟩
  · exact .inl ⟨hv0, List.eq_nil_of_length_eq_zero hn0⟩
  · refine .inr ⟨⟨g, 0, none⟩, cap, hv1, hlc, .inr ⟨rfl, hb g (by rw [hv1]; rfl), cur, T, (0, 0), hg, ?_⟩⟩
    simp only [List.drop_zero]
    rw [flatMap_len hE, htk]
    exact h2
def eV (v : Value) : List Rp := [Rp.val v]
def rowsM {α : Type} (T sz : Nat) (E : α → List Rp) (vs : List Value) (rs : List (List α)) : List MF := List.zipWith (fun v r => MF.osl v T sz E r) vs rs
theorem rowsM_set {α : Type} {T sz : Nat} {E : α → List Rp} {vs : List Value} {rs : List (List α)} {i : Nat} {v : Value} {r : List α} : (rowsM T sz E vs rs).set i (MF.osl v T sz E r) = rowsM T sz E (vs.set i v) (rs.set i r) := by
  unfold rowsM
  apply List.ext_getElem?
  intro j
  simp only [List.getElem?_set, List.getElem?_zipWith, List.length_zipWith]
  by_cases e : i = j
  · subst e
    simp only [if_true]
    by_cases h1 : i < vs.length <;> by_cases h2 : i < rs.length <;> simp [h1, h2] <;> omega
  · simp only [if_neg e]
theorem rowsM_get {α : Type} {T sz : Nat} {E : α → List Rp} {vs : List Value} {rs : List (List α)} {i : Nat} {v : Value} {r : List α} (h1 : vs[i]? = some v) (h2 : rs[i]? = some r) : (rowsM T sz E vs rs)[i]? = some (MF.osl v T sz E r) := by
  unfold rowsM; rw [List.getElem?_zipWith, h1, h2]
theorem vals_eq : ∀ {vs cs : List Value} {w : World} {C : Nat → Prop}, AllP (vs.flatMap eV) w C cs → cs = vs
  | [], [], _, _, _ => rfl
  | [], _ :: _, _, _, h => h.elim
  | v :: vs, [], _, _, h => h.elim
  | v :: vs, c :: cs, w, C, h => by
    have h' : (Rp.val v).p w C c ∧ AllP (vs.flatMap eV) w C cs := h
    rw [vals_eq h'.2, show c = v from h'.1]
theorem rows_all {α : Type} {T sz : Nat} {E : α → List Rp} (hE : ∀ x, (E x).length = sz) {w : World} {C : Nat → Prop} : ∀ {vs : List Value} {rs : List (List α)}, vs.length = rs.length → (∀ F ∈ rowsM T sz E vs rs, F.p w C) → (∀ b ∈ feet (rowsM T sz E vs rs), C b) → AllP (rs.flatMap fun r => [Rp.slice E r]) w C vs
  | [], [], _, _, _ => trivial
  | [], _ :: _, h, _, _ => by cases h
  | _ :: _, [], h, _, _ => by cases h
  | v :: vs, r :: rs, h, hf, hb => by
    have e : rowsM T sz E (v :: vs) (r :: rs) = MF.osl v T sz E r :: rowsM T sz E vs rs := rfl
    rw [e] at hf hb
    rw [feet_cons] at hb
    refine ⟨osl_slice hE (hf _ List.mem_cons_self) fun b hv => hb b (List.mem_append_left _ (by simp [MF.osl, hv])), ?_⟩
    exact rows_all hE (by simpa using h) (fun F hF => hf F (List.mem_cons_of_mem _ hF)) (fun b hb' => hb b (List.mem_append_right _ hb'))
/-- An own slice of own slices, published. -/
theorem rows_slice {α : Type} {v : Value} {T T' sz : Nat} {E : α → List Rp} {vs : List Value} {rs : List (List α)} (hE : ∀ x, (E x).length = sz) (hl : vs.length = rs.length) {w : World} {C : Nat → Prop} (hf : ∀ G ∈ [MF.osl v T' 1 eV vs, MF.many (rowsM T sz E vs rs)], G.p w C) (hb : ∀ b ∈ feet [MF.osl v T' 1 eV vs, MF.many (rowsM T sz E vs rs)], C b) : (Rp.slice (fun r => [Rp.slice E r]) rs).p w C v := by
  obtain ⟨cs, h1, h2, h3⟩ := hf _ List.mem_cons_self
  have hm := hf _ (List.mem_cons_of_mem _ List.mem_cons_self)
  obtain rfl := vals_eq h2.1
  have hall := rows_all hE hl hm (fun b hb' => hb b (by rw [feet_cons, feet_cons]; exact List.mem_append_right _ (List.mem_append_left _ hb')))
  have hfl : ∀ rs : List (List α), (rs.flatMap fun r => [Rp.slice E r]).length = rs.length := fun rs => by rw [flatMap_len (n := 1) (fun _ => rfl)]; omega
  have hfv : (cs.flatMap eV).length = cs.length := by rw [flatMap_len (n := 1) (fun _ => rfl)]; omega
  refine ⟨by omega, ?_⟩
  rcases h1.2 with ⟨hv0, hn0⟩ | ⟨g, cap, cur, hv1, _, hg, hlc, _, hcs, htk⟩
  · exact .inl ⟨hv0, List.eq_nil_of_length_eq_zero (by omega)⟩
  · refine .inr ⟨⟨g, 0, none⟩, cap, by rw [← hl]; exact hv1, by omega, .inr ⟨rfl, hb g (by rw [feet_cons]; exact List.mem_append_left _ (by simp [MF.osl, hv1, Value.ownBlock])), cur, T', (0, 0), hg, ?_⟩⟩
    simp only [List.drop_zero]
    rw [hfl, ← hl, show cs.length = cs.length * 1 by omega, htk]
    exact ⟨hall, h2.2⟩
end Go.Sim
namespace Go.Sim
open Go
/-- An element of an array as a value. -/
theorem spec_indexAI {P : Program} {M : List MF} {o : Oper} {σ : Nat → Option Rp} {T e n : Nat} {x ix : Operand} {Rs : List Rp} {R : Rp} {k : IntKind} {i : Int} (h : o.op = .index T x ix) (hu : P.underlying T = some (.array n e)) (hs : ∀ w, (sizeOf e).run P w = .ok 1 w) (ha : ∀ w, (isAgg e).run P w = .ok false w)
    (hx : Get σ x (Rp.agg Rs)) (hi : Get σ ix (Rp.int k i)) (hr : 0 ≤ i ∧ i < n) (hR : Rs[i.toNat]? = some R) : Spec P σ M o (.one R) :=
  Spec.of_run fun a w C hsl _ => by
    obtain ⟨cs, hv, hcs⟩ := get_rp hx hsl
    obtain ⟨v, hv', hR'⟩ := hcs.1.get _ hR
    refine ⟨v, ?_, hR'⟩
    simp [execOp, h, Instr.index, get_int hi hsl, asIntOf, run_underlying hu, hv, hr.1, hr.2, hs, part, ha, hv']
end Go.Sim
