/- Maps of the call's own. -/
import Derived.Test.YtlbhpjigjehffaaDoorSimJ
namespace Go.Sim

section
variable {P : Program} {B : Base} {n : Nat} {S : List (Nat × Rp)} {M : List MF} {Q : Exit → Act → World → Prop} {ops : Array Oper} {rest : List Oper} {o : Oper} {σ : Nat → Option Rp}

/-! Association lists. -/
variable {κ ν : Type} [DecidableEq κ]
def mfind (k : κ) : List (κ × ν) → Nat → Option (Nat × ν)
  | [], _ => none
  | (k', v) :: l, i => if k = k' then some (i, v) else mfind k l (i + 1)
def mget (l : List (κ × ν)) (k : κ) : Option ν := (mfind k l 0).map (·.2)
def mset (l : List (κ × ν)) (k : κ) (v : ν) : List (κ × ν) := match mfind k l 0 with
  | some (i, _) => l.set i (k, v)
  | none => l ++ [(k, v)]
theorem mfind_shift (k : κ) : ∀ (l : List (κ × ν)) (i : Nat), mfind k l i = (mfind k l 0).map fun x => (x.1 + i, x.2)
  | [], _ => rfl
  | (k', v) :: l, i => by
    simp only [mfind]
    split
    · simp
    · rw [mfind_shift k l (i + 1), mfind_shift k l (0 + 1), Option.map_map]
      congr 1; funext x; simp; omega
theorem mget_nil (k : κ) : mget ([] : List (κ × ν)) k = none := rfl
theorem mget_cons (k k' : κ) (v : ν) (l : List (κ × ν)) : mget ((k', v) :: l) k = if k = k' then some v else mget l k := by
  simp only [mget, mfind]
  split
  · rfl
  · rw [mfind_shift k l (0 + 1), Option.map_map]; rfl
theorem mget_append (k k' : κ) (v : ν) : ∀ (l : List (κ × ν)), mget (l ++ [(k', v)]) k = (mget l k).or (if k = k' then some v else none)
  | [] => by rw [List.nil_append, mget_cons]; simp [mget_nil]
  | (k₁, v₁) :: l => by
    rw [List.cons_append, mget_cons, mget_cons, mget_append k k' v l]
    split <;> simp
theorem mset_cons (k k' : κ) (v v' : ν) (l : List (κ × ν)) : mset ((k', v') :: l) k v = if k = k' then (k, v) :: l else (k', v') :: mset l k v := by
  simp only [mset, mfind]
  split
  · rename_i h1; split at h1
    · rename_i h2; cases h1; simp [h2]
    · rename_i h2
      rw [mfind_shift k l (0 + 1)] at h1
      cases hm : mfind k l 0 with
      | none => rw [hm] at h1; cases h1
      | some x => rw [hm] at h1; cases h1; simp [h2]
  · rename_i h1; split at h1
    · cases h1
    · rename_i h2
      rw [mfind_shift k l (0 + 1)] at h1
      cases hm : mfind k l 0 with
      | none => simp [h2]
      | some x => rw [hm] at h1; cases h1
theorem mget_set (k k' : κ) (v : ν) : ∀ (l : List (κ × ν)), mget (mset l k' v) k = if k = k' then some v else mget l k
  | [] => by simp [mset, mfind, mget_cons, mget_nil]
  | (k₁, v₁) :: l => by
    rw [mset_cons]
    split
    · rename_i h; subst h
      rw [mget_cons, mget_cons]; split <;> rfl
    · rename_i h
      rw [mget_cons, mget_cons, mget_set k k' v l]
      by_cases h1 : k = k₁
      · rw [if_pos h1, if_neg (fun e => h (by rw [← e, h1]))]; simp [h1]
      · rw [if_neg h1, if_neg h1]
theorem mset_length (k : κ) (v : ν) : ∀ (l : List (κ × ν)), (mset l k v).length = if (mget l k).isSome then l.length else l.length + 1
  | [] => by simp [mset, mfind, mget_nil]
  | (k₁, v₁) :: l => by
    rw [mset_cons, mget_cons]
    split
    · simp
    · simp only [List.length_cons, mset_length k v l]; split <;> rfl

/-- A type of keys: how its values are found. -/
structure KeyT (P : Program) (K : TypeId) (kv : κ → Value) : Prop where
  find : ∀ {ν : Type} (vv : ν → Value) (w : World) (k : κ) (es : List MapEntry) (l : List (κ × ν)), es.map (fun e => (e.key, e.val)) = l.map (fun x => (kv x.1, vv x.2)) →
    (Instr.findKey K (kv k) es).run P w = .ok ((mfind k l 0).map fun x => (x.1, vv x.2)) w
  check : ∀ (w : World) (k : κ) (b : Bool), (Instr.checkKey b 10000 K (kv k)).run P w = .ok () w
  stays : ∀ k : κ, Instr.sameBits 10000 (kv k) (kv k) = true

/-- A map that the call owns. -/
def MF.map (r : Nat) (kv : κ → Value) (vv : ν → Value) (l : List (κ × ν)) : MF where
  foot := [r]
  p w _ := ∃ es clock, w.heap[r]? = some (.map es clock) ∧ es.toList.map (fun e => (e.key, e.val)) = l.map fun x => (kv x.1, vv x.2)
  loc _ hf := fun ⟨es, clock, h1, h2⟩ => ⟨es, clock, (hf r (by simp)).trans h1, h2⟩

theorem mfind_at (k : κ) : ∀ (l : List (κ × ν)) {i : Nat} {v : ν}, mfind k l 0 = some (i, v) → l[i]? = some (k, v)
  | [], _, _, h => by cases h
  | (k', v') :: l, i, v, h => by
    simp only [mfind] at h
    split at h
    · rename_i e; cases h; subst e; rfl
    · rw [mfind_shift k l (0 + 1)] at h
      cases hm : mfind k l 0 with
      | none => rw [hm] at h; cases h
      | some x =>
        rw [hm] at h
        cases h
        have := mfind_at k l hm
        simpa using this

theorem spec_lookup2 {T K E : TypeId} {m x : Operand} {r kk : Nat} {kv : κ → Value} {vv : ν → Value} {l : List (κ × ν)} {k : κ} {R : Rp} {V : ν → Rp} {z : ν} (h : o.op = .lookup T m x true) (hT : P.underlying T = some (.map K E)) (hK : KeyT P K kv)
    (hz : ∀ w, (zeroValue E).run P w = .ok (vv z) w) (hm : Get σ m (Rp.val (.map (some r)))) (hx : Get σ x R) (hR : ∀ w C v, R.p w C v → v = kv k) (hV : ∀ w C, (V ((mget l k).getD z)).p w C (vv ((mget l k).getD z))) (hk : M[kk]? = some (MF.map r kv vv l)) :
    Spec P σ M o (.one (Rp.tuple [V ((mget l k).getD z), Rp.bool (mget l k).isSome])) :=
  Spec.of_run fun a w C hs hmem => by
    obtain ⟨es, clock, hh, he⟩ := hmem.facts _ (List.mem_of_getElem? hk)
    have hvx : a.eval x = kv k := hR _ _ _ (hx a w C hs)
    have hvm : a.eval m = .map (some r) := hm a w C hs
    have hf := hK.find vv w k es.toList l he
    have hc := hK.check w k es.isEmpty
    refine ⟨.tuple #[vv ((mget l k).getD z), .bool (mget l k).isSome], ?_, _, rfl, hV _ _, rfl, trivial⟩
    cases hfm : mfind k l 0 with
    | none =>
      rw [hfm] at hf
      simp [execOp, h, Instr.lookup, run_underlying hT, hvx, hvm, MapKept.run_getObj_map hh, hc, hf, hz, mget, hfm]
    | some y =>
      rw [hfm] at hf
      simp [execOp, h, Instr.lookup, run_underlying hT, hvx, hvm, MapKept.run_getObj_map hh, hc, hf, mget, hfm]
theorem spec_lookup1 {T K E : TypeId} {m x : Operand} {r kk : Nat} {kv : κ → Value} {vv : ν → Value} {l : List (κ × ν)} {k : κ} {R : Rp} {V : ν → Rp} {z : ν} (h : o.op = .lookup T m x false) (hT : P.underlying T = some (.map K E)) (hK : KeyT P K kv)
    (hz : ∀ w, (zeroValue E).run P w = .ok (vv z) w) (hm : Get σ m (Rp.val (.map (some r)))) (hx : Get σ x R) (hR : ∀ w C v, R.p w C v → v = kv k) (hV : ∀ w C, (V ((mget l k).getD z)).p w C (vv ((mget l k).getD z))) (hk : M[kk]? = some (MF.map r kv vv l)) :
    Spec P σ M o (.one (V ((mget l k).getD z))) :=
  Spec.of_run fun a w C hs hmem => by
    obtain ⟨es, clock, hh, he⟩ := hmem.facts _ (List.mem_of_getElem? hk)
    have hvx : a.eval x = kv k := hR _ _ _ (hx a w C hs)
    have hvm : a.eval m = .map (some r) := hm a w C hs
    have hf := hK.find vv w k es.toList l he
    have hc := hK.check w k es.isEmpty
    refine ⟨vv ((mget l k).getD z), ?_, hV _ _⟩
    cases hfm : mfind k l 0 with
    | none =>
      rw [hfm] at hf
      simp [execOp, h, Instr.lookup, run_underlying hT, hvx, hvm, MapKept.run_getObj_map hh, hc, hf, hz, mget, hfm]
    | some y =>
      rw [hfm] at hf
      simp [execOp, h, Instr.lookup, run_underlying hT, hvx, hvm, MapKept.run_getObj_map hh, hc, hf, mget, hfm]
omit [DecidableEq κ] in
theorem spec_lenM {T K E : TypeId} {m : Operand} {r kk : Nat} {kv : κ → Value} {vv : ν → Value} {l : List (κ × ν)} (h : o.op = .call ⟨.builtin .len, #[m], #[T]⟩) (hT : P.underlying T = some (.map K E))
    (hm : Get σ m (Rp.val (.map (some r)))) (hk : M[kk]? = some (MF.map r kv vv l)) (hl : l.length ≤ 9223372036854775807) : Spec P σ M o (.one (Rp.int .i64 l.length)) :=
  Spec.of_run fun a w C hs hmem => by
    obtain ⟨es, clock, hh, he⟩ := hmem.facts _ (List.mem_of_getElem? hk)
    have hvm : a.eval m = .map (some r) := hm a w C hs
    have hlen : es.size = l.length := by have := congrArg List.length he; simpa using this
    refine ⟨.int .i64 l.length, ?_, rfl, by simp only [InR]; omega⟩
    simp [execOp, h, resolve, invoke, builtin, Builtin.len_, run_underlying hT, hvm, MapKept.run_getObj_map hh, goInt, hlen]

def RA.map (kv : κ → Value) (vv : ν → Value) : RA := ⟨Nat, fun r => Rp.val (.map (some r)), fun r => [MF.map r kv vv []]⟩
omit [DecidableEq κ] in
theorem spec_makeMap {T : TypeId} (kv : κ → Value) (vv : ν → Value) (h : o.op = .makeMap T none) : Spec P σ M o (.map kv vv) :=
  Spec.new (A := .map kv vv) id fun a w C hs hm => ⟨.map (some w.heap.size), .map #[] 0, by
    have hr := RowKit.run_makeMap (P := P) T w
    simp [execOp, h, hr], rfl, by simp [RA.map, feet, MF.map], fun G hG => by
      have : G = MF.map w.heap.size kv vv [] := by simpa [RA.map] using hG
      subst this
      exact ⟨#[], 0, new_at _ _, rfl⟩⟩

theorem put_eff {w : World} {C : Nat → Prop} {r : Nat} {ob : Obj} : Eff [r] w C { w with heap := w.heap.setIfInBounds r ob } C where
  size := by simp
  keep b _ hu := by
    have : r ≠ b := fun e => hu (by simp [e])
    simp [this]
  cl _ _ _ := Iff.rfl
  os := rfl
  tape := rfl
  output := rfl

theorem L.mapUpdate {T K E : TypeId} {m x y : Operand} {r kk : Nat} {kv : κ → Value} {vv : ν → Value} {l : List (κ × ν)} {k : κ} {u : ν} {R V : Rp} (hg : o.guard = none) (hd : o.dst = none) (h : o.op = .mapUpdate T m x y) (hT : P.underlying T = some (.map K E)) (hK : KeyT P K kv)
    (hm : Get (look · S) m (Rp.val (.map (some r)))) (hx : Get (look · S) x R) (hR : ∀ w C v, R.p w C v → v = kv k) (hy : Get (look · S) y V) (hV : ∀ w C v, V.p w C v → v = vv u) (hk : M[kk]? = some (MF.map r kv vv l))
    (hL : L P B n S (M.set kk (MF.map r kv vv (mset l k u))) ops rest Q) : L P B n S M ops (o :: rest) Q := by
  intro a w C st
  refine wpList_plain hg fun K' hK' => ?_
  obtain ⟨es, clock, hh, he⟩ := st.mem.facts _ (List.mem_of_getElem? hk)
  have hvx : a.eval x = kv k := hR _ _ _ (hx a w C st.slots)
  have hvy : a.eval y = vv u := hV _ _ _ (hy a w C st.slots)
  have hvm : a.eval m = .map (some r) := hm a w C st.slots
  have hf := hK.find vv w k es.toList l he
  have hc := hK.check w k false
  have hrl : r < w.heap.size := (Array.getElem?_eq_some_iff.1 hh).1
  have hrun : ∃ es' clock', (execOp a.eval o).run P w = .ok .skip { w with heap := w.heap.setIfInBounds r (.map es' clock') } ∧ es'.toList.map (fun e => (e.key, e.val)) = (mset l k u).map fun x => (kv x.1, vv x.2) := by
    cases hfm : mfind k l 0 with
    | none =>
      rw [hfm] at hf
      refine ⟨es.push { key := kv k, val := vv u, born := clock }, clock + 1, ?_, ?_⟩
      · simp [execOp, h, Instr.mapUpdate, run_underlying hT, hvx, hvy, hvm, MapKept.run_getObj_map hh, hc, hf, MapKept.run_setObj_map _ hh]
      · simp [mset, hfm, he]
    | some y =>
      rw [hfm] at hf
      obtain ⟨i, v⟩ := y
      have hat := mfind_at k l hfm
      have hi : (es.toList.map (fun e => (e.key, e.val)))[i]? = some (kv k, vv v) := by rw [he]; simp [hat]
      have hik : ∃ e0, es[i]? = some e0 ∧ e0.key = kv k := by
        simp only [List.getElem?_map, Option.map_eq_some_iff] at hi
        obtain ⟨e0, h1, h2⟩ := hi
        exact ⟨e0, by simpa using h1, by simpa using congrArg Prod.fst h2⟩
      obtain ⟨e0, hi0, hkey⟩ := hik
      refine ⟨es.modify i fun e => { e with key := kv k, val := vv u }, clock, ?_, ?_⟩
      · have hst := hK.stays k
        simp [execOp, h, Instr.mapUpdate, run_underlying hT, hvx, hvy, hvm, MapKept.run_getObj_map hh, hc, hf, MapKept.run_setObj_map _ hh, hi0, hkey, Instr.keyThatStays, hst]
      · simp only [mset, hfm]
        apply List.ext_getElem?
        intro j
        have hj : (es.toList.map (fun e => (e.key, e.val)))[j]? = (l.map fun x => (kv x.1, vv x.2))[j]? := by rw [he]
        simp only [List.getElem?_map, Array.getElem?_toList, Array.getElem?_modify, List.getElem?_set] at hj ⊢
        have hil : i < l.length := (List.getElem?_eq_some_iff.1 hat).1
        by_cases e : i = j
        · subst e; simp [hi0, hil]
        · simp [e, hj]
  obtain ⟨es', clock', hrun, hes⟩ := hrun
  unfold Oper.wp
  rw [hrun]
  have st' := st.upd (R := Rp.val undef) (v := undef) (dst := none) (F' := MF.map r kv vv (mset l k u)) (by simp) hk (put_eff (ob := .map es' clock')) (fun b hb => by have := st.mem.wf b hb; simpa using this) rfl
    ⟨es', clock', by simp [hrl], hes⟩ (by simp [MF.map]) (fun b hb => .inl ⟨hb, (st.mem.own b (mem_feet.2 ⟨_, List.mem_of_getElem? hk, hb⟩)).2⟩)
  rw [Oper.upon_skip, hd]
  exact hK' _ _ (hL _ _ C st')
end
end Go.Sim
