/- Lemmas for the claim, part 2: rules for walks, contracts of functions, the data they compute. No conditions. -/
import Derived.Test.YthlfacmpjehjmaaGreatDoorP1
import Derived.ProofKit
import Derived.OpenShut
import Derived.JoinedCond
import Derived.Deep.Slices
import Derived.OrdersHeld
import Derived.MakeChecks
import Derived.Laws.IdiomStrings
import Derived.Lib.ConvBytes
import Derived.Lib.LaidTab
import Derived.Sort.Grow
import Derived.Deep.Draws
import Derived.SizedLaws
/- More rules: publishing inside a row, slices put together, slices that the call owns cut and grown. -/
namespace Go.Sim

section
variable {P : Program} {B : Base} {n : Nat} {S : List (Nat × Rp)} {M : List MF} {Q : Exit → Act → World → Prop} {ops : Array Oper} {rest : List Oper} {o : Oper} {σ : Nat → Option Rp}

/-- An owned slice is published: its value is then a slice of published elements. -/
theorem St.pubV {α : Type} {a : Act} {w C} {v : Value} {T sz k : Nat} {E : α → List Rp} {xs : List α} (st : St B n S M a w C) (hk : M[k]? = some (MF.osl v T sz E xs)) (hE : ∀ x, (E x).length = sz) :
    ∃ C', St B n S (M.eraseIdx k) a w C' ∧ (Rp.slice E xs).p w C' v := by
  obtain ⟨cs, h1, h2, h3⟩ := osl_fact st.mem hk
  have hp := perm_eraseIdx M k _ hk
  have hm := st.mem.perm hp
  have hfe : feet (MF.osl v T sz E xs :: M.eraseIdx k) = v.ownBlock.toList ++ feet (M.eraseIdx k) := by simp [feet, MF.osl]
  let C' : Nat → Prop := fun b => C b ∨ v.ownBlock = some b
  have hpub : Pub w C w C' := fun b hb => ⟨.inl hb, rfl⟩
  have hvb : ∀ b, v.ownBlock = some b → b ∈ feet M := fun b hb => mem_feet.2 ⟨_, List.mem_of_getElem? hk, by simp [MF.osl, hb]⟩
  have hrest : ∀ b ∈ feet (M.eraseIdx k), v.ownBlock ≠ some b := fun b hb hv => by
    have := hm.nodup
    rw [hfe, List.nodup_append] at this
    exact this.2.2 b (by simp [hv]) b hb rfl
  refine ⟨C', ⟨st.size, st.defers, fun u R hu => R.mono hpub (st.slots u R hu), ⟨?_, ?_, ?_, ?_⟩, ⟨st.eff.size, st.eff.keep, ?_, st.eff.os, st.eff.tape, st.eff.output⟩, ?_⟩, (by omega), ?_⟩
  · exact fun G hG => G.loc hpub (fun _ _ => rfl) (st.mem.facts G (List.mem_of_mem_eraseIdx hG))
  · have := hm.nodup
    rw [hfe, List.nodup_append] at this
    exact this.2.1
  · intro b hb
    have h4 := hm.own b (by rw [hfe]; exact List.mem_append_right _ hb)
    exact ⟨h4.1, fun hc => hc.elim h4.2 (hrest b hb)⟩
  · intro b hb
    rcases hb with hb | hb
    · exact st.mem.wf b hb
    · exact (st.mem.own b (hvb b hb)).1
  · intro b hb hu
    refine ⟨fun hc => hc.elim (st.eff.cl b hb hu).1 (fun hv => ?_), fun hc => .inl ((st.eff.cl b hb hu).2 hc)⟩
    exact ((st.since b (hvb b hv)).elim hu (fun h => absurd hb (by omega))).elim
  · intro b hb
    obtain ⟨G, hG, hbG⟩ := mem_feet.1 hb
    exact st.since b (mem_feet.2 ⟨G, List.mem_of_mem_eraseIdx hG, hbG⟩)
  · rcases h1.2 with ⟨hv0, hn0⟩ | ⟨g, cap, cur, hv1, _, hg, hlc, _, hcs, htk⟩
    · exact .inl ⟨hv0, List.eq_nil_of_length_eq_zero hn0⟩
    · refine .inr ⟨⟨g, 0, none⟩, cap, hv1, hlc, .inr ⟨rfl, .inr (by rw [hv1]; rfl), cur, T, (0, 0), hg, ?_⟩⟩
      simp only [List.drop_zero]
      rw [flatMap_len hE, htk]
      exact h2.mono hpub

theorem feet_set {F F' : MF} (hf : F'.foot = F.foot) : ∀ (M : List MF) (k : Nat), M[k]? = some F → feet (M.set k F') = feet M
  | [], k, h => by simp at h
  | G :: M, 0, h => by
    simp at h; subst h; simp [feet, hf]
  | G :: M, k + 1, h => by
    have := feet_set hf M k (by simpa using h)
    simp only [List.set_cons_succ]
    simp only [feet, List.flatMap_cons] at this ⊢
    rw [this]

/-- One owned fact for another one about the same blocks. -/
theorem St.swap {a : Act} {w C} {F F' : MF} {k : Nat} (st : St B n S M a w C) (hk : M[k]? = some F) (hf : F'.foot = F.foot) (hF : F.p w C → F'.p w C) : St B n S (M.set k F') a w C := by
  have hfe := feet_set hf M k hk
  refine ⟨st.size, st.defers, st.slots, ⟨fun G hG => ?_, by rw [hfe]; exact st.mem.nodup, by rw [hfe]; exact st.mem.own, st.mem.wf⟩, st.eff, by rw [hfe]; exact st.since⟩
  rcases List.mem_or_eq_of_mem_set hG with hG | rfl
  · exact st.mem.facts G hG
  · exact hF (st.mem.facts F (List.mem_of_getElem? hk))

/-- A cell of a row is known better. -/
theorem row_better {w : World} {C : Nat → Prop} {r T m off : Nat} {Rs : List Rp} {R R' : Rp} (hR : Rs[off]? = some R) (hw : ∀ v, R.p w C v → R'.p w C v) (h : (MF.row r T m Rs).p w C) : (MF.row r T m (Rs.set off R')).p w C := by
  obtain ⟨cs, h1, h2, h3⟩ := h
  refine ⟨cs, h1, h2, ?_⟩
  simp only [List.length_set]
  obtain ⟨v, hv, hRv⟩ := h3.1.get off hR
  have := h3.1.set off (hw v hRv)
  refine ⟨?_, h3.2⟩
  have hset : ((cs.toList.take Rs.length).set off v) = cs.toList.take Rs.length := by
    apply List.ext_getElem?
    intro i
    rw [List.getElem?_set]
    split
    · rename_i hi; subst hi
      split
      · exact hv.symm
      · rename_i hge; rw [List.getElem?_eq_none (by omega)]
    · rfl
  rw [hset] at this
  exact this

theorem W.pubRow {α : Type} {c : Code} {v : Value} {T sz r T' m off : Nat} {E : α → List Rp} {xs : List α} {Rs : List Rp} (k j : Nat) (hk : M[k]? = some (MF.osl v T sz E xs)) (hj : (M.eraseIdx k)[j]? = some (MF.row r T' m Rs)) (hoff : Rs[off]? = some (Rp.val v)) (hE : ∀ x, (E x).length = sz)
    (h : W P B n S ((M.eraseIdx k).set j (MF.row r T' m (Rs.set off (Rp.slice E xs)))) c Q) : W P B n S M c Q := by
  intro a w C st
  obtain ⟨C', st', hv⟩ := st.pubV hk hE
  exact h a w C' (st'.swap hj rfl (row_better hoff fun u hu => by rw [show u = v from hu]; exact hv))
theorem L.pubRow {α : Type} {v : Value} {T sz r T' m off : Nat} {E : α → List Rp} {xs : List α} {Rs : List Rp} (k j : Nat) (hk : M[k]? = some (MF.osl v T sz E xs)) (hj : (M.eraseIdx k)[j]? = some (MF.row r T' m Rs)) (hoff : Rs[off]? = some (Rp.val v)) (hE : ∀ x, (E x).length = sz)
    (h : L P B n S ((M.eraseIdx k).set j (MF.row r T' m (Rs.set off (Rp.slice E xs)))) ops rest Q) : L P B n S M ops rest Q := by
  intro a w C st
  obtain ⟨C', st', hv⟩ := st.pubV hk hE
  exact h a w C' (st'.swap hj rfl (row_better hoff fun u hu => by rw [show u = v from hu]; exact hv))

theorem W.pubBox {α : Type} {c : Code} {v : Value} {T sz r T' off : Nat} {E : α → List Rp} {xs : List α} {Rs : List Rp} (k j : Nat) (hk : M[k]? = some (MF.osl v T sz E xs)) (hj : (M.eraseIdx k)[j]? = some (MF.box r T' Rs)) (hoff : Rs[off]? = some (Rp.val v)) (hE : ∀ x, (E x).length = sz)
    (h : W P B n S ((M.eraseIdx k).set j (MF.box r T' (Rs.set off (Rp.slice E xs)))) c Q) : W P B n S M c Q :=
  W.pubRow k j hk hj hoff hE (by unfold MF.box at h; rw [List.length_set] at h; exact h)
theorem L.pubBox {α : Type} {v : Value} {T sz r T' off : Nat} {E : α → List Rp} {xs : List α} {Rs : List Rp} (k j : Nat) (hk : M[k]? = some (MF.osl v T sz E xs)) (hj : (M.eraseIdx k)[j]? = some (MF.box r T' Rs)) (hoff : Rs[off]? = some (Rp.val v)) (hE : ∀ x, (E x).length = sz)
    (h : L P B n S ((M.eraseIdx k).set j (MF.box r T' (Rs.set off (Rp.slice E xs)))) ops rest Q) : L P B n S M ops rest Q :=
  L.pubRow k j hk hj hoff hE (by unfold MF.box at h; rw [List.length_set] at h; exact h)

/-- The value of an owned slice is of one cell. -/
theorem osl_one {α : Type} {v : Value} {T sz : Nat} {E : α → List Rp} {xs : List α} (w : World) (C : Nat → Prop) (h : (MF.osl v T sz E xs).p w C) : v.oneCell' = true := by
  obtain ⟨cs, h, _⟩ := h
  rcases h.2 with ⟨h, _⟩ | ⟨_, _, _, h, _⟩ <;> rw [h] <;> rfl
theorem L.factM {φ : Prop} {F : MF} (k : Nat) (hk : M[k]? = some F) (hφ : ∀ w C, F.p w C → φ) (h : φ → L P B n S M ops rest Q) : L P B n S M ops rest Q :=
  fun a w C st => h (hφ _ _ (st.mem.facts F (List.mem_of_getElem? hk))) a w C st

/-- A store into a variable. -/
theorem L.storeB {t : TypeId} {x y : Operand} {r off T k : Nat} {Rs : List Rp} {R : Rp} [ho : One R] (hg : o.guard = none) (hd : o.dst = none) (h : o.op = .store t x y) (hn : ∀ w, (sizeOf t).run P w = .ok 1 w)
    (hx : Get (look · S) x (Rp.ptr r off)) (hy : Get (look · S) y R) (hk : M[k]? = some (MF.box r T Rs)) (hoff : Nat.blt off Rs.length = true)
    (hL : L P B n S (M.set k (MF.box r T (Rs.set off R))) ops rest Q) : L P B n S M ops (o :: rest) Q :=
  L.store1 hg hd h hn hx hy hk hoff (by unfold MF.box at hL; rw [List.length_set] at hL; exact hL)
/-! A quotient of numbers that are not negative. -/
theorem spec_remP {T T' : TypeId} {k : IntKind} {x y : Operand} {m d : Int} (h : o.op = .binOp .rem T x y T') (hx : Get σ x (Rp.int k m)) (hy : Get σ y (Rp.int k d)) (hm : 0 ≤ m) (hd : 0 < d) : Spec P σ M o (.one (Rp.int k (m % d))) := by
  have := spec_rem (P := P) (M := M) h hx hy (by omega)
  rw [Int.tmod_eq_emod_of_nonneg hm] at this
  exact this

/-! Slices put together. -/
theorem zero_row {z : Array Value} {sz : Nat} (hz : z.size = sz) : ∀ len, ((Array.range (len * sz)).map (z[· % z.size]!)).toList = (List.replicate len z.toList).flatten := by
  intro len
  apply List.ext_getElem?
  intro i
  have hfl : ∀ (m j : Nat), ((List.replicate m z.toList).flatten)[j]? = if j < m * sz then z[j % sz]? else none := by
    intro m
    induction m with
    | zero => intro j; simp
    | succ m ih =>
      intro j
      rw [List.replicate_succ, List.flatten_cons]
      rcases Nat.lt_or_ge j sz with h | h
      · rw [List.getElem?_append_left (by simp [hz]; exact h), if_pos (by rw [Nat.add_mul]; omega), Nat.mod_eq_of_lt h]; simp
      · rw [List.getElem?_append_right (by simp [hz]; exact h), ih]
        simp only [Array.length_toList, hz]
        have h1 : (j - sz) % sz = j % sz := by
          have : j = (j - sz) + sz := by omega
          conv => rhs; rw [this, Nat.add_mod_right]
        rw [h1]
        congr 1
        rw [Nat.add_mul]
        apply propext
        constructor <;> intro <;> omega
  rw [hfl]
  simp only [Array.toList_map, Array.toList_range, List.getElem?_map]
  split
  · rename_i h
    rw [List.getElem?_range h]
    have hsz : 0 < sz := by
      rcases Nat.eq_zero_or_pos sz with h0 | h0
      · rw [h0] at h; simp at h
      · exact h0
    have hm : i % sz < z.size := by rw [hz]; exact Nat.mod_lt _ hsz
    simp only [Option.map_some, hz]
    rw [getElem!_pos z (i % sz) hm, Array.getElem?_eq_getElem hm]
  · rename_i h
    rw [List.getElem?_eq_none (by simp; omega)]; rfl

theorem AllR.rep {w C Zs} {cs : List Value} (h : AllR Zs w C cs) : ∀ len, AllR (List.replicate len Zs).flatten w C (List.replicate len cs).flatten
  | 0 => ⟨trivial, by simp⟩
  | len + 1 => by
    rw [List.replicate_succ, List.replicate_succ, List.flatten_cons, List.flatten_cons]
    exact h.append (AllR.rep h len)

theorem spec_buildSliceN {α : Type} {T e sz bytes len : Nat} {E : α → List Rp} {xs : List α} {ps : Array (Nat × Operand)} {z : Value} {Zs Rs : List Rp} (h : o.op = .buildSlice T len ps) (hu : P.underlying T = some (.slice e)) (hT : TI P e sz bytes z)
    (hz : ∀ w C, AllR Zs w C z.cells.toList) (hb : len * sz ≤ 16777216 ∧ 0 < len * sz) (hzl : Zs.length = sz) (hps : Parts σ (fun i => some (i * sz, sz)) ps.toList (List.replicate len Zs).flatten Rs) (hR : Rs = xs.flatMap E) (hl : xs.length = len) : Spec P σ M o (.one (Rp.slice E xs)) :=
  Spec.newPub fun a w C hs hm => by
    have hzs : z.cells.size = sz := by rw [← Array.length_toList, (hz w C).1.length, hzl]
    have hrow := zero_row (z := z.cells) hzs len
    obtain ⟨cells', h1, h2⟩ := fill_parts hs hps ((Array.range (len * sz)).map (z.cells[· % z.cells.size]!)) (by rw [hrow]; exact (hz w C).rep len)
    have hsz0 : 0 < sz := by
      rcases Nat.eq_zero_or_pos sz with h0 | h0
      · rw [h0] at hb; simp at hb
      · exact h0
    have hln : len ≤ 16777216 := Nat.le_trans (Nat.le_mul_of_pos_right len hsz0) hb.1
    refine ⟨.slice (some ⟨w.heap.size, 0, none⟩) len len, .cells cells' e, ?_, fun C' hC' => ⟨by omega, .inr ⟨⟨w.heap.size, 0, none⟩, len, by rw [hl], by omega, .inr ⟨rfl, (hC' _).2 (.inr rfl), _, _, _, new_at _ _, ?_⟩⟩⟩⟩
    · have h0 : ¬ (len * sz > 2 ^ 24) := by omega
      have h0' : ¬ (len * sz = 0) := by omega
      simp only [execOp, h, Instr.buildSlice, Sem.run_bind, run_underlying hu, Result.andThen_ok, hT.size, h0, if_false, h0', hT.zero, Sem.run_pure]
      simp only [Array.toList_map] at h1 ⊢
      simp only [h1]
      simp [newRow]
    · simp only [List.drop_zero]
      rw [← hR]
      exact allR_take (h2.mono (pub_of_new hm.wf hC'))

/-! nil and owned slices. -/
end

theorem upto {p : Nat → Prop} {i : Nat} (h : ∀ j, j < i → p j) (hi : p i) (j : Nat) (hj : j < i + 1) : p j :=
  (Nat.lt_succ_iff_lt_or_eq.1 hj).elim (h j) fun e => e ▸ hi

/-! Lists by their elements. -/
end Go.Sim
/- From a row's reading to a contract: every argument opened, and the statement's own end. -/
namespace Go.Sim
open Go.ChangeShapes Go.WideShapes

/-- What is there when the call begins. -/
def old (W : World) : Nat → Prop := fun b => b < W.heap.size

/-- The cells that the reading takes at type t are those of some datum. -/
def Opens (P : Program) (t : TypeId) {α : Type} (R : α → List Rp) : Prop :=
  ∀ {H : Type} (enc : TypeId × Value → H) (w : World) (fuel : Nat) (cs : List Value) (x : DataW H × List MemPlace),
    DataW.trod enc P w 0 (fun _ => true) true fuel t cs = some x → ∃ a, AllR (R a) w (old w) cs

section
variable {P : Program} {t : TypeId}

theorem Opens.int {k : IntKind} (ht : P.underlying t = some (.int k)) : Opens P t fun i : Int => [Rp.int k i] := by
  intro H enc w fuel cs x h
  obtain ⟨n, rfl, _, hw⟩ := DataW.trod_int ht h
  refine ⟨n, ⟨⟨rfl, ?_⟩, trivial⟩, by simp [Value.oneCell']⟩
  cases k <;> simp [Lit.wf, IntKind.min, IntKind.max, IntKind.signed, IntKind.bits] at hw <;> simp only [InR] <;> omega
theorem Opens.bool (ht : P.underlying t = some .bool) : Opens P t fun b : Bool => [Rp.bool b] := by
  intro H enc w fuel cs x h
  obtain ⟨n, rfl, _⟩ := DataW.trod_bool ht h
  exact ⟨n, ⟨rfl, trivial⟩, by simp [Value.oneCell']⟩
theorem Opens.str (ht : P.underlying t = some .string) : Opens P t fun l : List UInt8 => [Rp.str l] := by
  intro H enc w fuel cs x h
  obtain ⟨s, rfl, _, hs⟩ := DataW.trod_string ht h
  refine ⟨s.data.toList, ⟨⟨by cases s; simp, ?_⟩, trivial⟩, by simp [Value.oneCell']⟩
  have : s.data.toList.length = s.size := by cases s; simp [ByteArray.size]
  rw [this]; simpa [maxLen] using hs

theorem choose_list {α : Type} {p : Nat → α → Prop} : ∀ (n : Nat), (∀ i, i < n → ∃ a, p i a) → ∃ l : List α, l.length = n ∧ ∀ i a, l[i]? = some a → p i a
  | 0, _ => ⟨[], rfl, fun i a h => by simp at h⟩
  | n + 1, h => by
    obtain ⟨l, hl, hp⟩ := choose_list n fun i hi => h i (by omega)
    obtain ⟨a, ha⟩ := h n (by omega)
    refine ⟨l ++ [a], by simp [hl], fun i b hb => ?_⟩
    rw [List.getElem?_append] at hb
    split at hb
    · exact hp i b hb
    · rename_i hge
      have : i = l.length := by
        rcases Nat.lt_or_ge (i - l.length) 1 with h | h
        · omega
        · rw [List.getElem?_eq_none (by simpa using h)] at hb; cases hb
      subst this
      simp at hb; subst hb; rw [hl]; exact ha

/-- A row put together from its pieces. -/
theorem allR_pieces {α : Type} {R : α → List Rp} {c : Nat} (hR : ∀ a, (R a).length = c) {w : World} {C : Nat → Prop} : ∀ (l : List α) (cs : List Value), cs.length = l.length * c →
    (∀ i a, l[i]? = some a → AllR (R a) w C ((cs.drop (i * c)).take c)) → AllR (l.flatMap R) w C cs
  | [], cs, hl, _ => by
    have : cs = [] := List.eq_nil_of_length_eq_zero (by simpa using hl)
    subst this; exact ⟨trivial, by simp⟩
  | a :: l, cs, hl, h => by
    have h0 := h 0 a rfl
    rw [Nat.zero_mul, List.drop_zero] at h0
    have hr := allR_pieces hR l (cs.drop c) (by rw [List.length_drop, hl, List.length_cons, Nat.add_mul]; omega) fun i b hb => by
      have := h (i + 1) b (by simpa using hb)
      rw [List.drop_drop]
      rw [Nat.add_mul, Nat.one_mul] at this
      rw [Nat.add_comm c]; exact this
    have := h0.append hr
    rw [List.take_append_drop] at this
    exact this

theorem allR_cells {w : World} {a : Addr} {n : Nat} {cs : List Value} {C : Nat → Prop} {Rs : List Rp} (hc : w.cells? 0 a n = some cs) (_ : AllR Rs w C cs) (hn : 0 < n) :
    a.spot = none ∧ a.block < w.heap.size ∧ ∃ cells T fr, w.heap[a.block]? = some (.cells cells T fr) ∧ a.off + n ≤ cells.size ∧ (cells.toList.drop a.off).take n = cs := by
  obtain ⟨_, hl, hall⟩ := World.cells?_some hc
  have hb := World.cells?_block hc hn
  have h0 := hall 0 hn
  have hsome : ∀ i, i < n → ∃ v, cs[i]? = some v := fun i hi => ⟨cs[i]'(by omega), List.getElem?_eq_getElem (by omega)⟩
  obtain ⟨v0, hv0⟩ := hsome 0 hn
  rw [hv0] at h0
  unfold World.cell? at h0
  have hblk : (a.add 0).block = a.block := by unfold Addr.add; split <;> rfl
  rw [hblk] at h0
  split at h0
  · rename_i cells T fr hh
    have hspot : a.spot = none := by
      cases hs : a.spot with
      | none => rfl
      | some s =>
        rw [if_pos (by unfold Addr.add; split <;> simp_all)] at h0
        cases h0
    have hadd : ∀ i, a.add i = ⟨a.block, a.off + i, none⟩ := fun i => by unfold Addr.add; split <;> (cases a; simp_all)
    have hcell : ∀ i, i < n → cells[a.off + i]? = cs[i]? := fun i hi => by
      have := hall i hi
      rw [hadd] at this
      simpa [World.cell?, hh] using this
    refine ⟨hspot, hb, cells, T, fr, hh, ?_, ?_⟩
    · obtain ⟨v, hv⟩ := hsome (n - 1) (by omega)
      have h1 := hcell (n - 1) (by omega)
      rw [hv] at h1
      have := (Array.getElem?_eq_some_iff.1 h1).1
      omega
    · apply List.ext_getElem?
      intro i
      rw [List.getElem?_take]
      split
      · rename_i hi
        rw [List.getElem?_drop, Array.getElem?_toList]
        exact hcell i hi
      · rw [List.getElem?_eq_none (by omega)]
  · cases h0

theorem Opens.slice {α : Type} {e : TypeId} {E : α → List Rp} {c : Nat} (ht : P.underlying t = some (.slice e)) (hc : P.cellsOf e = c) (hpos : 0 < c) (hE : ∀ x, (E x).length = c) (he : Opens P e E) :
    Opens P t fun l : List α => [Rp.slice E l] := by
  intro H enc w fuel cs x h
  rcases Deep.open_slice ht h with ⟨rfl, _⟩ | ⟨a, len, cap, m, n, D, Pl, rfl, _, hl, hm, hmm, _, hx⟩
  · exact ⟨[], ⟨⟨by simp, .inl ⟨rfl, rfl⟩⟩, trivial⟩, by simp [Value.oneCell']⟩
  rw [hc] at hx
  have hlm : len ≤ m := by simp at hmm; omega
  have hgo : ∀ i, i < len → ∃ y, ∃ cs', w.cells? 0 (a.add (i * c)) c = some cs' ∧ AllR (E y) w (old w) cs' := fun i hi => by
    obtain ⟨cs', h1, h2⟩ := hx i (by omega)
    obtain ⟨y, hy⟩ := he enc w n cs' _ h2
    exact ⟨y, cs', h1, hy⟩
  obtain ⟨l, hll, hp⟩ := choose_list len hgo
  refine ⟨l, ⟨⟨by rw [hll]; simp [maxLen] at hm; omega, .inr ⟨a, cap, by rw [hll], by omega, ?_⟩⟩, trivial⟩, by simp [Value.oneCell']⟩
  rcases l with _ | ⟨y0, l'⟩
  · exact .inl rfl
  refine .inr ?_
  obtain ⟨cs0, h1, h2⟩ := hp 0 y0 rfl
  have hadd0 : a.add (0 * c) = a := by simp [Addr.add]
  rw [hadd0] at h1
  obtain ⟨hsp, hb, cells, T, fr, hh, _, _⟩ := allR_cells h1 h2 hpos
  refine ⟨hsp, hb, cells, T, fr, hh, ?_⟩
  rw [flatMap_len hE]
  have hpiece : ∀ i y, (y0 :: l')[i]? = some y → a.off + i * c + c ≤ cells.size ∧ ∃ cs', (cells.toList.drop (a.off + i * c)).take c = cs' ∧ AllR (E y) w (old w) cs' := fun i y hy => by
    obtain ⟨cs', h3, h4⟩ := hp i y hy
    have hadd : a.add (i * c) = ⟨a.block, a.off + i * c, none⟩ := by unfold Addr.add; split <;> (cases a; simp_all)
    rw [hadd] at h3
    obtain ⟨_, _, cells2, T2, fr2, hh2, hle, htk⟩ := allR_cells h3 h4 hpos
    simp only at hh2 hle htk
    rw [hh] at hh2
    obtain ⟨rfl, rfl, rfl⟩ : cells = cells2 ∧ T = T2 ∧ fr = fr2 := by cases hh2; exact ⟨rfl, rfl, rfl⟩
    exact ⟨hle, cs', htk, h4⟩
  refine allR_pieces hE _ _ ?_ ?_
  · have hlast := (hpiece ((y0 :: l').length - 1) ((y0 :: l')[(y0 :: l').length - 1]'(by simp)) (List.getElem?_eq_getElem _)).1
    have : ((y0 :: l').length - 1) * c + c = (y0 :: l').length * c := by
      rw [← Nat.succ_mul]; simp
    have hcl : cells.toList.length = cells.size := Array.length_toList
    rw [List.length_take, List.length_drop]
    omega
  · intro i y hy
    obtain ⟨_, cs', htk, h4⟩ := hpiece i y hy
    have hi : i < (y0 :: l').length := (List.getElem?_eq_some_iff.1 hy).1
    rw [List.drop_take, List.take_take, List.drop_drop]
    have : min c ((y0 :: l').length * c - i * c) = c := by
      have : (i + 1) * c ≤ (y0 :: l').length * c := Nat.mul_le_mul_right _ hi
      rw [Nat.add_mul] at this
      omega
    rw [this, htk]
    exact h4

/-- The fields of a struct. -/
inductive Flds (P : Program) : List Field → Nat → {α : Type} → (α → List Rp) → Prop
  | nil {k : Nat} : Flds P [] k (fun _ : Unit => [])
  | cons {f : Field} {fs : List Field} {k c : Nat} {α β : Type} {R : α → List Rp} {Rs : β → List Rp} (ho : f.offset = k) (hc : P.cellsOf f.type = c) (h : Opens P f.type R) (hs : Flds P fs (k + c) Rs) :
      Flds P (f :: fs) k (fun g : α × β => R g.1 ++ Rs g.2)

theorem Flds.opens {H : Type} {enc : TypeId × Value → H} {w : World} {n : Nat} {cs : List Value} {fs : List Field} {k : Nat} {α : Type} {R : α → List Rp} (h : Flds P fs k R) :
    (∀ (i : Nat) (f : Field), fs[i]? = some f → ∃ x, DataW.trod enc P w 0 (fun _ => true) true n f.type ((cs.drop f.offset).take (P.cellsOf f.type)) = some x) → cs.length = k + (fs.map fun f => P.cellsOf f.type).sum →
    ∃ a, AllR (R a) w (old w) (cs.drop k) := by
  induction h with
  | nil =>
    intro _ hl
    refine ⟨(), ?_⟩
    rw [List.drop_of_length_le (by simp at hl; omega)]
    exact ⟨trivial, by simp⟩
  | cons ho hc h hs ih =>
    intro hx hl
    obtain ⟨x, h0⟩ := hx 0 _ rfl
    obtain ⟨a, ha⟩ := h enc w n _ x h0
    obtain ⟨b, hb⟩ := ih (fun i f' hf => hx (i + 1) f' (by simpa using hf)) (by rw [hl, List.map_cons, List.sum_cons, hc]; omega)
    refine ⟨(a, b), ?_⟩
    rw [ho, hc] at ha
    have := ha.append hb
    rw [← List.drop_drop, List.take_append_drop] at this
    exact this

theorem Opens.struct {α : Type} {R : α → List Rp} {fs : Array Field} {l : List Field} (ht : P.underlying t = some (.struct fs)) (hl : fs.toList = l) (hf : Flds P l 0 R) (hc : P.cellsOf t = (l.map fun f => P.cellsOf f.type).sum) : Opens P t R := by
  intro H enc w fuel cs x h
  obtain ⟨xs, n, _, _, hlen, hxl, hx⟩ := DataW.trod_struct ht h
  have := hf.opens (enc := enc) (w := w) (n := n) (cs := cs) (fun i f hi => by
    have hfi : fs[i]? = some f := by rw [← hl] at hi; simpa using hi
    have hlt : i < xs.length := by rw [hxl]; exact (Array.getElem?_eq_some_iff.1 hfi).1
    exact ⟨xs[i], by rw [hx i f hfi, List.getElem?_eq_getElem hlt]⟩) (by rw [hlen, hc]; omega)
  simpa using this

theorem Opens.array {α : Type} {E : α → List Rp} {n c : Nat} {e : TypeId} (ht : P.underlying t = some (.array n e)) (hc : P.cellsOf e = c) (hct : P.cellsOf t = n * c) (hE : ∀ x, (E x).length = c) (he : Opens P e E) :
    Opens P t fun l : {l : List α // l.length = n} => l.1.flatMap E := by
  intro H enc w fuel cs x h
  obtain ⟨xs, m, _, _, hlen, hxl, hx⟩ := DataW.trod_array ht h
  have hgo : ∀ i, i < n → ∃ y, AllR (E y) w (old w) ((cs.drop (i * c)).take c) := fun i hi => by
    have := hx i hi
    rw [List.getElem?_eq_getElem (by omega), hc] at this
    exact he enc w m _ _ this
  obtain ⟨l, hll, hp⟩ := choose_list n hgo
  exact ⟨⟨l, hll⟩, allR_pieces hE l cs (by rw [hlen, hct, hll]) hp⟩

/-- A datum of another name. -/
theorem Opens.map {α β : Type} {R : α → List Rp} {T : β → List Rp} (h : Opens P t R) (hg : ∀ a, ∃ b, T b = R a) : Opens P t T := by
  intro H enc w fuel cs x hx
  obtain ⟨a, ha⟩ := h enc w fuel cs x hx
  obtain ⟨b, hb⟩ := hg a
  exact ⟨b, hb ▸ ha⟩

/-- An argument of the type. -/
def OpensV (P : Program) (t : TypeId) {α : Type} (R : α → Rp) : Prop :=
  ∀ {H : Type} (enc : TypeId × Value → H) (w : World) (b : Nat) (v : Value) (d : DataW H) (ps : List MemPlace), Value.okWide P w .any b t v → DataW.Trod enc P w 0 (fun _ => true) true t v d ps → ∃ a, (R a).p w (old w) v

theorem OpensV.one {α : Type} {R : α → Rp} (h : Opens P t fun a => [R a]) (hv : ∀ w b v, Value.okWide P w .any b t v → v.cells = #[v]) : OpensV P t R := by
  intro H enc w b v d ps hok ⟨n, hn⟩
  obtain ⟨a, ha, _⟩ := h enc w n _ _ hn
  rw [hv w b v hok] at ha
  exact ⟨a, ha.1⟩
theorem OpensV.agg {α : Type} {R : α → List Rp} (h : Opens P t R) (hv : ∀ w b v, Value.okWide P w .any b t v → ∃ cs, v = .agg cs) : OpensV P t fun a => Rp.agg (R a) := by
  intro H enc w b v d ps hok ⟨n, hn⟩
  obtain ⟨a, ha⟩ := h enc w n _ _ hn
  obtain ⟨cs, rfl⟩ := hv w b v hok
  exact ⟨a, cs.toList, by simp, by simpa [Value.cells] using ha⟩
theorem cells_int {k : IntKind} (ht : P.underlying t = some (.int k)) (w : World) (b : Nat) (v : Value) (h : Value.okWide P w .any b t v) : v.cells = #[v] := by obtain ⟨n, rfl⟩ := okWide_int ht h; rfl
theorem cells_str (ht : P.underlying t = some .string) (w : World) (b : Nat) (v : Value) (h : Value.okWide P w .any b t v) : v.cells = #[v] := by obtain ⟨n, rfl⟩ := okWide_string ht h; rfl
/-- All arguments. -/
def OpensA (P : Program) (ts : List TypeId) {κ : Type} (A : κ → List Rp) : Prop :=
  ∀ {H : Type} (enc : TypeId × Value → H) (w : World) (b : Nat) (vs : List Value) (ds : List (DataW H)) (ps : List MemPlace), (∀ (j : Nat) t v, ts[j]? = some t → vs[j]? = some v → Value.okWide P w .any b t v) → DataW.TrodAll enc P w 0 (fun _ => true) true ts vs ds ps →
    ds.length = ts.length ∧ ∃ k, AllP (A k) w (old w) vs
theorem OpensA.nil : OpensA P [] fun _ : Unit => [] := by
  intro H enc w b vs ds ps _ h
  obtain ⟨rfl, rfl, rfl⟩ := trodAll_nil h
  exact ⟨rfl, (), trivial⟩
theorem OpensA.cons {α κ : Type} {ts : List TypeId} {R : α → Rp} {A : κ → List Rp} (h : OpensV P t R) (hs : OpensA P ts A) : OpensA P (t :: ts) fun k : α × κ => R k.1 :: A k.2 := by
  intro H enc w bs vs ds ps hok h0
  obtain ⟨v, vs, d, ds, a, b, rfl, rfl, rfl, h1, h2⟩ := trodAll_cons h0
  obtain ⟨x, hx⟩ := h enc w bs v d a (hok 0 t v rfl rfl) h1
  obtain ⟨hl, k, hk⟩ := hs enc w bs vs ds b (fun j t' v' ht hv => hok (j + 1) t' v' (by simpa using ht) (by simpa using hv)) h2
  exact ⟨by simp [hl], ⟨x, k⟩, hx, hk⟩

/-- What only grew below. -/
theorem trodAll_grown {H : Type} {enc : TypeId × Value → H} (hl : laidOutB P = true) {W W' : World} (hb : ∀ p : MemPlace, p.block < W.heap.size → W.sameAt W' p) {sp : Nat → Bool} :
    ∀ {ts : List TypeId} {vs : List Value} {ds : List (DataW H)} {ps : List MemPlace}, (∀ t ∈ ts, P.readableRec t = true ∧ t < P.types.size) → DataW.TrodAll enc P W 0 (fun _ => true) true ts vs ds ps → (∀ p ∈ ps, p.block < W.heap.size) → (∀ p ∈ ps, sp p.block = true) →
      DataW.TrodAll enc P W' 0 sp true ts vs ds ps
  | [], vs, ds, ps, _, h, _, _ => by
    obtain ⟨rfl, rfl, rfl⟩ := trodAll_nil h
    exact rfl
  | t :: ts, vs, ds, ps, hr, h, hlt, hsp => by
    obtain ⟨v, vs, d, ds, a, b, rfl, rfl, rfl, h1, h2⟩ := trodAll_cons h
    refine ⟨a, b, WideElems.Trod_stays hl (hr t (by simp)).1 (hr t (by simp)).2 h1 (fun p hp => hb p (hlt p (by simp [hp]))) (fun p hp => hsp p (by simp [hp])), ?_, rfl⟩
    exact trodAll_grown hl hb (fun t ht => hr t (by simp [ht])) h2 (fun p hp => hlt p (by simp [hp])) (fun p hp => hsp p (by simp [hp]))

end
end Go.Sim
/- Structs compared, maps of the call's own. -/
namespace Go.Sim

section
variable {P : Program}

/-- Values of one cell that can be compared: an integer, a Bool, a string. -/
inductive Plain : TypeDesc → Value → Value → Bool → Prop
  | int {k k' : IntKind} {a b : Int} : Plain (.int k') (.int k a) (.int k b) (a == b)
  | bool {a b : Bool} : Plain .bool (.bool a) (.bool b) (a == b)
  | str {a b : ByteArray} : Plain .string (.string a) (.string b) (a == b)
theorem equalIn_plain {d : Nat} {t : TypeId} {D : TypeDesc} {x y : Value} {b : Bool} {w : World} (hu : P.underlying t = some D) (h : Plain D x y b) : (Op.equalIn (d + 1) t x y).run P w = .ok b w := by
  cases h <;> simp [Op.equalIn, run_underlying hu]

/-- The fields of a struct, compared one after the other. -/
inductive PlainF (P : Program) : List Field → List Value → List Value → List Bool → Nat → Prop
  | nil {xs ys : List Value} {k : Nat} : PlainF P [] xs ys [] k
  | cons {f : Field} {fs : List Field} {x y : Value} {xs ys : List Value} {b : Bool} {bs : List Bool} {k : Nat} {D : TypeDesc} (hn : f.name ≠ "_") (ho : f.offset = k) (hu : P.underlying f.type = some D) (ha : ∀ w, (isAgg f.type).run P w = .ok false w)
      (h : Plain D x y b) (hs : PlainF P fs xs ys bs (k + 1)) : PlainF P (f :: fs) (x :: xs) (y :: ys) (b :: bs) k

theorem run_part {t : TypeId} {cs : Array Value} {k : Nat} {v : Value} {w : World} (ha : ∀ w, (isAgg t).run P w = .ok false w) (h : cs[k]? = some v) : (part t cs k).run P w = .ok v w := by
  simp [part, ha, h]

theorem run_fields {d : Nat} {X Y : Array Value} {w : World} : ∀ {fs : List Field} {xs ys : List Value} {bs : List Bool} {k : Nat}, PlainF P fs xs ys bs k → X.toList.drop k = xs → Y.toList.drop k = ys →
    (forIn (m := Sem) fs ((none : Option Bool), ()) fun f __s =>
      if f.name = "_" then pure (ForInStep.yield (none, ()))
      else do
        let a ← part f.type X f.offset
        let b ← part f.type Y f.offset
        let c ← Op.equalIn (d + 1) f.type a b
        if c = false then pure (ForInStep.done (some false, ())) else pure (ForInStep.yield (none, ()))).run P w = .ok (if bs.all id then (none, ()) else (some false, ())) w
  | [], _, _, _, _, .nil, _, _ => by simp
  | f :: fs, x :: xs, y :: ys, b :: bs, k, .cons hn ho hu ha h hs, hX, hY => by
    have hx : X[k]? = some x := by
      have := congrArg (fun l => l[0]?) hX
      simpa using this
    have hy : Y[k]? = some y := by
      have := congrArg (fun l => l[0]?) hY
      simpa using this
    have hX' : X.toList.drop (k + 1) = xs := by rw [← List.drop_drop, hX]; rfl
    have hY' : Y.toList.drop (k + 1) = ys := by rw [← List.drop_drop, hY]; rfl
    have ih := run_fields (d := d) (X := X) (Y := Y) (w := w) hs hX' hY'
    rw [List.forIn_cons]
    subst ho
    simp only [hn, if_false, Sem.run_bind, run_part ha hx, run_part ha hy, Result.andThen_ok, equalIn_plain hu h]
    cases b with
    | false => simp
    | true => simpa using ih
theorem equalIn_struct {T : TypeId} {d : Nat} {fs : Array Field} {xs ys : List Value} {bs : List Bool} {w : World} (hu : P.underlying T = some (.struct fs)) (hst : P.stoodInHeld T = false) (hp : PlainF P fs.toList xs ys bs 0) :
    (Op.equalIn (d + 2) T (.agg xs.toArray) (.agg ys.toArray)).run P w = .ok (bs.all id) w := by
  have h := run_fields (d := d) (X := xs.toArray) (Y := ys.toArray) (w := w) hp (by simp) (by simp)
  rw [Array.forIn_toList] at h
  have e : d + 2 = (d + 1) + 1 := rfl
  rw [e]
  generalize d + 1 = n at h
  simp [Op.equalIn, run_underlying hu, hst, h]
  cases hb : bs.all id <;> simp_all

/-- Kinds of plain cells. -/
inductive Kd
  | int
  | bool
  | str
def Kd.ok : Kd → TypeDesc → Prop
  | .int, .int _ => True
  | .bool, .bool => True
  | .str, .string => True
  | _, _ => False

/-- Two rows of plain values and whether they are equal, cell by cell. -/
inductive EqR : List Kd → List Rp → List Rp → List Bool → Prop
  | nil : EqR [] [] [] []
  | int {k : IntKind} {a b : Int} {ks : List Kd} {Rs Ss : List Rp} {bs : List Bool} (h : EqR ks Rs Ss bs) : EqR (.int :: ks) (Rp.int k a :: Rs) (Rp.int k b :: Ss) (decide (a = b) :: bs)
  | bool {a b : Bool} {ks : List Kd} {Rs Ss : List Rp} {bs : List Bool} (h : EqR ks Rs Ss bs) : EqR (.bool :: ks) (Rp.bool a :: Rs) (Rp.bool b :: Ss) ((a == b) :: bs)
  | str {a b : List UInt8} {ks : List Kd} {Rs Ss : List Rp} {bs : List Bool} (h : EqR ks Rs Ss bs) : EqR (.str :: ks) (Rp.str a :: Rs) (Rp.str b :: Ss) (decide (a = b) :: bs)

/-- The fields of a type of one-cell fields. -/
inductive FldP (P : Program) : List Field → List Kd → Nat → Prop
  | nil {k : Nat} : FldP P [] [] k
  | cons {f : Field} {fs : List Field} {D : TypeDesc} {d : Kd} {ks : List Kd} {k : Nat} (hn : f.name ≠ "_") (ho : f.offset = k) (hu : P.underlying f.type = some D) (hd : d.ok D) (ha : ∀ w, (isAgg f.type).run P w = .ok false w) (hs : FldP P fs ks (k + 1)) : FldP P (f :: fs) (d :: ks) k

theorem Kd.ok_int {D : TypeDesc} (h : Kd.ok .int D) : ∃ k, D = .int k := by cases D <;> simp_all [Kd.ok]
theorem Kd.ok_bool {D : TypeDesc} (h : Kd.ok .bool D) : D = .bool := by cases D <;> simp_all [Kd.ok]
theorem Kd.ok_str {D : TypeDesc} (h : Kd.ok .str D) : D = .string := by cases D <;> simp_all [Kd.ok]
theorem plainF_of {ks : List Kd} {Rs Ss : List Rp} {bs : List Bool} {w : World} {C : Nat → Prop} (he : EqR ks Rs Ss bs) : ∀ {fs : List Field} {k : Nat} {xs ys : List Value}, FldP P fs ks k → AllP Rs w C xs → AllP Ss w C ys → PlainF P fs xs ys bs k := by
  induction he with
  | nil => intro fs k xs ys hf _ _; cases hf; exact .nil
  | @int q a b ks Rs Ss bs h ih =>
    intro fs k xs ys hf hx hy
    cases hf with
    | cons hn ho hu hd ha hs =>
      match xs, ys, hx, hy with
      | x :: xs, y :: ys, hx, hy =>
        obtain ⟨k', rfl⟩ := Kd.ok_int hd
        obtain ⟨rfl, _⟩ := hx.1
        obtain ⟨rfl, _⟩ := hy.1
        exact .cons hn ho hu ha .int (ih hs hx.2 hy.2)
  | @bool a b ks Rs Ss bs h ih =>
    intro fs k xs ys hf hx hy
    cases hf with
    | cons hn ho hu hd ha hs =>
      match xs, ys, hx, hy with
      | x :: xs, y :: ys, hx, hy =>
        have := Kd.ok_bool hd
        subst this
        obtain rfl : x = .bool a := hx.1
        obtain rfl : y = .bool b := hy.1
        exact .cons hn ho hu ha .bool (ih hs hx.2 hy.2)
  | @str a b ks Rs Ss bs h ih =>
    intro fs k xs ys hf hx hy
    cases hf with
    | cons hn ho hu hd ha hs =>
      match xs, ys, hx, hy with
      | x :: xs, y :: ys, hx, hy =>
        have := Kd.ok_str hd
        subst this
        obtain ⟨rfl, _⟩ := hx.1
        obtain ⟨rfl, _⟩ := hy.1
        have e : decide (a = b) = ((⟨a.toArray⟩ : ByteArray) == ⟨b.toArray⟩) := by
          rw [Bool.eq_iff_iff, decide_eq_true_eq]
          show a = b ↔ (a.toArray == b.toArray) = true
          simp
        rw [e]
        exact .cons hn ho hu ha .str (ih hs hx.2 hy.2)

variable {σ : Nat → Option Rp} {M : List MF} {o : Oper}
theorem equal_struct {T : TypeId} {fs : Array Field} {ks : List Kd} {Rs Ss : List Rp} {bs : List Bool} {w w' : World} {C : Nat → Prop} {xs ys : List Value} (hu : P.underlying T = some (.struct fs)) (hst : P.stoodInHeld T = false) (hf : FldP P fs.toList ks 0)
    (he : EqR ks Rs Ss bs) (hx : AllP Rs w' C xs) (hy : AllP Ss w' C ys) : (Op.equal T (.agg xs.toArray) (.agg ys.toArray)).run P w = .ok (bs.all id) w :=
  equalIn_struct (d := 9998) hu hst (plainF_of he hf hx hy)
theorem eqGuard_agg {op : BinOp} {T : TypeId} {x y : Operand} {a b : Array Value} {w : World} (hg : P.eqGuardType P.depth T = false) : (eqGuard op T x y (.agg a) (.agg b)).run P w = .ok () w := by
  unfold eqGuard; split <;> simp [hg]
theorem spec_neqA {T T' : TypeId} {x y : Operand} {fs : Array Field} {ks : List Kd} {Rs Ss : List Rp} {bs : List Bool} (h : o.op = .binOp .neq T x y T') (hu : P.underlying T = some (.struct fs)) (hst : P.stoodInHeld T = false) (hg : P.eqGuardType P.depth T = false) (hf : FldP P fs.toList ks 0)
    (he : EqR ks Rs Ss bs) (hx : Get σ x (Rp.agg Rs)) (hy : Get σ y (Rp.agg Ss)) : Spec P σ M o (.one (Rp.bool (!bs.all id))) :=
  Spec.of_run fun a w C hs _ => by
    obtain ⟨xs, hvx, hxs⟩ := hx a w C hs
    obtain ⟨ys, hvy, hys⟩ := hy a w C hs
    refine ⟨.bool (!bs.all id), ?_, rfl⟩
    have he := equal_struct (w := w) hu hst hf he hxs.1 hys.1
    simp only [execOp, h, hvx, hvy, Sem.run_bind, binOp, eqGuard_agg hg, Result.andThen_ok, he, Sem.run_pure]
end
end Go.Sim
/- Maps of the call's own. -/
namespace Go.Sim

section
variable {P : Program} {B : Base} {n : Nat} {S : List (Nat × Rp)} {M : List MF} {Q : Exit → Act → World → Prop} {ops : Array Oper} {rest : List Oper} {o : Oper} {σ : Nat → Option Rp}

/-! Association lists. -/
variable {κ ν : Type} [DecidableEq κ]
def mfind (k : κ) : List (κ × ν) → Nat → Option (Nat × ν)
  | [], _ => none
  | (k', v) :: l, i => if k = k' then some (i, v) else mfind k l (i + 1)
/-- A type of keys: how its values are found. -/
structure KeyT (P : Program) (K : TypeId) (kv : κ → Value) : Prop where
  find : ∀ {ν : Type} (vv : ν → Value) (w : World) (k : κ) (es : List MapEntry) (l : List (κ × ν)), es.map (fun e => (e.key, e.val)) = l.map (fun x => (kv x.1, vv x.2)) →
    (Instr.findKey K (kv k) es).run P w = .ok ((mfind k l 0).map fun x => (x.1, vv x.2)) w
  check : ∀ (w : World) (k : κ) (b : Bool), (Instr.checkKey b 10000 K (kv k)).run P w = .ok () w
  stays : ∀ k : κ, Instr.sameBits 10000 (kv k) (kv k) = true

/-- A map that the call owns. -/
def MF.map (r : Nat) (kv : κ → Value) (vv : ν → Value) (l : List (κ × ν)) : MF where
  foot := [r]
  p w _ := ∃ es clock, w.heap[r]? = some (.map es clock) ∧ es.toList.map (fun e => (e.key, e.val)) = l.map fun x => (kv x.1, vv x.2)
  loc _ hf := fun ⟨es, clock, h1, h2⟩ => ⟨es, clock, (hf r (by simp)).trans h1, h2⟩

omit [DecidableEq κ] in
def RA.map (kv : κ → Value) (vv : ν → Value) : RA := ⟨Nat, fun r => Rp.val (.map (some r)), fun r => [MF.map r kv vv []]⟩
omit [DecidableEq κ] in
end
end Go.Sim
/- A region whose order is open, operation by operation: one that reads only what nobody changes may be taken first; the others are taken when they are the only ones that may come. -/
namespace Go.Sim

/-- What is published, or stays as it is, is as it was. -/
def Stab (w : World) (C : Nat → Prop) (Ms : List MF) (w' : World) : Prop := w.heap.size ≤ w'.heap.size ∧ ∀ b, (C b ∨ b ∈ feet Ms) → w'.heap[b]? = w.heap[b]?

theorem Stab.refl (w C Ms) : Stab w C Ms w := ⟨Nat.le_refl _, fun _ _ => rfl⟩
theorem Stab.pub {w C Ms w'} (h : Stab w C Ms w') : Pub w C w' C := fun b hb => ⟨hb, h.2 b (.inl hb)⟩
section
variable {P : Program} {B : Base} {n : Nat} {S : List (Nat × Rp)} {M Ms : List MF} {Q : Exit → Act → World → Prop} {l : List Oper}

def Qn (Q : Exit → Act → World → Prop) : Exit → Act → World → Prop := fun e a w => e = .normal ∧ Q e a w
def listedOf (n : Nat) (done : List Nat) : Array Bool := done.foldr (fun i acc => acc.setIfInBounds i true) (Array.replicate n false)

theorem wp_monoQ' {o : Oper} {a : Act} {w : World} {K K' : Act → World → Prop} {Q' : Exit → Act → World → Prop} (h : ∀ a w, K a w → K' a w) (hq : ∀ e a w, e ≠ .normal → Q e a w → Q' e a w)
    (hh : o.wp P a w K Q) : o.wp P a w K' Q' := by
  have hout : LetsOut Q → LetsOut Q' := fun ⟨a, w, h⟩ => ⟨a, w, hq _ _ _ (by simp) h⟩
  unfold Oper.wp at *
  generalize (execOp a.eval o).run P w = r at *
  cases r with
  | ok n w' =>
    cases n <;> simp only [Oper.upon] at hh ⊢ <;>
      first
        | exact h _ _ hh
        | exact Calls.mono hh (fun e w'' he => by cases e <;> first | exact h _ _ he | exact hq _ _ _ (by simp) he | exact hout he)
        | exact Rows.mono hh (fun _ _ he => h _ _ he)
  | halt x w' => cases x <;> simp only [Oper.upon] at hh ⊢ <;> exact hq _ _ _ (by simp) hh

theorem wpOp_monoQ {ops : Array Oper} {i : Nat} {a : Act} {w : World} {K K' : Act → World → Prop} {Q' : Exit → Act → World → Prop} (h : ∀ a w, K a w → K' a w) (hq : ∀ e a w, e ≠ .normal → Q e a w → Q' e a w)
    (hh : wpOp P ops Q i K a w) : wpOp P ops Q' i K' a w := by
  unfold wpOp at *
  split at hh
  · exact h _ _ hh
  · split at hh
    · rename_i hw; rw [if_pos hw]
      exact hh.imp (wp_monoQ' h hq) fun ⟨x, ⟨a', w', h'⟩⟩ => ⟨x, a', w', hq _ _ _ (by simp) h'⟩
    · rename_i hw; rw [if_neg hw]; exact h _ _ hh

theorem wpAnyH_mono {ops : Array Oper} {Q' : Exit → Act → World → Prop} {X X' : World → Prop} (hX : ∀ w, X w → X' w) (hq : ∀ e a w, Q e a w → Q' e a w) : ∀ (f : Nat) (listed : Array Bool) (a : Act) (w : World), wpAnyH P .any ops Q X f listed a w → wpAnyH P .any ops Q' X' f listed a w
  | 0, _, _, _, h => ⟨h.1, hq _ _ _ h.2⟩
  | f + 1, _, _, _, h => ⟨fun e => hq _ _ _ (h.1 e), fun i hi => wpOp_monoQ (fun _ _ hh => ⟨hX _ hh.1, wpAnyH_mono hX hq f _ _ _ hh.2⟩) (fun e a w _ hh => hq e a w hh) (h.2 i hi)⟩

/-- What is left of a region, where `done` is done. -/
def AH (P : Program) (B : Base) (n : Nat) (l : List Oper) (Q : Exit → Act → World → Prop) (Ms : List MF) (done : List Nat) (S : List (Nat × Rp)) (M : List MF) : Prop :=
  ∀ a w C, St B n S (M ++ Ms) a w C → ∀ X : World → Prop, (∀ w', Stab w C Ms w' → X w') → wpAnyH P .any l.toArray (Qn Q) X (l.length - done.length) (listedOf l.length done) a w

theorem AH.done {done : List Nat} (hr : Region.ready .any l.toArray (listedOf l.length done) = []) (h : N B n S (M ++ Ms) .normal Q) : AH P B n l Q Ms done S M :=
  fun a w C st _ _ => wpAnyH_done hr ⟨rfl, h a w C st⟩ _

/-- A value that an operation yields in every world in which what it reads is as it was. -/
def QSpec (P : Program) (ops : Array Oper) (σ : Nat → Option Rp) (Ms : List MF) (o : Oper) (R : Rp) : Prop :=
  ∀ a w C, SlotsOk σ a w C → MOk Ms w C → ∃ v, R.p w C v ∧
    ((Region.wanted o (yielded ops a.tmps) = true ∧ ∀ w', Stab w C Ms w' → (execOp a.eval o).run P w' = .ok (.value v) w') ∨ (Region.wanted o (yielded ops a.tmps) = false ∧ v = undef))

theorem St.right {a : Act} {w : World} {C : Nat → Prop} (st : St B n S (M ++ Ms) a w C) : MOk Ms w C := (st.mem.perm List.perm_append_comm).left

theorem AH.first {done : List Nat} {o : Oper} {R : Rp} {d : Nat} (i : Nat) (hi : l[i]? = some o) (hns : Region.noSelect l.toArray = true) (hf : Region.free .any l.toArray (listedOf l.length done) i = true)
    (hr : (Region.ready .any l.toArray (listedOf l.length done)).contains i = true) (hlen : Nat.blt done.length l.length = true) (hd : o.dst = some d) (hlt : Nat.blt d n = true)
    (hs : QSpec P l.toArray (look · S) Ms o R) (h : AH P B n l Q Ms (i :: done) ((d, R) :: S) M) : AH P B n l Q Ms done S M := by
  intro a w C st X hX
  obtain ⟨v, hv, hy⟩ := hs a w C st.slots st.right
  have hlen' : done.length < l.length := by simpa [Nat.blt_eq] using hlen
  have hlt' : d < n := by simpa [Nat.blt_eq] using hlt
  have e : l.length - done.length = l.length - (i :: done).length + 1 := by simp; omega
  rw [e]
  have hi' : l.toArray[i]? = some o := by simpa using hi
  refine wpAnyH_mono (X := fun w' => X w' ∧ Stab w C Ms w') (Q := Qn Q) (fun _ h => h.1) (fun _ _ _ h => h) _ _ _ _ ?_
  refine wpAnyH_first hi' (Region.noSelect_spec hns) (fun c a w h => by cases h.1) _ _ a w (Region.free_spec hi' hf) (by simpa using hr) (v := v) ?_ ⟨hX _ (Stab.refl ..), Stab.refl ..⟩ ?_
  · exact hy.imp (fun ⟨h1, h2⟩ => ⟨h1, fun w' hw' => h2 w' hw'.2⟩) id
  · refine h _ w C ?_ _ (fun w' hw' => ⟨hX _ hw', hw'⟩)
    have st' := st.step (R := R) (v := v) (F := []) (dst := some d) (fun d' hd' => by cases hd'; exact hlt') (Eff.refl _ _ _) st.mem.wf hv MNew.nil
    rw [hd]; exact st'

theorem St.rebase {a : Act} {w : World} {C : Nat → Prop} (st : St B n S (M ++ Ms) a w C) : St ⟨w, C, feet M⟩ n S M a w C :=
  ⟨st.size, st.defers, st.slots, st.mem.left, Eff.refl _ _ _, fun _ hb => .inl hb⟩
theorem St.debase {S' : List (Nat × Rp)} {M' : List MF} {a a' : Act} {w w' : World} {C C' : Nat → Prop} (st : St B n S (M ++ Ms) a w C) (st' : St ⟨w, C, feet M⟩ n S' M' a' w' C') : St B n S' (M' ++ Ms) a' w' C' := by
  have hFM : ∀ b ∈ feet M, b ∈ feet (M ++ Ms) := fun b hb => by rw [feet_append]; exact List.mem_append_left _ hb
  refine ⟨st'.size, st'.defers, st'.slots, st.mem.frame st'.eff st'.mem st'.since, st.eff.trans st'.eff (fun b hb => st.since b (hFM b hb)), fun b hb => ?_⟩
  rw [feet_append] at hb
  rcases List.mem_append.1 hb with hb | hb
  · rcases st'.since b hb with h1 | h1
    · exact st.since b (hFM b h1)
    · exact .inr (Nat.le_trans st.eff.size h1)
  · exact st.since b (by rw [feet_append]; exact List.mem_append_right _ hb)
theorem St.stab {S' : List (Nat × Rp)} {M' : List MF} {a a' : Act} {w w' : World} {C C' : Nat → Prop} (st : St B n S (M ++ Ms) a w C) (st' : St ⟨w, C, feet M⟩ n S' M' a' w' C') : Stab w C Ms w' := by
  have hnd := st.mem.nodup
  rw [feet_append, List.nodup_append] at hnd
  refine ⟨st'.eff.size, fun b hb => ?_⟩
  rcases hb with hb | hb
  · exact st'.eff.keep b (st.mem.wf b hb) fun h => (st.mem.own b (by rw [feet_append]; exact List.mem_append_left _ h)).2 hb
  · exact st'.eff.keep b (st.mem.own b (by rw [feet_append]; exact List.mem_append_right _ hb)).1 fun h => hnd.2.2 b h b hb rfl
theorem Stab.trans {w C w' C' w''} (h : Stab w C Ms w') (hp : ∀ b, C b → C' b) (h' : Stab w' C' Ms w'') : Stab w C Ms w'' :=
  ⟨Nat.le_trans h.1 h'.1, fun b hb => (h'.2 b (hb.imp (hp b) id)).trans (h.2 b hb)⟩

/-- Behind an operation. -/
def AftH (P : Program) (B B' : Base) (n : Nat) (l : List Oper) (Q : Exit → Act → World → Prop) (Ms : List MF) (done : List Nat) (e : Exit) (a : Act) (w : World) : Prop :=
  e = .normal ∧ ∃ S' M' C, St B' n S' M' a w C ∧ AH P B n l Q Ms done S' M'
theorem AftH.next {B' : Base} {done : List Nat} (h : AH P B n l Q Ms done S M) : N B' n S M .normal (AftH P B B' n l Q Ms done) := fun _ _ C st => ⟨rfl, S, M, C, st, h⟩

theorem AH.only {done : List Nat} {o : Oper} (i : Nat) (hi : l[i]? = some o) (hr : Region.ready .any l.toArray (listedOf l.length done) = [i]) (hlen : Nat.blt done.length l.length = true)
    (h : ∀ w C, L P ⟨w, C, feet M⟩ n S M l.toArray [o] (AftH P B ⟨w, C, feet M⟩ n l Q Ms (i :: done))) : AH P B n l Q Ms done S M := by
  intro a w C st X hX
  have hlen' : done.length < l.length := by simpa [Nat.blt_eq] using hlen
  have e : l.length - done.length = l.length - (i :: done).length + 1 := by simp; omega
  rw [e]
  refine ⟨fun h0 => (by rw [hr] at h0; cases h0), fun j hj => ?_⟩
  rw [hr] at hj
  have : j = i := by simpa using hj
  subst this
  have hL := h w C a w C st.rebase
  have hnext : ∀ a' w', AftH P B ⟨w, C, feet M⟩ n l Q Ms (j :: done) .normal a' w' → X w' ∧ wpAnyH P .any l.toArray (Qn Q) X (l.length - (j :: done).length) (listedOf l.length (j :: done)) a' w' := by
    intro a' w' ⟨_, S', M', C', st', hA⟩
    have hs := st.stab st'
    refine ⟨hX _ hs, hA a' w' C' (st.debase st') X fun w'' hw'' => hX _ (hs.trans (fun _ hb => ?_) hw'')⟩
    exact (st'.eff.cl _ (st.mem.wf _ hb) fun hbm => (st.mem.own _ (by rw [feet_append]; exact List.mem_append_left _ hbm)).2 hb).2 hb
  have hq : ∀ (e : Exit) (a' : Act) (w' : World), e ≠ .normal → AftH P B ⟨w, C, feet M⟩ n l Q Ms (j :: done) e a' w' → Qn Q e a' w' := fun e a' w' hne h => absurd h.1 hne
  unfold wpOp
  have hi' : l.toArray[j]? = some o := by simpa using hi
  simp only [hi']
  simp only [wpList] at hL
  split
  · rename_i hw
    rw [if_pos hw] at hL
    refine hL.imp (wp_monoQ' hnext hq) (fun h => ⟨h.1, ?_⟩)
    obtain ⟨a', w', h'⟩ := h.2
    exact absurd h'.1 (by simp)
  · rename_i hw
    rw [if_neg hw] at hL
    exact hnext _ _ hL

theorem St.drew' {a : Act} {w : World} {C : Nat → Prop} (h : St B n S M a w C) : St B n S M a { w with drawn := w.drawn + 1 } C := by
  have hp : Pub w C { w with drawn := w.drawn + 1 } C := fun b hb => ⟨hb, rfl⟩
  exact ⟨h.size, h.defers, fun t R ht => R.mono hp (h.slots t R ht),
    ⟨fun F hF => F.loc hp (fun b _ => rfl) (h.mem.facts F hF), h.mem.nodup, h.mem.own, h.mem.wf⟩,
    ⟨h.eff.size, h.eff.keep, h.eff.cl, h.eff.os, h.eff.tape, h.eff.output⟩, h.since⟩

/-- The region: Ms stays as it is. -/
theorem W.anyH {id : Nat} {M₀ : List MF} (M Ms : List MF) (hm : P.follows .mixedOrders = true) (hp : Pick M₀ (M ++ Ms)) (h : AH P B n l Q Ms [] S M) : W P B n S M₀ (.region id l.toArray true) Q := by
  intro a w C st
  refine wp_region_any hm ?_
  have := h a _ C (st.pick hp).drew' (fun _ => True) (fun _ _ => trivial)
  have h2 := wpAny_of_held _ _ _ _ (wpAnyH_mono (Q' := Q) (X' := fun _ => True) (fun _ h => h) (fun _ _ _ h => h.2) _ _ _ _ this)
  simpa [listedOf] using h2
end
end Go.Sim
/- Keys of maps, closures, calls that only read what the caller owns, elements of owned slices. -/
namespace Go.Sim

section
variable {P : Program} {B : Base} {n : Nat} {S : List (Nat × Rp)} {M : List MF} {Q : Exit → Act → World → Prop} {ops : Array Oper} {rest : List Oper} {o : Oper} {σ : Nat → Option Rp}

/-! Keys. -/
theorem KeyT.int {K : TypeId} {k : IntKind} (hu : P.underlying K = some (.int k)) : KeyT P K (fun n : Int => .int .i64 n) where
  find {ν} vv w k es l h := by
    have key : ∀ (es : List MapEntry) (l : List (Int × ν)) (i : Nat), es.map (fun e => (e.key, e.val)) = l.map (fun x => (Value.int .i64 x.1, vv x.2)) →
        Instr.findNow (.int ‹IntKind›) (.int .i64 k) es i = some ((mfind k l i).map fun x => (x.1, vv x.2)) := by
      intro es
      induction es with
      | nil => intro l i h; cases l with
        | nil => rfl
        | cons x l => cases h
      | cons e es ih => intro l i h; cases l with
        | nil => cases h
        | cons x l =>
          simp only [List.map_cons, List.cons.injEq, Prod.mk.injEq] at h
          obtain ⟨⟨h1, h2⟩, h3⟩ := h
          simp only [Instr.findNow, h1, Instr.sameNow, if_true, mfind]
          by_cases hk : k = x.1
          · subst hk; simp [h2]
          · have : (k == x.1) = false := by simpa using hk
            rw [this]; simp only [hk, if_false]; exact ih l (i + 1) h3
    simp only [Instr.findKey, Sem.run_bind, run_underlying hu, Result.andThen_ok, key es l 0 h, Sem.run_pure]
  check w k b := by
    show (Instr.checkKey b (9999 + 1) K _).run P w = _
    generalize 9999 = m
    simp only [Instr.checkKey, Sem.run_bind, run_underlying hu, Result.andThen_ok, Sem.run_pure]
  stays k := by
    show Instr.sameBits (9999 + 1) _ _ = true
    generalize 9999 = m
    simp [Instr.sameBits]

/-- A value that is compared as it stands. -/
def Simple : Value → Prop
  | .int _ _ | .bool _ | .string _ => True
  | _ => False
theorem same_simple {v : Value} (h : Simple v) (d : Nat) : Instr.sameBits d v v = true := by
  cases v <;> simp_all [Simple, Instr.sameBits]
  rename_i s
  show (s.data == s.data) = true
  simp
theorem plain_check {e : Bool} {d : Nat} {t : TypeId} {D : TypeDesc} {x y : Value} {b : Bool} {w : World} (hu : P.underlying t = some D) (h : Plain D x y b) : (Instr.checkKey e (d + 1) t x).run P w = .ok () w := by
  cases h <;> simp [Instr.checkKey, run_underlying hu]
theorem run_checks {e : Bool} {d : Nat} {X : Array Value} {w : World} : ∀ {fs : List Field} {xs ys : List Value} {bs : List Bool} {k : Nat}, PlainF P fs xs ys bs k → X.toList.drop k = xs →
    (forIn (m := Sem) fs PUnit.unit fun f _ => do
      if f.name ≠ "_" then Instr.checkKey e (d + 1) f.type (← part f.type X f.offset)
      pure (ForInStep.yield PUnit.unit)).run P w = .ok PUnit.unit w
  | [], _, _, _, _, .nil, _ => by simp
  | f :: fs, x :: xs, y :: ys, b :: bs, k, .cons hn ho hu ha h hs, hX => by
    have hx : X[k]? = some x := by
      have := congrArg (fun l => l[0]?) hX
      simpa using this
    have hX' : X.toList.drop (k + 1) = xs := by rw [← List.drop_drop, hX]; rfl
    have ih := run_checks (e := e) (d := d) (X := X) (w := w) hs hX'
    rw [List.forIn_cons]
    subst ho
    simp only [ne_eq, hn, not_false_eq_true, if_true, Sem.run_bind, run_part ha hx, Result.andThen_ok, plain_check hu h, Sem.run_pure]
    exact ih

/-- Keys that are structs of plain fields. -/
theorem KeyT.struct {κ : Type} [DecidableEq κ] {K : TypeId} {fs : Array Field} {kvs : κ → List Value} (hu : P.underlying K = some (.struct fs)) (hst : P.stoodInHeld K = false)
    (hp : ∀ k k', ∃ bs, PlainF P fs.toList (kvs k) (kvs k') bs 0 ∧ bs.all id = decide (k = k')) (hsm : ∀ k, ∀ v ∈ kvs k, Simple v) : KeyT P K (fun k => .agg (kvs k).toArray) where
  find {ν} vv w k es l h := by
    have heq : ∀ k' w, (Op.equal K (.agg (kvs k).toArray) (.agg (kvs k').toArray)).run P w = .ok (decide (k = k')) w := by
      intro k' w
      obtain ⟨bs, h1, h2⟩ := hp k k'
      rw [← h2]; exact equalIn_struct (d := 9998) hu hst h1
    have key : ∀ (es : List MapEntry) (l : List (κ × ν)) (i : Nat), es.map (fun e => (e.key, e.val)) = l.map (fun x => (Value.agg (kvs x.1).toArray, vv x.2)) →
        (Instr.findAsking K (.agg (kvs k).toArray) es i).run P w = .ok ((mfind k l i).map fun x => (x.1, vv x.2)) w := by
      intro es
      induction es with
      | nil => intro l i h; cases l with
        | nil => simp [Instr.findAsking, mfind]
        | cons x l => cases h
      | cons e es ih => intro l i h; cases l with
        | nil => cases h
        | cons x l =>
          simp only [List.map_cons, List.cons.injEq, Prod.mk.injEq] at h
          obtain ⟨⟨h1, h2⟩, h3⟩ := h
          simp only [Instr.findAsking, h1, Sem.run_bind, heq, Result.andThen_ok, mfind]
          by_cases hk : k = x.1
          · subst hk; simp [h2]
          · simp only [hk, decide_false, Bool.false_eq_true, if_false]; exact ih l (i + 1) h3
    simp only [Instr.findKey, Sem.run_bind, run_underlying hu, Result.andThen_ok]
    cases es with
    | nil => cases l with
      | nil => simp [Instr.findNow, mfind]
      | cons x l => cases h
    | cons e es =>
      have : Instr.findNow (.struct fs) (.agg (kvs k).toArray) (e :: es) 0 = none := by
        cases l with
        | nil => cases h
        | cons x l =>
          simp only [List.map_cons, List.cons.injEq, Prod.mk.injEq] at h
          simp [Instr.findNow, Instr.sameNow]
      rw [this]; exact key _ l 0 h
  check w k b := by
    show (Instr.checkKey b (9998 + 1 + 1) K _).run P w = _
    obtain ⟨bs, h1, _⟩ := hp k k
    have := run_checks (P := P) (e := b) (d := 9998) (X := (kvs k).toArray) (w := w) h1 (by simp)
    rw [Array.forIn_toList] at this
    generalize 9998 + 1 = m at *
    simp only [Instr.checkKey, Sem.run_bind, run_underlying hu, Result.andThen_ok]
    simp at this ⊢
    rw [this]; rfl
  stays k := by
    show Instr.sameBits (9999 + 1) _ _ = true
    generalize 9999 = m
    simp only [Instr.sameBits, beq_self_eq_true, Bool.true_and, List.all_eq_true]
    rintro ⟨x, y⟩ hxy
    have : x = y ∧ x ∈ kvs k := by
      have h1 := List.of_mem_zip hxy
      obtain ⟨i, hi, he⟩ := List.getElem_of_mem hxy
      simp only [List.getElem_zip, Prod.mk.injEq] at he
      exact ⟨he.1.symm.trans he.2, h1.1⟩
    obtain ⟨rfl, hm⟩ := this
    exact same_simple (hsm k _ hm) m

/-! The check that a pointer is there. -/
class NonNil (R : Rp) : Prop where
  some : ∀ w C v, R.p w C v → ∃ a, v = .pointer (Option.some a)
instance {r off} : NonNil (Rp.ptr r off) := ⟨fun _ _ v h => ⟨_, show v = _ from h⟩⟩
instance {a} : NonNil (Rp.val (.pointer (some a))) := ⟨fun _ _ v h => ⟨_, show v = _ from h⟩⟩
instance {Rs} : NonNil (Rp.at Rs) := ⟨fun _ _ _ ⟨a, h, _⟩ => ⟨a, h⟩⟩
theorem spec_nilCheck {x : Operand} {R : Rp} [hn : NonNil R] (h : o.op = .nilCheck x) (hx : Get σ x R) : Spec P σ M o (.one R) :=
  Spec.of_run fun a w C hs _ => by
    have h1 := hx a w C hs
    obtain ⟨ad, hv⟩ := hn.some _ _ _ h1
    exact ⟨a.eval x, by simp [execOp, h, hv], h1⟩

/-! Closures. -/
def Rp.clo (f : FuncId) (Rs : List Rp) : Rp where
  p w C v := ∃ caps : List Value, v = .func (.func f) #[] caps.toArray ∧ AllP Rs w C caps
  mono hp := fun ⟨caps, hv, h⟩ => ⟨caps, hv, h.mono hp⟩
instance {f Rs} : One (Rp.clo f Rs) := ⟨fun _ _ _ ⟨_, h, _⟩ => by rw [h]; rfl⟩
theorem Get.clo {f : FuncId} : Get σ (.func f) (Rp.clo f []) := Get.func fun _ _ => ⟨[], rfl, trivial⟩
theorem spec_makeFunc {f : FuncId} {caps : Array Operand} {Rs : List Rp} (h : o.op = .makeFunc (.func f) #[] caps) (ha : ArgsOk σ caps.toList Rs) : Spec P σ M o (.one (Rp.clo f Rs)) :=
  Spec.of_run fun a w C hs _ => ⟨.func (.func f) #[] (caps.map a.eval), by simp [execOp, h, Instr.makeFunc], (caps.map a.eval).toList, by rw [Array.toArray_toList], by have := args_run hs ha; simpa using this⟩

/-- A function value: what it does. -/
def Rp.fn (P : Program) {ι : Type} (A : ι → List Rp) (X : ι → RA) : Rp where
  p w C v := ∃ f Rs, (Rp.clo f Rs).p w C v ∧ (∀ args w, (callFunc f args).run P w = .ok (.enter f args) w) ∧ ∀ i, CallT P f (A i ++ Rs) [] (X i)
  mono hp := fun ⟨f, Rs, hv, h⟩ => ⟨f, Rs, (Rp.clo f Rs).mono hp hv, h⟩
instance {ι : Type} {A : ι → List Rp} {X : ι → RA} : One (Rp.fn P A X) := ⟨fun w C v ⟨_, _, h, _⟩ => One.one w C v h⟩
theorem fn_of_clo {ι : Type} {A : ι → List Rp} {X : ι → RA} {f : FuncId} {Rs : List Rp} (hc : ∀ args w, (callFunc f args).run P w = .ok (.enter f args) w) (hf : ∀ i, CallT P f (A i ++ Rs) [] (X i)) (w : World) (C : Nat → Prop) (v : Value)
    (h : (Rp.clo f Rs).p w C v) : (Rp.fn P A X).p w C v := ⟨f, Rs, h, hc, hf⟩

theorem run_callV {x : Operand} {f : FuncId} {caps : List Value} {args : Array Operand} {ts : Array TypeId} {a : Act} {w : World} (h : o.op = .call ⟨.value x, args, ts⟩) (hv : a.eval x = .func (.func f) #[] caps.toArray) (hc : ∀ args w, (callFunc f args).run P w = .ok (.enter f args) w) :
    (execOp a.eval o).run P w = .ok (.enter f (args.map a.eval ++ caps.toArray)) w := by
  simp [execOp, h, resolve, Deferred.ofValue, hv, invoke, hc]

theorem spec_callF {ι : Type} {A : ι → List Rp} {X : ι → RA} (i : ι) {x : Operand} {args : Array Operand} {ts : Array TypeId} (h : o.op = .call ⟨.value x, args, ts⟩) (hx : Get σ x (Rp.fn P A X)) (ha : ArgsOk σ args.toList (A i)) : Spec P σ M o (X i) := by
  intro a w C K Q hs hm hk
  obtain ⟨f, Rs, ⟨caps, hv, hcaps⟩, hc, hf⟩ := hx a w C hs
  unfold Oper.wp
  rw [run_callV h hv hc, Oper.upon_enter]
  refine (hf i w C _ (by simpa using (args_run hs ha).append hcaps) ⟨by simp, by simp [feet], by simp [feet], hm.wf⟩).mono ?_
  rintro e w' ⟨j, v, C', rfl, he, hR, hM, hb⟩
  exact hk j v w' C' he hM.wf hR ⟨hM.facts, hM.nodup, fun b hb' => ⟨(hb b hb').resolve_left (by simp [feet]), hM.own b hb'⟩⟩
theorem spec_callC {f : FuncId} {Rs : List Rp} {A : List Rp} {X : RA} {x : Operand} {args : Array Operand} {ts : Array TypeId} (h : o.op = .call ⟨.value x, args, ts⟩) (hx : Get σ x (Rp.clo f Rs)) (hc : ∀ args w, (callFunc f args).run P w = .ok (.enter f args) w)
    (hf : CallT P f (A ++ Rs) [] X) (ha : ArgsOk σ args.toList A) : Spec P σ M o X :=
  spec_callF (ι := Unit) (A := fun _ => A) (X := fun _ => X) () h (hx.weak (fn_of_clo hc fun _ => hf)) ha
theorem L.callC {f : FuncId} {Rs : List Rp} {x : Operand} {args : Array Operand} {ts : Array TypeId} {A : List Rp} {F R : List MF} {X : RA} {d : Nat} (hg : o.guard = none) (hd : o.dst = some d) (hlt : Nat.blt d n = true) (h : o.op = .call ⟨.value x, args, ts⟩)
    (hx : Get (look · S) x (Rp.clo f Rs)) (hc : ∀ args w, (callFunc f args).run P w = .ok (.enter f args) w) (hf : CallT P f (A ++ Rs) F X) (hM : Pick M (F ++ R)) (ha : ArgsOk (look · S) args.toList A)
    (hL : ∀ i, L P B n ((d, X.R i) :: S) (X.F i ++ R) ops rest Q) : L P B n S M ops (o :: rest) Q := by
  intro a w C st'
  have st := st'.pick hM
  refine wpList_plain hg fun K hK => ?_
  unfold Oper.wp
  obtain ⟨caps, hv, hcaps⟩ := hx a w C st.slots
  rw [run_callV h hv hc, Oper.upon_enter]
  refine (hf w C _ (by simpa using (args_run st.slots ha).append hcaps) st.mem.left).mono ?_
  rintro e w' ⟨i, v, C', rfl, he, hR, hM, hb⟩
  have hlt' : d < n := by simpa [Nat.blt_eq] using hlt
  rw [hd]
  exact hK _ _ (hL i _ _ C' (st.call (dst := some d) (fun d' hd' => by cases hd'; exact hlt') he hR hM hb))

/-! A call that only reads what the caller owns: it sees it as published. -/
def Lift (M : List MF) (R A : Rp) : Prop := ∀ w C C' v, (∀ b, C b → C' b) → (∀ b ∈ feet M, C' b) → (∀ F ∈ M, F.p w C) → R.p w C v → A.p w C' v
theorem Lift.same {R : Rp} : Lift M R R := fun _ _ _ _ hC _ _ h => R.mono (fun b hb => ⟨hC b hb, rfl⟩) h
theorem Lift.any {R : Rp} : Lift M R Rp.any := fun _ _ _ _ _ _ _ _ => trivial
theorem osl_read {α : Type} {w : World} {C C' : Nat → Prop} {v : Value} {T sz : Nat} {E : α → List Rp} {xs : List α} (hE : ∀ x, (E x).length = sz) (hp : Pub w C w C') (hv : ∀ b, v.ownBlock = some b → C' b) (h : (MF.osl v T sz E xs).p w C) : (Rp.slice E xs).p w C' v := by
  obtain ⟨cs, h1, h2, h3⟩ := h
  refine ⟨by omega, ?_⟩
  rcases h1.2 with ⟨hv0, hn0⟩ | ⟨g, cap, cur, hv1, _, hg, hlc, _, hcs, htk⟩
  · exact .inl ⟨hv0, List.eq_nil_of_length_eq_zero hn0⟩
  · refine .inr ⟨⟨g, 0, none⟩, cap, hv1, hlc, .inr ⟨rfl, hv g (by rw [hv1]; rfl), cur, T, (0, 0), hg, ?_⟩⟩
    simp only [List.drop_zero]
    rw [flatMap_len hE, htk]
    exact h2.mono hp
theorem Lift.slice {α : Type} {v : Value} {T sz : Nat} {E : α → List Rp} {xs : List α} (k : Nat) (hk : M[k]? = some (MF.osl v T sz E xs)) (hE : ∀ x, (E x).length = sz) : Lift M (Rp.val v) (Rp.slice E xs) := fun w C C' u hC hf hm hu => by
  rw [show u = v from hu]
  have hk' := List.mem_of_getElem? hk
  exact osl_read hE (fun b hb => ⟨hC b hb, rfl⟩) (fun b hb => hf b (mem_feet.2 ⟨_, hk', by simp [MF.osl, hb]⟩)) (hm _ hk')
inductive LiftAll (M : List MF) : List Rp → List Rp → Prop
  | nil : LiftAll M [] []
  | cons {R A : Rp} {Rs As} (h : Lift M R A) (hs : LiftAll M Rs As) : LiftAll M (R :: Rs) (A :: As)
theorem LiftAll.same : ∀ {Rs : List Rp}, LiftAll M Rs Rs
  | [] => .nil
  | _ :: _ => .cons .same .same
theorem LiftAll.run {w C C'} (hC : ∀ b, C b → C' b) (hf : ∀ b ∈ feet M, C' b) (hm : ∀ F ∈ M, F.p w C) : ∀ {Rs As}, LiftAll M Rs As → ∀ {vs}, AllP Rs w C vs → AllP As w C' vs
  | [], [], .nil, [], _ => trivial
  | _ :: _, _ :: _, .cons h hs, _ :: _, hA => ⟨h _ _ _ _ hC hf hm hA.1, LiftAll.run hC hf hm hs hA.2⟩
  | _ :: _, _ :: _, .cons _ _, [], hA => hA.elim
theorem LiftAll.length : ∀ {Rs As}, LiftAll M Rs As → Rs.length = As.length
  | [], [], .nil => rfl
  | _ :: _, _ :: _, .cons _ hs => by simp [LiftAll.length hs]
theorem Lift.at {r T m : Nat} {Rs As : List Rp} (k : Nat) (hk : M[k]? = some (MF.row r T m Rs)) (hl : LiftAll M Rs As) : Lift M (Rp.ptr r 0) (Rp.at As) := fun w C C' u hC hf hm hu => by
  have hk' := List.mem_of_getElem? hk
  obtain ⟨cs, h1, h2, h3⟩ := hm _ hk'
  refine ⟨⟨r, 0, none⟩, hu, rfl, hf r (mem_feet.2 ⟨_, hk', by simp [MF.row]⟩), cs, T, _, h1, ?_⟩
  rw [← hl.length]
  exact ⟨hl.run hC hf hm h3.1, h3.2⟩
theorem Lift.box {r T : Nat} {Rs As : List Rp} (k : Nat) (hk : M[k]? = some (MF.box r T Rs)) (hl : LiftAll M Rs As) : Lift M (Rp.ptr r 0) (Rp.at As) := Lift.at k hk hl

/-- A value that leads to no memory. -/
class Flat (R : Rp) : Prop where
  flat : ∀ w C w' C' v, R.p w C v → R.p w' C' v
instance {k n} : Flat (Rp.int k n) := ⟨fun _ _ _ _ _ h => h⟩
instance {b} : Flat (Rp.bool b) := ⟨fun _ _ _ _ _ h => h⟩
instance {l} : Flat (Rp.str l) := ⟨fun _ _ _ _ _ h => h⟩
instance {v} : Flat (Rp.val v) := ⟨fun _ _ _ _ _ h => h⟩
instance {r off} : Flat (Rp.ptr r off) := ⟨fun _ _ _ _ _ h => h⟩
class FlatAll (Rs : List Rp) : Prop where
  flat : ∀ w C w' C' vs, AllP Rs w C vs → AllP Rs w' C' vs
instance : FlatAll [] := ⟨fun _ _ _ _ vs h => by cases vs <;> exact h⟩
instance {R Rs} [hR : Flat R] [hs : FlatAll Rs] : FlatAll (R :: Rs) := ⟨fun _ _ _ _ vs h => by
  cases vs with
  | nil => exact h.elim
  | cons v vs => exact ⟨hR.flat _ _ _ _ _ h.1, hs.flat _ _ _ _ _ h.2⟩⟩
instance {Rs} [hs : FlatAll Rs] : Flat (Rp.agg Rs) := ⟨fun _ _ _ _ _ ⟨cs, h1, h2⟩ => ⟨cs, h1, hs.flat _ _ _ _ _ h2.1, h2.2⟩⟩
instance {Rs} [hs : FlatAll Rs] : Flat (Rp.tuple Rs) := ⟨fun _ _ _ _ _ ⟨cs, h1, h2⟩ => ⟨cs, h1, hs.flat _ _ _ _ _ h2⟩⟩
instance : Flat (Rp.tuple []) := ⟨fun _ _ _ _ _ ⟨cs, h1, h2⟩ => ⟨cs, h1, FlatAll.flat _ _ _ _ _ h2⟩⟩

theorem spec_callB {f : FuncId} {args : Array Operand} {ts : Array TypeId} {Rs A : List Rp} {R : Rp} [hfl : Flat R] (h : o.op = .call ⟨.value (.func f), args, ts⟩) (hc : ∀ args w, (callFunc f args).run P w = .ok (.enter f args) w)
    (hf : CallT P f A [] (.one R)) (ha : ArgsOk σ args.toList Rs) (hl : LiftAll M Rs A) : Spec P σ M o (.one R) := by
  intro a w C K Q hs hm hk
  unfold Oper.wp
  rw [show (execOp a.eval o).run P w = .ok (.enter f (args.map a.eval)) w by
    simp [execOp, h, resolve, Deferred.ofValue, Act.eval, invoke, hc]]
  rw [Oper.upon_enter]
  have hwf : ∀ b, (C b ∨ b ∈ feet M) → b < w.heap.size := fun b hb => hb.elim (hm.wf b) fun h => (hm.own b h).1
  refine (hf w (fun b => C b ∨ b ∈ feet M) _ ?_ ⟨by simp, by simp [feet], by simp [feet], hwf⟩).mono ?_
  · have := hl.run (w := w) (C := C) (C' := fun b => C b ∨ b ∈ feet M) (fun b hb => .inl hb) (fun b hb => .inr hb) hm.facts (args_run hs ha)
    simpa using this
  · rintro e w' ⟨i, v, C', rfl, he, hR, hM, _⟩
    have hko : ∀ b, b < w.heap.size → w'.heap[b]? = w.heap[b]? := fun b hb => he.keep b hb (by simp [feet])
    refine hk () v w' (fun b => C' b ∧ b ∉ feet M) ⟨he.size, fun b hb _ => hko b hb, fun b hb _ => ?_, he.os, he.tape, he.output⟩ (fun b hb => hM.wf b hb.1) (hfl.flat _ _ _ _ _ hR) MNew.nil
    have h1 := he.cl b hb (by simp [feet])
    constructor
    · rintro ⟨h2, h3⟩; exact (h1.1 h2).resolve_right h3
    · intro h2; exact ⟨h1.2 (.inl h2), fun h3 => (hm.own b h3).2 h2⟩

/-- An owned variable is published: its pointer then leads to a published row. -/
theorem St.pubB {a : Act} {w C} {r T m k : Nat} {Rs : List Rp} (st : St B n S M a w C) (hk : M[k]? = some (MF.row r T m Rs)) :
    ∃ C', St B n S (M.eraseIdx k) a w C' ∧ ∀ v, (Rp.ptr r 0).p w C v → (Rp.at Rs).p w C' v := by
  obtain ⟨cs, h1, h2, h3⟩ := row_fact st.mem hk rfl
  have hp := perm_eraseIdx M k _ hk
  have hm := st.mem.perm hp
  have hfe : feet (MF.row r T m Rs :: M.eraseIdx k) = r :: feet (M.eraseIdx k) := by simp [feet, MF.row]
  let C' : Nat → Prop := fun b => C b ∨ b = r
  have hpub : Pub w C w C' := fun b hb => ⟨.inl hb, rfl⟩
  have hr : r ∈ feet M := mem_feet.2 ⟨_, List.mem_of_getElem? hk, by simp [MF.row]⟩
  have hnd := hm.nodup
  rw [hfe, List.nodup_cons] at hnd
  refine ⟨C', ⟨st.size, st.defers, fun u R hu => R.mono hpub (st.slots u R hu), ⟨?_, hnd.2, ?_, ?_⟩, ⟨st.eff.size, st.eff.keep, ?_, st.eff.os, st.eff.tape, st.eff.output⟩, ?_⟩, ?_⟩
  · exact fun G hG => G.loc hpub (fun _ _ => rfl) (st.mem.facts G (List.mem_of_mem_eraseIdx hG))
  · intro b hb
    have h4 := hm.own b (by rw [hfe]; exact List.mem_cons_of_mem _ hb)
    exact ⟨h4.1, fun hc => hc.elim h4.2 (fun e => hnd.1 (e ▸ hb))⟩
  · intro b hb
    rcases hb with hb | rfl
    · exact st.mem.wf b hb
    · exact (st.mem.own _ hr).1
  · intro b hb hu
    refine ⟨fun hc => hc.elim (st.eff.cl b hb hu).1 (fun hv => ?_), fun hc => .inl ((st.eff.cl b hb hu).2 hc)⟩
    subst hv
    exact ((st.since b hr).elim hu (fun h => absurd hb (by omega))).elim
  · intro b hb
    obtain ⟨G, hG, hbG⟩ := mem_feet.1 hb
    exact st.since b (mem_feet.2 ⟨G, List.mem_of_mem_eraseIdx hG, hbG⟩)
  · intro v hv
    exact ⟨⟨r, 0, none⟩, hv, rfl, .inr rfl, cs, T, _, h1, h3.mono hpub⟩
theorem St.putSlot {a : Act} {w C} {R : Rp} {t : Nat} (st : St B n S M a w C) (h : R.p w C (a.tmps.getD t undef)) : St B n ((t, R) :: S) M a w C :=
  ⟨st.size, st.defers, fun u R' hu => by
    by_cases htu : t = u
    · subst htu
      simp only [look_cons_eq, Option.some.injEq] at hu
      subst hu; exact h
    · simp only at hu
      rw [look_cons_ne htu] at hu
      exact st.slots u R' hu, st.mem, st.eff, st.since⟩
theorem L.pubB {r T m : Nat} {Rs : List Rp} (t k : Nat) (ht : look t S = some (Rp.ptr r 0)) (hk : M[k]? = some (MF.row r T m Rs)) (h : L P B n ((t, Rp.at Rs) :: S) (M.eraseIdx k) ops rest Q) : L P B n S M ops rest Q :=
  fun a w _ st => let ⟨C', st', hv⟩ := st.pubB hk; h a w C' (st'.putSlot (hv _ (st.slots t _ ht)))
theorem W.pubB {c : Code} {r T m : Nat} {Rs : List Rp} (t k : Nat) (ht : look t S = some (Rp.ptr r 0)) (hk : M[k]? = some (MF.row r T m Rs)) (h : W P B n ((t, Rp.at Rs) :: S) (M.eraseIdx k) c Q) : W P B n S M c Q :=
  fun a w _ st => let ⟨C', st', hv⟩ := st.pubB hk; h a w C' (st'.putSlot (hv _ (st.slots t _ ht)))
theorem N.pubB {e : Exit} {r T m : Nat} {Rs : List Rp} (t k : Nat) (ht : look t S = some (Rp.ptr r 0)) (hk : M[k]? = some (MF.row r T m Rs)) (h : N B n ((t, Rp.at Rs) :: S) (M.eraseIdx k) e Q) : N B n S M e Q :=
  fun a w _ st => let ⟨C', st', hv⟩ := st.pubB hk; h a w C' (st'.putSlot (hv _ (st.slots t _ ht)))

/-! A function value that works on memory of the caller's own. -/
def Rp.fnM (P : Program) {ι : Type} (A : ι → List Rp) (Mi : ι → List MF) (X : ι → RA) : Rp where
  p w C v := ∃ f Rs, (Rp.clo f Rs).p w C v ∧ (∀ args w, (callFunc f args).run P w = .ok (.enter f args) w) ∧ ∀ i, CallT P f (A i ++ Rs) (Mi i) (X i)
  mono hp := fun ⟨f, Rs, hv, h⟩ => ⟨f, Rs, (Rp.clo f Rs).mono hp hv, h⟩
instance {ι : Type} {A : ι → List Rp} {Mi : ι → List MF} {X : ι → RA} : One (Rp.fnM P A Mi X) := ⟨fun w C v ⟨_, _, h, _⟩ => One.one w C v h⟩
theorem fnM_of_clo {ι : Type} {A : ι → List Rp} {Mi : ι → List MF} {X : ι → RA} {f : FuncId} {Rs : List Rp} (hc : ∀ args w, (callFunc f args).run P w = .ok (.enter f args) w) (hf : ∀ i, CallT P f (A i ++ Rs) (Mi i) (X i)) (w : World) (C : Nat → Prop) (v : Value)
    (h : (Rp.clo f Rs).p w C v) : (Rp.fnM P A Mi X).p w C v := ⟨f, Rs, h, hc, hf⟩
end
end Go.Sim
/- Elements of slices that the call owns, rows made by make, arrays in variables, values that may be taken first. -/
namespace Go.Sim

/-- A place in the row of an owned slice. -/
def Rp.ix (v : Value) (off : Nat) : Rp where
  p _ _ u := ∃ g len cap, v = .slice (some ⟨g, 0, none⟩) len cap ∧ u = .pointer (some ⟨g, off, none⟩)
  mono _ h := h
instance {v off} : Flat (Rp.ix v off) := ⟨fun _ _ _ _ _ h => h⟩

section
variable {P : Program} {B : Base} {n : Nat} {S : List (Nat × Rp)} {M : List MF} {Q : Exit → Act → World → Prop} {ops : Array Oper} {rest : List Oper} {o : Oper} {σ : Nat → Option Rp}

/-- The row of an owned slice that has an element. -/
theorem osl_row {α : Type} {v : Value} {T sz : Nat} {E : α → List Rp} {xs : List α} {w : World} {C : Nat → Prop} (h : (MF.osl v T sz E xs).p w C) (hne : xs ≠ []) :
    ∃ g cap cur, v = .slice (some ⟨g, 0, none⟩) xs.length cap ∧ w.heap[g]? = some (.cells cur T (0, 0)) ∧ xs.length ≤ cap ∧ cur.size = cap * sz ∧ cap ≤ maxLen ∧ AllR (xs.flatMap E) w C (cur.toList.take (xs.length * sz)) := by
  obtain ⟨cs, h1, h2, h3⟩ := h
  rcases h1.2 with ⟨_, hn0⟩ | ⟨g, cap, cur, hv1, _, hg, hlc, hcm, hcs, htk⟩
  · exact absurd (List.eq_nil_of_length_eq_zero hn0) hne
  · exact ⟨g, cap, cur, hv1, hg, hlc, hcs, hcm, by rw [htk]; exact h2⟩

theorem spec_indexAddrO {α : Type} {T e sz k : Nat} {xo io : Operand} {v : Value} {T' : TypeId} {E : α → List Rp} {xs : List α} {kk : IntKind} {i : Int} (h : o.op = .indexAddr T xo io) (hu : P.underlying T = some (.slice e)) (hn : ∀ w, (sizeOf e).run P w = .ok sz w)
    (hx : Get σ xo (Rp.val v)) (hi : Get σ io (Rp.int kk i)) (hk : M[k]? = some (MF.osl v T' sz E xs)) (hr : 0 ≤ i ∧ i < xs.length) : Spec P σ M o (.one (Rp.ix v (i.toNat * sz))) :=
  Spec.of_run fun a w C hs hm => by
    have hne : xs ≠ [] := fun e => by rw [e] at hr; simp at hr; omega
    obtain ⟨g, cap, cur, hv, _⟩ := osl_row (hm.facts _ (List.mem_of_getElem? hk)) hne
    have hvx : a.eval xo = v := hx a w C hs
    refine ⟨.pointer (some ⟨g, i.toNat * sz, none⟩), ?_, g, _, cap, hv, rfl⟩
    simp [execOp, h, hvx, hv, get_int hi hs, Instr.indexAt, asIntOf, run_underlying hu, hn, hr.1, hr.2, addr_add]
theorem row_piece {α : Type} {E : α → List Rp} {sz : Nat} (hE : ∀ x, (E x).length = sz) {xs : List α} {i : Nat} {y : α} (hy : xs[i]? = some y) {w : World} {C : Nat → Prop} {cur : Array Value} (h : AllR (xs.flatMap E) w C (cur.toList.take (xs.length * sz))) :
    AllR (E y) w C ((cur.toList.drop (i * sz)).take sz) := by
  have h1 := h.sub (i * sz) sz
  rw [flatMap_one hE xs hy] at h1
  have hi : i < xs.length := (List.getElem?_eq_some_iff.1 hy).1
  have h2 : (i + 1) * sz ≤ xs.length * sz := Nat.mul_le_mul_right _ hi
  rw [Nat.add_mul, Nat.one_mul] at h2
  rw [List.drop_take, List.take_take, Nat.min_eq_left (by omega)] at h1
  exact h1

theorem spec_loadO1 {α : Type} {t : TypeId} {x : Operand} {v : Value} {off T sz k i j : Nat} {E : α → List Rp} {xs : List α} {y : α} {R : Rp} (h : o.op = .load t x) (ha : ∀ w, (isAgg t).run P w = .ok false w) (hE : ∀ x, (E x).length = sz)
    (hx : Get σ x (Rp.ix v off)) (hk : M[k]? = some (MF.osl v T sz E xs)) (hoff : off = i * sz + j) (hy : xs[i]? = some y) (hR : (E y)[j]? = some R) : Spec P σ M o (.one R) :=
  Spec.of_run fun a w C hs hm => by
    have hne : xs ≠ [] := fun e => by rw [e] at hy; simp at hy
    obtain ⟨g, cap, cur, hv, hg, hlc, hcs, _, hall⟩ := osl_row (hm.facts _ (List.mem_of_getElem? hk)) hne
    obtain ⟨g', len, cap', hv', hu'⟩ := hx a w C hs
    rw [hv] at hv'; cases hv'
    have h1 := row_piece hE hy hall
    obtain ⟨u, hu, hRu⟩ := h1.1.get j hR
    have hj : j < sz := by rw [← hE y]; exact (List.getElem?_eq_some_iff.1 hR).1
    have hu2 : cur[off]? = some u := by
      rw [List.getElem?_take, if_pos hj, List.getElem?_drop, Array.getElem?_toList] at hu
      rw [hoff]; exact hu
    exact ⟨u, by simp [execOp, h, hu', run_load_row hg hu2 (ha w)], hRu⟩
theorem flatMap_set {α : Type} {E : α → List Rp} {sz : Nat} (hE : ∀ x, (E x).length = sz) : ∀ (xs : List α) (i : Nat) (y : α), i < xs.length → (xs.set i y).flatMap E = (xs.flatMap E).take (i * sz) ++ E y ++ (xs.flatMap E).drop (i * sz + sz)
  | [], _, _, h => by simp at h
  | x :: xs, 0, y, _ => by simp [hE]
  | x :: xs, i + 1, y, h => by
    have ih := flatMap_set hE xs i y (by simpa using h)
    have e1 : (i + 1) * sz = sz + i * sz := by rw [Nat.add_mul]; omega
    simp only [List.set_cons_succ, List.flatMap_cons, ih, e1]
    rw [List.take_append, List.drop_append, List.take_of_length_le (l := E x) (by rw [hE]; omega), List.drop_of_length_le (l := E x) (by rw [hE]; omega), hE]
    simp only [List.append_assoc, List.nil_append]
    congr 2
    · congr 1; omega
    · congr 2; omega

/-- The state behind a store into the row of an owned slice. -/
theorem L.storeO {α : Type} {t : TypeId} {x y : Operand} {v : Value} {off T sz k i j m : Nat} {E : α → List Rp} {xs : List α} {u u' : α} {Rs : List Rp} (hg : o.guard = none) (hd : o.dst = none) (h : o.op = .store t x y) (hn : ∀ w, (sizeOf t).run P w = .ok m w) (hE : ∀ x, (E x).length = sz)
    (hx : Get (look · S) x (Rp.ix v off)) (hy : GetC (look · S) y Rs) (hm : Rs.length = m) (hk : M[k]? = some (MF.osl v T sz E xs)) (hoff : off = i * sz + j) (hjm : j + m ≤ sz) (hu : xs[i]? = some u) (hu' : E u' = splice (E u) j Rs)
    (hL : L P B n S (M.set k (MF.osl v T sz E (xs.set i u'))) ops rest Q) : L P B n S M ops (o :: rest) Q := by
  intro a w C st
  refine wpList_plain hg fun K hK => ?_
  have hfact := st.mem.facts _ (List.mem_of_getElem? hk)
  have hne : xs ≠ [] := fun e => by rw [e] at hu; simp at hu
  obtain ⟨g, cap, cur, hv, hgg, hlc, hcs, hcm, hall⟩ := osl_row hfact hne
  obtain ⟨_, _, _, h3⟩ := hfact
  obtain ⟨g', len, cap', hv', hux⟩ := hx a w C st.slots
  rw [hv] at hv'; cases hv'
  have hvs := hy a w C st.slots
  have hvl : (a.eval y).cells.toList.length = m := by rw [hvs.1.length, hm]
  have hi : i < xs.length := (List.getElem?_eq_some_iff.1 hu).1
  have h2 : (i + 1) * sz ≤ xs.length * sz := Nat.mul_le_mul_right _ hi
  have h2c : xs.length * sz ≤ cap * sz := Nat.mul_le_mul_right _ hlc
  rw [Nat.add_mul, Nat.one_mul] at h2
  have hoffb : off + m ≤ xs.length * sz := by omega
  let vs := (a.eval y).cells.toList
  have hsz : (a.eval y).cells.size = m := by rw [← Array.length_toList]; exact hvl
  have hrun : (Instr.storeAt t (.pointer (some ⟨g, off, none⟩)) (a.eval y)).run P w = .ok () (w.setRow g (cur.toList.take off ++ vs ++ cur.toList.drop (off + vs.length)).toArray) := by
    have hh := run_storeCells_at P g off T vs 0 cur w hgg (by simp only [vs]; omega) hvs.2
    simp only [Nat.add_zero] at hh
    simp [Instr.storeAt, Instr.sureAddr, storeVar, hn, hsz, vs] at hh ⊢
    exact hh
  have hFM : ∀ b ∈ (MF.osl v T sz E xs).foot, b ∈ feet M := fun b hb => mem_feet.2 ⟨_, List.mem_of_getElem? hk, hb⟩
  have hfoot : (MF.osl v T sz E xs).foot = [g] := by simp [MF.osl, hv, Value.ownBlock]
  have hpub : Pub w C (w.setRow g (cur.toList.take off ++ vs ++ cur.toList.drop (off + vs.length)).toArray) C := setRow_eff.pub st.mem.wf (fun b hb => (st.mem.own b (hFM b (by rw [hfoot]; exact hb))).2)
  unfold Oper.wp
  rw [show (execOp a.eval o).run P w = .ok .skip (w.setRow g (cur.toList.take off ++ vs ++ cur.toList.drop (off + vs.length)).toArray) by
    simp [execOp, h, hux, hrun]]
  have hvl' : vs.length = m := hvl
  have st' := st.upd (R := Rp.val undef) (v := undef) (dst := none) (F' := MF.osl v T sz E (xs.set i u')) (by simp) hk (by rw [hfoot]; exact setRow_eff (cs := (cur.toList.take off ++ vs ++ cur.toList.drop (off + vs.length)).toArray)) (fun b hb => by have := st.mem.wf b hb; simpa using this) rfl
    (by
      have hlen : (xs.set i u').length = xs.length := by simp
      have hcl : cur.toList.length = cap * sz := by rw [Array.length_toList]; exact hcs
      refine ⟨(cur.toList.take off ++ vs ++ cur.toList.drop (off + vs.length)).take (xs.length * sz), ⟨?_, .inr ⟨g, cap, (cur.toList.take off ++ vs ++ cur.toList.drop (off + vs.length)).toArray, by rw [hv, hlen], Nat.zero_le _, ?_, by rw [hlen]; exact hlc, hcm, ?_, ?_⟩⟩, ?_, by rw [hlen]; exact h3⟩
      · rw [hlen]; simp only [List.length_take, List.length_append, List.length_drop, hcl, hvl']; omega
      · exact setRow_heap w g cur _ T _ hgg
      · simp only [List.size_toArray, List.length_append, List.length_take, List.length_drop, hcl, hvl']; omega
      · rw [hlen]
      · rw [flatMap_set hE xs i u' hi, hu']
        have h4 := (hall.mono hpub).splice (off := off) (hvs.mono hpub)
        have e1 : splice (xs.flatMap E) off Rs = (xs.flatMap E).take (i * sz) ++ splice (E u) j Rs ++ (xs.flatMap E).drop (i * sz + sz) := by
          have hp1 : xs.flatMap E = (xs.flatMap E).take (i * sz) ++ (E u ++ (xs.flatMap E).drop (i * sz + sz)) := by
            have hd : (xs.flatMap E).drop (i * sz) = E u ++ (xs.flatMap E).drop (i * sz + sz) := by
              have := flatMap_one hE xs hu
              rw [← this, ← List.drop_drop, List.take_append_drop]
            rw [← hd, List.take_append_drop]
          have hl1 : ((xs.flatMap E).take (i * sz)).length = i * sz := by rw [List.length_take, flatMap_len hE]; omega
          unfold splice
          conv => lhs; rw [hp1]
          rw [List.take_append, List.drop_append, hl1, hoff, List.take_of_length_le (by omega), List.drop_of_length_le (l := (xs.flatMap E).take (i * sz)) (by omega), List.take_append, List.drop_append, hE]
          have e2 : i * sz + j - i * sz = j := by omega
          have e3 : i * sz + j + Rs.length - i * sz = j + Rs.length := by omega
          rw [e2, e3, show j - sz = 0 by omega, show j + Rs.length - sz = 0 by omega]
          simp
        rw [e1] at h4
        have e2 : (cur.toList.take (xs.length * sz)).take off ++ vs ++ (cur.toList.take (xs.length * sz)).drop (off + vs.length) = (cur.toList.take off ++ vs ++ cur.toList.drop (off + vs.length)).take (xs.length * sz) := by
          rw [List.take_take, Nat.min_eq_left (by omega), List.drop_take, List.take_append, List.take_append, List.take_take, Nat.min_eq_right (by omega), List.take_of_length_le (l := vs) (by simp [hcl]; omega)]
          congr 1
          simp only [List.length_append, List.length_take, hcl]
          rw [Nat.min_eq_left (by omega)]
        rw [← e2]; exact h4) (by simp [MF.osl, hv, Value.ownBlock]) (fun b hb => .inl ⟨hb, (st.mem.own b (hFM b hb)).2⟩)
  rw [Oper.upon_skip, hd]
  exact hK _ _ (hL _ _ C st')
theorem L.storeO1 {α : Type} {t : TypeId} {x y : Operand} {v : Value} {off T sz k i j : Nat} {E : α → List Rp} {xs : List α} {u u' : α} {R : Rp} [One R] (hg : o.guard = none) (hd : o.dst = none) (h : o.op = .store t x y) (hn : ∀ w, (sizeOf t).run P w = .ok 1 w) (hE : ∀ x, (E x).length = sz)
    (hx : Get (look · S) x (Rp.ix v off)) (hy : Get (look · S) y R) (hk : M[k]? = some (MF.osl v T sz E xs)) (hoff : off = i * sz + j) (hjm : j < sz) (hu : xs[i]? = some u) (hu' : E u' = (E u).set j R)
    (hL : L P B n S (M.set k (MF.osl v T sz E (xs.set i u'))) ops rest Q) : L P B n S M ops (o :: rest) Q :=
  L.storeO hg hd h hn hE hx (GetC.one hy) rfl hk hoff (by omega) hu (by
    rw [hu']; unfold splice
    have hj : j < (E u).length := by rw [hE]; exact hjm
    rw [List.set_eq_take_append_cons_drop, if_pos hj]; simp) hL
/-! make. -/
theorem spec_makeSlice {α : Type} {T e sz bytes : Nat} {x y : Operand} {z : Value} {E : α → List Rp} {z₀ : α} {m : Int} (h : o.op = .makeSlice T x y) (hu : P.underlying T = some (.slice e)) (hT : TI P e sz bytes z) (hz : ∀ w C, AllR (E z₀) w C z.cells.toList) (hE : ∀ x, (E x).length = sz)
    (hx : Get σ x (Rp.int .i64 m)) (hy : Get σ y (Rp.int .i64 m)) (hm0 : 0 ≤ m) (hm1 : m.toNat * bytes ≤ 140737488355328) (hm2 : m ≤ 281474976710656) : Spec P σ M o (.own e sz E (List.replicate m.toNat z₀)) :=
  Spec.new (A := .own e sz E (List.replicate m.toNat z₀)) (fun r => .slice (some ⟨r, 0, none⟩) m.toNat m.toNat) fun a w C hs hm => by
    obtain ⟨i, hi, hi1, hi2, hi3⟩ := hT.ex
    have hzs : z.cells.size = sz := by rw [← Array.length_toList, (hz w C).1.length, hE]
    have hmi := wrap_in (hx a w C hs).2
    have hmn : ¬ m < 0 := by omega
    have hmb : ¬ (2 ^ 48 < (bytes : Int) * m) := by
      have h1 : (m.toNat * bytes : Nat) = (m * (bytes : Int)) := by rw [Int.natCast_mul, Int.toNat_of_nonneg (by omega)]
      have : ((m.toNat * bytes : Nat) : Int) ≤ 140737488355328 := Int.ofNat_le.2 hm1
      rw [Int.mul_comm]; omega
    have hrow := zero_row (z := z.cells) hzs m.toNat
    have hmb' : ¬ (281474976710656 < (bytes : Int) * m) := by omega
    refine ⟨.slice (some ⟨w.heap.size, 0, none⟩) m.toNat m.toNat, .cells ((Array.range (m.toNat * sz)).map (z.cells[· % z.cells.size]!)) e, ?_, rfl, rfl, fun G hG => ?_⟩
    · by_cases h0 : m.toNat * sz = 0
      · simp [execOp, h, Instr.makeSlice, run_underlying hu, get_int hx hs, get_int hy hs, asInt, asIntOf, hmi, typeInfo, hi, hi2, hT.size, hmn, hmb', askRoom, h0, newRow, show Array.range 0 = #[] from by decide]
      · simp [execOp, h, Instr.makeSlice, run_underlying hu, get_int hx hs, get_int hy hs, asInt, asIntOf, hmi, typeInfo, hi, hi2, hT.size, hmn, hmb', askRoom, h0, hT.zero, newRow]
    · have : G = MF.osl (.slice (some ⟨w.heap.size, 0, none⟩) m.toNat m.toNat) e sz E (List.replicate m.toNat z₀) := by simpa [RA.own] using hG
      subst this
      refine ⟨(List.replicate m.toNat z.cells.toList).flatten, ⟨?_, .inr ⟨w.heap.size, m.toNat, _, by simp, Nat.zero_le _, new_at _ _, by simp, by simp only [maxLen]; omega, by simp, ?_⟩⟩, ?_, by simp; omega⟩
      · simp [hzs]
      · rw [hrow, List.take_of_length_le (by simp [hzs])]
      · have h1 := ((hz (w.alloc (.cells ((Array.range (m.toNat * sz)).map (z.cells[· % z.cells.size]!)) e)) C).rep m.toNat)
        rw [List.flatMap_replicate]
        exact h1

/-! Arrays in variables. -/
/-! Three numbers. -/
end
end Go.Sim
/- Values that may be taken first: for each kind of operation that reads only what stays as it is. -/
namespace Go.Sim

section
variable {P : Program} {M : List MF} {ops : Array Oper} {o : Oper} {σ : Nat → Option Rp}

def QS (P : Program) (σ : Nat → Option Rp) (M : List MF) (o : Oper) (R : Rp) : Prop :=
  ∀ a w C, SlotsOk σ a w C → MOk M w C → ∃ v, R.p w C v ∧ ∀ w', Stab w C M w' → (execOp a.eval o).run P w' = .ok (.value v) w'
theorem QSpec.plain {R : Rp} (hg : o.guard = none) (h : QS P σ M o R) : QSpec P ops σ M o R := fun a w C hs hm =>
  let ⟨v, hv, hr⟩ := h a w C hs hm; ⟨v, hv, .inl ⟨by simp [Region.wanted, hg], hr⟩⟩
theorem QSpec.guard {R : Rp} {j t : Nat} {want b : Bool} (hg : o.guard = some (j, want)) (ht : (ops[j]?).bind (·.dst) = some t)
    (hb : σ t = some (Rp.bool b)) (hs : b = want → QS P σ M o R) : QSpec P ops σ M o (Rp.opt (b = want) R) := by
  intro a w C h hm
  have hy := yielded_bool ht (h t _ hb)
  by_cases hbw : b = want
  · obtain ⟨v, hv, hr⟩ := hs hbw a w C h hm
    exact ⟨v, ⟨fun _ => hv, fun hn => absurd hbw hn⟩, .inl ⟨by simp [Region.wanted, hg, hy, hbw], hr⟩⟩
  · exact ⟨undef, ⟨fun hc => absurd hc hbw, fun _ => rfl⟩, .inr ⟨by simp [Region.wanted, hg, hy, hbw], rfl⟩⟩
theorem QSpec.guardOpt {R : Rp} {j t : Nat} {want b : Bool} {c : Prop} (hg : o.guard = some (j, want)) (ht : (ops[j]?).bind (·.dst) = some t)
    (hb : σ t = some (Rp.opt c (Rp.bool b))) (hs : c ∧ b = want → QS P σ M o R) : QSpec P ops σ M o (Rp.opt (c ∧ b = want) R) := by
  intro a w C h hm
  have h2 := h t _ hb
  by_cases hc : c
  · have hy := yielded_bool ht (h2.1 hc)
    by_cases hbw : b = want
    · obtain ⟨v, hv, hr⟩ := hs ⟨hc, hbw⟩ a w C h hm
      exact ⟨v, ⟨fun _ => hv, fun hn => absurd ⟨hc, hbw⟩ hn⟩, .inl ⟨by simp [Region.wanted, hg, hy, hbw], hr⟩⟩
    · exact ⟨undef, ⟨fun hc => absurd hc.2 hbw, fun _ => rfl⟩, .inr ⟨by simp [Region.wanted, hg, hy, hbw], rfl⟩⟩
  · have hy := yielded_undef ht (h2.2 hc)
    exact ⟨undef, ⟨fun hc' => absurd hc'.1 hc, fun _ => rfl⟩, .inr ⟨by simp [Region.wanted, hg, hy], rfl⟩⟩

theorem qs_move {x : Operand} {R : Rp} (h : o.op = .move x) (hx : Get σ x R) : QS P σ M o R := fun a w C hs _ => ⟨a.eval x, hx a w C hs, fun w' _ => by simp [execOp, h]⟩
theorem qs_assign {x : Operand} {R : Rp} (h : o.op = .assign x) (hx : Get σ x R) : QS P σ M o R := fun a w C hs _ => ⟨a.eval x, hx a w C hs, fun w' _ => by simp [execOp, h]⟩
theorem qs_nilCheck {x : Operand} {R : Rp} [hn : NonNil R] (h : o.op = .nilCheck x) (hx : Get σ x R) : QS P σ M o R := fun a w C hs _ => by
  have h1 := hx a w C hs
  obtain ⟨ad, hv⟩ := hn.some _ _ _ h1
  exact ⟨a.eval x, h1, fun w' _ => by simp [execOp, h, hv]⟩
theorem qs_fieldAddr {T x f r off off'} {fs : Array Field} {fd : Field} {n : Nat} (h : o.op = .fieldAddr T x f) (hu : P.underlying T = some (.struct fs)) (hf : fs[f]? = some fd) (hn : ∀ w, (sizeOf fd.type).run P w = .ok (n + 1) w)
    (hx : Get σ x (Rp.ptr r off)) (ho : off + fd.offset = off') : QS P σ M o (Rp.ptr r off') := fun a w C hs _ =>
  ⟨.pointer (some ⟨r, off', none⟩), rfl, fun w' _ => by
    subst ho
    simp [execOp, h, show a.eval x = _ from hx a w C hs, Instr.fieldAt, run_underlying hu, hf, Instr.sureAddr, fieldPlace, hn, addr_add]⟩
theorem qs_load1 {t : TypeId} {x : Operand} {r off T m k : Nat} {Rs : List Rp} {R : Rp} (h : o.op = .load t x) (ha : ∀ w, (isAgg t).run P w = .ok false w) (hx : Get σ x (Rp.ptr r off)) (hk : M[k]? = some (MF.row r T m Rs)) (hR : Rs[off]? = some R) : QS P σ M o R :=
  fun a w C hs hm => by
    obtain ⟨cs, h1, h2, h3⟩ := row_fact hm hk rfl
    obtain ⟨v, hv, hR'⟩ := h3.1.get _ hR
    have hv' : cs[off]? = some v := by
      rw [List.getElem?_take] at hv
      split at hv
      · simpa using hv
      · cases hv
    refine ⟨v, hR', fun w' hw' => ?_⟩
    have h1' := (hw'.2 r (.inr (mem_feet.2 ⟨_, List.mem_of_getElem? hk, by simp [MF.row]⟩))).trans h1
    simp [execOp, h, show a.eval x = _ from hx a w C hs, run_load_row h1' hv' (ha w')]
theorem qs_loadW {t : TypeId} {x : Operand} {r T k n : Nat} {Rs : List Rp} (h : o.op = .load t x) (ha : ∀ w, (isAgg t).run P w = .ok true w) (hn : ∀ w, (sizeOf t).run P w = .ok n w) (hx : Get σ x (Rp.ptr r 0)) (hk : M[k]? = some (MF.box r T Rs))
    (hb : Rs.length = n) : QS P σ M o (Rp.agg Rs) :=
  fun a w C hs hm => by
    obtain ⟨cs, h1, h2, h3⟩ := row_fact hm hk rfl
    have hl := h3.1.length
    simp only [List.length_take, Array.length_toList] at hl
    subst hb
    refine ⟨_, ⟨_, rfl, h3⟩, fun w' hw' => ?_⟩
    have h1' := (hw'.2 r (.inr (mem_feet.2 ⟨_, List.mem_of_getElem? hk, by simp [MF.box, MF.row]⟩))).trans h1
    simp [execOp, h, show a.eval x = _ from hx a w C hs, run_loadA_row h1' (n := Rs.length) (off := 0) (by omega) (ha w') (hn w')]
end

theorem getD_some {α : Type} [Inhabited α] {xs : List α} {i : Int} (h : 0 ≤ i ∧ i < xs.length) : xs[i.toNat]? = some (xs.getD i.toNat default) := by
  have : i.toNat < xs.length := by omega
  simp [List.getD_eq_getElem?_getD, this]

/-! Loops whose other slots and facts stay. -/
section
variable {P : Program} {B : Base} {n : Nat} {S : List (Nat × Rp)} {M : List MF} {Q : Exit → Act → World → Prop}
theorem look_app {t : Nat} : ∀ (A C : List (Nat × Rp)), look t (A ++ C) = (look t A).or (look t C)
  | [], C => by simp [look]
  | (d, R) :: A, C => by
    by_cases h : d = t
    · subst h; rw [List.cons_append, look_cons_eq, look_cons_eq]; rfl
    · rw [List.cons_append, look_cons_ne h, look_cons_ne h, look_app A C]
theorem Sub.append {A K : List (Nat × Rp)} (h : Sub S A) (h' : Sub S K) : Sub S (A ++ K) := fun t R ht => by
  rw [look_app] at ht
  cases hA : look t A with
  | some R' => rw [hA] at ht; exact h t R (by rw [hA]; exact ht)
  | none => rw [hA] at ht; exact h' t R (by simpa using ht)
theorem W.loopK {σ : Type} {c : Code} {K : List (Nat × Rp)} {MK : List MF} (hK : Sub S K) (Ch : σ → List (Nat × Rp)) (Mz : σ → List MF) (I : σ → Prop) (μ : σ → Nat) (s₀ : σ) (hI : I s₀) (hs : Sub S (Ch s₀)) (hp : Pick M (Mz s₀ ++ MK))
    (round : ∀ s, I s → ∀ S' M', S' = Ch s ++ K → M' = Mz s ++ MK → W P B n S' M' c (Exit.then (Rnd B n (fun s => Ch s ++ K) (fun s => Mz s ++ MK) I μ s) Q)) : W P B n S M (.loop c) Q :=
  W.loop (fun s => Ch s ++ K) (fun s => Mz s ++ MK) I μ s₀ hI (hs.append hK) hp fun s hI => round s hI _ _ rfl rfl
theorem N.roundK {σ : Type} {K : List (Nat × Rp)} {MK : List MF} {Ch : σ → List (Nat × Rp)} {Mz : σ → List MF} {I : σ → Prop} {μ : σ → Nat} {s : σ} (s' : σ) (hI : I s') (hμ : μ s' < μ s) (hs : Sub S (Ch s')) (hk : Sub S K) (hp : Pick M (Mz s' ++ MK)) :
    N B n S M .normal (Exit.then (Rnd B n (fun s => Ch s ++ K) (fun s => Mz s ++ MK) I μ s) Q) :=
  N.round s' hI hμ (hs.append hk) hp
end
end Go.Sim
/- A function that calls itself through a variable of its own: the variable is published, and leads to a closure that has it. -/
namespace Go.Sim

/-- A pointer to a published variable with a closure that captures this very pointer. -/
def Rp.self (r : Nat) (f : FuncId) (pre post : List Rp) : Rp where
  p w C v := v = .pointer (some ⟨r, 0, none⟩) ∧ RowAt [Rp.clo f (pre ++ Rp.ptr r 0 :: post)] w C ⟨r, 0, none⟩
  mono hp := fun ⟨hv, h⟩ => ⟨hv, h.mono hp⟩
instance {r f pre post} : One (Rp.self r f pre post) := ⟨fun _ _ _ ⟨h, _⟩ => by rw [h]; rfl⟩
section
variable {P : Program} {B : Base} {n : Nat} {S : List (Nat × Rp)} {M : List MF} {Q : Exit → Act → World → Prop} {ops : Array Oper} {rest : List Oper} {o : Oper} {σ : Nat → Option Rp}
/-- Several operations are ready: each may be the next one. -/
def Forks (P : Program) (B : Base) (n : Nat) (l : List Oper) (Q : Exit → Act → World → Prop) (Ms : List MF) (done : List Nat) (S : List (Nat × Rp)) (M : List MF) : List Nat → Prop
  | [] => True
  | i :: is => (∃ o, l[i]? = some o ∧ ∀ w C, L P ⟨w, C, feet M⟩ n S M l.toArray [o] (AftH P B ⟨w, C, feet M⟩ n l Q Ms (i :: done))) ∧ Forks P B n l Q Ms done S M is
theorem Forks.get {l : List Oper} {Ms : List MF} {done : List Nat} : ∀ {is : List Nat}, Forks P B n l Q Ms done S M is → ∀ i ∈ is, ∃ o, l[i]? = some o ∧ ∀ w C, L P ⟨w, C, feet M⟩ n S M l.toArray [o] (AftH P B ⟨w, C, feet M⟩ n l Q Ms (i :: done))
  | [], _, i, hi => by cases hi
  | j :: is, h, i, hi => by
    rcases List.mem_cons.1 hi with rfl | hi
    · exact h.1
    · exact h.2.get i hi
end
end Go.Sim
/- Package variables that are laid: a fact without a footprint, loads through it, and calls that need it. -/
namespace Go.Sim

/-- A package variable is published, with a row. -/
def MF.glob (g : Nat) (Rs : List Rp) : MF where
  foot := []
  p w C := RowAt Rs w C ⟨g, 0, none⟩
  loc hp _ h := h.mono hp
section
variable {P : Program} {M : List MF} {o : Oper} {σ : Nat → Option Rp}
theorem get_glob {g : Nat} {Rs : List Rp} {k : Nat} (hk : M[k]? = some (MF.glob g Rs)) {a : Act} {w : World} {C : Nat → Prop} (hm : MOk M w C) : (Rp.at Rs).p w C (a.eval (.global g)) :=
  ⟨⟨g, 0, none⟩, rfl, hm.facts _ (List.mem_of_getElem? hk)⟩
theorem spec_callG {f : FuncId} {args : Array Operand} {ts : Array TypeId} {A : List Rp} {X : RA} {g k : Nat} {Rs : List Rp} (h : o.op = .call ⟨.value (.func f), args, ts⟩) (hc : ∀ args w, (callFunc f args).run P w = .ok (.enter f args) w)
    (hk : M[k]? = some (MF.glob g Rs)) (hf : CallT P f A [MF.glob g Rs] X) (ha : ArgsOk σ args.toList A) : Spec P σ M o X := by
  intro a w C K Q hs hm hk'
  unfold Oper.wp
  rw [show (execOp a.eval o).run P w = .ok (.enter f (args.map a.eval)) w by
    simp [execOp, h, resolve, Deferred.ofValue, Act.eval, invoke, hc]]
  rw [Oper.upon_enter]
  refine (hf w C _ (by simpa using args_run hs ha) ⟨fun F hF => by rw [List.mem_singleton.1 hF]; exact hm.facts _ (List.mem_of_getElem? hk), by simp [feet, MF.glob], by simp [feet, MF.glob], hm.wf⟩).mono ?_
  rintro e w' ⟨i, v, C', rfl, he, hR, hM, hb⟩
  exact hk' i v w' C' (by simpa [feet, MF.glob] using he) hM.wf hR ⟨hM.facts, hM.nodup, fun b hb' => ⟨(hb b hb').resolve_left (by simp [feet, MF.glob]), hM.own b hb'⟩⟩
end
end Go.Sim
/- The statement's end where package variables are laid. -/
namespace Go.Sim
open Go.ChangeShapes Go.WideShapes Go.ChangeAt Go.RowKit
end Go.Sim
/- A laid package variable of strings, as a ghost fact. -/
namespace Go.Sim
open Go.ChangeShapes Go.WideShapes Go.ChangeAt Go.RowKit
end Go.Sim
/- Strings: bytes, parts, sums, comparisons, and ranging over runes. -/
namespace Go.Sim
open Go

section
variable {P : Program} {B : Base} {n : Nat} {S : List (Nat × Rp)} {M : List MF} {Q : Exit → Act → World → Prop} {ops : Array Oper} {rest : List Oper} {o : Oper} {σ : Nat → Option Rp}

theorem bytes_get {l : List UInt8} {i : Nat} (h : i < l.length) : (ByteArray.mk l.toArray)[i]? = some (l.getD i 0) := by
  have : (ByteArray.mk l.toArray).size = l.length := by simp [ByteArray.size]
  rw [getElem?_pos _ _ (by rw [this]; exact h)]
  simp only [List.getD, List.getElem?_eq_getElem h, Option.getD_some]
  rfl
/-- 's[i]'. -/
theorem spec_indexS {T : TypeId} {x ix : Operand} {l : List UInt8} {k : IntKind} {i : Int} (h : o.op = .index T x ix) (hu : P.underlying T = some .string) (hx : Get σ x (Rp.str l)) (hi : Get σ ix (Rp.int k i)) (hr : 0 ≤ i ∧ i < l.length) :
    Spec P σ M o (.one (Rp.int .u8 (l.getD i.toNat 0).toNat)) :=
  Spec.of_run fun a w C hs _ => ⟨.int .u8 (l.getD i.toNat 0).toNat, by
    simp [execOp, h, Instr.index, get_int hi hs, asIntOf, run_underlying hu, get_str hx hs, hr.1, bytes_get (show i.toNat < l.length by omega)], rfl, by
      have := (l.getD i.toNat 0).toNat_lt
      simp only [InR]; omega⟩

theorem extract_mk (l : List UInt8) (i j : Nat) : (ByteArray.mk l.toArray).extract i j = ⟨((l.drop i).take (j - i)).toArray⟩ := by
  apply ByteArray.ext
  simp
/-- 's[i:j]'. -/
theorem spec_sliceS {T : TypeId} {x : Operand} {lo hi : Option Operand} {l : List UInt8} {i j : Nat} (h : o.op = .slice T x lo hi none) (hu : P.underlying T = some .string) (hx : Get σ x (Rp.str l)) (hlo : Bnd σ lo 0 i) (hhi : Bnd σ hi l.length j) (hb : i ≤ j ∧ j ≤ l.length) :
    Spec P σ M o (.one (Rp.str ((l.drop i).take (j - i)))) :=
  Spec.of_run fun a w C hs _ => by
    have hl := (hx a w C hs).2
    have hb1 := run_bounds (P := P) (b := false) (w := w) (cap := l.length) hs hlo hhi hb.1 hb.2 (Nat.le_refl _)
    have hsz : (ByteArray.mk l.toArray).size = l.length := by simp [ByteArray.size]
    refine ⟨.string ⟨((l.drop i).take (j - i)).toArray⟩, ?_, rfl, by simp; omega⟩
    simp [execOp, h, Instr.sliceAt, run_underlying hu, get_str hx hs, Instr.slice, hsz, hb1, extract_mk]

/-- 's + t'. -/
theorem spec_addS {T T' : TypeId} {x y : Operand} {l m : List UInt8} (h : o.op = .binOp .add T x y T') (hx : Get σ x (Rp.str l)) (hy : Get σ y (Rp.str m)) (hb : l.length + m.length ≤ 9223372036854775807) : Spec P σ M o (.one (Rp.str (l ++ m))) :=
  Spec.of_run fun a w C hs _ => ⟨.string ⟨(l ++ m).toArray⟩, by
    have e1 : (ByteArray.mk l.toArray).size = l.length := by simp [ByteArray.size]
    have e2 : (ByteArray.mk m.toArray).size = m.length := by simp [ByteArray.size]
    have e3 : ByteArray.mk l.toArray ++ ByteArray.mk m.toArray = ⟨(l ++ m).toArray⟩ := by apply ByteArray.ext; simp
    have e4 : ¬ (((l.length + m.length : Nat) : Int) > IntKind.i64.max) := by
      rw [show IntKind.i64.max = 9223372036854775807 from rfl]; omega
    simp only [execOp, h, get_str hx hs, get_str hy hs, Sem.run_bind, eqGuard_str, Result.andThen_ok, binOp, Op.stringOp, Sem.run_pure, e1, e2, e3, e4, if_false], rfl, by simpa using hb⟩
/-! Ranging over a string. -/
/-- The rune at a place and how many bytes it takes. -/
def runeAt (l : List UInt8) (i : Nat) : Nat × Nat := Utf8.decode ⟨l.toArray⟩ i
/-- What 'next' yields. -/
def Rp.nx (l : List UInt8) (i : Nat) : Rp where
  p _ _ v := if i < l.length then v = .tuple #[.bool true, .int .i64 i, .int .i32 (runeAt l i).1] ∧ InR .i64 i else v = .tuple #[.bool false]
  mono _ h := h

end
end Go.Sim
/- Bit operations on numbers that are not negative, by their bits; shifts that fit. -/
namespace Go.Sim

section
variable {P : Program} {M : List MF} {o : Oper} {σ : Nat → Option Rp}
end
end Go.Sim
/- Lists by their indices: first index with a property, first error, folds over beginnings. -/
namespace Go.Sim
theorem getD_mem' {α : Type} [Inhabited α] {l : List α} {i : Nat} (h : i < l.length) : l.getD i default ∈ l := by
  rw [List.getD, List.getElem?_eq_getElem h]; exact List.getElem_mem h
theorem mem_getD {α : Type} [Inhabited α] {l : List α} {x : α} (h : x ∈ l) : ∃ i, i < l.length ∧ l.getD i default = x := by
  obtain ⟨i, hi, rfl⟩ := List.getElem_of_mem h
  exact ⟨i, hi, by rw [List.getD, List.getElem?_eq_getElem hi]; rfl⟩
theorem take_succ {α : Type} [Inhabited α] {l : List α} {i : Nat} (h : i < l.length) : l.take (i + 1) = l.take i ++ [l.getD i default] := by
  rw [List.take_add_one, List.getElem?_eq_getElem h, List.getD, List.getElem?_eq_getElem h]; rfl
theorem fold_take {α β : Type} [Inhabited α] (f : β → α → β) (b : β) {l : List α} {i : Nat} (h : i < l.length) : (l.take (i + 1)).foldl f b = f ((l.take i).foldl f b) (l.getD i default) := by
  rw [take_succ h, List.foldl_append]; rfl
/-- The first index of an element with a property; -1 if there is none. -/
def idxI {α : Type} (p : α → Bool) (l : List α) : Int := match l.findIdx? p with | some i => (i : Int) | none => -1
theorem idx_yes {α : Type} [Inhabited α] {p : α → Bool} {l : List α} {i : Nat} (hi : i < l.length) (h : p (l.getD i default) = true) (hn : ∀ j, j < i → p (l.getD j default) = false) : idxI p l = i := by
  have : l.findIdx? p = some i := by
    rw [List.findIdx?_eq_some_iff_getElem]
    refine ⟨hi, ?_, fun j hj => ?_⟩
    · simpa [List.getD, hi] using h
    · have := hn j hj
      simpa [List.getD, show j < l.length by omega] using this
  simp [idxI, this]
theorem idx_no {α : Type} [Inhabited α] {p : α → Bool} {l : List α} (hn : ∀ j, j < l.length → p (l.getD j default) = false) : idxI p l = -1 := by
  have : l.findIdx? p = none := by
    rw [List.findIdx?_eq_none_iff]
    intro x hx
    obtain ⟨i, hi, rfl⟩ := mem_getD hx
    exact hn i hi
  simp [idxI, this]
theorem idx_cases {α : Type} [Inhabited α] (p : α → Bool) (l : List α) : (∃ i, i < l.length ∧ p (l.getD i default) = true ∧ (∀ j, j < i → p (l.getD j default) = false) ∧ idxI p l = i) ∨ ((∀ j, j < l.length → p (l.getD j default) = false) ∧ idxI p l = -1) := by
  by_cases h : ∀ j, j < l.length → p (l.getD j default) = false
  · exact .inr ⟨h, idx_no h⟩
  · have : ∃ i, i < l.length ∧ p (l.getD i default) = true ∧ ∀ j, j < i → p (l.getD j default) = false := by
      have key : ∀ n, n ≤ l.length → (∀ j, j < n → p (l.getD j default) = false) ∨ ∃ i, i < n ∧ p (l.getD i default) = true ∧ ∀ j, j < i → p (l.getD j default) = false := by
        intro n
        induction n with
        | zero => intro _; exact .inl fun j hj => absurd hj (Nat.not_lt_zero _)
        | succ n ih =>
          intro hn
          rcases ih (by omega) with h1 | ⟨i, h1, h2, h3⟩
          · cases hp : p (l.getD n default) with
            | true => exact .inr ⟨n, by omega, hp, h1⟩
            | false =>
              refine .inl fun j hj => ?_
              rcases Nat.lt_succ_iff_lt_or_eq.1 hj with hj | rfl
              · exact h1 j hj
              · exact hp
          · exact .inr ⟨i, by omega, h2, h3⟩
      rcases key _ (Nat.le_refl _) with h1 | h1
      · exact absurd h1 h
      · exact h1
    obtain ⟨i, h1, h2, h3⟩ := this
    exact .inl ⟨i, h1, h2, h3, idx_yes h1 h2 h3⟩
theorem idx_any {α : Type} [Inhabited α] (p : α → Bool) (l : List α) : decide (0 ≤ idxI p l) = l.any p := by
  rw [Bool.eq_iff_iff, decide_eq_true_eq, List.any_eq_true]
  rcases idx_cases p l with ⟨i, h1, h2, _, h4⟩ | ⟨h1, h2⟩
  · exact ⟨fun _ => ⟨_, getD_mem' h1, h2⟩, fun _ => by omega⟩
  · refine ⟨fun h => by omega, fun ⟨x, hx, hp⟩ => ?_⟩
    obtain ⟨i, hi, rfl⟩ := mem_getD hx
    rw [h1 i hi] at hp; cases hp
theorem idx_get {α : Type} [Inhabited α] {p : α → Bool} {l : List α} (h : 0 ≤ idxI p l) : p (l.getD (idxI p l).toNat default) = true := by
  rcases idx_cases p l with ⟨i, _, h2, _, h4⟩ | ⟨_, h2⟩
  · rw [h4]; exact h2
  · omega
theorem any_no {α : Type} [Inhabited α] {p : α → Bool} {l : List α} (hn : ∀ j, j < l.length → p (l.getD j default) = false) : l.any p = false := by
  rw [← idx_any, idx_no hn]; rfl
theorem any_yes {α : Type} [Inhabited α] {p : α → Bool} {l : List α} {i : Nat} (hi : i < l.length) (h : p (l.getD i default) = true) : l.any p = true :=
  List.any_eq_true.2 ⟨_, getD_mem' hi, h⟩

/-! Names: letters, digits, '_', beginning with a small letter; no keyword. -/
def lowB (c : Int) : Bool := decide (97 ≤ c) && decide (c ≤ 122)
def digB (c : Int) : Bool := decide (48 ≤ c) && decide (c ≤ 57)
def folB (c : Int) : Bool := lowB c || digB c || (decide (65 ≤ c) && decide (c ≤ 90)) || decide (c = 95)
def ch (s : List UInt8) (i : Nat) : Int := ((s.getD i 0).toNat : Int)
def wordB (s : List UInt8) : Bool := decide (s ≠ []) && lowB (ch s 0) && decide (∀ j, j < s.length → folB (ch s j) = true)
def keywords : List (List UInt8) := [[99, 108, 97, 115, 115], [101, 120, 116, 101, 110, 100, 115], [114, 97, 110, 100], [114, 97, 110, 100, 99], [115, 116, 97, 116, 101], [99, 111, 110, 115, 116, 114, 97, 105, 110, 116], [115, 111, 102, 116], [100, 105, 115, 116], [105, 102], [101, 108, 115, 101], [101, 97, 99, 104], [105, 110], [115, 111, 108, 118, 101], [98, 101, 102, 111, 114, 101], [105, 110, 115, 105, 100, 101], [112, 114, 111, 112, 101, 114, 116, 121], [115, 101, 113], [97, 110, 100], [111, 114], [110, 111, 116], [115, 101, 116], [104, 111, 108, 100], [112, 108, 97, 105, 110], [114, 101, 112, 101, 97, 116]]
def kwB (s : List UInt8) : Bool := keywords.any fun x => s == x
def nameB (s : List UInt8) : Bool := wordB s && decide (s.length ≤ 16) && !kwB s
theorem name_ne {s : List UInt8} (h : ((s == []) || decide (16 < (s.length : Int))) = false) : 0 < s.length := by
  cases s with
  | nil => simp at h
  | cons a s => simp
theorem name_first {s : List UInt8} (hn : nameB s = true) (h : ((((s == []) || decide (16 < (s.length : Int))) || !lowB (ch s 0)) || kwB s) = true) : False := by
  simp only [nameB, wordB, Bool.and_eq_true, decide_eq_true_eq, Bool.not_eq_true'] at hn
  obtain ⟨⟨⟨⟨h1, h2⟩, h3⟩, h4⟩, h5⟩ := hn
  simp only [Bool.or_eq_true, Bool.not_eq_true', decide_eq_true_eq, beq_iff_eq] at h
  rcases h with ((h | h) | h) | h
  · exact h1 h
  · omega
  · rw [h2] at h; cases h
  · rw [h5] at h; cases h
theorem name_inner {s : List UInt8} (hn : nameB s = true) {i : Nat} (hi : i < s.length) (h : folB (ch s i) = false) : False := by
  simp only [nameB, wordB, Bool.and_eq_true, decide_eq_true_eq, Bool.not_eq_true'] at hn
  obtain ⟨⟨⟨⟨h1, h2⟩, h3⟩, h4⟩, h5⟩ := hn
  rw [h3 i hi] at h; cases h
theorem name_all {s : List UInt8} (h : ((((s == []) || decide (16 < (s.length : Int))) || !lowB (ch s 0)) || kwB s) = false) (hf : ∀ j, j < s.length → folB (ch s j) = true) : nameB s = true := by
  simp only [Bool.or_eq_false_iff, Bool.not_eq_false', decide_eq_false_iff_not] at h
  obtain ⟨⟨⟨h1, h2⟩, h3⟩, h4⟩ := h
  simp only [nameB, wordB, Bool.and_eq_true, decide_eq_true_eq, Bool.not_eq_true']
  exact ⟨⟨⟨⟨by intro e; subst e; simp at h1, h3⟩, hf⟩, by omega⟩, h4⟩
end Go.Sim
/- Conversions between strings and bytes; calls that need a ghost fact of any kind; a library's contract as a contract here. -/
namespace Go.Sim
open Go
theorem get_rp {S : Nat → Option Rp} {x : Operand} {R : Rp} {a : Act} {w : World} {C : Nat → Prop} (hx : Get S x R) (hs : SlotsOk S a w C) : R.p w C (a.eval x) := hx a w C hs
section
variable {P : Program} {M : List MF} {o : Oper} {σ : Nat → Option Rp}
theorem u8_len {E : UInt8 → List Rp} (hE : ∀ b, E b = [Rp.int .u8 (b.toNat : Int)]) : ∀ l : List UInt8, (l.flatMap E).length = l.length
  | [] => rfl
  | b :: l => by rw [List.flatMap_cons, hE, List.length_append, u8_len hE l]; simp; omega
theorem eU8_all {E : UInt8 → List Rp} (hE : ∀ b, E b = [Rp.int .u8 (b.toNat : Int)]) {w : World} {C : Nat → Prop} : ∀ {l : List UInt8} {vs : List Value}, AllP (l.flatMap E) w C vs → vs = l.map fun b => Value.int .u8 (b.toNat : Int)
  | [], [], _ => rfl
  | [], _ :: _, h => h.elim
  | b :: l, vs, h => by
    rw [List.flatMap_cons, hE b] at h
    match vs, h with
    | v :: vs, ⟨h1, h2⟩ =>
      rw [List.map_cons, eU8_all hE h2, h1.1]
    | [], h => exact h.elim
/-- 'string(bytes)'. -/
theorem spec_bytesStr {T T' e : TypeId} {x : Operand} {E : UInt8 → List Rp} {l : List UInt8} (hE : ∀ b, E b = [Rp.int .u8 (b.toNat : Int)]) (h : o.op = .convert T T' x) (hs : P.underlying T = some (.slice e)) (he : P.underlying e = some (.int .u8)) (hd : P.underlying T' = some .string)
    (hx : Get σ x (Rp.slice E l)) : Spec P σ M o (.one (Rp.str l)) :=
  Spec.of_run fun a w C hsl _ => by
    obtain ⟨hl, hv⟩ := get_rp hx hsl
    have hone : ∀ v, v = .slice none 0 0 → (convert T T' v).run P w = .ok (.string ⟨#[]⟩) w := by
      rintro v rfl
      rw [run_convert_bytes_string w T T' e none 0 0 hs he hd]
      simp [Conv.bytesToString]
      rfl
    rcases hv with ⟨hv, rfl⟩ | ⟨ad, cap, hv, _, hrow⟩
    · exact ⟨.string ⟨#[]⟩, by simp [execOp, h, hone _ hv], rfl, by simp⟩
    · refine ⟨.string ⟨l.toArray⟩, ?_, rfl, by simpa using hl⟩
      have := run_convert_bytes_back (P := P) w T T' e ad cap l hs he hd (fun j hj => by
        rcases hrow with rfl | ⟨hsp, hC, cs, T0, fr, hc, hA⟩
        · simp at hj
        · have hvs := eU8_all hE hA.1
          have hfl := u8_len hE l
          rw [hfl] at hvs
          have h2 : ((cs.toList.drop ad.off).take l.length)[j]? = some (.int .u8 (l[j].toNat : Int)) := by rw [hvs]; simp [hj]
          rw [List.getElem?_take, if_pos hj, List.getElem?_drop] at h2
          have e2 : ad.add j = ⟨ad.block, ad.off + j, none⟩ := by unfold Addr.add; cases ad; simp_all
          rw [e2]
          simp only [World.cell?, hc]
          simpa using h2)
      simp [execOp, h, hv, this]
end

end Go.Sim
/- Function values that need a ghost fact. -/
namespace Go.Sim
open Go
theorem spec_callFG {P : Program} {M : List MF} {o : Oper} {σ : Nat → Option Rp} {ι : Type} {A : ι → List Rp} {X : ι → RA} {k : Nat} {F : MF} (hk : M[k]? = some F) (hF : F.foot = []) (i : ι) {x : Operand} {args : Array Operand} {ts : Array TypeId} (h : o.op = .call ⟨.value x, args, ts⟩)
    (hx : Get σ x (Rp.fnM P A (fun _ => [F]) X)) (ha : ArgsOk σ args.toList (A i)) : Spec P σ M o (X i) := by
  intro a w C K Q hs hm hk'
  have hft : feet [F] = [] := by simp [feet, hF]
  obtain ⟨f, Rs, ⟨caps, hv, hcaps⟩, hc, hf⟩ := hx a w C hs
  unfold Oper.wp
  rw [run_callV h hv hc, Oper.upon_enter]
  refine (hf i w C _ (by simpa using (args_run hs ha).append hcaps) ⟨fun G hG => by rw [List.mem_singleton.1 hG]; exact hm.facts _ (List.mem_of_getElem? hk), by rw [hft]; simp, by rw [hft]; simp, hm.wf⟩).mono ?_
  rintro e w' ⟨j, v, C', rfl, he, hR, hM, hb⟩
  rw [hft] at he hb
  exact hk' j v w' C' he hM.wf hR ⟨hM.facts, hM.nodup, fun b hb' => ⟨(hb b hb').resolve_left (by simp), hM.own b hb'⟩⟩
end Go.Sim
/- Many owned facts as one: an own slice of own slices. -/
namespace Go.Sim
open Go
def MF.many (Ms : List MF) : MF where
  foot := feet Ms
  p w C := ∀ F ∈ Ms, F.p w C
  loc hp hf h F hF := F.loc hp (fun b hb => hf b (mem_feet.2 ⟨F, hF, hb⟩)) (h F hF)
theorem feet_cons (F : MF) (M : List MF) : feet (F :: M) = F.foot ++ feet M := by simp [feet]
section
variable {P : Program} {B : Base} {n : Nat} {S : List (Nat × Rp)} {M : List MF} {Q : Exit → Act → World → Prop} {ops : Array Oper} {rest : List Oper}
theorem St.swapM {M' : List MF} {a : Act} {w : World} {C : Nat → Prop} (hp : (feet M').Perm (feet M)) (hf : ∀ F ∈ M', F.p w C) (st : St B n S M a w C) : St B n S M' a w C :=
  ⟨st.size, st.defers, st.slots, ⟨hf, hp.nodup_iff.2 st.mem.nodup, fun b hb => st.mem.own b (hp.mem_iff.1 hb), st.mem.wf⟩, st.eff, fun b hb => st.since b (hp.mem_iff.1 hb)⟩
/-- Of nothing but nil slices. -/
theorem W.many {c : Code} {Ms : List MF} (hf : feet Ms = []) (h0 : ∀ w C, ∀ F ∈ Ms, F.p w C) (h : W P B n S (MF.many Ms :: M) c Q) : W P B n S M c Q := fun a w C st => h a w C (st.swapM (by rw [feet_cons]; simp [MF.many, hf]) (fun G hG => by
  rcases List.mem_cons.1 hG with rfl | hG
  · exact h0 w C
  · exact st.mem.facts G hG))
end
end Go.Sim
namespace Go.Sim
open Go
end Go.Sim
/- Calls that read a row of an own slice of own slices, or all of it. -/
namespace Go.Sim
open Go
theorem Lift.row {α : Type} {M Ms : List MF} {v : Value} {T sz : Nat} {E : α → List Rp} {xs : List α} (k i : Nat) (hk : M[k]? = some (MF.many Ms)) (hi : Ms[i]? = some (MF.osl v T sz E xs)) (hE : ∀ x, (E x).length = sz) : Lift M (Rp.val v) (Rp.slice E xs) := fun w C C' u hC hf hm hu => by
  rw [show u = v from hu]
  have hk' := List.mem_of_getElem? hk
  have hi' := List.mem_of_getElem? hi
  exact osl_read hE (fun b hb => ⟨hC b hb, rfl⟩) (fun b hb => hf b (mem_feet.2 ⟨_, hk', mem_feet.2 ⟨_, hi', by simp [MF.osl, hb]⟩⟩)) (hm _ hk' _ hi')
end Go.Sim
/- Values of recursive types; arguments whose sizes are known; slices of one element that are owned. -/
namespace Go.Sim
open Go.ChangeShapes Go.WideShapes Go.ChangeAt Go.RowKit
theorem Rp.ext' {R R' : Rp} (h : R.p = R'.p) : R = R' := by cases R; cases R'; cases h; rfl
/-- A slice of rows that are given one by one. -/
theorem slice_map {α : Type} (E : α → List Rp) (xs : List α) : Rp.slice (fun r : List Rp => r) (xs.map E) = Rp.slice E xs := Rp.ext' (by
  funext w C v
  simp only [Rp.slice, List.length_map, List.map_eq_nil_iff, List.flatMap_map])
theorem Spec.eq {P : Program} {σ : Nat → Option Rp} {M : List MF} {o : Oper} {R R' : Rp} (e : R = R') (h : Spec P σ M o (.one R)) : Spec P σ M o (.one R') := e ▸ h
theorem Get.eq {σ : Nat → Option Rp} {x : Operand} {R R' : Rp} (e : R = R') (h : Get σ x R) : Get σ x R' := e ▸ h
section
variable {P : Program} {σ : Nat → Option Rp} {M : List MF} {o : Oper}
end
section
variable {P : Program} {M : List MF} {o : Oper} {σ : Nat → Option Rp}
end
/-! Arguments with their sizes. -/
def OpensS (P : Program) (t : TypeId) (N : Nat) {α : Type} (R : α → List Rp) (Q : α → Prop) : Prop :=
  ∀ {H : Type} (enc : TypeId × Value → H) (w : World) (fuel : Nat) (cs : List Value) (x : DataW H × List MemPlace), fuel ≤ N →
    DataW.trod enc P w 0 (fun _ => true) true fuel t cs = some x → (∀ m ∈ x.1.weights P t, m ≤ reachBytes) → ∃ a, AllR (R a) w (old w) cs ∧ Q a
section
variable {P : Program} {t : TypeId} {N : Nat}
theorem OpensS.of {α : Type} {R : α → List Rp} (h : Opens P t R) : OpensS P t N R (fun _ => True) := by
  intro H enc w fuel cs x _ hx _
  obtain ⟨a, ha⟩ := h enc w fuel cs x hx
  exact ⟨a, ha, trivial⟩
theorem weightsAll_in {H : Type} {e : TypeId} {m : Nat} {d : DataW H} : ∀ {l : List (DataW H)}, d ∈ l → m ∈ DataW.weights P e d → m ∈ DataW.weightsAll P e l
  | y :: r, h, hx => by
    simp only [DataW.weightsAll]
    rcases List.mem_cons.1 h with rfl | h
    · exact List.mem_append_left _ hx
    · exact List.mem_append_right _ (weightsAll_in h hx)
theorem OpensS.slice {α : Type} {e : TypeId} {E : α → List Rp} {c b : Nat} {Q : α → Prop} (ht : P.underlying t = some (.slice e)) (hc : P.cellsOf e = c) (hby : P.bytesOf e = b) (hpos : 0 < c) (hE : ∀ x, (E x).length = c) (he : ∀ n, n + 1 ≤ N → OpensS P e n E Q) :
    OpensS P t N (fun l : List α => [Rp.slice E l]) (fun l => l.length * b ≤ reachBytes ∧ ∀ a ∈ l, Q a) := by
  intro H enc w fuel cs x hN h hwt
  rcases DataW.trod_slice ht h with ⟨rfl, _⟩ | ⟨a, len, cap, elems, rest, n, rfl, rfl, rfl, _, hl, hm, hlen, hel, _, _⟩
  · exact ⟨[], ⟨⟨⟨by simp, .inl ⟨rfl, rfl⟩⟩, trivial⟩, by simp [Value.oneCell']⟩, by simp, fun a h => by cases h⟩
  rw [hc] at hel
  have hw1 : (elems.length + rest.length) * b ≤ reachBytes := hwt _ (by
    simp only [DataW.weights, ht, List.length_map, hby]
    exact List.mem_cons_self)
  have hgo : ∀ i, i < len → ∃ y, (∃ cs', w.cells? 0 (a.add (i * c)) c = some cs' ∧ AllR (E y) w (old w) cs') ∧ Q y := fun i hi => by
    have hi' : i < elems.length := by omega
    have key := hel i hi
    rw [List.getElem?_eq_getElem hi'] at key
    obtain ⟨cs', h1, h2⟩ := Option.bind_eq_some_iff.1 key
    obtain ⟨y, hy, hq⟩ := he n (by omega) enc w n cs' _ (Nat.le_refl _) h2 (fun m hm' => hwt m (by
      simp only [DataW.weights, ht]
      exact List.mem_cons_of_mem _ (List.mem_append_left _ (weightsAll_in (List.mem_map.2 ⟨elems[i], List.getElem_mem hi', rfl⟩) hm'))))
    exact ⟨y, ⟨cs', h1, hy⟩, hq⟩
  obtain ⟨l, hll, hp'⟩ := choose_list len hgo
  have hp : ∀ (i : Nat) (a_1 : α), l[i]? = some a_1 → ∃ cs', w.cells? 0 (a.add (i * c)) c = some cs' ∧ AllR (E a_1) w (old w) cs' := fun i y hy => (hp' i y hy).1
  refine ⟨l, ⟨⟨⟨by rw [hll]; simp [maxLen] at hm; omega, .inr ⟨a, cap, by rw [hll], by omega, ?_⟩⟩, trivial⟩, by simp [Value.oneCell']⟩, ?_, fun y hy => ?_⟩
  · rcases l with _ | ⟨y0, l'⟩
    · exact .inl rfl
    refine .inr ?_
    obtain ⟨cs0, h1, h2⟩ := hp 0 y0 rfl
    have hadd0 : a.add (0 * c) = a := by simp [Addr.add]
    rw [hadd0] at h1
    obtain ⟨hsp, hb, cells, T, fr, hh, _, _⟩ := allR_cells h1 h2 hpos
    refine ⟨hsp, hb, cells, T, fr, hh, ?_⟩
    rw [flatMap_len hE]
    have hpiece : ∀ i y, (y0 :: l')[i]? = some y → a.off + i * c + c ≤ cells.size ∧ ∃ cs', (cells.toList.drop (a.off + i * c)).take c = cs' ∧ AllR (E y) w (old w) cs' := fun i y hy => by
      obtain ⟨cs', h3, h4⟩ := hp i y hy
      have hadd : a.add (i * c) = ⟨a.block, a.off + i * c, none⟩ := by unfold Addr.add; split <;> (cases a; simp_all)
      rw [hadd] at h3
      obtain ⟨_, _, cells2, T2, fr2, hh2, hle, htk⟩ := allR_cells h3 h4 hpos
      simp only at hh2 hle htk
      rw [hh] at hh2
      obtain ⟨rfl, rfl, rfl⟩ : cells = cells2 ∧ T = T2 ∧ fr = fr2 := by cases hh2; exact ⟨rfl, rfl, rfl⟩
      exact ⟨hle, cs', htk, h4⟩
    refine allR_pieces hE _ _ ?_ ?_
    · have hlast := (hpiece ((y0 :: l').length - 1) ((y0 :: l')[(y0 :: l').length - 1]'(by simp)) (List.getElem?_eq_getElem _)).1
      have : ((y0 :: l').length - 1) * c + c = (y0 :: l').length * c := by
        rw [← Nat.succ_mul]; simp
      have hcl : cells.toList.length = cells.size := Array.length_toList
      rw [List.length_take, List.length_drop]
      omega
    · intro i y hy
      obtain ⟨_, cs', htk, h4⟩ := hpiece i y hy
      have hi : i < (y0 :: l').length := (List.getElem?_eq_some_iff.1 hy).1
      rw [List.drop_take, List.take_take, List.drop_drop]
      have : min c ((y0 :: l').length * c - i * c) = c := by
        have : (i + 1) * c ≤ (y0 :: l').length * c := Nat.mul_le_mul_right _ hi
        rw [Nat.add_mul] at this
        omega
      rw [this, htk]
      exact h4
  · rw [hll, ← hlen]
    exact Nat.le_trans (Nat.mul_le_mul_right b (Nat.le_add_right _ _)) hw1
  · obtain ⟨i, hi, rfl⟩ := List.getElem_of_mem hy
    exact (hp' i _ (List.getElem?_eq_getElem hi)).2
/-- The fields of a struct, with their sizes. -/
inductive FldsS (P : Program) (N : Nat) : List Field → Nat → {α : Type} → (α → List Rp) → (α → Prop) → Prop
  | nil {k : Nat} : FldsS P N [] k (fun _ : Unit => []) (fun _ => True)
  | cons {f : Field} {fs : List Field} {k c : Nat} {α β : Type} {R : α → List Rp} {Rs : β → List Rp} {Q : α → Prop} {Qs : β → Prop} (ho : f.offset = k) (hc : P.cellsOf f.type = c) (h : OpensS P f.type N R Q) (hs : FldsS P N fs (k + c) Rs Qs) :
      FldsS P N (f :: fs) k (fun g : α × β => R g.1 ++ Rs g.2) (fun g => Q g.1 ∧ Qs g.2)
theorem FldsS.opens {H : Type} {enc : TypeId × Value → H} {w : World} {n : Nat} (hn : n ≤ N) {cs : List Value} {fs : List Field} {k : Nat} {α : Type} {R : α → List Rp} {Q : α → Prop} (h : FldsS P N fs k R Q) :
    (∀ (i : Nat) (f : Field), fs[i]? = some f → ∃ x, DataW.trod enc P w 0 (fun _ => true) true n f.type ((cs.drop f.offset).take (P.cellsOf f.type)) = some x ∧ ∀ m ∈ x.1.weights P f.type, m ≤ reachBytes) → cs.length = k + (fs.map fun f => P.cellsOf f.type).sum →
    ∃ a, AllR (R a) w (old w) (cs.drop k) ∧ Q a := by
  induction h with
  | nil =>
    intro _ hl
    refine ⟨(), ?_, trivial⟩
    rw [List.drop_of_length_le (by simp at hl; omega)]
    exact ⟨trivial, by simp⟩
  | cons ho hc h hs ih =>
    intro hx hl
    obtain ⟨x, h0, hw0⟩ := hx 0 _ rfl
    obtain ⟨a, ha, hq⟩ := h enc w n _ x hn h0 hw0
    obtain ⟨b, hb, hqs⟩ := ih (fun i f' hf => hx (i + 1) f' (by simpa using hf)) (by rw [hl, List.map_cons, List.sum_cons, hc]; omega)
    refine ⟨(a, b), ?_, hq, hqs⟩
    rw [ho, hc] at ha
    have := ha.append hb
    rw [← List.drop_drop, List.take_append_drop] at this
    exact this
theorem OpensS.struct {α : Type} {R : α → List Rp} {Q : α → Prop} {fs : Array Field} {l : List Field} (ht : P.underlying t = some (.struct fs)) (hl : fs.toList = l) (hf : FldsS P N l 0 R Q) (hc : P.cellsOf t = (l.map fun f => P.cellsOf f.type).sum) : OpensS P t N R Q := by
  intro H enc w fuel cs x hN h hwt
  obtain ⟨xs, n, rfl, rfl, hlen, hxl, hx⟩ := DataW.trod_struct ht h
  have := hf.opens (enc := enc) (w := w) (n := n) (by omega) (cs := cs) (fun i f hi => by
    have hfi : fs[i]? = some f := by rw [← hl] at hi; simpa using hi
    have hlt : i < xs.length := by rw [hxl]; exact (Array.getElem?_eq_some_iff.1 hfi).1
    refine ⟨xs[i], by rw [hx i f hfi, List.getElem?_eq_getElem hlt], fun m hm => hwt m ?_⟩
    simp only [DataW.weights, ht]
    exact DataW.weights_mem_each (j := i) (t := f.type) (d := xs[i].1) (by rw [hl]; simp [hi]) (by simp [hlt]) m hm) (by rw [hlen, hc]; omega)
  simpa using this
theorem OpensS.map {α β : Type} {R : α → List Rp} {Q : α → Prop} {T : β → List Rp} {Q' : β → Prop} (h : OpensS P t N R Q) (hg : ∀ a, Q a → ∃ b, T b = R a ∧ Q' b) : OpensS P t N T Q' := by
  intro H enc w fuel cs x hN hx hwt
  obtain ⟨a, ha, hq⟩ := h enc w fuel cs x hN hx hwt
  obtain ⟨b, hb, hq'⟩ := hg a hq
  exact ⟨b, hb ▸ ha, hq'⟩
/-- An argument of the type. -/
def OpensVS (P : Program) (t : TypeId) {α : Type} (R : α → Rp) (Q : α → Prop) : Prop :=
  ∀ {H : Type} (enc : TypeId × Value → H) (w : World) (b : Nat) (v : Value) (d : DataW H) (ps : List MemPlace), Value.okWide P w .any b t v → DataW.Trod enc P w 0 (fun _ => true) true t v d ps → (∀ m ∈ d.weights P t, m ≤ reachBytes) → ∃ a, (R a).p w (old w) v ∧ Q a
theorem OpensVS.one {α : Type} {R : α → Rp} {Q : α → Prop} (h : ∀ N, OpensS P t N (fun a => [R a]) Q) (hv : ∀ w b v, Value.okWide P w .any b t v → v.cells = #[v]) : OpensVS P t R Q := by
  intro H enc w b v d ps hok ⟨n, hn⟩ hwt
  obtain ⟨a, ha, hq⟩ := h n enc w n _ _ (Nat.le_refl _) hn hwt
  rw [hv w b v hok] at ha
  exact ⟨a, ha.1.1, hq⟩
theorem OpensVS.agg {α : Type} {R : α → List Rp} {Q : α → Prop} (h : ∀ N, OpensS P t N R Q) (hv : ∀ w b v, Value.okWide P w .any b t v → ∃ cs, v = .agg cs) : OpensVS P t (fun a => Rp.agg (R a)) Q := by
  intro H enc w b v d ps hok ⟨n, hn⟩ hwt
  obtain ⟨a, ha, hq⟩ := h n enc w n _ _ (Nat.le_refl _) hn hwt
  obtain ⟨cs, rfl⟩ := hv w b v hok
  exact ⟨a, ⟨cs.toList, by simp, by simpa [Value.cells] using ha⟩, hq⟩
def OpensAS (P : Program) (ts : List TypeId) {κ : Type} (A : κ → List Rp) (Q : κ → Prop) : Prop :=
  ∀ {H : Type} (enc : TypeId × Value → H) (w : World) (b : Nat) (vs : List Value) (ds : List (DataW H)) (ps : List MemPlace), (∀ (j : Nat) t v, ts[j]? = some t → vs[j]? = some v → Value.okWide P w .any b t v) → DataW.TrodAll enc P w 0 (fun _ => true) true ts vs ds ps →
    (∀ m ∈ DataW.weightsEach P ts ds, m ≤ reachBytes) → ds.length = ts.length ∧ ∃ k, AllP (A k) w (old w) vs ∧ Q k
theorem OpensAS.nil : OpensAS P [] (fun _ : Unit => []) (fun _ => True) := by
  intro H enc w b vs ds ps _ h _
  obtain ⟨rfl, rfl, rfl⟩ := trodAll_nil h
  exact ⟨rfl, (), trivial, trivial⟩
theorem OpensAS.cons {α κ : Type} {ts : List TypeId} {R : α → Rp} {A : κ → List Rp} {Q : α → Prop} {Qs : κ → Prop} (h : OpensVS P t R Q) (hs : OpensAS P ts A Qs) : OpensAS P (t :: ts) (fun k : α × κ => R k.1 :: A k.2) (fun k => Q k.1 ∧ Qs k.2) := by
  intro H enc w bs vs ds ps hok h0 hwt
  obtain ⟨v, vs, d, ds, a, b, rfl, rfl, rfl, h1, h2⟩ := trodAll_cons h0
  simp only [DataW.weightsEach] at hwt
  obtain ⟨x, hx, hq⟩ := h enc w bs v d a (hok 0 t v rfl rfl) h1 (fun m hm => hwt m (List.mem_append_left _ hm))
  obtain ⟨hl, k, hk, hqs⟩ := hs enc w bs vs ds b (fun j t' v' ht hv => hok (j + 1) t' v' (by simpa using ht) (by simpa using hv)) h2 (fun m hm => hwt m (List.mem_append_right _ hm))
  exact ⟨by simp [hl], ⟨x, k⟩, ⟨hx, hk⟩, hq, hqs⟩
end
theorem weightsEach_left {H : Type} {P : Program} {m : Nat} : ∀ {ts us : List TypeId} {ds gs : List (DataW H)}, ds.length = ts.length → m ∈ DataW.weightsEach P ts ds → m ∈ DataW.weightsEach P (ts ++ us) (ds ++ gs)
  | [], _, [], _, _, h => by simp [DataW.weightsEach] at h
  | t :: ts, us, d :: ds, gs, hl, h => by
    simp only [DataW.weightsEach, List.cons_append] at h ⊢
    rcases List.mem_append.1 h with h | h
    · exact List.mem_append_left _ h
    · exact List.mem_append_right _ (weightsEach_left (by simpa using hl) h)
  | [], _, _ :: _, _, hl, _ => by simp at hl
  | _ :: _, _, [], _, hl, _ => by simp at hl
/-- THE STATEMENT'S OWN END, where the arguments' sizes count. -/
theorem law_postS {P : Program} {G : List MF} {f : FuncId} {fn : Func} {s : ChangeSpec} {us : List TypeId} {tb : TypeId} {κ : Type} {A : κ → List Rp} {Q : κ → Prop} (hlaid : laidOutB P = true) (hts' : (fn.params.toList.all fun t => P.readableRec t && decide (t < P.types.size)) = true)
    (hr : fn.resultTypes = #[tb]) (htb : P.underlying tb = some .bool) (hvars : s.vars = []) (hspec : ∀ (H : Type) (ds : List (DataW H)), ds.length = fn.params.toList.length → s.fn H ds = { results := [.lit (.bool true)], args := ds })
    (hopen : OpensAS P fn.params.toList A Q) (hG0 : feet G = [])
    {H : Type} {enc : TypeId × Value → H} {W : World} {args : Array Value} {ds gs : List (DataW H)} {before : List MemPlace} {base : Nat}
    (hlaw : ∀ k, Q k → CallT P f (A k) G (.one (Rp.bool true))) (hG : ∀ F ∈ G, F.p W (old W))
    (hval : ∀ (j : Nat) t v, fn.params[j]? = some t → args[j]? = some v → Value.okWide P W .any base t v)
    (hz : (DataW.weightsEach P (fn.params.toList ++ us) (ds ++ gs)).all (· ≤ reachBytes) = true)
    (hW : DataW.Whole enc P fn.params.toList s.vars false W args.toList ds gs before) :
    Calls P f args W fun e W' => ∃ v, e = .returned v ∧ s.post enc P fn false true false false W args v W' := by
  have hts : ∀ t ∈ fn.params.toList, P.readableRec t = true ∧ t < P.types.size := fun t ht => by
    have := List.all_eq_true.1 hts' t ht
    simpa using this
  have hW' := hW
  obtain ⟨p, q, hA, hV, rfl, hfz, _⟩ := hW
  rw [hvars] at hV
  obtain ⟨rfl, rfl⟩ := trodVars_none hV
  have hlen : ds.length = fn.params.toList.length := by
    have key : ∀ {ts : List TypeId} {vs : List Value} {ds : List (DataW H)} {ps : List MemPlace}, DataW.TrodAll enc P W 0 (fun _ => true) true ts vs ds ps → ds.length = ts.length := by
      intro ts
      induction ts with
      | nil => intro vs ds ps h; obtain ⟨rfl, rfl, rfl⟩ := trodAll_nil h; rfl
      | cons t ts ih => intro vs ds ps h; obtain ⟨v, vs, d, ds, a, b, rfl, rfl, rfl, h1, h2⟩ := trodAll_cons h; simp [ih h2]
    exact key hA
  obtain ⟨hdl, k, hk, hq⟩ := hopen enc W base args.toList ds p (fun j t v ht hv => hval j t v (by simpa using ht) (by simpa using hv)) hA
    (fun m hm => by simpa using List.all_eq_true.1 hz m (weightsEach_left hlen hm))
  refine (hlaw k hq W (old W) args hk ⟨hG, by rw [hG0]; simp, by rw [hG0]; simp, fun b hb => hb⟩).mono fun e W' ⟨i, v, C', he, heff, hv, _, _⟩ => ?_
  obtain rfl : v = .bool true := hv
  have hb : RowKit.Below W.heap.size W W' := ⟨heff.os, heff.tape, heff.output, heff.size, fun b hb => heff.keep b hb (by rw [hG0]; simp)⟩
  have hlt : ∀ x ∈ p, x.block < W.heap.size := fun x hx => hW'.lt x (by simp [hx])
  simp only [List.append_nil] at hW'
  refine ⟨_, he, ds, [], p, [], p, [], hW', ?_, ?_, ?_, hb.frame _, fun h => by cases h⟩
  · rw [List.append_nil, hspec H ds hdl, hr]
    exact ⟨[], [], ⟨1, by simp [DataW.trod, htb, Value.cells]⟩, rfl, rfl⟩
  · rw [List.append_nil, hspec H ds hdl]
    exact trodAll_grown hlaid (fun x hx => hb.same hx) hts hA hlt (fun x hx => by simpa using hlt x hx)
  · rw [List.append_nil, hspec H ds hdl, hvars]
    exact rfl
end Go.Sim
