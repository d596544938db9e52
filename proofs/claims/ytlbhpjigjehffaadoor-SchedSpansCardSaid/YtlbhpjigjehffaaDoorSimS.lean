/- Strings: bytes, parts, sums, comparisons, and ranging over runes. -/
import Derived.Test.YtlbhpjigjehffaaDoorSimQ
namespace Go.Sim
open Go

section
variable {P : Program} {B : Base} {n : Nat} {S : List (Nat × Rp)} {M : List MF} {Q : Exit → Act → World → Prop} {ops : Array Oper} {rest : List Oper} {o : Oper} {σ : Nat → Option Rp}

theorem bytes_get {l : List UInt8} {i : Nat} (h : i < l.length) : (ByteArray.mk l.toArray)[i]? = some (l.getD i 0) := by
  have : (ByteArray.mk l.toArray).size = l.length := by simp [ByteArray.size]
  rw [getElem?_pos _ _ (by rw [this]; exact h)]
  simp only [List.getD, List.getElem?_eq_getElem h, Option.getD_some]
  rfl
/-- 's[i]'. -/
theorem spec_indexS {T : TypeId} {x ix : Operand} {l : List UInt8} {k : IntKind} {i : Int} (h : o.op = .index T x ix) (hu : P.underlying T = some .string) (hx : Get σ x (Rp.str l)) (hi : Get σ ix (Rp.int k i)) (hr : 0 ≤ i ∧ i < l.length) :
    Spec P σ M o (.one (Rp.int .u8 (l.getD i.toNat 0).toNat)) :=
  Spec.of_run fun a w C hs _ => ⟨.int .u8 (l.getD i.toNat 0).toNat, by
    simp [execOp, h, Instr.index, get_int hi hs, asIntOf, run_underlying hu, get_str hx hs, hr.1, bytes_get (show i.toNat < l.length by omega)], rfl, by
      have := (l.getD i.toNat 0).toNat_lt
      simp only [InR]; omega⟩

theorem extract_mk (l : List UInt8) (i j : Nat) : (ByteArray.mk l.toArray).extract i j = ⟨((l.drop i).take (j - i)).toArray⟩ := by
  apply ByteArray.ext
  simp
/-- 's[i:j]'. -/
theorem spec_sliceS {T : TypeId} {x : Operand} {lo hi : Option Operand} {l : List UInt8} {i j : Nat} (h : o.op = .slice T x lo hi none) (hu : P.underlying T = some .string) (hx : Get σ x (Rp.str l)) (hlo : Bnd σ lo 0 i) (hhi : Bnd σ hi l.length j) (hb : i ≤ j ∧ j ≤ l.length) :
    Spec P σ M o (.one (Rp.str ((l.drop i).take (j - i)))) :=
  Spec.of_run fun a w C hs _ => by
    have hl := (hx a w C hs).2
    have hb1 := run_bounds (P := P) (b := false) (w := w) (cap := l.length) hs hlo hhi hb.1 hb.2 (Nat.le_refl _)
    have hsz : (ByteArray.mk l.toArray).size = l.length := by simp [ByteArray.size]
    refine ⟨.string ⟨((l.drop i).take (j - i)).toArray⟩, ?_, rfl, by simp; omega⟩
    simp [execOp, h, Instr.sliceAt, run_underlying hu, get_str hx hs, Instr.slice, hsz, hb1, extract_mk]

/-- 's + t'. -/
theorem spec_addS {T T' : TypeId} {x y : Operand} {l m : List UInt8} (h : o.op = .binOp .add T x y T') (hx : Get σ x (Rp.str l)) (hy : Get σ y (Rp.str m)) (hb : l.length + m.length ≤ 9223372036854775807) : Spec P σ M o (.one (Rp.str (l ++ m))) :=
  Spec.of_run fun a w C hs _ => ⟨.string ⟨(l ++ m).toArray⟩, by
    have e1 : (ByteArray.mk l.toArray).size = l.length := by simp [ByteArray.size]
    have e2 : (ByteArray.mk m.toArray).size = m.length := by simp [ByteArray.size]
    have e3 : ByteArray.mk l.toArray ++ ByteArray.mk m.toArray = ⟨(l ++ m).toArray⟩ := by apply ByteArray.ext; simp
    have e4 : ¬ (((l.length + m.length : Nat) : Int) > IntKind.i64.max) := by
      rw [show IntKind.i64.max = 9223372036854775807 from rfl]; omega
    simp only [execOp, h, get_str hx hs, get_str hy hs, Sem.run_bind, eqGuard_str, Result.andThen_ok, binOp, Op.stringOp, Sem.run_pure, e1, e2, e3, e4, if_false], rfl, by simpa using hb⟩
/-- 's < t'. -/
theorem spec_lssS {T T' : TypeId} {x y : Operand} {l m : List UInt8} (h : o.op = .binOp .lss T x y T') (hx : Get σ x (Rp.str l)) (hy : Get σ y (Rp.str m)) : Spec P σ M o (.one (Rp.bool (Op.bytesLess l m))) :=
  Spec.of_run fun a w C hs _ => ⟨.bool (Op.bytesLess l m), by
    simp only [execOp, h, get_str hx hs, get_str hy hs, Sem.run_bind, eqGuard_str, Result.andThen_ok, binOp, Op.stringOp, Sem.run_pure, toList_mk], rfl⟩

/-! Ranging over a string. -/
def MF.iter (r : Nat) (l : List UInt8) (pos : Nat) : MF where
  foot := [r]
  p w _ := w.heap[r]? = some (.stringIter ⟨l.toArray⟩ pos) ∧ l.length ≤ 9223372036854775807
  loc _ hf := fun h => ⟨(hf r (by simp)).trans h.1, h.2⟩
def RA.iter (l : List UInt8) : RA := ⟨Nat, fun r => Rp.ptr r 0, fun r => [MF.iter r l 0]⟩
theorem spec_rangeS {T : TypeId} {x : Operand} {l : List UInt8} (h : o.op = .range T x) (hu : P.underlying T = some .string) (hx : Get σ x (Rp.str l)) : Spec P σ M o (.iter l) :=
  Spec.new (A := .iter l) (fun r => r) fun a w C hs hm => ⟨.pointer (some ⟨w.heap.size, 0, none⟩), .stringIter ⟨l.toArray⟩ 0, by
    simp [execOp, h, Instr.range, run_underlying hu, get_str hx hs], rfl, by simp [RA.iter, feet, MF.iter], fun G hG => by
      have : G = MF.iter w.heap.size l 0 := by simpa [RA.iter] using hG
      subst this
      exact ⟨new_at _ _, (hx a w C hs).2⟩⟩

/-- The rune at a place and how many bytes it takes. -/
def runeAt (l : List UInt8) (i : Nat) : Nat × Nat := Utf8.decode ⟨l.toArray⟩ i
def nextPos (l : List UInt8) (i : Nat) : Nat := if i < l.length then i + (runeAt l i).2 else i
/-- What 'next' yields. -/
def Rp.nx (l : List UInt8) (i : Nat) : Rp where
  p _ _ v := if i < l.length then v = .tuple #[.bool true, .int .i64 i, .int .i32 (runeAt l i).1] ∧ InR .i64 i else v = .tuple #[.bool false]
  mono _ h := h

theorem decode_fst_le (s : ByteArray) (i : Nat) : (Utf8.decode s i).1 ≤ 1114111 := by
  unfold Utf8.decode
  have hb : ∀ k, (s.get! (i + k)).toNat < 256 := fun k => (s.get! (i + k)).toNat_lt
  dsimp only
  have h0 := hb 0
  split
  · simp only; omega
  split
  · split
    · simp only; have := hb 1; omega
    · simp [Utf8.runeError]
  split
  · split
    · simp only; have := hb 1; have := hb 2; omega
    · simp [Utf8.runeError]
  split
  · split
    · rename_i h; simp only [Bool.and_eq_true, decide_eq_true_eq, Utf8.valid, Bool.or_eq_true] at h; simp only; omega
    · simp [Utf8.runeError]
  · simp [Utf8.runeError]

theorem getb (l : List UInt8) (i : Nat) : (ByteArray.mk l.toArray).get! i = l.getD i 0 := by
  simp [ByteArray.get!, List.getD]
  rfl
theorem runeAt_ascii {l : List UInt8} {i : Nat} (h : (l.getD i 0).toNat < 128) : runeAt l i = ((l.getD i 0).toNat, 1) := by
  unfold runeAt Utf8.decode
  simp only [Nat.add_zero, getb]
  rw [if_pos h]
theorem runeAt_high {l : List UInt8} {i : Nat} (h : 128 ≤ (l.getD i 0).toNat) : 128 ≤ (runeAt l i).1 := by
  unfold runeAt Utf8.decode
  simp only [Nat.add_zero, getb]
  rw [if_neg (by omega)]
  split
  · split
    · simp only; omega
    · simp [Utf8.runeError]
  split
  · split
    · rename_i h; simp only [Bool.and_eq_true, decide_eq_true_eq] at h; simp only; omega
    · simp [Utf8.runeError]
  split
  · split
    · rename_i h; simp only [Bool.and_eq_true, decide_eq_true_eq] at h; simp only; omega
    · simp [Utf8.runeError]
  · simp [Utf8.runeError]
theorem runeAt_le (l : List UInt8) (i : Nat) : (runeAt l i).1 ≤ 1114111 := decode_fst_le _ _

theorem L.nextS {x : Operand} {r kk d : Nat} {l : List UInt8} {i : Nat} (hg : o.guard = none) (hd : o.dst = some d) (hlt : Nat.blt d n = true) (h : o.op = .next x true) (hx : Get (look · S) x (Rp.ptr r 0)) (hk : M[kk]? = some (MF.iter r l i))
    (hL : L P B n ((d, Rp.nx l i) :: S) (M.set kk (MF.iter r l (nextPos l i))) ops rest Q) : L P B n S M ops (o :: rest) Q := by
  intro a w C st
  refine wpList_plain hg fun K hK => ?_
  obtain ⟨hh, hl⟩ := st.mem.facts _ (List.mem_of_getElem? hk)
  have hlt' : d < n := by simpa [Nat.blt_eq] using hlt
  have hvx : a.eval x = .pointer (some ⟨r, 0, none⟩) := hx a w C st.slots
  have hrl : r < w.heap.size := (Array.getElem?_eq_some_iff.1 hh).1
  have hsz : (ByteArray.mk l.toArray).size = l.length := by simp [ByteArray.size]
  have hget : (getObj r).run P w = .ok (.stringIter ⟨l.toArray⟩ i) w := by simp [getObj, Sem.run, hh]
  unfold Oper.wp
  by_cases hi : i < l.length
  · have hset : (setObj r (.stringIter ⟨l.toArray⟩ (i + (runeAt l i).2))).run P w = .ok () { w with heap := w.heap.setIfInBounds r (.stringIter ⟨l.toArray⟩ (i + (runeAt l i).2)) } := by simp [setObj, Sem.run, hh]
    have hrun : (execOp a.eval o).run P w = .ok (.value (.tuple #[.bool true, .int .i64 i, .int .i32 (runeAt l i).1])) { w with heap := w.heap.setIfInBounds r (.stringIter ⟨l.toArray⟩ (i + (runeAt l i).2)) } := by
      have hset' := hset
      unfold runeAt at hset' ⊢
      simp [execOp, h, Instr.next, hvx, hget, hsz, hi, hset', goInt]
    rw [hrun]
    have st' := st.upd (R := Rp.nx l i) (v := .tuple #[.bool true, .int .i64 i, .int .i32 (runeAt l i).1]) (dst := some d) (F' := MF.iter r l (nextPos l i)) (fun d' hd' => by cases hd'; exact hlt') hk (put_eff (ob := .stringIter ⟨l.toArray⟩ (i + (runeAt l i).2))) (fun b hb => by have := st.mem.wf b hb; simpa using this)
      (by simp only [Rp.nx, hi, if_true, InR]; exact ⟨trivial, by omega, by omega⟩)
      ⟨by simp [hrl, nextPos, hi], hl⟩ (by simp [MF.iter]) (fun b hb => .inl ⟨hb, (st.mem.own b (mem_feet.2 ⟨_, List.mem_of_getElem? hk, hb⟩)).2⟩)
    rw [Oper.upon_value, hd]
    exact hK _ _ (hL _ _ C st')
  · have hrun : (execOp a.eval o).run P w = .ok (.value (.tuple #[.bool false])) w := by
      simp [execOp, h, Instr.next, hvx, hget, hsz, hi]
    rw [hrun]
    have st' := st.upd (R := Rp.nx l i) (v := .tuple #[.bool false]) (dst := some d) (F' := MF.iter r l (nextPos l i)) (fun d' hd' => by cases hd'; exact hlt') hk (w' := w) (C' := C) ((Eff.refl [] _ _).mono fun b hb => by cases hb) st.mem.wf
      (by simp only [Rp.nx, hi, if_false])
      ⟨by simp only [nextPos, hi, if_false]; exact hh, hl⟩ (by simp [MF.iter]) (fun b hb => .inl ⟨hb, (st.mem.own b (mem_feet.2 ⟨_, List.mem_of_getElem? hk, hb⟩)).2⟩)
    rw [Oper.upon_value, hd]
    exact hK _ _ (hL _ _ C st')

theorem spec_nx0 {x : Operand} {l : List UInt8} {i : Nat} (h : o.op = .extract x 0) (hx : Get σ x (Rp.nx l i)) : Spec P σ M o (.one (Rp.bool (decide (i < l.length)))) :=
  Spec.of_run fun a w C hs _ => by
    have hv := hx a w C hs
    by_cases hi : i < l.length
    · simp only [Rp.nx, hi, if_true] at hv
      exact ⟨.bool true, by simp [execOp, h, hv.1, Instr.extract], by simp [hi, Rp.bool]⟩
    · simp only [Rp.nx, hi, if_false] at hv
      exact ⟨.bool false, by simp [execOp, h, hv, Instr.extract], by simp [hi, Rp.bool]⟩
theorem spec_nx1 {x : Operand} {l : List UInt8} {i : Nat} (h : o.op = .extract x 1) (hx : Get σ x (Rp.nx l i)) (hi : i < l.length) : Spec P σ M o (.one (Rp.int .i64 i)) :=
  Spec.of_run fun a w C hs _ => by
    have hv := hx a w C hs
    simp only [Rp.nx, hi, if_true] at hv
    exact ⟨.int .i64 i, by simp [execOp, h, hv.1, Instr.extract], rfl, hv.2⟩
theorem spec_nx2 {x : Operand} {l : List UInt8} {i : Nat} (h : o.op = .extract x 2) (hx : Get σ x (Rp.nx l i)) (hi : i < l.length) : Spec P σ M o (.one (Rp.int .i32 (runeAt l i).1)) :=
  Spec.of_run fun a w C hs _ => by
    have hv := hx a w C hs
    simp only [Rp.nx, hi, if_true] at hv
    exact ⟨.int .i32 (runeAt l i).1, by simp [execOp, h, hv.1, Instr.extract], rfl, by have := runeAt_le l i; simp only [InR]; omega⟩
end
end Go.Sim
