/- Conversions between strings and bytes; calls that need a ghost fact of any kind; a library's contract as a contract here. -/
import Derived.Test.YtlbhpjigjehffaaDoorSimV
import Derived.Test.YtlbhpjigjehffaaDoorSimU
import Derived.Laws.IdiomStrings
import Derived.Lib.ConvBytes
import Derived.Lib.LaidTab
import Derived.Sort.Grow
import Derived.Deep.Draws
namespace Go.Sim
open Go
theorem get_rp {S : Nat → Option Rp} {x : Operand} {R : Rp} {a : Act} {w : World} {C : Nat → Prop} (hx : Get S x R) (hs : SlotsOk S a w C) : R.p w C (a.eval x) := hx a w C hs
section
variable {P : Program} {M : List MF} {o : Oper} {σ : Nat → Option Rp}
theorem u8_len {E : UInt8 → List Rp} (hE : ∀ b, E b = [Rp.int .u8 (b.toNat : Int)]) : ∀ l : List UInt8, (l.flatMap E).length = l.length
  | [] => rfl
  | b :: l => by rw [List.flatMap_cons, hE, List.length_append, u8_len hE l]; simp; omega
theorem u8_mk {E : UInt8 → List Rp} (hE : ∀ b, E b = [Rp.int .u8 (b.toNat : Int)]) {w : World} {C : Nat → Prop} : ∀ l : List UInt8, AllR (l.flatMap E) w C (l.map fun b => Value.int .u8 (b.toNat : Int))
  | [] => ⟨trivial, by simp⟩
  | b :: l => by
    rw [List.flatMap_cons, hE, List.map_cons]
    refine ⟨⟨⟨rfl, by have := b.toNat_lt; simp only [InR]; omega⟩, (u8_mk hE l).1⟩, fun v hv => ?_⟩
    rcases List.mem_cons.1 hv with rfl | hv
    · rfl
    · exact (u8_mk hE (w := w) (C := C) l).2 v hv
theorem eU8_all {E : UInt8 → List Rp} (hE : ∀ b, E b = [Rp.int .u8 (b.toNat : Int)]) {w : World} {C : Nat → Prop} : ∀ {l : List UInt8} {vs : List Value}, AllP (l.flatMap E) w C vs → vs = l.map fun b => Value.int .u8 (b.toNat : Int)
  | [], [], _ => rfl
  | [], _ :: _, h => h.elim
  | b :: l, vs, h => by
    rw [List.flatMap_cons, hE b] at h
    match vs, h with
    | v :: vs, ⟨h1, h2⟩ =>
      rw [List.map_cons, eU8_all hE h2, h1.1]
    | [], h => exact h.elim
/-- 'string(bytes)'. -/
theorem spec_bytesStr {T T' e : TypeId} {x : Operand} {E : UInt8 → List Rp} {l : List UInt8} (hE : ∀ b, E b = [Rp.int .u8 (b.toNat : Int)]) (h : o.op = .convert T T' x) (hs : P.underlying T = some (.slice e)) (he : P.underlying e = some (.int .u8)) (hd : P.underlying T' = some .string)
    (hx : Get σ x (Rp.slice E l)) : Spec P σ M o (.one (Rp.str l)) :=
  Spec.of_run fun a w C hsl _ => by
    obtain ⟨hl, hv⟩ := get_rp hx hsl
    have hone : ∀ v, v = .slice none 0 0 → (convert T T' v).run P w = .ok (.string ⟨#[]⟩) w := by
      rintro v rfl
      rw [run_convert_bytes_string w T T' e none 0 0 hs he hd]
      simp [Conv.bytesToString]
      rfl
    rcases hv with ⟨hv, rfl⟩ | ⟨ad, cap, hv, _, hrow⟩
    · exact ⟨.string ⟨#[]⟩, by simp [execOp, h, hone _ hv], rfl, by simp⟩
    · refine ⟨.string ⟨l.toArray⟩, ?_, rfl, by simpa using hl⟩
      have := run_convert_bytes_back (P := P) w T T' e ad cap l hs he hd (fun j hj => by
        rcases hrow with rfl | ⟨hsp, hC, cs, T0, fr, hc, hA⟩
        · simp at hj
        · have hvs := eU8_all hE hA.1
          have hfl := u8_len hE l
          rw [hfl] at hvs
          have h2 : ((cs.toList.drop ad.off).take l.length)[j]? = some (.int .u8 (l[j].toNat : Int)) := by rw [hvs]; simp [hj]
          rw [List.getElem?_take, if_pos hj, List.getElem?_drop] at h2
          have e2 : ad.add j = ⟨ad.block, ad.off + j, none⟩ := by unfold Addr.add; cases ad; simp_all
          rw [e2]
          simp only [World.cell?, hc]
          simpa using h2)
      simp [execOp, h, hv, this]
/-- '[]byte(s)', published. -/
theorem spec_strBytes {T T' e : TypeId} {x : Operand} {E : UInt8 → List Rp} {l : List UInt8} {u : TypeDesc} (hE : ∀ b, E b = [Rp.int .u8 (b.toNat : Int)]) (h : o.op = .convert T T' x) (hs : P.underlying T = some u) (he : P.underlying e = some (.int .u8)) (hd : P.underlying T' = some (.slice e))
    (hx : Get σ x (Rp.str l)) : Spec P σ M o (.one (Rp.slice E l)) := by
  intro a w C K Q hsl hm hk
  have hv : a.eval x = .string ⟨l.toArray⟩ := get_str hx hsl
  have hl := (get_rp hx hsl).2
  unfold Oper.wp
  rw [show (execOp a.eval o).run P w = .ok (.value (.slice (some ⟨w.heap.size, 0, none⟩) l.length (grownCap w l.length 0 e))) (Lib.bytesWorld w e ⟨l.toArray⟩) by
    have := Lib.run_convert_string_bytes (P := P) w T T' e ⟨l.toArray⟩ hs hd he
    rw [show (ByteArray.mk l.toArray).size = l.length by simp [ByteArray.size]] at this
    simp [execOp, h, hv, this]]
  have hsz := Lib.bytesWorld_size w e ⟨l.toArray⟩
  have hold : ∀ b, b < w.heap.size → (Lib.bytesWorld w e ⟨l.toArray⟩).heap[b]? = w.heap[b]? := fun b hb => Lib.bytesWorld_at_old w e ⟨l.toArray⟩ b hb
  have hos : (Lib.bytesWorld w e ⟨l.toArray⟩).os = w.os ∧ (Lib.bytesWorld w e ⟨l.toArray⟩).tape = w.tape ∧ (Lib.bytesWorld w e ⟨l.toArray⟩).output = w.output := by
    simp [Lib.bytesWorld, World.freeze, World.alloc, World.drew, -World.alloc_eq, -World.drew_eq]
  refine hk () _ _ (fun b => C b ∨ b = w.heap.size) ⟨by omega, fun b hb _ => hold b hb, fun b hb _ => ⟨fun h => h.resolve_right (by omega), .inl⟩, hos.1, hos.2.1, hos.2.2⟩ (fun b hb => ?_) ⟨hl, .inr ⟨⟨w.heap.size, 0, none⟩, _, rfl, grownCap_ge w _ _ e, .inr ⟨rfl, .inr rfl, _, _, _, Lib.bytesWorld_at_new w e ⟨l.toArray⟩, ?_⟩⟩⟩ MNew.nil
  · rcases hb with hb | hb
    · have := hm.wf b hb; omega
    · omega
  · rw [u8_len hE, List.drop_zero]
    have e1 : ((Lib.bytesCells w e ⟨l.toArray⟩).toList).take l.length = l.map fun b => Value.int .u8 (b.toNat : Int) := by
      unfold Lib.bytesCells
      simp
    rw [e1]
    exact u8_mk hE l
theorem spec_callG0 {f : FuncId} {args : Array Operand} {ts : Array TypeId} {A : List Rp} {X : RA} {k : Nat} {F : MF} (h : o.op = .call ⟨.value (.func f), args, ts⟩) (hc : ∀ args w, (callFunc f args).run P w = .ok (.enter f args) w)
    (hk : M[k]? = some F) (hF : F.foot = []) (hf : CallT P f A [F] X) (ha : ArgsOk σ args.toList A) : Spec P σ M o X := by
  intro a w C K Q hs hm hk'
  have hft : feet [F] = [] := by simp [feet, hF]
  unfold Oper.wp
  rw [show (execOp a.eval o).run P w = .ok (.enter f (args.map a.eval)) w by
    simp [execOp, h, resolve, Deferred.ofValue, Act.eval, invoke, hc]]
  rw [Oper.upon_enter]
  refine (hf w C _ (by simpa using args_run hs ha) ⟨fun G hG => by rw [List.mem_singleton.1 hG]; exact hm.facts _ (List.mem_of_getElem? hk), by rw [hft]; simp, by rw [hft]; simp, hm.wf⟩).mono ?_
  rintro e w' ⟨i, v, C', rfl, he, hR, hM, hb⟩
  rw [hft] at he hb
  exact hk' i v w' C' he hM.wf hR ⟨hM.facts, hM.nodup, fun b hb' => ⟨(hb b hb').resolve_left (by simp), hM.own b hb'⟩⟩
end

/-- A package variable that is an array of numbers, as a ghost fact. -/
def MF.tab (P : Program) (n : String) (g : Nat) (k : IntKind) (zs : List Int) : MF where
  foot := []
  p w C := C g ∧ P.globalNamed n = some g ∧ Lib.TabIs P w n k zs
  loc hp _ h := ⟨(hp _ h.1).1, h.2.1, by
    have e := (hp _ h.1).2
    have := h.2.2
    unfold Lib.TabIs World.var? at this ⊢
    rw [h.2.1, Option.bind_some] at this ⊢
    rw [e]; exact this⟩
/-- A function of the library that leaves all as it was but for new blocks, with a string. -/
theorem call_grow {P : Program} {f : FuncId} {A : List Rp} {G : List MF} {l : List UInt8} (hll : l.length ≤ 9223372036854775807) (h : ∀ w C (args : Array Value), AllP A w C args.toList → MOk G w C → Calls P f args w fun e w' => e = .returned (.string ⟨l.toArray⟩) ∧ ∃ k os, w' = Go.Sort.grow (w.drewN k) os) :
    CallT P f A G (.one (Rp.str l)) := fun w C args hA hm => (h w C args hA hm).mono fun e w' ⟨he, k, os, hw⟩ => by
  subst hw
  have hsz : (Go.Sort.grow (w.drewN k) os).heap.size = w.heap.size + os.size := by simp [Go.Sort.grow, World.drewN]
  refine ⟨(), _, C, he, ⟨by omega, fun b hb _ => ?_, fun _ _ _ => Iff.rfl, rfl, rfl, rfl⟩, ⟨rfl, by simpa using hll⟩, ⟨by simp [RA.one], by simp [RA.one, feet], by simp [RA.one, feet], fun b hb => ?_⟩, by simp [RA.one, feet]⟩
  · exact Go.Sort.heap_grow_old (w.drewN k) os hb
  · have := hm.wf b hb; omega
end Go.Sim
