/- The arguments of the laws, opened; the laid table; the bound on what came in. -/
import Derived.Test.YteannfdcbblooaaDoorSimW
import Derived.Test.YteannfdcbblooaaDoorSimH
import Derived.Test.YteannfdcbblooaaDoorThA
import Derived.Test.YteannfdcbblooaaDoorRows
namespace Go.Proofs.YteannfdcbblooaaDoor
open Go.Sim Go.ChangeShapes Go.WideShapes
theorem laid_tail {P : Program} {x : String × DataW Unit} {r : List (String × DataW Unit)} {W : World} (h : laidMet P (x :: r) W) : laidMet P r W := by
  obtain ⟨ps, ⟨g, t, cs, fuel, p, q, _, _, _, _, h, rfl⟩, hn, hc⟩ := h
  exact ⟨q, h, (List.nodup_append.1 hn).2.1, fun b off hm => hc b off (List.mem_append.2 (.inr hm))⟩
theorem tab_laid {W : World} (h : laidMetH Tryd.prog [("math/bits.deBruijn32tab", Rows.laid_math_bits_deBruijn32tab), ("math/bits.deBruijn64tab", Rows.laid_math_bits_deBruijn64tab), ("internal/strconv.uint64pow10", Rows.laid_internal_strconv_uint64pow10)] W) : ∀ F ∈ [tabG], F.p W (old W) := fun F hF => by
  rw [List.mem_singleton.1 hF]
  rw [MakeChecks.laidMetH_plain _ _ _ (by kernel_rfl)] at h
  have h3 := laid_tail (laid_tail h)
  have hg : Tryd.prog.globalNamed "internal/strconv.uint64pow10" = some 0 := by kernel_rfl
  have ht : Lib.TabIs Tryd.prog W "internal/strconv.uint64pow10" .u64 Lib.pow10Tab :=
    Lib.tabIs_of_head (rest := []) hg (by kernel_rfl) Tryd.underlying69 Tryd.underlying32 (by kernel_rfl) (by kernel_rfl) h3
  refine ⟨?_, hg, ht⟩
  unfold Lib.TabIs World.var? at ht
  rw [hg, Option.bind_some] at ht
  show (0 : Nat) < W.heap.size
  cases hh : W.heap[0]? with
  | none => rw [hh] at ht; cases ht
  | some o => exact (Array.getElem?_eq_some_iff.1 hh).1
theorem bulk_part {H : Type} {d : DataW H} : ∀ {l : List (DataW H)}, d ∈ l → Rows.uptoBulk d ≤ Rows.uptoBulkAll l
  | x :: r, h => by
    simp only [Rows.uptoBulkAll]
    rcases List.mem_cons.1 h with rfl | h
    · omega
    · have := bulk_part h; omega
/-- A string that came in is among what is weighed. -/
theorem str_bound {H : Type} {enc : TypeId × Value → H} {W : World} : ∀ {ts : List TypeId} {args : List Value} {ds : List (DataW H)} {p : List MemPlace}, DataW.TrodAll enc Tryd.prog W 0 (fun _ => true) true ts args ds p → ∀ (j : Nat) (l : List UInt8), ts[j]? = some 9 → args[j]? = some (.string ⟨l.toArray⟩) → l.length + 1 ≤ Rows.uptoBulkAll ds
  | [], args, ds, p, h, j, l, ht, ha => by simp at ht
  | t :: ts, args, ds, p, h, j, l, ht, ha => by
    obtain ⟨v, vs, d, ds', a, b, rfl, rfl, rfl, ⟨n, hn⟩, h2⟩ := trodAll_cons h
    cases j with
    | zero =>
      simp only [List.getElem?_cons_zero, Option.some.injEq] at ht ha
      subst ht; subst ha
      obtain ⟨s, hs, hx, _⟩ := DataW.trod_string Tryd.underlying9 hn
      have e1 : d = .lit (.string s.data.toList) := by have := congrArg Prod.fst hx; simpa using this
      have e2 : ByteArray.mk l.toArray = s := by simpa [Value.cells] using hs
      subst e2
      rw [e1]
      simp only [Rows.uptoBulkAll, Rows.uptoBulk]
      omega
    | succ j =>
      simp only [List.getElem?_cons_succ] at ht ha
      have := str_bound h2 j l ht ha
      simp only [Rows.uptoBulkAll]
      omega
theorem bulk_app {H : Type} (l r : List (DataW H)) : Rows.uptoBulkAll l ≤ Rows.uptoBulkAll (l ++ r) := by
  induction l with
  | nil => simp [Rows.uptoBulkAll]
  | cons x l ih => simp only [List.cons_append, Rows.uptoBulkAll]; omega
theorem str_upto {H : Type} {enc : TypeId × Value → H} {W : World} {ts : List TypeId} {args : List Value} {ds gs : List (DataW H)} {p : List MemPlace} (h : DataW.TrodAll enc Tryd.prog W 0 (fun _ => true) true ts args ds p) (hc : Rows.uptoSmall H (ds ++ gs) = true)
    (j : Nat) (l : List UInt8) (ht : ts[j]? = some 9) (ha : args[j]? = some (.string ⟨l.toArray⟩)) : l.length ≤ 1048576 := by
  have h1 := str_bound h j l ht ha
  have h2 := bulk_app ds gs
  have h3 := of_decide_eq_true hc
  omega
/-- A string among the arguments. -/
theorem allP_str {W : World} {C : Nat → Prop} : ∀ {Rs : List Rp} {vs : List Value}, AllP Rs W C vs → ∀ (j : Nat) (l : List UInt8), Rs[j]? = some (Rp.str l) → vs[j]? = some (.string ⟨l.toArray⟩)
  | [], _, _, j, l, h => by simp at h
  | R :: Rs, [], h, _, _, _ => h.elim
  | R :: Rs, v :: vs, h, j, l, hR => by
    cases j with
    | zero =>
      simp only [List.getElem?_cons_zero, Option.some.injEq] at hR
      subst hR
      simp only [List.getElem?_cons_zero]
      rw [h.1.1]
    | succ j => exact allP_str h.2 j l hR
end Go.Proofs.YteannfdcbblooaaDoor
