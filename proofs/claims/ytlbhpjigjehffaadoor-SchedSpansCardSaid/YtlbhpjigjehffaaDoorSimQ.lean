/- Package variables that are laid: a fact without a footprint, loads through it, and calls that need it. -/
import Derived.Test.YtlbhpjigjehffaaDoorSimP
namespace Go.Sim

/-- A package variable is published, with a row. -/
def MF.glob (g : Nat) (Rs : List Rp) : MF where
  foot := []
  p w C := RowAt Rs w C ⟨g, 0, none⟩
  loc hp _ h := h.mono hp
section
variable {P : Program} {M : List MF} {o : Oper} {σ : Nat → Option Rp}
theorem get_glob {g : Nat} {Rs : List Rp} {k : Nat} (hk : M[k]? = some (MF.glob g Rs)) {a : Act} {w : World} {C : Nat → Prop} (hm : MOk M w C) : (Rp.at Rs).p w C (a.eval (.global g)) :=
  ⟨⟨g, 0, none⟩, rfl, hm.facts _ (List.mem_of_getElem? hk)⟩
theorem spec_loadG {t : TypeId} {g : Nat} {R : Rp} {k : Nat} (h : o.op = .load t (.global g)) (ha : ∀ w, (isAgg t).run P w = .ok false w) (hk : M[k]? = some (MF.glob g [R])) : Spec P σ M o (.one R) :=
  Spec.of_run fun a w C hs hm => by
    obtain ⟨ad, hv, hsp, hC, cs, T, fr, h1, h3⟩ := get_glob (a := a) hk hm
    obtain ⟨v, hv', hR'⟩ := h3.1.get 0 (R := R) rfl
    have hv'' : cs[ad.off]? = some v := by
      rw [List.getElem?_take] at hv'
      simpa using hv'
    have : ad = ⟨ad.block, ad.off, none⟩ := by cases ad; simp_all
    rw [this] at hv
    exact ⟨v, by simp [execOp, h, hv, run_load_row h1 hv'' (ha w)], hR'⟩
theorem spec_callG {f : FuncId} {args : Array Operand} {ts : Array TypeId} {A : List Rp} {X : RA} {g k : Nat} {Rs : List Rp} (h : o.op = .call ⟨.value (.func f), args, ts⟩) (hc : ∀ args w, (callFunc f args).run P w = .ok (.enter f args) w)
    (hk : M[k]? = some (MF.glob g Rs)) (hf : CallT P f A [MF.glob g Rs] X) (ha : ArgsOk σ args.toList A) : Spec P σ M o X := by
  intro a w C K Q hs hm hk'
  unfold Oper.wp
  rw [show (execOp a.eval o).run P w = .ok (.enter f (args.map a.eval)) w by
    simp [execOp, h, resolve, Deferred.ofValue, Act.eval, invoke, hc]]
  rw [Oper.upon_enter]
  refine (hf w C _ (by simpa using args_run hs ha) ⟨fun F hF => by rw [List.mem_singleton.1 hF]; exact hm.facts _ (List.mem_of_getElem? hk), by simp [feet, MF.glob], by simp [feet, MF.glob], hm.wf⟩).mono ?_
  rintro e w' ⟨i, v, C', rfl, he, hR, hM, hb⟩
  exact hk' i v w' C' (by simpa [feet, MF.glob] using he) hM.wf hR ⟨hM.facts, hM.nodup, fun b hb' => ⟨(hb b hb').resolve_left (by simp [feet, MF.glob]), hM.own b hb'⟩⟩
end
end Go.Sim
