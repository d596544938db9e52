/- Function values that need a ghost fact. -/
import Derived.Test.YtlbhpjigjehffaaDoorSimW
import Derived.Test.YtlbhpjigjehffaaDoorSimM
namespace Go.Sim
open Go
theorem spec_callFG {P : Program} {M : List MF} {o : Oper} {σ : Nat → Option Rp} {ι : Type} {A : ι → List Rp} {X : ι → RA} {k : Nat} {F : MF} (hk : M[k]? = some F) (hF : F.foot = []) (i : ι) {x : Operand} {args : Array Operand} {ts : Array TypeId} (h : o.op = .call ⟨.value x, args, ts⟩)
    (hx : Get σ x (Rp.fnM P A (fun _ => [F]) X)) (ha : ArgsOk σ args.toList (A i)) : Spec P σ M o (X i) := by
  intro a w C K Q hs hm hk'
  have hft : feet [F] = [] := by simp [feet, hF]
  obtain ⟨f, Rs, ⟨caps, hv, hcaps⟩, hc, hf⟩ := hx a w C hs
  unfold Oper.wp
  rw [run_callV h hv hc, Oper.upon_enter]
  refine (hf i w C _ (by simpa using (args_run hs ha).append hcaps) ⟨fun G hG => by rw [List.mem_singleton.1 hG]; exact hm.facts _ (List.mem_of_getElem? hk), by rw [hft]; simp, by rw [hft]; simp, hm.wf⟩).mono ?_
  rintro e w' ⟨j, v, C', rfl, he, hR, hM, hb⟩
  rw [hft] at he hb
  exact hk' j v w' C' he hM.wf hR ⟨hM.facts, hM.nodup, fun b hb' => ⟨(hb b hb').resolve_left (by simp), hM.own b hb'⟩⟩
end Go.Sim
