/- A laid package variable of strings, as a ghost fact. -/
import Derived.Test.YtlbhpjigjehffaaDoorSimR
import Derived.MakeChecks
namespace Go.Sim
open Go.ChangeShapes Go.WideShapes Go.ChangeAt Go.RowKit
theorem glob_strs {P : Program} {W : World} {n : String} {g t e : Nat} {ss : List (List UInt8)} {sp : List (DataW Unit)} (hl : laidMetH P [(n, .slice (ss.map fun s => .lit (.string s)) sp)] W)
    (hp : ([((n, .slice (ss.map fun s => .lit (.string s)) sp) : String × DataW Unit)].all fun x => x.2.handleName?.isNone) = true) (hg : P.globalNamed n = some g) (hty : (P.globals[g]?).map (·.type) = some t)
    (ht : P.underlying t = some (.slice e)) (he : P.underlying e = some .string) (hc : P.cellsOf e = 1) (hne : ss ≠ []) : (MF.glob g [Rp.slice eS ss]).p W (old W) := by
  rw [MakeChecks.laidMetH_plain _ _ _ hp] at hl
  obtain ⟨ps, ⟨g', t', cs, fuel, p, q, hg', ht', hv, hd, _, _⟩, _, _⟩ := hl
  obtain rfl := Option.some.inj (hg.symm.trans hg')
  obtain rfl := Option.some.inj (hty.symm.trans ht')
  have hA := opens_strs ht he hc hne hd
  have hl := hA.1.length
  unfold World.var? at hv
  rw [hg, Option.bind_some] at hv
  split at hv
  · rename_i cs' T fr hh
    cases hv
    refine ⟨rfl, (Array.getElem?_eq_some_iff.1 hh).1, _, T, fr, hh, ?_⟩
    have e : (cs.toList.drop 0).take 1 = cs.toList := by rw [List.drop_zero, List.take_of_length_le (by rw [hl]; simp)]
    show AllR [Rp.slice eS ss] W (old W) ((cs.toList.drop 0).take 1)
    rw [e]; exact hA
  · cases hv
end Go.Sim
