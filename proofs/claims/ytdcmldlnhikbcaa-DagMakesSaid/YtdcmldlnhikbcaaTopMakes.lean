/- The statement 'DagMakes' of the given rows, without conditions: the nodes that are made, or the errors, are those of the document; the law answers true and leaves all as it was. -/
import Derived.Test.YtdcmldlnhikbcaaRows
import Derived.Test.YtdcmldlnhikbcaaSimH
import Derived.Test.YtdcmldlnhikbcaaDgTop
set_option linter.unusedVariables false
namespace Go.Proofs.Ytdcmldlnhikbcaa.dagMakesTop
open Go.ChangeShapes Go.WideShapes Go.ChangeAt Go.RowKit Go.Sim

theorem own : ownKnob Try.prog.godebug = none := by kernel_rfl
theorem laidOut : laidOutB Try.prog = true := by kernel_rfl
theorem opens : OpensA Try.prog Try.f3.params.toList (fun k : List Node × Node × Unit => [Rp.agg (dagR k.1), Rp.agg (eN k.2.1)]) := by
  rw [Try.params3]
  exact OpensA.cons (OpensV.agg opens24 (agg_struct Try.underlying24)) (OpensA.cons (OpensV.agg opens26 (agg_struct Try.underlying26)) (OpensA.nil))

theorem contract (H : Type) (enc : TypeId × Value → H) (W : World) (base : Nat) (args : Array Value) (ds gs : List (DataW H)) (before : List MemPlace)
    (hval : ∀ (j : Nat) t v, Try.f3.params[j]? = some t → args[j]? = some v → Value.okWide Try.prog W .any base t v)
    (hW : DataW.Whole enc Try.prog Try.f3.params.toList Rows.dagMakesSpec.vars false W args.toList ds gs before) :
    Calls Try.prog 3 args W fun e W' => ∃ v, e = .returned v ∧ Rows.dagMakesSpec.post enc Try.prog Try.f3 false true false false W args v W' :=
  law_post laidOut (by kernel_rfl) (tb := 4) (by kernel_rfl) Try.underlying4 rfl (by
    intro H ds h
    rw [Try.params3] at h
    match ds, h with
    | [d0, d1], _ => rfl) opens (fun k => DagMakes_ok k.1 k.2.1) hval hW

set_option maxRecDepth 100000 in
theorem lifted (os : Os) (started : os.Started) (H : Type) (enc : TypeId × Value → H) :
    ReturnsInHanded {} Try.checked os 3 .any (Rows.dagMakesSpec.pre6 enc Try.prog Try.f3 Rows.dagMakesRow.domain false) (Rows.dagMakesSpec.post enc Try.prog Try.f3 false true false false) := by
  refine returnsInHanded_of_change (C := Try.checked) own started (by kernel_rfl) Try.func3
    (ChangeSpec.witness6 (enc := enc) (C := Try.checked) false ⟨#[], #[.agg #[.slice none 0 0], .agg #[.int .i64 0, .int .i64 0, .int .i64 0]], []⟩ 8 (by kernel_rfl) (by kernel_rfl) (by kernel_rfl) (by kernel_rfl)) ?_
  intro W base args ds gs before hval hW _ _
  exact contract H enc W base args ds gs before hval hW

theorem over : Rows.dagMakesRow.holds Try.pinned (OpenSpec.ofChange Rows.dagMakesSpec) :=
  OpenClaim.holds_of_wide 3 Try.f3 rfl rfl rfl rfl rfl rfl rfl ⟨rfl, rfl, rfl, rfl, rfl⟩ rfl rfl rfl rfl rfl (by kernel_rfl) Try.func3 (by kernel_rfl)
    (of_decide_eq_true (by kernel_rfl)) (by unfold Func.isWrapper; first | (rw [if_pos (by decide +kernel)]; kernel_rfl) | (rw [if_neg (by decide +kernel)]; exact ⟨rfl, rfl⟩))
    (fun os started H enc _ => lifted os started H enc)
theorem proved : Rows.DagMakesSaid := over
end Go.Proofs.Ytdcmldlnhikbcaa.dagMakesTop
