/- The statement 'CountAlgebra' of the given rows, without conditions: the counts of negations, conjunctions and disjunctions add up; the law answers true and leaves all as it was. -/
import Derived.Test.YtcpkjpkjahgobaaRows
import Derived.Test.YtcpkjpkjahgobaaSimH
import Derived.Test.YtcpkjpkjahgobaaCtTop5
set_option linter.unusedVariables false
namespace Go.Proofs.Ytcpkjpkjahgobaa.countAlgebraTop
open Go.ChangeShapes Go.WideShapes Go.ChangeAt Go.RowKit Go.Sim

theorem own : ownKnob Try.prog.godebug = none := by kernel_rfl
theorem laidOut : laidOutB Try.prog = true := by kernel_rfl
theorem opens : OpensA Try.prog Try.f8.params.toList (fun k : (List Node × Int × Int) × Int × Unit => [Rp.agg (ask3 k.1), Rp.int .i64 k.2.1]) := by
  rw [Try.params8]
  exact OpensA.cons (OpensV.agg opens26 (agg_struct Try.underlying26)) (OpensA.cons (OpensV.one (Opens.int Try.underlying3) (cells_int Try.underlying3)) (OpensA.nil))

set_option maxRecDepth 100000 in
theorem contract (H : Type) (enc : TypeId × Value → H) (W : World) (base : Nat) (args : Array Value) (ds gs : List (DataW H)) (before : List MemPlace)
    (hval : ∀ (j : Nat) t v, Try.f8.params[j]? = some t → args[j]? = some v → Value.okWide Try.prog W .any base t v)
    (hW : DataW.Whole enc Try.prog Try.f8.params.toList Rows.countAlgebraSpec.vars false W args.toList ds gs before) :
    Calls Try.prog 8 args W fun e W' => ∃ v, e = .returned v ∧ Rows.countAlgebraSpec.post enc Try.prog Try.f8 false true false false W args v W' :=
  law_post laidOut (by kernel_rfl) (tb := 4) (by kernel_rfl) Try.underlying4 rfl (by
    intro H ds h
    rw [Try.params8] at h
    match ds, h with
    | [d0, d1], _ => rfl) opens (fun k => CountAlgebra_ok k.1.1 k.1.2.1 k.1.2.2 k.2.1) hval hW

set_option maxRecDepth 100000 in
theorem lifted (os : Os) (started : os.Started) (H : Type) (enc : TypeId × Value → H) :
    ReturnsInHanded {} Try.checked os 8 .any (Rows.countAlgebraSpec.pre6 enc Try.prog Try.f8 Rows.countAlgebraRow.domain false) (Rows.countAlgebraSpec.post enc Try.prog Try.f8 false true false false) := by
  refine returnsInHanded_of_change (C := Try.checked) own started (by kernel_rfl) Try.func8
    (ChangeSpec.witness6 (enc := enc) (C := Try.checked) false ⟨#[], #[.agg #[.slice none 0 0, .int .i64 0, .int .i64 0], .int .i64 0], []⟩ 8 (by kernel_rfl) (by kernel_rfl) (by kernel_rfl) (by kernel_rfl)) ?_
  intro W base args ds gs before hval hW _ _
  exact contract H enc W base args ds gs before hval hW

theorem over : Rows.countAlgebraRow.holds Try.pinned (OpenSpec.ofChange Rows.countAlgebraSpec) :=
  OpenClaim.holds_of_wide 8 Try.f8 rfl rfl rfl rfl rfl rfl rfl ⟨rfl, rfl, rfl, rfl, rfl⟩ rfl rfl rfl rfl rfl (by kernel_rfl) Try.func8 (by kernel_rfl)
    (of_decide_eq_true (by kernel_rfl)) (by unfold Func.isWrapper; first | (rw [if_pos (by decide +kernel)]; kernel_rfl) | (rw [if_neg (by decide +kernel)]; exact ⟨rfl, rfl⟩))
    (fun os started H enc _ => lifted os started H enc)
theorem proved : Rows.CountAlgebraSaid := over
end Go.Proofs.Ytcpkjpkjahgobaa.countAlgebraTop
