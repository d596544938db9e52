/- The statement 'CountProducts' of the given rows, without conditions: a weighted sum is the sum of products over all solutions; the law answers true and leaves all as it was. -/
import Derived.Test.YtcpkjpkjahgobaaRows
import Derived.Test.YtcpkjpkjahgobaaSimH
import Derived.Test.YtcpkjpkjahgobaaCtTop4
set_option linter.unusedVariables false
namespace Go.Proofs.Ytcpkjpkjahgobaa.countProductsTop
open Go.ChangeShapes Go.WideShapes Go.ChangeAt Go.RowKit Go.Sim

theorem own : ownKnob Try.prog.godebug = none := by kernel_rfl
theorem laidOut : laidOutB Try.prog = true := by kernel_rfl
theorem opens : OpensA Try.prog Try.f7.params.toList (fun k : (List Node × Int × Int) × List Int × Unit => [Rp.agg (ask3 k.1), Rp.slice eI k.2.1]) := by
  rw [Try.params7]
  exact OpensA.cons (OpensV.agg opens26 (agg_struct Try.underlying26)) (OpensA.cons (OpensV.one (Opens.slice (E := eI) (c := 1) Try.underlying39 (by kernel_rfl) (by decide) (fun _ => rfl) (Opens.int Try.underlying3)) (cells_slice Try.underlying39)) (OpensA.nil))

set_option maxRecDepth 100000 in
theorem contract (H : Type) (enc : TypeId × Value → H) (W : World) (base : Nat) (args : Array Value) (ds gs : List (DataW H)) (before : List MemPlace)
    (hval : ∀ (j : Nat) t v, Try.f7.params[j]? = some t → args[j]? = some v → Value.okWide Try.prog W .any base t v)
    (hW : DataW.Whole enc Try.prog Try.f7.params.toList Rows.countProductsSpec.vars false W args.toList ds gs before) :
    Calls Try.prog 7 args W fun e W' => ∃ v, e = .returned v ∧ Rows.countProductsSpec.post enc Try.prog Try.f7 false true false false W args v W' :=
  law_post laidOut (by kernel_rfl) (tb := 4) (by kernel_rfl) Try.underlying4 rfl (by
    intro H ds h
    rw [Try.params7] at h
    match ds, h with
    | [d0, d1], _ => rfl) opens (fun k => CountProducts_ok k.1.1 k.1.2.1 k.1.2.2 k.2.1) hval hW

set_option maxRecDepth 100000 in
theorem lifted (os : Os) (started : os.Started) (H : Type) (enc : TypeId × Value → H) :
    ReturnsInHanded {} Try.checked os 7 .any (Rows.countProductsSpec.pre6 enc Try.prog Try.f7 Rows.countProductsRow.domain false) (Rows.countProductsSpec.post enc Try.prog Try.f7 false true false false) := by
  refine returnsInHanded_of_change (C := Try.checked) own started (by kernel_rfl) Try.func7
    (ChangeSpec.witness6 (enc := enc) (C := Try.checked) false ⟨#[], #[.agg #[.slice none 0 0, .int .i64 0, .int .i64 0], .slice none 0 0], []⟩ 8 (by kernel_rfl) (by kernel_rfl) (by kernel_rfl) (by kernel_rfl)) ?_
  intro W base args ds gs before hval hW _ _
  exact contract H enc W base args ds gs before hval hW

theorem over : Rows.countProductsRow.holds Try.pinned (OpenSpec.ofChange Rows.countProductsSpec) :=
  OpenClaim.holds_of_wide 7 Try.f7 rfl rfl rfl rfl rfl rfl rfl ⟨rfl, rfl, rfl, rfl, rfl⟩ rfl rfl rfl rfl rfl (by kernel_rfl) Try.func7 (by kernel_rfl)
    (of_decide_eq_true (by kernel_rfl)) (by unfold Func.isWrapper; first | (rw [if_pos (by decide +kernel)]; kernel_rfl) | (rw [if_neg (by decide +kernel)]; exact ⟨rfl, rfl⟩))
    (fun os started H enc _ => lifted os started H enc)
theorem proved : Rows.CountProductsSaid := over
end Go.Proofs.Ytcpkjpkjahgobaa.countProductsTop
