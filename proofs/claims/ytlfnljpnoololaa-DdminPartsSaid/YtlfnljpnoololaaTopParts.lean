/- The statement 'DdminParts' of the given rows, without conditions: a part and the rest of it are together what is kept, each element once; the law answers true and leaves all as it was. -/
import Derived.Test.YtlfnljpnoololaaRows
import Derived.Test.YtlfnljpnoololaaSimH
import Derived.Test.YtlfnljpnoololaaDdTop
set_option linter.unusedVariables false
namespace Go.Proofs.Ytlfnljpnoololaa.ddminPartsTop
open Go.ChangeShapes Go.WideShapes Go.ChangeAt Go.RowKit Go.Sim

theorem own : ownKnob Try.prog.godebug = none := by kernel_rfl
theorem laidOut : laidOutB Try.prog = true := by kernel_rfl
theorem opens : OpensA Try.prog Try.f7.params.toList (fun k : Shrink × Int × Unit => [Rp.agg (shrinkR k.1), Rp.int .u8 k.2.1]) := by
  rw [Try.params7]
  exact OpensA.cons (OpensV.agg opens24 (agg_struct Try.underlying24)) (OpensA.cons (OpensV.one (Opens.int Try.underlying5) (cells_int Try.underlying5)) (OpensA.nil))

theorem contract (H : Type) (enc : TypeId × Value → H) (W : World) (base : Nat) (args : Array Value) (ds gs : List (DataW H)) (before : List MemPlace)
    (hval : ∀ (j : Nat) t v, Try.f7.params[j]? = some t → args[j]? = some v → Value.okWide Try.prog W .any base t v)
    (hW : DataW.Whole enc Try.prog Try.f7.params.toList Rows.ddminPartsSpec.vars false W args.toList ds gs before) :
    Calls Try.prog 7 args W fun e W' => ∃ v, e = .returned v ∧ Rows.ddminPartsSpec.post enc Try.prog Try.f7 false true false false W args v W' :=
  law_post laidOut (by kernel_rfl) (tb := 4) (by kernel_rfl) Try.underlying4 rfl (by
    intro H ds h
    rw [Try.params7] at h
    match ds, h with
    | [d0, d1], _ => rfl) opens (fun k => DdminParts_ok k.1 k.2.1) hval hW

set_option maxRecDepth 100000 in
theorem lifted (os : Os) (started : os.Started) (H : Type) (enc : TypeId × Value → H) :
    ReturnsInHanded {} Try.checked os 7 .any (Rows.ddminPartsSpec.pre6 enc Try.prog Try.f7 Rows.ddminPartsRow.domain false) (Rows.ddminPartsSpec.post enc Try.prog Try.f7 false true false false) := by
  refine returnsInHanded_of_change (C := Try.checked) own started (by kernel_rfl) Try.func7
    (ChangeSpec.witness6 (enc := enc) (C := Try.checked) false ⟨#[], #[.agg #[.slice none 0 0, .int .i64 0, .int .i64 0, .int .i64 0], .int .u8 0], []⟩ 8 (by kernel_rfl) (by kernel_rfl) (by kernel_rfl) (by kernel_rfl)) ?_
  intro W base args ds gs before hval hW _ _
  exact contract H enc W base args ds gs before hval hW

theorem over : Rows.ddminPartsRow.holds Try.pinned (OpenSpec.ofChange Rows.ddminPartsSpec) :=
  OpenClaim.holds_of_wide 7 Try.f7 rfl rfl rfl rfl rfl rfl rfl ⟨rfl, rfl, rfl, rfl, rfl⟩ rfl rfl rfl rfl rfl (by kernel_rfl) Try.func7 (by kernel_rfl)
    (of_decide_eq_true (by kernel_rfl)) (by unfold Func.isWrapper; first | (rw [if_pos (by decide +kernel)]; kernel_rfl) | (rw [if_neg (by decide +kernel)]; exact ⟨rfl, rfl⟩))
    (fun os started H enc _ => lifted os started H enc)
theorem proved : Rows.DdminPartsSaid := over
end Go.Proofs.Ytlfnljpnoololaa.ddminPartsTop
