/- The statement 'DdminMinimal' of the given rows, without conditions: minimizing ends within the bound, and what is kept fails if anything failed and is minimal; the law answers true and leaves all as it was. -/
import Derived.Test.YtlfnljpnoololaaRows
import Derived.Test.YtlfnljpnoololaaSimH
import Derived.Test.YtlfnljpnoololaaDdTop2
set_option linter.unusedVariables false
namespace Go.Proofs.Ytlfnljpnoololaa.ddminMinimalTop
open Go.ChangeShapes Go.WideShapes Go.ChangeAt Go.RowKit Go.Sim

theorem own : ownKnob Try.prog.godebug = none := by kernel_rfl
theorem laidOut : laidOutB Try.prog = true := by kernel_rfl
theorem opens : OpensA Try.prog Try.f6.params.toList (fun k : Int × List Int × Unit => [Rp.int .u8 k.1, Rp.slice eU8 k.2.1]) := by
  rw [Try.params6]
  exact OpensA.cons (OpensV.one (Opens.int Try.underlying5) (cells_int Try.underlying5)) (OpensA.cons (OpensV.one (Opens.slice (E := eU8) (c := 1) Try.underlying38 (by kernel_rfl) (by decide) (fun _ => rfl) (Opens.int Try.underlying5)) (cells_slice Try.underlying38)) (OpensA.nil))

theorem contract (H : Type) (enc : TypeId × Value → H) (W : World) (base : Nat) (args : Array Value) (ds gs : List (DataW H)) (before : List MemPlace)
    (hval : ∀ (j : Nat) t v, Try.f6.params[j]? = some t → args[j]? = some v → Value.okWide Try.prog W .any base t v)
    (hW : DataW.Whole enc Try.prog Try.f6.params.toList Rows.ddminMinimalSpec.vars false W args.toList ds gs before) :
    Calls Try.prog 6 args W fun e W' => ∃ v, e = .returned v ∧ Rows.ddminMinimalSpec.post enc Try.prog Try.f6 false true false false W args v W' :=
  law_post laidOut (by kernel_rfl) (tb := 4) (by kernel_rfl) Try.underlying4 rfl (by
    intro H ds h
    rw [Try.params6] at h
    match ds, h with
    | [d0, d1], _ => rfl) opens (fun k => DdminMinimal_ok k.1 k.2.1) hval hW

set_option maxRecDepth 100000 in
theorem lifted (os : Os) (started : os.Started) (H : Type) (enc : TypeId × Value → H) :
    ReturnsInHanded {} Try.checked os 6 .any (Rows.ddminMinimalSpec.pre6 enc Try.prog Try.f6 Rows.ddminMinimalRow.domain false) (Rows.ddminMinimalSpec.post enc Try.prog Try.f6 false true false false) := by
  refine returnsInHanded_of_change (C := Try.checked) own started (by kernel_rfl) Try.func6
    (ChangeSpec.witness6 (enc := enc) (C := Try.checked) false ⟨#[], #[.int .u8 0, .slice none 0 0], []⟩ 8 (by kernel_rfl) (by kernel_rfl) (by kernel_rfl) (by kernel_rfl)) ?_
  intro W base args ds gs before hval hW _ _
  exact contract H enc W base args ds gs before hval hW

theorem over : Rows.ddminMinimalRow.holds Try.pinned (OpenSpec.ofChange Rows.ddminMinimalSpec) :=
  OpenClaim.holds_of_wide 6 Try.f6 rfl rfl rfl rfl rfl rfl rfl ⟨rfl, rfl, rfl, rfl, rfl⟩ rfl rfl rfl rfl rfl (by kernel_rfl) Try.func6 (by kernel_rfl)
    (of_decide_eq_true (by kernel_rfl)) (by unfold Func.isWrapper; first | (rw [if_pos (by decide +kernel)]; kernel_rfl) | (rw [if_neg (by decide +kernel)]; exact ⟨rfl, rfl⟩))
    (fun os started H enc _ => lifted os started H enc)
theorem proved : Rows.DdminMinimalSaid := over
end Go.Proofs.Ytlfnljpnoololaa.ddminMinimalTop
