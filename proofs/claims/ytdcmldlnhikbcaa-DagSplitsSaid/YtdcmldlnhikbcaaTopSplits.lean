/- The statement 'DagSplits' of the given rows, without conditions: a function is the choice, by a bit, between itself with the bit true and with the bit false, and a disjunction is the negation of the conjunction of negations; the law answers true and leaves all as it was. -/
import Derived.Test.YtdcmldlnhikbcaaRows
import Derived.Test.YtdcmldlnhikbcaaSimH
import Derived.Test.YtdcmldlnhikbcaaDgTop5
set_option linter.unusedVariables false
namespace Go.Proofs.Ytdcmldlnhikbcaa.dagSplitsTop
open Go.ChangeShapes Go.WideShapes Go.ChangeAt Go.RowKit Go.Sim

theorem own : ownKnob Try.prog.godebug = none := by kernel_rfl
theorem laidOut : laidOutB Try.prog = true := by kernel_rfl
theorem opens : OpensA Try.prog Try.f9.params.toList (fun k : List Node × (Int × Int) × Int × Unit => [Rp.agg (dagR k.1), Rp.agg (r2 k.2.1), Rp.int .i64 k.2.2.1]) := by
  rw [Try.params9]
  exact OpensA.cons (OpensV.agg opens24 (agg_struct Try.underlying24)) (OpensA.cons (OpensV.agg opens54 (agg_array Try.underlying54)) (OpensA.cons (OpensV.one (Opens.int Try.underlying3) (cells_int Try.underlying3)) (OpensA.nil)))

theorem contract (H : Type) (enc : TypeId × Value → H) (W : World) (base : Nat) (args : Array Value) (ds gs : List (DataW H)) (before : List MemPlace)
    (hval : ∀ (j : Nat) t v, Try.f9.params[j]? = some t → args[j]? = some v → Value.okWide Try.prog W .any base t v)
    (hW : DataW.Whole enc Try.prog Try.f9.params.toList Rows.dagSplitsSpec.vars false W args.toList ds gs before) :
    Calls Try.prog 9 args W fun e W' => ∃ v, e = .returned v ∧ Rows.dagSplitsSpec.post enc Try.prog Try.f9 false true false false W args v W' :=
  law_post laidOut (by kernel_rfl) (tb := 4) (by kernel_rfl) Try.underlying4 rfl (by
    intro H ds h
    rw [Try.params9] at h
    match ds, h with
    | [d0, d1, d2], _ => rfl) opens (fun k => DagSplits_ok k.1 k.2.1.1 k.2.1.2 k.2.2.1) hval hW

set_option maxRecDepth 100000 in
theorem lifted (os : Os) (started : os.Started) (H : Type) (enc : TypeId × Value → H) :
    ReturnsInHanded {} Try.checked os 9 .any (Rows.dagSplitsSpec.pre6 enc Try.prog Try.f9 Rows.dagSplitsRow.domain false) (Rows.dagSplitsSpec.post enc Try.prog Try.f9 false true false false) := by
  refine returnsInHanded_of_change (C := Try.checked) own started (by kernel_rfl) Try.func9
    (ChangeSpec.witness6 (enc := enc) (C := Try.checked) false ⟨#[], #[.agg #[.slice none 0 0], .agg #[.int .i64 0, .int .i64 0], .int .i64 0], []⟩ 8 (by kernel_rfl) (by kernel_rfl) (by kernel_rfl) (by kernel_rfl)) ?_
  intro W base args ds gs before hval hW _ _
  exact contract H enc W base args ds gs before hval hW

theorem over : Rows.dagSplitsRow.holds Try.pinned (OpenSpec.ofChange Rows.dagSplitsSpec) :=
  OpenClaim.holds_of_wide 9 Try.f9 rfl rfl rfl rfl rfl rfl rfl ⟨rfl, rfl, rfl, rfl, rfl⟩ rfl rfl rfl rfl rfl (by kernel_rfl) Try.func9 (by kernel_rfl)
    (of_decide_eq_true (by kernel_rfl)) (by unfold Func.isWrapper; first | (rw [if_pos (by decide +kernel)]; kernel_rfl) | (rw [if_neg (by decide +kernel)]; exact ⟨rfl, rfl⟩))
    (fun os started H enc _ => lifted os started H enc)
theorem proved : Rows.DagSplitsSaid := over
end Go.Proofs.Ytdcmldlnhikbcaa.dagSplitsTop
