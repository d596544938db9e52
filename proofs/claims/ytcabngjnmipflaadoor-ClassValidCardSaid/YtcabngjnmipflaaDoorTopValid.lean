/- The card 'ClassValid' of the given texts, without conditions: ValidField, Valid and Vars return the specified errors and variables; the law answers true and leaves all as it was. The laid package variables hold what the program's text lays. -/
import Derived.Test.YtcabngjnmipflaaDoorRows
import Derived.Test.YtcabngjnmipflaaDoorTie
import Derived.Test.YtcabngjnmipflaaDoorCards
import Derived.Lay
import Derived.SevenTiedAt
import Derived.Test.YtcabngjnmipflaaDoorP8
import Derived.Test.YtcabngjnmipflaaDoorP6
set_option linter.unusedVariables false
namespace Go.Proofs.YtcabngjnmipflaaDoor.classValidTop
open Go.ChangeShapes Go.WideShapes Go.ChangeAt Go.RowKit Go.Sim

theorem own : ownKnob Tryd.prog.godebug = none := by kernel_rfl
theorem laidOut : laidOutB Tryd.prog = true := by kernel_rfl
theorem opens : OpensAS Tryd.prog Tryd.f3.params.toList (fun k : Cl × Fd × Unit => [Rp.agg (eC k.1), Rp.agg (eF k.2.1)]) (fun k => ClOk k.1 ∧ True ∧ True) := by
  rw [Tryd.params3]
  exact OpensAS.cons (t := 25) (OpensVS.agg op_cl (agg_struct Tryd.underlying25)) (OpensAS.cons (t := 27) (OpensVS.agg op_fd (agg_struct Tryd.underlying27)) (OpensAS.nil))

set_option maxRecDepth 100000 in
theorem contract (H : Type) (enc : TypeId × Value → H) (W : World) (base : Nat) (args : Array Value) (ds gs : List (DataW H)) (before : List MemPlace)
    (hval : ∀ (j : Nat) t v, Tryd.f3.params[j]? = some t → args[j]? = some v → Value.okWide Tryd.prog W .any base t v)
    (hW : DataW.Whole enc Tryd.prog Tryd.f3.params.toList Rows.classValidSpec.vars false W args.toList ds gs before)
    (hz : (DataW.weightsEach Tryd.prog (Tryd.f3.params.toList ++ Rows.classValidSpec.plain.varTypes Tryd.prog) (ds ++ gs)).all (· ≤ reachBytes) = true)
    (hL : laidMetH Tryd.prog Rows.classValidRow.laid W) :
    Calls Tryd.prog 3 args W fun e W' => ∃ v, e = .returned v ∧ Rows.classValidSpec.post enc Tryd.prog Tryd.f3 false true false false W args v W' := by
  have hA0 : ∃ p, DataW.TrodAll enc Tryd.prog W 0 (fun _ => true) true Tryd.f3.params.toList args.toList ds p := by
    obtain ⟨p, q, hA, _⟩ := hW
    exact ⟨p, hA⟩
  obtain ⟨p, hA⟩ := hA0
  rw [Tryd.params3] at hA hz
  exact law_postS (us := Rows.classValidSpec.plain.varTypes Tryd.prog) laidOut (by kernel_rfl) (tb := 4) (by kernel_rfl) Tryd.underlying4 rfl (by
    intro H ds h
    rw [Tryd.params3] at h
    match ds, h with
    | [d0, d1], _ => rfl) opens rfl (fun k hq => classValid_ok k.1 k.2.1) (kw_laid hL) hval (by rw [Tryd.params3]; exact hz) hW

set_option maxRecDepth 100000 in
theorem lifted (os : Os) (started : os.Started) (H : Type) (enc : TypeId × Value → H) :
    ReturnsInHanded {} Tryd.checked os 3 .any (fun w args => (Rows.classValidSpec.pre enc Tryd.prog Tryd.f3 Rows.classValidRow.domain false w args ∧ laidMetH Tryd.prog Rows.classValidRow.laid w) ∧ sizedMet enc Tryd.prog Tryd.f3 (OpenSpec.ofChange Rows.classValidSpec) false w args)
      (Rows.classValidSpec.post enc Tryd.prog Tryd.f3 false true false false) := by
  refine returnsInHanded_of_change_and (C := Tryd.checked) (X := fun w _ => laidMetH Tryd.prog Rows.classValidRow.laid w) (fun _ _ _ hh h => h.of_heap hh) own started (by kernel_rfl) Tryd.func3
    (ChangeSpec.witness_shaped (enc := enc) (C := Tryd.checked) (os := os) (X := fun w _ => laidMetH Tryd.prog Rows.classValidRow.laid w) false (World.laidAll Tryd.prog os Rows.classValidRow.laid) #[.agg #[.string ⟨#[]⟩, .string ⟨#[]⟩, .slice none 0 0, .slice none 0 0], .agg #[.string ⟨#[]⟩, .int .i64 0, .int .i64 0, .int .i64 0, .int .i64 0]] 8 (World.laidAll_os _ _ _)
      (World.shaped_of_ZipB (by kernel_rfl) (by kernel_rfl)) (by kernel_rfl) (by kernel_rfl) (by kernel_rfl)
      (by rw [MakeChecks.laidMetH_plain _ _ _ (by kernel_rfl)]; exact laidMet_laidAll _ (by kernel_rfl) (by kernel_rfl))) ?_
  intro W base args ds gs before hval hW _ hz hL _
  exact contract H enc W base args ds gs before hval hW hz hL

theorem over : Rows.classValidRow.holds Tryd.pinned (OpenSpec.ofChange Rows.classValidSpec) :=
  OpenClaim.holds_of_wide 3 Tryd.f3 rfl rfl rfl rfl rfl rfl rfl ⟨rfl, rfl, rfl, rfl, rfl⟩ rfl rfl rfl rfl rfl (by kernel_rfl) Tryd.func3 (by kernel_rfl)
    (of_decide_eq_true (by kernel_rfl)) (by unfold Func.isWrapper; first | (rw [if_pos (by decide +kernel)]; kernel_rfl) | (rw [if_neg (by decide +kernel)]; exact ⟨rfl, rfl⟩))
    (fun os started H enc _ => lifted os started H enc)

theorem proved : Rows.ClassValidCardSaid :=
  Claim7.holds_tied_plain_at .later [] [.data, .data, .data, .widerDeep] true (true, "c5abb05f2e7d3630a3456487cdc4c6f6a7b373ac8ca3bca9b237a6c4d2a552e7") false over (fun _ h => by cases h) (by kernel_rfl) (fun _ h => by cases h) classValid_row_tie rfl ⟨rfl, rfl⟩ (by kernel_rfl) rfl
    (fun f fn hf hfn => by
      obtain rfl : f = 3 := Option.some.inj ((show Tryd.prog.funcNamed "testbench/testbenchlaw10.ClassValid" = some 3 by kernel_rfl).symm.trans hf) |>.symm
      obtain rfl : fn = Tryd.f3 := (Option.some.inj (Tryd.func3.symm.trans hfn)).symm
      exact ⟨by kernel_rfl, fun j t ht => by
        rw [Tryd.params3] at ht
        have hm : t ∈ [25, 27] := by simpa using Array.mem_of_getElem? ht
        have hall : ([25, 27].all fun u => !Tryd.prog.wantsStandIn u) = true := by kernel_rfl
        exact (show Tryd.prog.wantsStandIn t = false by simpa using List.all_eq_true.1 hall t hm)⟩)
    (by kernel_rfl)
end Go.Proofs.YtcabngjnmipflaaDoor.classValidTop
