/- The card 'LibraryNames' of the given texts, without conditions: the names, and what Get returns for any name, are those of the reference; the law answers true and leaves all as it was. The laid package variables hold what the program's text lays. -/
import Derived.Test.YthlfacmpjehjmaaGreatDoorRows
import Derived.Test.YthlfacmpjehjmaaGreatDoorTie
import Derived.Test.YthlfacmpjehjmaaGreatDoorCards
import Derived.Lay
import Derived.SevenTiedAt
import Derived.Test.YthlfacmpjehjmaaGreatDoorP9
set_option linter.unusedVariables false
namespace Go.Proofs.YthlfacmpjehjmaaGreatDoor.libraryNamesTop
open Go.ChangeShapes Go.WideShapes Go.ChangeAt Go.RowKit Go.Sim

theorem own : ownKnob Tryz.prog.godebug = none := by kernel_rfl
theorem laidOut : laidOutB Tryz.prog = true := by kernel_rfl
theorem opens : OpensAS Tryz.prog Tryz.f8.params.toList (fun k : List UInt8 × Unit => [Rp.str k.1]) (fun k => True ∧ True) := by
  rw [Tryz.params8]
  exact OpensAS.cons (t := 9) ov_str (OpensAS.nil)

set_option maxRecDepth 100000 in
theorem contract (H : Type) (enc : TypeId × Value → H) (W : World) (base : Nat) (args : Array Value) (ds gs : List (DataW H)) (before : List MemPlace)
    (hval : ∀ (j : Nat) t v, Tryz.f8.params[j]? = some t → args[j]? = some v → Value.okWide Tryz.prog W .any base t v)
    (hW : DataW.Whole enc Tryz.prog Tryz.f8.params.toList Rows.libraryNamesSpec.vars false W args.toList ds gs before)
    (hz : (DataW.weightsEach Tryz.prog (Tryz.f8.params.toList ++ Rows.libraryNamesSpec.plain.varTypes Tryz.prog) (ds ++ gs)).all (· ≤ reachBytes) = true)
    (hL : laidMetH Tryz.prog Rows.libraryNamesRow.laid W) :
    Calls Tryz.prog 8 args W fun e W' => ∃ v, e = .returned v ∧ Rows.libraryNamesSpec.post enc Tryz.prog Tryz.f8 false true false false W args v W' := by
  have hA0 : ∃ p, DataW.TrodAll enc Tryz.prog W 0 (fun _ => true) true Tryz.f8.params.toList args.toList ds p := by
    obtain ⟨p, q, hA, _⟩ := hW
    exact ⟨p, hA⟩
  obtain ⟨p, hA⟩ := hA0
  rw [Tryz.params8] at hA hz
  exact law_postS (us := Rows.libraryNamesSpec.plain.varTypes Tryz.prog) laidOut (by kernel_rfl) (tb := 4) (by kernel_rfl) Tryz.underlying4 rfl (by
    intro H ds h
    rw [Tryz.params8] at h
    match ds, h with
    | [d0], _ => rfl) opens rfl (fun k hq => LibraryNames_ok k.1) (sp_laid hL) hval (by rw [Tryz.params8]; exact hz) hW

set_option maxRecDepth 100000 in
theorem lifted (os : Os) (started : os.Started) (H : Type) (enc : TypeId × Value → H) :
    ReturnsInHanded {} Tryz.checked os 8 .any (fun w args => (Rows.libraryNamesSpec.pre enc Tryz.prog Tryz.f8 Rows.libraryNamesRow.domain false w args ∧ laidMetH Tryz.prog Rows.libraryNamesRow.laid w) ∧ sizedMet enc Tryz.prog Tryz.f8 (OpenSpec.ofChange Rows.libraryNamesSpec) false w args)
      (Rows.libraryNamesSpec.post enc Tryz.prog Tryz.f8 false true false false) := by
  refine returnsInHanded_of_change_and (C := Tryz.checked) (X := fun w _ => laidMetH Tryz.prog Rows.libraryNamesRow.laid w) (fun _ _ _ hh h => h.of_heap hh) own started (by kernel_rfl) Tryz.func8
    (ChangeSpec.witness_shaped (enc := enc) (C := Tryz.checked) (os := os) (X := fun w _ => laidMetH Tryz.prog Rows.libraryNamesRow.laid w) false (World.laidAll Tryz.prog os Rows.libraryNamesRow.laid) #[.string ⟨#[]⟩] 8 (World.laidAll_os _ _ _)
      (World.shaped_of_ZipB (by kernel_rfl) (by kernel_rfl)) (by kernel_rfl) (by kernel_rfl) (by kernel_rfl)
      (by rw [MakeChecks.laidMetH_plain _ _ _ (by kernel_rfl)]; exact laidMet_laidAll _ (by kernel_rfl) (by kernel_rfl))) ?_
  intro W base args ds gs before hval hW _ hz hL _
  exact contract H enc W base args ds gs before hval hW hz hL

theorem over : Rows.libraryNamesRow.holds Tryz.pinned (OpenSpec.ofChange Rows.libraryNamesSpec) :=
  OpenClaim.holds_of_wide 8 Tryz.f8 rfl rfl rfl rfl rfl rfl rfl ⟨rfl, rfl, rfl, rfl, rfl⟩ rfl rfl rfl rfl rfl (by kernel_rfl) Tryz.func8 (by kernel_rfl)
    (of_decide_eq_true (by kernel_rfl)) (by unfold Func.isWrapper; first | (rw [if_pos (by decide +kernel)]; kernel_rfl) | (rw [if_neg (by decide +kernel)]; exact ⟨rfl, rfl⟩))
    (fun os started H enc _ => lifted os started H enc)

theorem proved : Rows.LibraryNamesCardSaid :=
  Claim7.holds_tied_plain_at .later [] [.data, .data, .data, .listed, .data] true (true, "d40835a0df3b3227bd89fe53891110da9fb3c693b3a3438d5c539a6976813136") false over (fun _ h => by cases h) (by kernel_rfl) (fun _ h => by cases h) libraryNames_row_tie rfl ⟨rfl, rfl⟩ (by kernel_rfl) rfl
    (fun f fn hf hfn => by
      obtain rfl : f = 8 := Option.some.inj ((show Tryz.prog.funcNamed "testbench/testbenchlaw33.LibraryNames" = some 8 by kernel_rfl).symm.trans hf) |>.symm
      obtain rfl : fn = Tryz.f8 := (Option.some.inj (Tryz.func8.symm.trans hfn)).symm
      exact ⟨by kernel_rfl, fun j t ht => by
        rw [Tryz.params8] at ht
        have hm : t ∈ [9] := by simpa using Array.mem_of_getElem? ht
        have hall : ([9].all fun u => !Tryz.prog.wantsStandIn u) = true := by kernel_rfl
        exact (show Tryz.prog.wantsStandIn t = false by simpa using List.all_eq_true.1 hall t hm)⟩)
    (by kernel_rfl)
end Go.Proofs.YthlfacmpjehjmaaGreatDoor.libraryNamesTop
