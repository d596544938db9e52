/- The card 'RegmapMirrors' of the given texts, without conditions: after any accesses the mirror is valid, has the registers with which it began, and says what a plain model of the fields says; the law answers true and leaves all as it was. The package variable of keywords holds what the program's text lays. -/
import Derived.Test.YtmoijeodahlbmaaDoorRows
import Derived.Test.YtmoijeodahlbmaaDoorTie
import Derived.Test.YtmoijeodahlbmaaDoorCards
import Derived.Lay
import Derived.SevenTiedAt
import Derived.Test.YtmoijeodahlbmaaDoorSimH
import Derived.Test.YtmoijeodahlbmaaDoorRmTop3
set_option linter.unusedVariables false
namespace Go.Proofs.YtmoijeodahlbmaaDoor.regmapMirrorsTop
open Go.ChangeShapes Go.WideShapes Go.ChangeAt Go.RowKit Go.Sim

theorem own : ownKnob Tryd.prog.godebug = none := by kernel_rfl
theorem laidOut : laidOutB Tryd.prog = true := by kernel_rfl
theorem opens : OpensA Tryd.prog Tryd.f4.params.toList (fun k : RMap × List Stp × Unit => [Rp.agg (mR k.1), Rp.slice eSt k.2.1]) := by
  rw [Tryd.params4]
  exact OpensA.cons (OpensV.agg opens25 (agg_struct Tryd.underlying25)) (OpensA.cons (OpensV.one (Opens.slice (E := eSt) (c := 3) Tryd.underlying32 (by kernel_rfl) (by decide) (fun _ => rfl) opens37) (cells_slice Tryd.underlying32)) (OpensA.nil))

set_option maxRecDepth 100000 in
theorem contract (H : Type) (enc : TypeId × Value → H) (W : World) (base : Nat) (args : Array Value) (ds gs : List (DataW H)) (before : List MemPlace)
    (hval : ∀ (j : Nat) t v, Tryd.f4.params[j]? = some t → args[j]? = some v → Value.okWide Tryd.prog W .any base t v)
    (hW : DataW.Whole enc Tryd.prog Tryd.f4.params.toList Rows.regmapMirrorsSpec.vars false W args.toList ds gs before)
    (hz : (DataW.weightsEach Tryd.prog (Tryd.f4.params.toList ++ Rows.regmapMirrorsSpec.plain.varTypes Tryd.prog) (ds ++ gs)).all (· ≤ reachBytes) = true)
    (hL : laidMetH Tryd.prog Rows.regmapMirrorsRow.laid W) :
    Calls Tryd.prog 4 args W fun e W' => ∃ v, e = .returned v ∧ Rows.regmapMirrorsSpec.post enc Tryd.prog Tryd.f4 false true false false W args v W' := by
  have hA0 : ∃ p, DataW.TrodAll enc Tryd.prog W 0 (fun _ => true) true Tryd.f4.params.toList args.toList ds p := by
    obtain ⟨p, q, hA, _⟩ := hW
    exact ⟨p, hA⟩
  obtain ⟨p, hA⟩ := hA0
  rw [Tryd.params4] at hA hz
  exact law_postG laidOut (by kernel_rfl) (tb := 4) (by kernel_rfl) Tryd.underlying4 rfl (by
    intro H ds h
    rw [Tryd.params4] at h
    match ds, h with
    | [d0, d1], _ => rfl) opens rfl (fun k hk => RegmapMirrors_ok k.1 k.2.1 (m_sized hA hz hk)) (kw_laid hL) hval hW

set_option maxRecDepth 100000 in
theorem lifted (os : Os) (started : os.Started) (H : Type) (enc : TypeId × Value → H) :
    ReturnsInHanded {} Tryd.checked os 4 .any (fun w args => (Rows.regmapMirrorsSpec.pre enc Tryd.prog Tryd.f4 Rows.regmapMirrorsRow.domain false w args ∧ laidMetH Tryd.prog Rows.regmapMirrorsRow.laid w) ∧ sizedMet enc Tryd.prog Tryd.f4 (OpenSpec.ofChange Rows.regmapMirrorsSpec) false w args)
      (Rows.regmapMirrorsSpec.post enc Tryd.prog Tryd.f4 false true false false) := by
  refine returnsInHanded_of_change_and (C := Tryd.checked) (X := fun w _ => laidMetH Tryd.prog Rows.regmapMirrorsRow.laid w) (fun _ _ _ hh h => h.of_heap hh) own started (by kernel_rfl) Tryd.func4
    (ChangeSpec.witness_shaped (enc := enc) (C := Tryd.checked) (os := os) (X := fun w _ => laidMetH Tryd.prog Rows.regmapMirrorsRow.laid w) false (World.laidAll Tryd.prog os Rows.regmapMirrorsRow.laid) #[.agg #[.slice none 0 0, .slice none 0 0], .slice none 0 0] 8 (World.laidAll_os _ _ _)
      (World.shaped_of_ZipB (by kernel_rfl) (by kernel_rfl)) (by kernel_rfl) (by kernel_rfl) (by kernel_rfl)
      (by rw [MakeChecks.laidMetH_plain _ _ _ (by kernel_rfl)]; exact laidMet_laidAll _ (by kernel_rfl) (by kernel_rfl))) ?_
  intro W base args ds gs before hval hW _ hz hL _
  exact contract H enc W base args ds gs before hval hW hz hL

theorem over : Rows.regmapMirrorsRow.holds Tryd.pinned (OpenSpec.ofChange Rows.regmapMirrorsSpec) :=
  OpenClaim.holds_of_wide 4 Tryd.f4 rfl rfl rfl rfl rfl rfl rfl ⟨rfl, rfl, rfl, rfl, rfl⟩ rfl rfl rfl rfl rfl (by kernel_rfl) Tryd.func4 (by kernel_rfl)
    (of_decide_eq_true (by kernel_rfl)) (by unfold Func.isWrapper; first | (rw [if_pos (by decide +kernel)]; kernel_rfl) | (rw [if_neg (by decide +kernel)]; exact ⟨rfl, rfl⟩))
    (fun os started H enc _ => lifted os started H enc)

theorem proved : Rows.RegmapMirrorsCardSaid :=
  Claim7.holds_tied_plain_at .later [] [.widerDeep] true (true, "ab97f94472f3a4a0e49b66f5902edbc49ed48f4302758e009c69cb9fa9d42ccf") false over (fun _ h => by cases h) (by kernel_rfl) (fun _ h => by cases h) regmapMirrors_row_tie rfl ⟨rfl, rfl⟩ (by kernel_rfl) rfl
    (fun f fn hf hfn => by
      obtain rfl : f = 4 := Option.some.inj ((show Tryd.prog.funcNamed "testbench/testbenchlaw30.RegmapMirrors" = some 4 by kernel_rfl).symm.trans hf) |>.symm
      obtain rfl : fn = Tryd.f4 := (Option.some.inj (Tryd.func4.symm.trans hfn)).symm
      exact ⟨by kernel_rfl, fun j t ht => by
        rw [Tryd.params4] at ht
        have hm : t ∈ [25, 32] := by simpa using Array.mem_of_getElem? ht
        have hall : ([25, 32].all fun u => !Tryd.prog.wantsStandIn u) = true := by kernel_rfl
        exact (show Tryd.prog.wantsStandIn t = false by simpa using List.all_eq_true.1 hall t hm)⟩)
    (by kernel_rfl)
end Go.Proofs.YtmoijeodahlbmaaDoor.regmapMirrorsTop
