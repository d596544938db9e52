/- The card 'SchedSorted' of the given texts, without conditions: Order sorts by priority, then by cost, then by index; the law answers true and leaves all as it was. The package variable of keywords holds what the program's text lays. -/
import Derived.Test.YtlbhpjigjehffaaDoorRows
import Derived.Test.YtlbhpjigjehffaaDoorTie
import Derived.Test.YtlbhpjigjehffaaDoorCards
import Derived.Lay
import Derived.SevenTiedAt
import Derived.Test.YtlbhpjigjehffaaDoorP2
import Derived.Test.YtlbhpjigjehffaaDoorP7
set_option linter.unusedVariables false
namespace Go.Proofs.YtlbhpjigjehffaaDoor.schedSortedTop
open Go.ChangeShapes Go.WideShapes Go.ChangeAt Go.RowKit Go.Sim

theorem own : ownKnob Tryd.prog.godebug = none := by kernel_rfl
theorem laidOut : laidOutB Tryd.prog = true := by kernel_rfl
theorem opens : OpensA Tryd.prog Tryd.f8.params.toList (fun k : List Jb × Unit => [Rp.slice eJ k.1]) := by
  rw [Tryd.params8]
  exact OpensA.cons (opens22) (OpensA.nil)

set_option maxRecDepth 100000 in
theorem contract (H : Type) (enc : TypeId × Value → H) (W : World) (base : Nat) (args : Array Value) (ds gs : List (DataW H)) (before : List MemPlace)
    (hval : ∀ (j : Nat) t v, Tryd.f8.params[j]? = some t → args[j]? = some v → Value.okWide Tryd.prog W .any base t v)
    (hW : DataW.Whole enc Tryd.prog Tryd.f8.params.toList Rows.schedSortedSpec.vars false W args.toList ds gs before)
    (hz : (DataW.weightsEach Tryd.prog (Tryd.f8.params.toList ++ Rows.schedSortedSpec.plain.varTypes Tryd.prog) (ds ++ gs)).all (· ≤ reachBytes) = true)
    (hL : laidMetH Tryd.prog Rows.schedSortedRow.laid W) :
    Calls Tryd.prog 8 args W fun e W' => ∃ v, e = .returned v ∧ Rows.schedSortedSpec.post enc Tryd.prog Tryd.f8 false true false false W args v W' := by
  have hA0 : ∃ p, DataW.TrodAll enc Tryd.prog W 0 (fun _ => true) true Tryd.f8.params.toList args.toList ds p := by
    obtain ⟨p, q, hA, _⟩ := hW
    exact ⟨p, hA⟩
  obtain ⟨p, hA⟩ := hA0
  rw [Tryd.params8] at hA hz
  exact law_postG laidOut (by kernel_rfl) (tb := 4) (by kernel_rfl) Tryd.underlying4 rfl (by
    intro H ds h
    rw [Tryd.params8] at h
    match ds, h with
    | [d0], _ => rfl) opens rfl (fun k hk => SchedSorted_ok k.1) (kw_laid hL) hval hW

set_option maxRecDepth 100000 in
theorem lifted (os : Os) (started : os.Started) (H : Type) (enc : TypeId × Value → H) :
    ReturnsInHanded {} Tryd.checked os 8 .any (fun w args => (Rows.schedSortedSpec.pre enc Tryd.prog Tryd.f8 Rows.schedSortedRow.domain false w args ∧ laidMetH Tryd.prog Rows.schedSortedRow.laid w) ∧ sizedMet enc Tryd.prog Tryd.f8 (OpenSpec.ofChange Rows.schedSortedSpec) false w args)
      (Rows.schedSortedSpec.post enc Tryd.prog Tryd.f8 false true false false) := by
  refine returnsInHanded_of_change_and (C := Tryd.checked) (X := fun w _ => laidMetH Tryd.prog Rows.schedSortedRow.laid w) (fun _ _ _ hh h => h.of_heap hh) own started (by kernel_rfl) Tryd.func8
    (ChangeSpec.witness_shaped (enc := enc) (C := Tryd.checked) (os := os) (X := fun w _ => laidMetH Tryd.prog Rows.schedSortedRow.laid w) false (World.laidAll Tryd.prog os Rows.schedSortedRow.laid) #[.slice none 0 0] 8 (World.laidAll_os _ _ _)
      (World.shaped_of_ZipB (by kernel_rfl) (by kernel_rfl)) (by kernel_rfl) (by kernel_rfl) (by kernel_rfl)
      (by rw [MakeChecks.laidMetH_plain _ _ _ (by kernel_rfl)]; exact laidMet_laidAll _ (by kernel_rfl) (by kernel_rfl))) ?_
  intro W base args ds gs before hval hW _ hz hL _
  exact contract H enc W base args ds gs before hval hW hz hL

theorem over : Rows.schedSortedRow.holds Tryd.pinned (OpenSpec.ofChange Rows.schedSortedSpec) :=
  OpenClaim.holds_of_wide 8 Tryd.f8 rfl rfl rfl rfl rfl rfl rfl ⟨rfl, rfl, rfl, rfl, rfl⟩ rfl rfl rfl rfl rfl (by kernel_rfl) Tryd.func8 (by kernel_rfl)
    (of_decide_eq_true (by kernel_rfl)) (by unfold Func.isWrapper; first | (rw [if_pos (by decide +kernel)]; kernel_rfl) | (rw [if_neg (by decide +kernel)]; exact ⟨rfl, rfl⟩))
    (fun os started H enc _ => lifted os started H enc)

theorem proved : Rows.SchedSortedCardSaid :=
  Claim7.holds_tied_plain_at .later [] [.widerDeep] true (true, "058cfa479e9a1b3bc190bab5f01b8bbdddffbf111bc5f2278f276520a08383e2") false over (fun _ h => by cases h) (by kernel_rfl) (fun _ h => by cases h) schedSorted_row_tie rfl ⟨rfl, rfl⟩ (by kernel_rfl) rfl
    (fun f fn hf hfn => by
      obtain rfl : f = 8 := Option.some.inj ((show Tryd.prog.funcNamed "testbench/testbenchlaw57.SchedSorted" = some 8 by kernel_rfl).symm.trans hf) |>.symm
      obtain rfl : fn = Tryd.f8 := (Option.some.inj (Tryd.func8.symm.trans hfn)).symm
      exact ⟨by kernel_rfl, fun j t ht => by
        rw [Tryd.params8] at ht
        have hm : t ∈ [22] := by simpa using Array.mem_of_getElem? ht
        have hall : ([22].all fun u => !Tryd.prog.wantsStandIn u) = true := by kernel_rfl
        exact (show Tryd.prog.wantsStandIn t = false by simpa using List.all_eq_true.1 hall t hm)⟩)
    (by kernel_rfl)
end Go.Proofs.YtlbhpjigjehffaaDoor.schedSortedTop
