/- The card 'ThreadSorted' of the given texts in its second form: the order of paths is total, and what lies between paths below a path is below it; the law answers true and leaves all as it was. The package variable of powers of ten holds what the program's text lays. -/
import Derived.Test.YteannfdcbblooaaDoorRows
import Derived.Test.YteannfdcbblooaaDoorTie
import Derived.Test.YteannfdcbblooaaDoorCards
import Derived.Lay
import Derived.SevenTiedAt
import Derived.JoinedCond
import Derived.Deep.DeepHandedRow
import Derived.Test.YteannfdcbblooaaDoorSimH
import Derived.Test.YteannfdcbblooaaDoorSimR
import Derived.Test.YteannfdcbblooaaDoorThOpen
import Derived.Test.YteannfdcbblooaaDoorThW10
set_option linter.unusedVariables false
namespace Go.Proofs.YteannfdcbblooaaDoor.threadSortedTop
open Go.ChangeShapes Go.WideShapes Go.ChangeAt Go.RowKit Go.Sim

theorem own : ownKnob Tryd.prog.godebug = none := by kernel_rfl
theorem laidOut : laidOutB Tryd.prog = true := by kernel_rfl
theorem opens : OpensA Tryd.prog Tryd.f8.params.toList (fun k : List UInt8 × List UInt8 × List UInt8 × Unit => [Rp.str k.1, Rp.str k.2.1, Rp.str k.2.2.1]) := by
  rw [Tryd.params8]
  exact OpensA.cons (OpensV.one (Opens.str Tryd.underlying9) (cells_str Tryd.underlying9)) (OpensA.cons (OpensV.one (Opens.str Tryd.underlying9) (cells_str Tryd.underlying9)) (OpensA.cons (OpensV.one (Opens.str Tryd.underlying9) (cells_str Tryd.underlying9)) (OpensA.nil)))

set_option maxRecDepth 100000 in
theorem contract (H : Type) (enc : TypeId × Value → H) (W : World) (base : Nat) (args : Array Value) (ds gs : List (DataW H)) (before : List MemPlace)
    (hval : ∀ (j : Nat) t v, Tryd.f8.params[j]? = some t → args[j]? = some v → Value.okWide Tryd.prog W .any base t v)
    (hW : DataW.Whole enc Tryd.prog Tryd.f8.params.toList Rows.threadSortedSpec.vars false W args.toList ds gs before)
    (hc : Rows.uptoSmall H (ds ++ gs) = true)
    (hL : laidMetH Tryd.prog Rows.threadSortedUptoRow.laid W) :
    Calls Tryd.prog 8 args W fun e W' => ∃ v, e = .returned v ∧ Rows.threadSortedSpec.post enc Tryd.prog Tryd.f8 false true false false W args v W' := by
  have hA0 : ∃ p, DataW.TrodAll enc Tryd.prog W 0 (fun _ => true) true Tryd.f8.params.toList args.toList ds p := by
    obtain ⟨p, q, hA, _⟩ := hW
    exact ⟨p, hA⟩
  obtain ⟨p, hA⟩ := hA0
  rw [Tryd.params8] at hA
  exact law_postG laidOut (by kernel_rfl) (tb := 4) (by kernel_rfl) Tryd.underlying4 rfl (by
    intro H ds h
    rw [Tryd.params8] at h
    match ds, h with
    | [d0, d1, d2], _ => rfl) opens rfl (fun k hk => ThreadSorted_ok k.1 k.2.1 k.2.2.1 (str_upto hA hc 0 k.1 rfl (allP_str hk 0 _ rfl)) (str_upto hA hc 1 k.2.1 rfl (allP_str hk 1 _ rfl)) (str_upto hA hc 2 k.2.2.1 rfl (allP_str hk 2 _ rfl))) (tab_laid hL) hval hW

theorem laid_met (os : Os) : laidMet Tryd.prog Rows.threadSortedUptoRow.laid ((World.laidAll Tryd.prog os Rows.threadSortedUptoRow.laid).forCall (fun _ _ => 0) ⟨#[], #[.string ⟨#[]⟩, .string ⟨#[]⟩, .string ⟨#[]⟩], []⟩).memory :=
  laidMet_laidAll _ (by kernel_rfl) (by kernel_rfl)
theorem reads (os : Os) {H : Type} (enc : TypeId × Value → H) : ∃ places, DataW.whole enc Tryd.prog ((World.laidAll Tryd.prog os Rows.threadSortedUptoRow.laid).forCall (fun _ _ => 0) ⟨#[], #[.string ⟨#[]⟩, .string ⟨#[]⟩, .string ⟨#[]⟩], []⟩).memory Tryd.f8.params.toList Rows.threadSortedSpec.vars false (#[.string ⟨#[]⟩, .string ⟨#[]⟩, .string ⟨#[]⟩] : Array Value).toList 8 = some ([.lit (.string []), .lit (.string []), .lit (.string [])], [], places) :=
  ⟨[], by kernel_rfl⟩

set_option maxRecDepth 100000 in
theorem lifted (os : Os) (started : os.Started) (H : Type) (enc : TypeId × Value → H) (F : Stop.Interp) :
    ReturnsInHanded {} Tryd.checked os 8 .any ((Rows.OpenSpec.upto Rows.threadSortedSpec).preRow enc Tryd.prog Tryd.f8 Rows.threadSortedUptoRow.domain false Rows.threadSortedUptoRow.laid) (((Rows.OpenSpec.upto Rows.threadSortedSpec).at F).post enc Tryd.prog Tryd.f8 false true false false) := by
  obtain ⟨places, hx⟩ := reads os enc
  refine returnsInHanded_of_row (C := Tryd.checked) (s := Rows.OpenSpec.upto Rows.threadSortedSpec) own started (by kernel_rfl) Tryd.func8
    (witness_row_at (enc := enc) (C := Tryd.checked) false (World.laidAll Tryd.prog os Rows.threadSortedUptoRow.laid) #[.string ⟨#[]⟩, .string ⟨#[]⟩, .string ⟨#[]⟩] (World.laidAll_os _ _ _) (by kernel_rfl) (by kernel_rfl) (by kernel_rfl)
      (OpenSpec.preRow_of_cond 8 hx (by kernel_rfl) (fun k hk => by cases hk; kernel_rfl) (by kernel_rfl) (by rw [MakeChecks.laidMetH_plain _ _ _ (by kernel_rfl)]; exact laid_met os))) ?_
  intro W base args ds gs before hval hW _ hcond _ hL _ _
  exact contract H enc W base args ds gs before hval hW (hcond _ rfl) hL

theorem over : Rows.threadSortedUptoRow.holds Tryd.pinned (Rows.OpenSpec.upto Rows.threadSortedSpec) :=
  OpenClaim.holds_of_cond 8 Tryd.f8 rfl rfl rfl rfl rfl rfl rfl ⟨rfl, rfl, rfl, rfl, rfl⟩ rfl rfl rfl rfl rfl (by kernel_rfl) Tryd.func8 (by kernel_rfl)
    (of_decide_eq_true (by kernel_rfl)) (by unfold Func.isWrapper; first | (rw [if_pos (by decide +kernel)]; kernel_rfl) | (rw [if_neg (by decide +kernel)]; exact ⟨rfl, rfl⟩))
    (fun os started H enc _ F => by rw [OpenClaim.pre_eq_preRow]; exact lifted os started H enc F)

theorem proved : Rows.ThreadSortedUptoCardSaid :=
  Claim7.holds_tied_plain_at .later [] _ _ _ _ over (fun _ h => by cases h) (by kernel_rfl) (fun _ h => by cases h) threadSortedUpto_row_tie rfl ⟨rfl, rfl⟩ (by kernel_rfl) rfl
    (fun f fn hf hfn => by
      obtain rfl : f = 8 := Option.some.inj ((show Tryd.prog.funcNamed "testbench/testbenchlaw27.ThreadSorted" = some 8 by kernel_rfl).symm.trans hf) |>.symm
      obtain rfl : fn = Tryd.f8 := (Option.some.inj (Tryd.func8.symm.trans hfn)).symm
      exact ⟨by kernel_rfl, fun j t ht => by
        rw [Tryd.params8] at ht
        have hm : t ∈ [9, 9, 9] := by simpa using Array.mem_of_getElem? ht
        have hall : ([9, 9, 9].all fun u => !Tryd.prog.wantsStandIn u) = true := by kernel_rfl
        exact (show Tryd.prog.wantsStandIn t = false by simpa using List.all_eq_true.1 hall t hm)⟩)
    (by kernel_rfl)
end Go.Proofs.YteannfdcbblooaaDoor.threadSortedTop
