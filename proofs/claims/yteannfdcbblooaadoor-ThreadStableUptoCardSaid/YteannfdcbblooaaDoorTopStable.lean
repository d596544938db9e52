/- The card 'ThreadStable' of the given texts in its second form: streams of different numbers below a path differ unless their names' hashes are the same; the law answers true and leaves all as it was. The package variable of powers of ten holds what the program's text lays. -/
import Derived.Test.YteannfdcbblooaaDoorRows
import Derived.Test.YteannfdcbblooaaDoorTie
import Derived.Test.YteannfdcbblooaaDoorCards
import Derived.Lay
import Derived.SevenTiedAt
import Derived.JoinedCond
import Derived.Deep.DeepHandedRow
import Derived.Test.YteannfdcbblooaaDoorSimH
import Derived.Test.YteannfdcbblooaaDoorSimR
import Derived.Test.YteannfdcbblooaaDoorThOpen
import Derived.Test.YteannfdcbblooaaDoorThLaw2
set_option linter.unusedVariables false
namespace Go.Proofs.YteannfdcbblooaaDoor.threadStableTop
open Go.ChangeShapes Go.WideShapes Go.ChangeAt Go.RowKit Go.Sim

theorem own : ownKnob Tryd.prog.godebug = none := by kernel_rfl
theorem laidOut : laidOutB Tryd.prog = true := by kernel_rfl
theorem opens : OpensA Tryd.prog Tryd.f9.params.toList (fun k : Int × List UInt8 × (Int × Int) × Unit => [Rp.int .u64 k.1, Rp.str k.2.1, Rp.agg [Rp.int .u16 k.2.2.1.1, Rp.int .u16 k.2.2.1.2]]) := by
  rw [Tryd.params9]
  exact OpensA.cons (OpensV.one (Opens.int Tryd.underlying32) (cells_int Tryd.underlying32)) (OpensA.cons (OpensV.one (Opens.str Tryd.underlying9) (cells_str Tryd.underlying9)) (OpensA.cons (OpensV.agg opens42 (agg_array Tryd.underlying42)) (OpensA.nil)))

set_option maxRecDepth 100000 in
theorem contract (H : Type) (enc : TypeId × Value → H) (W : World) (base : Nat) (args : Array Value) (ds gs : List (DataW H)) (before : List MemPlace)
    (hval : ∀ (j : Nat) t v, Tryd.f9.params[j]? = some t → args[j]? = some v → Value.okWide Tryd.prog W .any base t v)
    (hW : DataW.Whole enc Tryd.prog Tryd.f9.params.toList Rows.threadStableSpec.vars false W args.toList ds gs before)
    (hc : Rows.uptoSmall H (ds ++ gs) = true)
    (hL : laidMetH Tryd.prog Rows.threadStableUptoRow.laid W) :
    Calls Tryd.prog 9 args W fun e W' => ∃ v, e = .returned v ∧ Rows.threadStableSpec.post enc Tryd.prog Tryd.f9 false true false false W args v W' := by
  have hA0 : ∃ p, DataW.TrodAll enc Tryd.prog W 0 (fun _ => true) true Tryd.f9.params.toList args.toList ds p := by
    obtain ⟨p, q, hA, _⟩ := hW
    exact ⟨p, hA⟩
  obtain ⟨p, hA⟩ := hA0
  rw [Tryd.params9] at hA
  exact law_postG laidOut (by kernel_rfl) (tb := 4) (by kernel_rfl) Tryd.underlying4 rfl (by
    intro H ds h
    rw [Tryd.params9] at h
    match ds, h with
    | [d0, d1, d2], _ => rfl) opens rfl (fun k hk => stable_law hk (str_upto hA hc 1 k.2.1 rfl (allP_str hk 1 _ rfl))) (tab_laid hL) hval hW

theorem laid_met (os : Os) : laidMet Tryd.prog Rows.threadStableUptoRow.laid ((World.laidAll Tryd.prog os Rows.threadStableUptoRow.laid).forCall (fun _ _ => 0) ⟨#[], #[.int .u64 0, .string ⟨#[]⟩, .agg #[.int .u16 0, .int .u16 0]], []⟩).memory :=
  laidMet_laidAll _ (by kernel_rfl) (by kernel_rfl)
theorem reads (os : Os) {H : Type} (enc : TypeId × Value → H) : ∃ places, DataW.whole enc Tryd.prog ((World.laidAll Tryd.prog os Rows.threadStableUptoRow.laid).forCall (fun _ _ => 0) ⟨#[], #[.int .u64 0, .string ⟨#[]⟩, .agg #[.int .u16 0, .int .u16 0]], []⟩).memory Tryd.f9.params.toList Rows.threadStableSpec.vars false (#[.int .u64 0, .string ⟨#[]⟩, .agg #[.int .u16 0, .int .u16 0]] : Array Value).toList 8 = some ([.lit (.int .u64 0), .lit (.string []), .agg [.lit (.int .u16 0), .lit (.int .u16 0)]], [], places) :=
  ⟨[], by kernel_rfl⟩

set_option maxRecDepth 100000 in
theorem lifted (os : Os) (started : os.Started) (H : Type) (enc : TypeId × Value → H) (F : Stop.Interp) :
    ReturnsInHanded {} Tryd.checked os 9 .any ((Rows.OpenSpec.upto Rows.threadStableSpec).preRow enc Tryd.prog Tryd.f9 Rows.threadStableUptoRow.domain false Rows.threadStableUptoRow.laid) (((Rows.OpenSpec.upto Rows.threadStableSpec).at F).post enc Tryd.prog Tryd.f9 false true false false) := by
  obtain ⟨places, hx⟩ := reads os enc
  refine returnsInHanded_of_row (C := Tryd.checked) (s := Rows.OpenSpec.upto Rows.threadStableSpec) own started (by kernel_rfl) Tryd.func9
    (witness_row_at (enc := enc) (C := Tryd.checked) false (World.laidAll Tryd.prog os Rows.threadStableUptoRow.laid) #[.int .u64 0, .string ⟨#[]⟩, .agg #[.int .u16 0, .int .u16 0]] (World.laidAll_os _ _ _) (by kernel_rfl) (by kernel_rfl) (by kernel_rfl)
      (OpenSpec.preRow_of_cond 8 hx (by kernel_rfl) (fun k hk => by cases hk; kernel_rfl) (by kernel_rfl) (by rw [MakeChecks.laidMetH_plain _ _ _ (by kernel_rfl)]; exact laid_met os))) ?_
  intro W base args ds gs before hval hW _ hcond _ hL _ _
  exact contract H enc W base args ds gs before hval hW (hcond _ rfl) hL

theorem over : Rows.threadStableUptoRow.holds Tryd.pinned (Rows.OpenSpec.upto Rows.threadStableSpec) :=
  OpenClaim.holds_of_cond 9 Tryd.f9 rfl rfl rfl rfl rfl rfl rfl ⟨rfl, rfl, rfl, rfl, rfl⟩ rfl rfl rfl rfl rfl (by kernel_rfl) Tryd.func9 (by kernel_rfl)
    (of_decide_eq_true (by kernel_rfl)) (by unfold Func.isWrapper; first | (rw [if_pos (by decide +kernel)]; kernel_rfl) | (rw [if_neg (by decide +kernel)]; exact ⟨rfl, rfl⟩))
    (fun os started H enc _ F => by rw [OpenClaim.pre_eq_preRow]; exact lifted os started H enc F)

theorem proved : Rows.ThreadStableUptoCardSaid :=
  Claim7.holds_tied_plain_at .later [] _ _ _ _ over (fun _ h => by cases h) (by kernel_rfl) (fun _ h => by cases h) threadStableUpto_row_tie rfl ⟨rfl, rfl⟩ (by kernel_rfl) rfl
    (fun f fn hf hfn => by
      obtain rfl : f = 9 := Option.some.inj ((show Tryd.prog.funcNamed "testbench/testbenchlaw27.ThreadStable" = some 9 by kernel_rfl).symm.trans hf) |>.symm
      obtain rfl : fn = Tryd.f9 := (Option.some.inj (Tryd.func9.symm.trans hfn)).symm
      exact ⟨by kernel_rfl, fun j t ht => by
        rw [Tryd.params9] at ht
        have hm : t ∈ [32, 9, 42] := by simpa using Array.mem_of_getElem? ht
        have hall : ([32, 9, 42].all fun u => !Tryd.prog.wantsStandIn u) = true := by kernel_rfl
        exact (show Tryd.prog.wantsStandIn t = false by simpa using List.all_eq_true.1 hall t hm)⟩)
    (by kernel_rfl)
end Go.Proofs.YteannfdcbblooaaDoor.threadStableTop
