import Derived.Test.YtcpkjpkjahgobaaCtW11
set_option linter.unusedSimpArgs false
set_option maxRecDepth 8000
set_option linter.unusedVariables false
namespace Go.Proofs.Ytcpkjpkjahgobaa
open Go.Sim
theorem wcb_ok (l : List Node) (ones : List Int) (ho : OnesP ones) (n : Node) (lo hi : Nat) (h : okW l ones n lo hi) : CallT Try.prog 38 [Rp.agg (eN n), rM lo, rM hi, Rp.at (wghR l ones), Rp.at [Rp.slice eI ones]] [] (.one (rM (wcb l ones n lo hi))) := by
  refine W.enter (fn := Try.f38) (n := 43) Try.func38 rfl Try.ntmps38 rfl (fun w₀ C₀ => ?_)
  simp only [argS]
  obtain ⟨k, hF, hk1, rfl⟩ := h
  obtain ⟨e1, e2, e3, e4, e5⟩ := hF.lvl_node hk1
  have k1 := (hF.lo hk1).lvl0; have k2 := (hF.hi hk1).lvl0; have n20 := hF.n20
  refine W.seq ?_
  refine W.region ?_
  refine L.box rfl rfl (GSpec.plain rfl (spec_box rfl (GetC.agg (Get.tmp rfl)))) (fun r5 => ?_)
  refine L.box rfl rfl (GSpec.plain rfl (spec_box rfl (GetC.agg (Get.tmp rfl)))) (fun r6 => ?_)
  refine L.box rfl rfl (GSpec.plain rfl (spec_box rfl (GetC.agg (Get.tmp rfl)))) (fun r7 => ?_)
  refine L.box rfl rfl (GSpec.plain rfl (spec_alloc rfl ti65 z65)) (fun r8 => ?_)
  refine L.nil ?_
  refine N.thenW ?_
  refine W.seq ?_
  apply W.any 12 mixed (by kernel_rfl)
  · apply Head.one rfl rfl (GSpec.plain rfl (spec_loadW (k := 2) rfl Try.isAgg65 Try.sizeOf65 (Get.tmp rfl) rfl rfl))
    apply Head.one rfl rfl (GSpec.plain rfl (spec_loadPA rfl Try.isAgg63 Try.sizeOf63 (Get.tmp rfl) rfl))
    apply Head.one rfl rfl (GSpec.plain rfl (spec_fieldAddr (f := 0) (off' := 0) rfl Try.underlying50 rfl Try.sizeOf3 (Get.tmp rfl) rfl))
    apply Head.one rfl rfl (GSpec.plain rfl (spec_load1 (k := 3) rfl Try.isAgg3 (Get.tmp rfl) rfl rfl))
    first | apply Head.one rfl rfl (GSpec.plain rfl (fit_i64 (by omega) (by omega) (spec_add rfl (Get.tmp rfl) (Get.cint rfl)))) | apply Head.one rfl rfl (GSpec.plain rfl (spec_add rfl (Get.tmp rfl) (Get.cint rfl)))
    apply Head.one rfl rfl (GSpec.plain rfl (spec_fieldAddrP (f := 0) rfl Try.underlying63 rfl Try.sizeOf54 (Get.tmp rfl) rfl rfl))
    apply Head.one rfl rfl (GSpec.plain rfl (spec_loadPA rfl Try.isAgg54 Try.sizeOf54 (Get.tmp rfl) rfl))
    apply Head.one rfl rfl (GSpec.plain rfl (spec_fieldAddr (f := 1) (off' := 1) rfl Try.underlying50 rfl Try.sizeOf3 (Get.tmp rfl) rfl))
    apply Head.one rfl rfl (GSpec.plain rfl (spec_load1 (k := 3) rfl Try.isAgg3 (Get.tmp rfl) rfl rfl))
    apply Head.one rfl rfl (GSpec.plain rfl (spec_call rfl Try.call41 (level_ok _ _ _ (hF.lo hk1).ok) (.cons (Get.tmp rfl) (.cons (Get.tmp rfl) .nil))))
    apply Head.one rfl rfl (GSpec.plain rfl (spec_call rfl Try.call40 (skipped_ok l ones _ _ ho (by omega) k1.2) (.cons (Get.tmp rfl) (.cons (Get.tmp rfl) (.cons (Get.tmp rfl) .nil)))))
    apply Head.one rfl rfl (GSpec.plain rfl (spec_call rfl Try.call39 (times_ok _ _) (.cons (Get.tmp rfl) (.cons (Get.tmp rfl) .nil))))
    exact Head.nil
  refine Fin.one ?_
  refine Fin.one ?_
  refine Fin.one ?_
  refine Fin.one ?_
  refine Fin.one ?_
  refine Fin.one ?_
  refine Fin.one ?_
  refine Fin.one ?_
  refine Fin.one ?_
  refine Fin.one ?_
  refine Fin.one ?_
  refine Fin.one ?_
  refine Fin.nil ?_
  refine L.storeW (k := 2) rfl rfl rfl Try.sizeOf65 (Get.tmp rfl) (Get.tmp rfl) rfl rfl rfl ?_
  refine L.nil ?_
  refine N.thenW ?_
  refine W.keep (.cons (t := 3) rfl (.cons (t := 4) rfl (.cons (t := 5) rfl (.cons (t := 6) rfl (.cons (t := 7) rfl (.cons (t := 8) rfl .nil)))))) .refl ?_
  refine W.seq ?_
  apply W.any 19 mixed (by kernel_rfl)
  · apply Head.one rfl rfl (GSpec.plain rfl (spec_loadW (k := 1) rfl Try.isAgg65 Try.sizeOf65 (Get.tmp rfl) rfl rfl))
    apply Head.one rfl rfl (GSpec.plain rfl (spec_loadPA rfl Try.isAgg63 Try.sizeOf63 (Get.tmp rfl) rfl))
    apply Head.one rfl rfl (GSpec.plain rfl (spec_fieldAddr (f := 0) (off' := 0) rfl Try.underlying50 rfl Try.sizeOf3 (Get.tmp rfl) rfl))
    apply Head.one rfl rfl (GSpec.plain rfl (spec_load1 (k := 3) rfl Try.isAgg3 (Get.tmp rfl) rfl rfl))
    first | apply Head.one rfl rfl (GSpec.plain rfl (fit_i64 (by omega) (by omega) (spec_add rfl (Get.tmp rfl) (Get.cint rfl)))) | apply Head.one rfl rfl (GSpec.plain rfl (spec_add rfl (Get.tmp rfl) (Get.cint rfl)))
    apply Head.one rfl rfl (GSpec.plain rfl (spec_fieldAddrP (f := 0) rfl Try.underlying63 rfl Try.sizeOf54 (Get.tmp rfl) rfl rfl))
    apply Head.one rfl rfl (GSpec.plain rfl (spec_loadPA rfl Try.isAgg54 Try.sizeOf54 (Get.tmp rfl) rfl))
    apply Head.one rfl rfl (GSpec.plain rfl (spec_fieldAddr (f := 2) (off' := 2) rfl Try.underlying50 rfl Try.sizeOf3 (Get.tmp rfl) rfl))
    apply Head.one rfl rfl (GSpec.plain rfl (spec_load1 (k := 3) rfl Try.isAgg3 (Get.tmp rfl) rfl rfl))
    apply Head.one rfl rfl (GSpec.plain rfl (spec_call rfl Try.call41 (level_ok _ _ _ (hF.hi hk1).ok) (.cons (Get.tmp rfl) (.cons (Get.tmp rfl) .nil))))
    apply Head.one rfl rfl (GSpec.plain rfl (spec_call rfl Try.call40 (skipped_ok l ones _ _ ho (by omega) k2.2) (.cons (Get.tmp rfl) (.cons (Get.tmp rfl) (.cons (Get.tmp rfl) .nil)))))
    apply Head.one rfl rfl (GSpec.plain rfl (spec_call rfl Try.call39 (times_ok _ _) (.cons (Get.tmp rfl) (.cons (Get.tmp rfl) .nil))))
    apply Head.one rfl rfl (GSpec.plain rfl (spec_loadP1 rfl Try.isAgg39 (Get.tmp rfl)))
    apply Head.one rfl rfl (GSpec.plain rfl (spec_fieldAddr (f := 0) (off' := 0) rfl Try.underlying50 rfl Try.sizeOf3 (Get.tmp rfl) rfl))
    apply Head.one rfl rfl (GSpec.plain rfl (spec_load1 (k := 3) rfl Try.isAgg3 (Get.tmp rfl) rfl rfl))
    apply Head.one rfl rfl (GSpec.plain rfl (spec_indexAddrD (E := eI) rfl Try.underlying39 Try.sizeOf3 (fun _ => rfl) (Get.tmp rfl) (Get.tmp rfl) (by omega)))
    apply Head.one rfl rfl (GSpec.plain rfl (spec_loadP1 rfl Try.isAgg3 (Get.tmp rfl)))
    apply Head.one rfl rfl (GSpec.plain rfl (spec_build (Rs := [_, Rp.bool false]) rfl ti65 z65 Try.underlying65 pl65 (.cons (GetC.one (Get.tmp rfl)) rfl rfl rfl .nil)))
    apply Head.one rfl rfl (GSpec.plain rfl (spec_call rfl Try.call39 (times_ok _ (one ones (nd l k).level)) (.cons (Get.tmp rfl) (.cons (Get.weak (Get.tmp rfl) (amt_w (ho _ (by omega)))) .nil))))
    exact Head.nil
  refine Fin.one ?_
  refine Fin.one ?_
  refine Fin.one ?_
  refine Fin.one ?_
  refine Fin.one ?_
  refine Fin.one ?_
  refine Fin.one ?_
  refine Fin.one ?_
  refine Fin.one ?_
  refine Fin.one ?_
  refine Fin.one ?_
  refine Fin.one ?_
  refine Fin.one ?_
  refine Fin.one ?_
  refine Fin.one ?_
  refine Fin.one ?_
  refine Fin.one ?_
  refine Fin.one ?_
  refine Fin.one ?_
  refine Fin.nil ?_
  refine L.storeW (k := 1) rfl rfl rfl Try.sizeOf65 (Get.tmp rfl) (Get.tmp rfl) rfl rfl rfl ?_
  refine L.nil ?_
  refine N.thenW ?_
  refine W.keep (.cons (t := 6) rfl (.cons (t := 7) rfl (.cons (t := 8) rfl .nil))) .refl ?_
  refine W.seq ?_
  refine W.region ?_
  refine L.op1 rfl rfl (GSpec.plain rfl (spec_loadW (k := 2) rfl Try.isAgg65 Try.sizeOf65 (Get.tmp rfl) rfl rfl)) ?_
  refine L.op1 rfl rfl (GSpec.plain rfl (spec_loadW (k := 1) rfl Try.isAgg65 Try.sizeOf65 (Get.tmp rfl) rfl rfl)) ?_
  refine L.op1 rfl rfl (GSpec.plain rfl (spec_call rfl Try.call42 (plus_ok _ _) (.cons (Get.tmp rfl) (.cons (Get.tmp rfl) .nil)))) ?_
  refine L.storeW (k := 0) rfl rfl rfl Try.sizeOf65 (Get.tmp rfl) (Get.tmp rfl) rfl rfl rfl ?_
  refine L.nil ?_
  refine N.thenW ?_
  refine W.ret ?_
  refine N.ret () rfl (.cellA (k := 0) (Get.tmp (t := 8) rfl) rfl Try.isAgg65 Try.sizeOf65 rfl .nil) (res1 (eqA ?_)) .nil (fun _ _ h => h)
  rfl

theorem Weigh_ok (l : List Node) (f : Int) (ones : List Int) : CallT Try.prog 20 [Rp.agg (dagR l), Rp.int .i64 f, Rp.slice eI ones] [] (.one (outI (weighD l f ones))) := by
  refine W.enter (fn := Try.f20) (n := 52) Try.func20 rfl Try.ntmps20 rfl (fun w₀ C₀ => ?_)
  simp only [argS]
  refine W.fact 0 rfl dag_fact fun hl => ?_
  refine W.fact 2 rfl slice_fact fun hol => ?_
  refine W.fact 2 rfl ints_fact fun hin => ?_
  refine W.seq ?_
  refine W.region ?_
  refine L.box rfl rfl (GSpec.plain rfl (spec_box rfl (GetC.agg (Get.tmp rfl)))) (fun r3 => ?_)
  refine L.box rfl rfl (GSpec.plain rfl (spec_box rfl (GetC.one (Get.tmp rfl)))) (fun r5 => ?_)
  refine L.op1 rfl rfl (GSpec.plain rfl (spec_assign rfl (Get.cint rfl))) ?_
  refine L.op1 rfl rfl (GSpec.plain rfl (spec_assign rfl (Get.cint rfl))) ?_
  refine L.nil ?_
  refine N.thenW ?_
  refine W.seq ?_
  refine W.seq ?_
  refine W.region ?_
  refine L.op1 rfl rfl (GSpec.plain rfl (spec_loadW (k := 1) rfl Try.isAgg24 Try.sizeOf24 (Get.tmp rfl) rfl rfl)) ?_
  refine L.op1 rfl rfl (GSpec.plain rfl (spec_move rfl (Get.tmp rfl))) ?_
  refine L.op1 rfl rfl (GSpec.plain rfl (spec_load1 (k := 0) rfl Try.isAgg39 (Get.tmp rfl) rfl rfl)) ?_
  refine L.op1 rfl rfl (GSpec.plain rfl (spec_len rfl Try.underlying39 (Get.tmp rfl))) ?_
  refine L.op1 rfl rfl (GSpec.plain rfl (spec_call rfl Try.call28 (fits_ok _ _ _) (.cons (Get.tmp rfl) (.cons (Get.tmp rfl) (.cons (Get.tmp rfl) .nil))))) ?_
  refine L.op1 rfl rfl (GSpec.plain rfl (spec_not rfl (Get.tmp rfl))) ?_
  refine L.nil ?_
  refine N.thenW ?_
  refine W.keep (.cons (t := 1) rfl (.cons (t := 3) rfl (.cons (t := 5) rfl (.cons (t := 6) rfl (.cons (t := 7) rfl (.cons (t := 17) rfl .nil)))))) .refl ?_
  refine W.cond (Get.tmp rfl) (fun h1 => ?_) (fun h1 => ?_)
  · have ph1 := h1; try simp only [decide_eq_true_eq, decide_eq_false_iff_not, Bool.and_eq_true, Bool.or_eq_true, Bool.and_eq_false_iff, Bool.or_eq_false_iff, Bool.not_eq_true', Bool.not_eq_false', Bool.not_true, Bool.not_false, Int.not_lt, Int.not_le] at ph1
    refine W.seq ?_
    refine W.region ?_
    refine L.op1 rfl rfl (GSpec.plain rfl (spec_assign rfl (Get.cint rfl))) ?_
    refine L.op1 rfl rfl (GSpec.plain rfl (spec_assign rfl (Get.cint rfl))) ?_
    refine L.nil ?_
    refine N.thenW ?_
    refine W.ret ?_
    refine N.ret () rfl (.tmp (t := 6) (Get.tmp rfl) (.tmp (t := 7) (Get.tmp rfl) .nil)) (res2w (eqI ?_) (eqI ?_)) .nil (fun _ _ h => h)
    unfold weighD; rw [if_neg (by simpa using h1)]
    unfold weighD; rw [if_neg (by simpa using h1)]
  · have hF := fits_iff.1 (by simpa using h1)
    have hF1 := hF.ok; unfold okNode at hF1
    refine W.skip ?_
    refine N.thenW ?_
    refine W.seq ?_
    refine W.seq ?_
    refine W.region ?_
    refine L.op1 rfl rfl (GSpec.plain rfl (spec_load1 (k := 0) rfl Try.isAgg39 (Get.tmp rfl) rfl rfl)) ?_
    refine L.op1 rfl rfl (GSpec.plain rfl (spec_len rfl Try.underlying39 (Get.tmp rfl))) ?_
    refine L.op1 rfl rfl (GSpec.plain rfl (spec_move rfl (Get.cint rfl))) ?_
    refine L.nil ?_
    refine N.thenW ?_
    refine W.block ?_
    -- assigned in the loop, not kept: [6, 7]
    refine W.loopK (σ := Nat) (.cons (t := 1) rfl (.cons (t := 3) rfl (.cons (t := 5) rfl (.cons (t := 18) rfl (.cons (t := 19) rfl .nil))))) (fun z => [(20, Rp.int .i64 (z : Nat))]) (fun z => []) (fun z => z ≤ ones.length ∧ ∀ j : Nat, j < z → ¬ ones.getD j default < 0) (fun z => ones.length - z) 0 ⟨Nat.zero_le _, fun j hj => by omega⟩ (.cons (t := 20) rfl .nil) (.cons 0 rfl (.cons 0 rfl .nil)) ?_
    intro i hI S' M' hS hM
    obtain ⟨hI1, hI2⟩ := hI
    try dsimp only at hS hM
    simp only [List.cons_append, List.nil_append] at hS hM
    subst hS hM
    try dsimp only
    refine W.seq ?_
    refine W.region ?_
    refine L.op1 rfl rfl (GSpec.plain rfl (spec_lss rfl (Get.tmp rfl) (Get.tmp rfl))) ?_
    refine L.nil ?_
    refine N.thenW ?_
    refine W.seq ?_
    refine W.cond (Get.tmp rfl) (fun h2 => ?_) (fun h2 => ?_)
    · have ph2 := h2; try simp only [decide_eq_true_eq, decide_eq_false_iff_not, Bool.and_eq_true, Bool.or_eq_true, Bool.and_eq_false_iff, Bool.or_eq_false_iff, Bool.not_eq_true', Bool.not_eq_false', Bool.not_true, Bool.not_false, Int.not_lt, Int.not_le] at ph2
      refine W.skip ?_
      refine N.thenW ?_
      refine W.seq ?_
      refine W.block ?_
      refine W.seq ?_
      refine W.region ?_
      refine L.op1 rfl rfl (GSpec.plain rfl (spec_indexAddrD (E := eI) rfl Try.underlying39 Try.sizeOf3 (fun _ => rfl) (Get.tmp rfl) (Get.tmp rfl) (by omega))) ?_
      refine L.op1 rfl rfl (GSpec.plain rfl (spec_loadP1 rfl Try.isAgg3 (Get.tmp rfl))) ?_
      refine L.op1 rfl rfl (GSpec.plain rfl (spec_assign rfl (Get.tmp rfl))) ?_
      refine L.nil ?_
      refine N.thenW ?_
      refine W.seq ?_
      refine W.region ?_
      refine L.op1 rfl rfl (GSpec.plain rfl (spec_move rfl (Get.tmp rfl))) ?_
      refine L.op1 rfl rfl (GSpec.plain rfl (spec_lss rfl (Get.tmp rfl) (Get.cint rfl))) ?_
      refine L.nil ?_
      refine N.thenW ?_
      refine W.cond (Get.tmp rfl) (fun h3 => ?_) (fun h3 => ?_)
      · have ph3 := h3; try simp only [decide_eq_true_eq, decide_eq_false_iff_not, Bool.and_eq_true, Bool.or_eq_true, Bool.and_eq_false_iff, Bool.or_eq_false_iff, Bool.not_eq_true', Bool.not_eq_false', Bool.not_true, Bool.not_false, Int.not_lt, Int.not_le] at ph3
        refine W.seq ?_
        refine W.region ?_
        refine L.op1 rfl rfl (GSpec.plain rfl (spec_assign rfl (Get.cint rfl))) ?_
        refine L.op1 rfl rfl (GSpec.plain rfl (spec_assign rfl (Get.cint rfl))) ?_
        refine L.nil ?_
        refine N.thenW ?_
        refine W.ret ?_
        refine N.ret () rfl (.tmp (t := 6) (Get.tmp rfl) (.tmp (t := 7) (Get.tmp rfl) .nil)) (res2w (eqI ?_) (eqI ?_)) .nil (fun _ _ h => h)
        unfold weighD; rw [if_pos (fits_iff.2 hF), if_pos (neg_yes (i := i) (by simp only [decide_eq_true_eq] at h2; omega) (of_decide_eq_true h3))]
        unfold weighD; rw [if_pos (fits_iff.2 hF), if_pos (neg_yes (i := i) (by simp only [decide_eq_true_eq] at h2; omega) (of_decide_eq_true h3))]
      · have ph3 := h3; try simp only [decide_eq_true_eq, decide_eq_false_iff_not, Bool.and_eq_true, Bool.or_eq_true, Bool.and_eq_false_iff, Bool.or_eq_false_iff, Bool.not_eq_true', Bool.not_eq_false', Bool.not_true, Bool.not_false, Int.not_lt, Int.not_le] at ph3
        refine W.skip ?_
        refine N.blockNormal ?_
        refine N.thenW ?_
        refine W.region ?_
        first | refine L.op1 rfl rfl (GSpec.plain rfl (fit_i64 (by omega) (by omega) (spec_add rfl (Get.tmp rfl) (Get.cint rfl)))) ?_ | refine L.op1 rfl rfl (GSpec.plain rfl (spec_add rfl (Get.tmp rfl) (Get.cint rfl))) ?_
        refine L.op1 rfl rfl (GSpec.plain rfl (spec_move rfl (Get.tmp rfl))) ?_
        refine L.nil ?_
        refine N.roundK (i + 1) ?hI1 ?hmu1 ?hs1 ?hk1 ?hp1
        case hs1 => exact (.cons (t := 20) rfl .nil)
        case hk1 => exact (.cons (t := 1) rfl (.cons (t := 3) rfl (.cons (t := 5) rfl (.cons (t := 18) rfl (.cons (t := 19) rfl .nil)))))
        case hp1 => exact (.cons 0 rfl (.cons 0 rfl .nil))
        case hI1 => exact ⟨by omega, upto hI2 (of_decide_eq_false h3)⟩
        case hmu1 => omega
    · have ph2 := h2; try simp only [decide_eq_true_eq, decide_eq_false_iff_not, Bool.and_eq_true, Bool.or_eq_true, Bool.and_eq_false_iff, Bool.or_eq_false_iff, Bool.not_eq_true', Bool.not_eq_false', Bool.not_true, Bool.not_false, Int.not_lt, Int.not_le] at ph2
      refine W.exit ?_
      refine N.thenExit ?_
      refine N.thenExit ?_
      refine N.blockExit ?_
      refine N.thenW ?_
      have hneg := neg_no (fun j hj => hI2 j (by simp only [decide_eq_false_iff_not] at h2; omega))
      have ho : OnesP ones := ones_p hin (fun j hj => hI2 j (by simp only [decide_eq_false_iff_not] at h2; omega))
      refine W.seq ?_
      refine W.region ?_
      refine L.op1 rfl rfl (GSpec.plain rfl (spec_loadW (k := 1) rfl Try.isAgg24 Try.sizeOf24 (Get.tmp rfl) rfl rfl)) ?_
      refine L.op1 rfl rfl (GSpec.plain rfl (spec_load1 (k := 0) rfl Try.isAgg39 (Get.tmp rfl) rfl rfl)) ?_
      refine L.op1 rfl rfl (GSpec.plain rfl (spec_len rfl Try.underlying39 (Get.tmp rfl))) ?_
      refine L.op1 rfl rfl (GSpec.plain rfl (spec_build (Rs := [_, _]) rfl ti54 z54 Try.underlying54 pl54 (.cons (GetC.agg (Get.tmp rfl)) rfl rfl rfl (.cons (GetC.one (Get.tmp rfl)) rfl rfl rfl .nil)))) ?_
      refine L.op1 rfl rfl (GSpec.plain rfl (spec_load1 (k := 0) rfl Try.isAgg39 (Get.tmp rfl) rfl rfl)) ?_
      refine L.op1 rfl rfl (GSpec.plain rfl (spec_build (Rs := [_, _, _]) rfl ti63 z63 Try.underlying63 pl63 (.cons (GetC.agg (Get.tmp rfl)) rfl rfl rfl (.cons (GetC.one (Get.tmp rfl)) rfl rfl rfl .nil)))) ?_
      refine L.box rfl rfl (GSpec.plain rfl (spec_alloc rfl ti63 z63)) (fun r10 => ?_)
      refine L.storeW (k := 0) rfl rfl rfl Try.sizeOf63 (Get.tmp rfl) (Get.tmp rfl) rfl rfl rfl ?_
      refine L.nil ?_
      refine N.thenW ?_
      refine W.keep (.cons (t := 1) rfl (.cons (t := 3) rfl (.cons (t := 5) rfl (.cons (t := 10) rfl .nil)))) .refl ?_
      refine W.seq ?_
      refine W.region ?_
      refine L.op1 rfl rfl (GSpec.plain rfl (spec_loadW (k := 2) rfl Try.isAgg24 Try.sizeOf24 (Get.tmp rfl) rfl rfl)) ?_
      refine L.op1 rfl rfl (GSpec.plain rfl (spec_move rfl (Get.tmp rfl))) ?_
      refine L.op1 rfl rfl (GSpec.plain rfl (spec_build (Rs := [Rp.int .i64 0, Rp.bool false]) rfl ti65 z65 Try.underlying65 pl65 .nil)) ?_
      refine L.op1 rfl rfl (GSpec.plain rfl (spec_build (Rs := [_, Rp.bool false]) rfl ti65 z65 Try.underlying65 pl65 (.cons (GetC.one (Get.cint rfl)) rfl rfl rfl .nil))) ?_
      refine L.op1 rfl rfl (GSpec.plain rfl (spec_buildArr (Rs := [_, _, _, _]) rfl ti67 z67 Try.underlying67 Try.sizeOf65 (.cons (GetC.agg (Get.tmp rfl)) rfl rfl rfl (.cons (GetC.agg (Get.tmp rfl)) rfl rfl rfl .nil)))) ?_
      refine L.pubB 10 0 rfl rfl ?_
      refine L.pubB 5 0 rfl rfl ?_
      refine L.op1 rfl rfl (GSpec.plain rfl (spec_makeFunc rfl (.cons (Get.tmp rfl) (.cons (Get.tmp rfl) .nil)))) ?_
      refine L.op1 rfl rfl (GSpec.plain rfl (spec_call rfl Try.call37 (foldM_ok l hF.good f hF.ok (wcb l ones) (okW l ones) 0 1 (fun k hk hk1 => ⟨k, hF.reach hk, hk1, rfl⟩)) (.cons (Get.tmp rfl) (.cons (Get.tmp rfl) (.cons (Get.tmp rfl) (.cons (Get.weak (Get.tmp rfl) (fn_of_clo Try.call38 (fun i => wcb_ok l ones ho i.1.1 i.1.2.1 i.1.2.2 i.2))) .nil)))))) ?_
      refine L.box rfl rfl (GSpec.plain rfl (spec_alloc rfl ti65 z65)) (fun r11 => ?_)
      refine L.storeW (k := 0) rfl rfl rfl Try.sizeOf65 (Get.tmp rfl) (Get.tmp rfl) rfl rfl rfl ?_
      refine L.nil ?_
      refine N.thenW ?_
      refine W.keep (.cons (t := 1) rfl (.cons (t := 10) rfl (.cons (t := 11) rfl .nil))) .refl ?_
      refine W.seq ?_
      apply W.any 8 mixed (by kernel_rfl)
      · apply Head.one rfl rfl (GSpec.plain rfl (spec_loadW (k := 0) rfl Try.isAgg65 Try.sizeOf65 (Get.tmp rfl) rfl rfl))
        apply Head.one rfl rfl (GSpec.plain rfl (spec_loadPA rfl Try.isAgg63 Try.sizeOf63 (Get.tmp rfl) rfl))
        apply Head.one rfl rfl (GSpec.plain rfl (spec_fieldAddrP (f := 0) rfl Try.underlying63 rfl Try.sizeOf54 (Get.tmp rfl) rfl rfl))
        apply Head.one rfl rfl (GSpec.plain rfl (spec_loadPA rfl Try.isAgg54 Try.sizeOf54 (Get.tmp rfl) rfl))
        apply Head.one rfl rfl (GSpec.plain rfl (spec_move rfl (Get.tmp rfl)))
        apply Head.one rfl rfl (GSpec.plain rfl (spec_call rfl Try.call41 (level_ok _ _ _ hF.ok) (.cons (Get.tmp rfl) (.cons (Get.tmp rfl) .nil))))
        apply Head.one rfl rfl (GSpec.plain rfl (spec_call rfl Try.call40 (skipped_ok l ones 0 _ ho (by decide) hF.lvl0.2) (.cons (Get.tmp rfl) (.cons (Get.cint rfl) (.cons (Get.tmp rfl) .nil)))))
        apply Head.one rfl rfl (GSpec.plain rfl (spec_call rfl Try.call39 (times_ok _ _) (.cons (Get.tmp rfl) (.cons (Get.tmp rfl) .nil))))
        exact Head.nil
      refine Fin.one ?_
      refine Fin.one ?_
      refine Fin.one ?_
      refine Fin.one ?_
      refine Fin.one ?_
      refine Fin.one ?_
      refine Fin.one ?_
      refine Fin.one ?_
      refine Fin.nil ?_
      refine L.storeW (k := 0) rfl rfl rfl Try.sizeOf65 (Get.tmp rfl) (Get.tmp rfl) rfl rfl rfl ?_
      refine L.nil ?_
      refine N.thenW ?_
      refine W.keep (.cons (t := 11) rfl .nil) .refl ?_
      refine W.seq ?_
      refine W.seq ?_
      refine W.region ?_
      refine L.op1 rfl rfl (GSpec.plain rfl (spec_fieldAddr (f := 1) (off' := 1) rfl Try.underlying65 rfl Try.sizeOf4 (Get.tmp rfl) rfl)) ?_
      refine L.op1 rfl rfl (GSpec.plain rfl (spec_load1 (k := 0) rfl Try.isAgg4 (Get.tmp rfl) rfl rfl)) ?_
      refine L.nil ?_
      refine N.thenW ?_
      refine W.cond (Get.tmp rfl) (fun h4 => ?_) (fun h4 => ?_)
      · have ph4 := h4; try simp only [decide_eq_true_eq, decide_eq_false_iff_not, Bool.and_eq_true, Bool.or_eq_true, Bool.and_eq_false_iff, Bool.or_eq_false_iff, Bool.not_eq_true', Bool.not_eq_false', Bool.not_true, Bool.not_false, Int.not_lt, Int.not_le] at ph4
        refine W.seq ?_
        refine W.region ?_
        refine L.op1 rfl rfl (GSpec.plain rfl (spec_assign rfl (Get.cint rfl))) ?_
        refine L.op1 rfl rfl (GSpec.plain rfl (spec_assign rfl (Get.cint rfl))) ?_
        refine L.nil ?_
        refine N.thenW ?_
        refine W.ret ?_
        refine N.ret () rfl (.tmp (t := 6) (Get.tmp rfl) (.tmp (t := 7) (Get.tmp rfl) .nil)) (res2w (eqI ?_) (eqI ?_)) .nil (fun _ _ h => h)
        unfold weighD; rw [if_pos (fits_iff.2 hF), if_neg (by rw [hneg]; decide), if_pos (show (amt (wfrom l ones f 0)).large = true from h4)]
        unfold weighD; rw [if_pos (fits_iff.2 hF), if_neg (by rw [hneg]; decide), if_pos (show (amt (wfrom l ones f 0)).large = true from h4)]
      · have ph4 := h4; try simp only [decide_eq_true_eq, decide_eq_false_iff_not, Bool.and_eq_true, Bool.or_eq_true, Bool.and_eq_false_iff, Bool.or_eq_false_iff, Bool.not_eq_true', Bool.not_eq_false', Bool.not_true, Bool.not_false, Int.not_lt, Int.not_le] at ph4
        refine W.skip ?_
        refine N.thenW ?_
        refine W.seq ?_
        refine W.region ?_
        refine L.op1 rfl rfl (GSpec.plain rfl (spec_fieldAddr (f := 0) (off' := 0) rfl Try.underlying65 rfl Try.sizeOf3 (Get.tmp rfl) rfl)) ?_
        refine L.op1 rfl rfl (GSpec.plain rfl (spec_load1 (k := 0) rfl Try.isAgg3 (Get.tmp rfl) rfl rfl)) ?_
        refine L.op1 rfl rfl (GSpec.plain rfl (spec_assign rfl (Get.tmp rfl))) ?_
        refine L.op1 rfl rfl (GSpec.plain rfl (spec_assign rfl (Get.cint rfl))) ?_
        refine L.nil ?_
        refine N.thenW ?_
        refine W.ret ?_
        refine N.ret () rfl (.tmp (t := 6) (Get.tmp rfl) (.tmp (t := 7) (Get.tmp rfl) .nil)) (res2w (eqI ?_) (eqI ?_)) .nil (fun _ _ h => h)
        show (amt (wfrom l ones f 0)).n = _; unfold weighD; rw [if_pos (fits_iff.2 hF), if_neg (by rw [hneg]; decide), if_neg (fun hh => by rw [show (amt (wfrom l ones f 0)).large = false from h4] at hh; cases hh)]
        unfold weighD; rw [if_pos (fits_iff.2 hF), if_neg (by rw [hneg]; decide), if_neg (fun hh => by rw [show (amt (wfrom l ones f 0)).large = false from h4] at hh; cases hh)]

theorem rweigh_ok  : ∀ (l : List Node) (ones : List Int) (ho : OnesP ones) (j : Nat) (f level : Int) (hj : f.toNat < j) (h : FitP l f ones.length) (h0 : 0 ≤ level) (hl : level ≤ lvl l ones.length f), CallT Try.prog 43 [Rp.agg (dagR l), Rp.int .i64 f, Rp.int .i64 level, Rp.slice eI ones] [] (.one (rM (wfrom l ones f level))) := by
  intro l ones ho j
  refine Nat.strongRecOn j fun j ih => ?_
  intro f level hj h h0 hl
  have hv := h.lvl0; have n20 := h.n20
  have hok := h.ok; unfold okNode at hok
  refine W.enter (fn := Try.f43) (n := 59) Try.func43 rfl Try.ntmps43 rfl (fun w₀ C₀ => ?_)
  simp only [argS]
  refine W.seq ?_
  refine W.region ?_
  refine L.box rfl rfl (GSpec.plain rfl (spec_box rfl (GetC.agg (Get.tmp rfl)))) (fun r4 => ?_)
  refine L.box rfl rfl (GSpec.plain rfl (spec_alloc rfl ti73 z73)) (fun r8 => ?_)
  refine L.nil ?_
  refine N.thenW ?_
  refine W.seq ?_
  refine W.seq ?_
  refine W.region ?_
  refine L.op1 rfl rfl (GSpec.plain rfl (spec_move rfl (Get.tmp rfl))) ?_
  refine L.op1 rfl rfl (GSpec.plain rfl (spec_eql rfl (Get.tmp rfl) (Get.cint rfl))) ?_
  refine L.nil ?_
  refine N.thenW ?_
  refine W.cond (Get.tmp rfl) (fun h1 => ?_) (fun h1 => ?_)
  · have e0 : f = 0 := of_decide_eq_true h1
    subst e0
    refine W.seq ?_
    refine W.region ?_
    refine L.op1 rfl rfl (GSpec.plain rfl (spec_build (Rs := [Rp.int .i64 0, Rp.bool false]) rfl ti73 z73 Try.underlying73 pl73 .nil)) ?_
    refine L.storeW (k := 0) rfl rfl rfl Try.sizeOf73 (Get.tmp rfl) (Get.tmp rfl) rfl rfl rfl ?_
    refine L.nil ?_
    refine N.thenW ?_
    refine W.keep (.cons (t := 1) rfl (.cons (t := 2) rfl (.cons (t := 3) rfl (.cons (t := 4) rfl (.cons (t := 8) rfl .nil))))) .refl ?_
    refine W.ret ?_
    refine N.ret () rfl (.cellA (k := 0) (Get.tmp (t := 8) rfl) rfl Try.isAgg73 Try.sizeOf73 rfl .nil) (res1 (eqA ?_)) .nil (fun _ _ h => h)
    rw [wfrom_zero]; rfl
  · have ph1 := h1; try simp only [decide_eq_true_eq, decide_eq_false_iff_not, Bool.and_eq_true, Bool.or_eq_true, Bool.and_eq_false_iff, Bool.or_eq_false_iff, Bool.not_eq_true', Bool.not_eq_false', Bool.not_true, Bool.not_false, Int.not_lt, Int.not_le] at ph1
    refine W.skip ?_
    refine N.thenW ?_
    refine W.keep (.cons (t := 1) rfl (.cons (t := 2) rfl (.cons (t := 3) rfl (.cons (t := 4) rfl (.cons (t := 8) rfl .nil))))) .refl ?_
    refine W.seq ?_
    refine W.seq ?_
    refine W.region ?_
    refine L.op1 rfl rfl (GSpec.plain rfl (spec_move rfl (Get.tmp rfl))) ?_
    refine L.op1 rfl rfl (GSpec.plain rfl (spec_eql rfl (Get.tmp rfl) (Get.cint rfl))) ?_
    refine L.nil ?_
    refine N.thenW ?_
    refine W.cond (Get.tmp rfl) (fun h2 => ?_) (fun h2 => ?_)
    · have e1 : f = 1 := of_decide_eq_true h2
      subst e1
      have e2 := h.lvl_end (by decide)
      refine W.seq ?_
      refine W.region ?_
      refine L.op1 rfl rfl (GSpec.plain rfl (spec_move rfl (Get.tmp rfl))) ?_
      refine L.op1 rfl rfl (GSpec.plain rfl (spec_move rfl (Get.tmp rfl))) ?_
      refine L.op1 rfl rfl (GSpec.plain rfl (spec_move rfl (Get.tmp rfl))) ?_
      refine L.op1 rfl rfl (GSpec.plain rfl (spec_len rfl Try.underlying39 (Get.tmp rfl))) ?_
      refine L.op1 rfl rfl (GSpec.plain rfl (spec_call rfl Try.call58 (free_ok [] ones level ones.length ho h0 (by omega)) (.cons (Get.tmp rfl) (.cons (Get.tmp rfl) (.cons (Get.tmp rfl) .nil))))) ?_
      refine L.storeW (k := 0) rfl rfl rfl Try.sizeOf73 (Get.tmp rfl) (Get.tmp rfl) rfl rfl rfl ?_
      refine L.nil ?_
      refine N.thenW ?_
      refine W.keep (.cons (t := 1) rfl (.cons (t := 2) rfl (.cons (t := 3) rfl (.cons (t := 4) rfl (.cons (t := 8) rfl .nil))))) .refl ?_
      refine W.ret ?_
      refine N.ret () rfl (.cellA (k := 0) (Get.tmp (t := 8) rfl) rfl Try.isAgg73 Try.sizeOf73 rfl .nil) (res1 (eqA ?_)) .nil (fun _ _ h => h)
      rw [wfrom_one h]
    · have hk1 : 1 < f := by simp only [decide_eq_false_iff_not] at h1 h2; omega
      obtain ⟨g1, g2, g3, g4, g5⟩ := h.lvl_node hk1
      have hkd := h.good.lohi h.ok hk1
      have b1 := hkd.1.1; have b2 := hkd.2.1.1
      have eNd : (l.getD f.toNat default).level = (nd l f).level := rfl
      refine W.skip ?_
      refine N.thenW ?_
      refine W.seq ?_
      refine W.region ?_
      refine L.op1 rfl rfl (GSpec.plain rfl (spec_fieldAddr (f := 0) (off' := 0) rfl Try.underlying24 rfl Try.sizeOf22 (Get.tmp rfl) rfl)) ?_
      refine L.op1 rfl rfl (GSpec.plain rfl (spec_load1 (k := 1) rfl Try.isAgg22 (Get.tmp rfl) rfl rfl)) ?_
      refine L.op1 rfl rfl (GSpec.plain rfl (spec_move rfl (Get.tmp rfl))) ?_
      refine L.op1 rfl rfl (GSpec.plain rfl (spec_indexAddrD (E := eN) rfl Try.underlying22 Try.sizeOf50 (fun _ => rfl) (Get.tmp rfl) (Get.tmp rfl) (by omega))) ?_
      refine L.op1 rfl rfl (GSpec.plain rfl (spec_loadPA rfl Try.isAgg50 Try.sizeOf50 (Get.tmp rfl) rfl)) ?_
      refine L.box rfl rfl (GSpec.plain rfl (spec_alloc rfl ti50 z50)) (fun r9 => ?_)
      refine L.storeW (k := 0) rfl rfl rfl Try.sizeOf50 (Get.tmp rfl) (Get.tmp rfl) rfl rfl rfl ?_
      refine L.nil ?_
      refine N.thenW ?_
      refine W.keep (.cons (t := 2) rfl (.cons (t := 3) rfl (.cons (t := 4) rfl (.cons (t := 8) rfl (.cons (t := 9) rfl .nil))))) .refl ?_
      refine W.seq ?_
      refine W.region ?_
      refine L.op1 rfl rfl (GSpec.plain rfl (spec_loadW (k := 2) rfl Try.isAgg24 Try.sizeOf24 (Get.tmp rfl) rfl rfl)) ?_
      refine L.op1 rfl rfl (GSpec.plain rfl (spec_fieldAddr (f := 1) (off' := 1) rfl Try.underlying50 rfl Try.sizeOf3 (Get.tmp rfl) rfl)) ?_
      refine L.op1 rfl rfl (GSpec.plain rfl (spec_load1 (k := 0) rfl Try.isAgg3 (Get.tmp rfl) rfl rfl)) ?_
      refine L.op1 rfl rfl (GSpec.plain rfl (spec_fieldAddr (f := 0) (off' := 0) rfl Try.underlying50 rfl Try.sizeOf3 (Get.tmp rfl) rfl)) ?_
      refine L.op1 rfl rfl (GSpec.plain rfl (spec_load1 (k := 0) rfl Try.isAgg3 (Get.tmp rfl) rfl rfl)) ?_
      first | refine L.op1 rfl rfl (GSpec.plain rfl (fit_i64 (by omega) (by omega) (spec_add rfl (Get.tmp rfl) (Get.cint rfl)))) ?_ | refine L.op1 rfl rfl (GSpec.plain rfl (spec_add rfl (Get.tmp rfl) (Get.cint rfl))) ?_
      refine L.op1 rfl rfl (GSpec.plain rfl (spec_move rfl (Get.tmp rfl))) ?_
      refine L.op1 rfl rfl (GSpec.plain rfl (spec_call rfl Try.call43 (ih f.toNat hj (nd l f).lo ((nd l f).level + 1) (by omega) (h.lo hk1) (by omega) (by omega)) (.cons (Get.tmp rfl) (.cons (Get.tmp rfl) (.cons (Get.tmp rfl) (.cons (Get.tmp rfl) .nil)))))) ?_
      refine L.box rfl rfl (GSpec.plain rfl (spec_alloc rfl ti73 z73)) (fun r10 => ?_)
      refine L.storeW (k := 0) rfl rfl rfl Try.sizeOf73 (Get.tmp rfl) (Get.tmp rfl) rfl rfl rfl ?_
      refine L.nil ?_
      refine N.thenW ?_
      refine W.keep (.cons (t := 2) rfl (.cons (t := 3) rfl (.cons (t := 4) rfl (.cons (t := 8) rfl (.cons (t := 9) rfl (.cons (t := 10) rfl .nil)))))) .refl ?_
      refine W.seq ?_
      apply W.any 16 mixed (by kernel_rfl)
      · apply Head.one rfl rfl (GSpec.plain rfl (spec_move rfl (Get.tmp rfl)))
        apply Head.one rfl rfl (GSpec.plain rfl (spec_fieldAddr (f := 0) (off' := 0) rfl Try.underlying50 rfl Try.sizeOf3 (Get.tmp rfl) rfl))
        apply Head.one rfl rfl (GSpec.plain rfl (spec_load1 (k := 1) rfl Try.isAgg3 (Get.tmp rfl) rfl rfl))
        apply Head.one rfl rfl (GSpec.plain rfl (spec_indexAddrD (E := eI) rfl Try.underlying39 Try.sizeOf3 (fun _ => rfl) (Get.tmp rfl) (Get.tmp rfl) (by omega)))
        apply Head.one rfl rfl (GSpec.plain rfl (spec_loadP1 rfl Try.isAgg3 (Get.tmp rfl)))
        apply Head.one rfl rfl (GSpec.plain rfl (spec_build (Rs := [_, Rp.bool false]) rfl ti73 z73 Try.underlying73 pl73 (.cons (GetC.one (Get.tmp rfl)) rfl rfl rfl .nil)))
        apply Head.one rfl rfl (GSpec.plain rfl (spec_loadW (k := 3) rfl Try.isAgg24 Try.sizeOf24 (Get.tmp rfl) rfl rfl))
        apply Head.one rfl rfl (GSpec.plain rfl (spec_fieldAddr (f := 2) (off' := 2) rfl Try.underlying50 rfl Try.sizeOf3 (Get.tmp rfl) rfl))
        apply Head.one rfl rfl (GSpec.plain rfl (spec_load1 (k := 1) rfl Try.isAgg3 (Get.tmp rfl) rfl rfl))
        apply Head.one rfl rfl (GSpec.plain rfl (spec_fieldAddr (f := 0) (off' := 0) rfl Try.underlying50 rfl Try.sizeOf3 (Get.tmp rfl) rfl))
        apply Head.one rfl rfl (GSpec.plain rfl (spec_load1 (k := 1) rfl Try.isAgg3 (Get.tmp rfl) rfl rfl))
        first | apply Head.one rfl rfl (GSpec.plain rfl (fit_i64 (by omega) (by omega) (spec_add rfl (Get.tmp rfl) (Get.cint rfl)))) | apply Head.one rfl rfl (GSpec.plain rfl (spec_add rfl (Get.tmp rfl) (Get.cint rfl)))
        apply Head.one rfl rfl (GSpec.plain rfl (spec_move rfl (Get.tmp rfl)))
        apply Head.one rfl rfl (GSpec.plain rfl (spec_call rfl Try.call43 (ih f.toNat hj (nd l f).hi ((nd l f).level + 1) (by omega) (h.hi hk1) (by omega) (by omega)) (.cons (Get.tmp rfl) (.cons (Get.tmp rfl) (.cons (Get.tmp rfl) (.cons (Get.tmp rfl) .nil))))))
        apply Head.one rfl rfl (GSpec.plain rfl (spec_call rfl Try.call59 (rtimes_ok (one ones (nd l f).level) _) (.cons (Get.weak (Get.tmp rfl) (amt_w (ho _ (by omega)))) (.cons (Get.tmp rfl) .nil))))
        apply Head.sink rfl rfl (GSpec.plain rfl (spec_alloc rfl ti73 z73))
        exact Head.nil
      refine Fin.one ?_
      refine Fin.one ?_
      refine Fin.one ?_
      refine Fin.one ?_
      refine Fin.one ?_
      refine Fin.one ?_
      refine Fin.one ?_
      refine Fin.one ?_
      refine Fin.one ?_
      refine Fin.one ?_
      refine Fin.one ?_
      refine Fin.one ?_
      refine Fin.one ?_
      refine Fin.one ?_
      refine Fin.one ?_
      refine Fin.sink (fun (r11 : Nat) => ?_)
      refine Fin.nil ?_
      refine L.storeW (k := 0) rfl rfl rfl Try.sizeOf73 (Get.tmp rfl) (Get.tmp rfl) rfl rfl rfl ?_
      refine L.nil ?_
      refine N.thenW ?_
      refine W.keep (.cons (t := 2) rfl (.cons (t := 3) rfl (.cons (t := 8) rfl (.cons (t := 9) rfl (.cons (t := 10) rfl (.cons (t := 11) rfl .nil)))))) .refl ?_
      refine W.seq ?_
      apply W.any 9 mixed (by kernel_rfl)
      · apply Head.one rfl rfl (GSpec.plain rfl (spec_move rfl (Get.tmp rfl)))
        apply Head.one rfl rfl (GSpec.plain rfl (spec_move rfl (Get.tmp rfl)))
        apply Head.one rfl rfl (GSpec.plain rfl (spec_fieldAddr (f := 0) (off' := 0) rfl Try.underlying50 rfl Try.sizeOf3 (Get.tmp rfl) rfl))
        apply Head.one rfl rfl (GSpec.plain rfl (spec_load1 (k := 2) rfl Try.isAgg3 (Get.tmp rfl) rfl rfl))
        apply Head.one rfl rfl (GSpec.plain rfl (spec_call rfl Try.call58 (free_ok [] ones level (nd l f).level ho h0 (by omega)) (.cons (Get.tmp rfl) (.cons (Get.tmp rfl) (.cons (Get.tmp rfl) .nil)))))
        apply Head.one rfl rfl (GSpec.plain rfl (spec_loadW (k := 1) rfl Try.isAgg73 Try.sizeOf73 (Get.tmp rfl) rfl rfl))
        apply Head.one rfl rfl (GSpec.plain rfl (spec_loadW (k := 0) rfl Try.isAgg73 Try.sizeOf73 (Get.tmp rfl) rfl rfl))
        apply Head.one rfl rfl (GSpec.plain rfl (spec_call rfl Try.call60 (rplus_ok _ _) (.cons (Get.tmp rfl) (.cons (Get.tmp rfl) .nil))))
        apply Head.one rfl rfl (GSpec.plain rfl (spec_call rfl Try.call59 (rtimes_ok _ _) (.cons (Get.tmp rfl) (.cons (Get.tmp rfl) .nil))))
        exact Head.nil
      refine Fin.one ?_
      refine Fin.one ?_
      refine Fin.one ?_
      refine Fin.one ?_
      refine Fin.one ?_
      refine Fin.one ?_
      refine Fin.one ?_
      refine Fin.one ?_
      refine Fin.one ?_
      refine Fin.nil ?_
      refine L.storeW (k := 3) rfl rfl rfl Try.sizeOf73 (Get.tmp rfl) (Get.tmp rfl) rfl rfl rfl ?_
      refine L.nil ?_
      refine N.thenW ?_
      refine W.keep (.cons (t := 8) rfl .nil) .refl ?_
      refine W.ret ?_
      refine N.ret () rfl (.cellA (k := 3) (Get.tmp (t := 8) rfl) rfl Try.isAgg73 Try.sizeOf73 rfl .nil) (res1 (eqA ?_)) .nil (fun _ _ h => h)
      rw [wfrom_node h hk1 h0 (by omega)]

theorem rWeigh_ok (l : List Node) (f : Int) (ones : List Int) : CallT Try.prog 21 [Rp.agg (dagR l), Rp.int .i64 f, Rp.slice eI ones] [] (.one (outI (weighD l f ones))) := by
  refine W.enter (fn := Try.f21) (n := 35) Try.func21 rfl Try.ntmps21 rfl (fun w₀ C₀ => ?_)
  simp only [argS]
  refine W.fact 0 rfl dag_fact fun hl => ?_
  refine W.fact 2 rfl slice_fact fun hol => ?_
  refine W.fact 2 rfl ints_fact fun hin => ?_
  refine W.seq ?_
  refine W.region ?_
  refine L.box rfl rfl (GSpec.plain rfl (spec_box rfl (GetC.agg (Get.tmp rfl)))) (fun r3 => ?_)
  refine L.op1 rfl rfl (GSpec.plain rfl (spec_assign rfl (Get.cint rfl))) ?_
  refine L.op1 rfl rfl (GSpec.plain rfl (spec_assign rfl (Get.cint rfl))) ?_
  refine L.nil ?_
  refine N.thenW ?_
  refine W.seq ?_
  refine W.seq ?_
  refine W.region ?_
  refine L.op1 rfl rfl (GSpec.plain rfl (spec_loadW (k := 0) rfl Try.isAgg24 Try.sizeOf24 (Get.tmp rfl) rfl rfl)) ?_
  refine L.op1 rfl rfl (GSpec.plain rfl (spec_move rfl (Get.tmp rfl))) ?_
  refine L.op1 rfl rfl (GSpec.plain rfl (spec_move rfl (Get.tmp rfl))) ?_
  refine L.op1 rfl rfl (GSpec.plain rfl (spec_len rfl Try.underlying39 (Get.tmp rfl))) ?_
  refine L.op1 rfl rfl (GSpec.plain rfl (spec_call rfl Try.call30 (rFits_ok _ _ _) (.cons (Get.tmp rfl) (.cons (Get.tmp rfl) (.cons (Get.tmp rfl) .nil))))) ?_
  refine L.op1 rfl rfl (GSpec.plain rfl (spec_not rfl (Get.tmp rfl))) ?_
  refine L.nil ?_
  refine N.thenW ?_
  refine W.cond (Get.tmp rfl) (fun h1 => ?_) (fun h1 => ?_)
  · have ph1 := h1; try simp only [decide_eq_true_eq, decide_eq_false_iff_not, Bool.and_eq_true, Bool.or_eq_true, Bool.and_eq_false_iff, Bool.or_eq_false_iff, Bool.not_eq_true', Bool.not_eq_false', Bool.not_true, Bool.not_false, Int.not_lt, Int.not_le] at ph1
    refine W.seq ?_
    refine W.region ?_
    refine L.op1 rfl rfl (GSpec.plain rfl (spec_assign rfl (Get.cint rfl))) ?_
    refine L.op1 rfl rfl (GSpec.plain rfl (spec_assign rfl (Get.cint rfl))) ?_
    refine L.nil ?_
    refine N.thenW ?_
    refine W.keep (.cons (t := 1) rfl (.cons (t := 2) rfl (.cons (t := 3) rfl (.cons (t := 6) rfl (.cons (t := 7) rfl .nil))))) .refl ?_
    refine W.ret ?_
    refine N.ret () rfl (.tmp (t := 6) (Get.tmp rfl) (.tmp (t := 7) (Get.tmp rfl) .nil)) (res2w (eqI ?_) (eqI ?_)) .nil (fun _ _ h => h)
    unfold weighD; rw [if_neg (by simpa using h1)]
    unfold weighD; rw [if_neg (by simpa using h1)]
  · have hF := fits_iff.1 (by simpa using h1)
    have hF1 := hF.ok; unfold okNode at hF1
    refine W.skip ?_
    refine N.thenW ?_
    refine W.seq ?_
    refine W.seq ?_
    refine W.region ?_
    refine L.op1 rfl rfl (GSpec.plain rfl (spec_assign rfl (Get.cint rfl))) ?_
    refine L.nil ?_
    refine N.thenW ?_
    refine W.block ?_
    -- assigned in the loop, not kept: [6, 7]
    refine W.loopK (σ := Nat) (.cons (t := 1) rfl (.cons (t := 2) rfl (.cons (t := 3) rfl .nil))) (fun z => [(8, Rp.int .i64 (z : Nat))]) (fun z => []) (fun z => z ≤ ones.length ∧ ∀ j : Nat, j < z → ¬ ones.getD j default < 0) (fun z => ones.length - z) 0 ⟨Nat.zero_le _, fun j hj => by omega⟩ (.cons (t := 8) rfl .nil) (.cons 0 rfl .nil) ?_
    intro i hI S' M' hS hM
    obtain ⟨hI1, hI2⟩ := hI
    try dsimp only at hS hM
    simp only [List.cons_append, List.nil_append] at hS hM
    subst hS hM
    try dsimp only
    refine W.seq ?_
    refine W.seq ?_
    refine W.region ?_
    refine L.op1 rfl rfl (GSpec.plain rfl (spec_move rfl (Get.tmp rfl))) ?_
    refine L.op1 rfl rfl (GSpec.plain rfl (spec_move rfl (Get.tmp rfl))) ?_
    refine L.op1 rfl rfl (GSpec.plain rfl (spec_len rfl Try.underlying39 (Get.tmp rfl))) ?_
    refine L.op1 rfl rfl (GSpec.plain rfl (spec_lss rfl (Get.tmp rfl) (Get.tmp rfl))) ?_
    refine L.nil ?_
    refine N.thenW ?_
    refine W.cond (Get.tmp rfl) (fun h2 => ?_) (fun h2 => ?_)
    · have ph2 := h2; try simp only [decide_eq_true_eq, decide_eq_false_iff_not, Bool.and_eq_true, Bool.or_eq_true, Bool.and_eq_false_iff, Bool.or_eq_false_iff, Bool.not_eq_true', Bool.not_eq_false', Bool.not_true, Bool.not_false, Int.not_lt, Int.not_le] at ph2
      refine W.skip ?_
      refine N.thenW ?_
      refine W.seq ?_
      refine W.block ?_
      refine W.seq ?_
      refine W.region ?_
      refine L.op1 rfl rfl (GSpec.plain rfl (spec_move rfl (Get.tmp rfl))) ?_
      refine L.op1 rfl rfl (GSpec.plain rfl (spec_move rfl (Get.tmp rfl))) ?_
      refine L.op1 rfl rfl (GSpec.plain rfl (spec_indexAddrD (E := eI) rfl Try.underlying39 Try.sizeOf3 (fun _ => rfl) (Get.tmp rfl) (Get.tmp rfl) (by omega))) ?_
      refine L.op1 rfl rfl (GSpec.plain rfl (spec_loadP1 rfl Try.isAgg3 (Get.tmp rfl))) ?_
      refine L.op1 rfl rfl (GSpec.plain rfl (spec_lss rfl (Get.tmp rfl) (Get.cint rfl))) ?_
      refine L.nil ?_
      refine N.thenW ?_
      refine W.cond (Get.tmp rfl) (fun h3 => ?_) (fun h3 => ?_)
      · have ph3 := h3; try simp only [decide_eq_true_eq, decide_eq_false_iff_not, Bool.and_eq_true, Bool.or_eq_true, Bool.and_eq_false_iff, Bool.or_eq_false_iff, Bool.not_eq_true', Bool.not_eq_false', Bool.not_true, Bool.not_false, Int.not_lt, Int.not_le] at ph3
        refine W.seq ?_
        refine W.region ?_
        refine L.op1 rfl rfl (GSpec.plain rfl (spec_assign rfl (Get.cint rfl))) ?_
        refine L.op1 rfl rfl (GSpec.plain rfl (spec_assign rfl (Get.cint rfl))) ?_
        refine L.nil ?_
        refine N.thenW ?_
        refine W.ret ?_
        refine N.ret () rfl (.tmp (t := 6) (Get.tmp rfl) (.tmp (t := 7) (Get.tmp rfl) .nil)) (res2w (eqI ?_) (eqI ?_)) .nil (fun _ _ h => h)
        unfold weighD; rw [if_pos (fits_iff.2 hF), if_pos (neg_yes (i := i) (by simp only [decide_eq_true_eq] at h2; omega) (of_decide_eq_true h3))]
        unfold weighD; rw [if_pos (fits_iff.2 hF), if_pos (neg_yes (i := i) (by simp only [decide_eq_true_eq] at h2; omega) (of_decide_eq_true h3))]
      · have ph3 := h3; try simp only [decide_eq_true_eq, decide_eq_false_iff_not, Bool.and_eq_true, Bool.or_eq_true, Bool.and_eq_false_iff, Bool.or_eq_false_iff, Bool.not_eq_true', Bool.not_eq_false', Bool.not_true, Bool.not_false, Int.not_lt, Int.not_le] at ph3
        refine W.skip ?_
        refine N.blockNormal ?_
        refine N.thenW ?_
        refine W.region ?_
        refine L.op1 rfl rfl (GSpec.plain rfl (spec_move rfl (Get.tmp rfl))) ?_
        first | refine L.op1 rfl rfl (GSpec.plain rfl (fit_i64 (by omega) (by omega) (spec_add rfl (Get.tmp rfl) (Get.cint rfl)))) ?_ | refine L.op1 rfl rfl (GSpec.plain rfl (spec_add rfl (Get.tmp rfl) (Get.cint rfl))) ?_
        refine L.op1 rfl rfl (GSpec.plain rfl (spec_assign rfl (Get.tmp rfl))) ?_
        refine L.nil ?_
        refine N.roundK (i + 1) ?hI2 ?hmu2 ?hs2 ?hk2 ?hp2
        case hs2 => exact (.cons (t := 8) rfl .nil)
        case hk2 => exact (.cons (t := 1) rfl (.cons (t := 2) rfl (.cons (t := 3) rfl .nil)))
        case hp2 => exact (.cons 0 rfl .nil)
        case hI2 => exact ⟨by omega, upto hI2 (of_decide_eq_false h3)⟩
        case hmu2 => omega
    · have ph2 := h2; try simp only [decide_eq_true_eq, decide_eq_false_iff_not, Bool.and_eq_true, Bool.or_eq_true, Bool.and_eq_false_iff, Bool.or_eq_false_iff, Bool.not_eq_true', Bool.not_eq_false', Bool.not_true, Bool.not_false, Int.not_lt, Int.not_le] at ph2
      refine W.exit ?_
      refine N.thenExit ?_
      refine N.thenExit ?_
      refine N.blockExit ?_
      refine N.thenW ?_
      have hneg := neg_no (fun j hj => hI2 j (by simp only [decide_eq_false_iff_not] at h2; omega))
      have ho : OnesP ones := ones_p hin (fun j hj => hI2 j (by simp only [decide_eq_false_iff_not] at h2; omega))
      refine W.seq ?_
      refine W.region ?_
      refine L.op1 rfl rfl (GSpec.plain rfl (spec_loadW (k := 0) rfl Try.isAgg24 Try.sizeOf24 (Get.tmp rfl) rfl rfl)) ?_
      refine L.op1 rfl rfl (GSpec.plain rfl (spec_move rfl (Get.tmp rfl))) ?_
      refine L.op1 rfl rfl (GSpec.plain rfl (spec_move rfl (Get.tmp rfl))) ?_
      refine L.op1 rfl rfl (GSpec.plain rfl (spec_call rfl Try.call43 (rweigh_ok l ones ho (f.toNat + 1) f 0 (by omega) hF (by decide) hF.lvl0.1) (.cons (Get.tmp rfl) (.cons (Get.tmp rfl) (.cons (Get.cint rfl) (.cons (Get.tmp rfl) .nil)))))) ?_
      refine L.box rfl rfl (GSpec.plain rfl (spec_alloc rfl ti73 z73)) (fun r9 => ?_)
      refine L.storeW (k := 0) rfl rfl rfl Try.sizeOf73 (Get.tmp rfl) (Get.tmp rfl) rfl rfl rfl ?_
      refine L.nil ?_
      refine N.thenW ?_
      refine W.keep (.cons (t := 9) rfl .nil) .refl ?_
      refine W.seq ?_
      refine W.seq ?_
      refine W.region ?_
      refine L.op1 rfl rfl (GSpec.plain rfl (spec_fieldAddr (f := 1) (off' := 1) rfl Try.underlying73 rfl Try.sizeOf4 (Get.tmp rfl) rfl)) ?_
      refine L.op1 rfl rfl (GSpec.plain rfl (spec_load1 (k := 0) rfl Try.isAgg4 (Get.tmp rfl) rfl rfl)) ?_
      refine L.nil ?_
      refine N.thenW ?_
      refine W.cond (Get.tmp rfl) (fun h4 => ?_) (fun h4 => ?_)
      · have ph4 := h4; try simp only [decide_eq_true_eq, decide_eq_false_iff_not, Bool.and_eq_true, Bool.or_eq_true, Bool.and_eq_false_iff, Bool.or_eq_false_iff, Bool.not_eq_true', Bool.not_eq_false', Bool.not_true, Bool.not_false, Int.not_lt, Int.not_le] at ph4
        refine W.seq ?_
        refine W.region ?_
        refine L.op1 rfl rfl (GSpec.plain rfl (spec_assign rfl (Get.cint rfl))) ?_
        refine L.op1 rfl rfl (GSpec.plain rfl (spec_assign rfl (Get.cint rfl))) ?_
        refine L.nil ?_
        refine N.thenW ?_
        refine W.ret ?_
        refine N.ret () rfl (.tmp (t := 6) (Get.tmp rfl) (.tmp (t := 7) (Get.tmp rfl) .nil)) (res2w (eqI ?_) (eqI ?_)) .nil (fun _ _ h => h)
        unfold weighD; rw [if_pos (fits_iff.2 hF), if_neg (by rw [hneg]; decide), if_pos (show (amt (wfrom l ones f 0)).large = true from h4)]
        unfold weighD; rw [if_pos (fits_iff.2 hF), if_neg (by rw [hneg]; decide), if_pos (show (amt (wfrom l ones f 0)).large = true from h4)]
      · have ph4 := h4; try simp only [decide_eq_true_eq, decide_eq_false_iff_not, Bool.and_eq_true, Bool.or_eq_true, Bool.and_eq_false_iff, Bool.or_eq_false_iff, Bool.not_eq_true', Bool.not_eq_false', Bool.not_true, Bool.not_false, Int.not_lt, Int.not_le] at ph4
        refine W.skip ?_
        refine N.thenW ?_
        refine W.seq ?_
        refine W.region ?_
        refine L.op1 rfl rfl (GSpec.plain rfl (spec_fieldAddr (f := 0) (off' := 0) rfl Try.underlying73 rfl Try.sizeOf3 (Get.tmp rfl) rfl)) ?_
        refine L.op1 rfl rfl (GSpec.plain rfl (spec_load1 (k := 0) rfl Try.isAgg3 (Get.tmp rfl) rfl rfl)) ?_
        refine L.op1 rfl rfl (GSpec.plain rfl (spec_assign rfl (Get.tmp rfl))) ?_
        refine L.op1 rfl rfl (GSpec.plain rfl (spec_assign rfl (Get.cint rfl))) ?_
        refine L.nil ?_
        refine N.thenW ?_
        refine W.ret ?_
        refine N.ret () rfl (.tmp (t := 6) (Get.tmp rfl) (.tmp (t := 7) (Get.tmp rfl) .nil)) (res2w (eqI ?_) (eqI ?_)) .nil (fun _ _ h => h)
        show (amt (wfrom l ones f 0)).n = _; unfold weighD; rw [if_pos (fits_iff.2 hF), if_neg (by rw [hneg]; decide), if_neg (fun hh => by rw [show (amt (wfrom l ones f 0)).large = false from h4] at hh; cases hh)]
        unfold weighD; rw [if_pos (fits_iff.2 hF), if_neg (by rw [hneg]; decide), if_neg (fun hh => by rw [show (amt (wfrom l ones f 0)).large = false from h4] at hh; cases hh)]

end Go.Proofs.Ytcpkjpkjahgobaa
