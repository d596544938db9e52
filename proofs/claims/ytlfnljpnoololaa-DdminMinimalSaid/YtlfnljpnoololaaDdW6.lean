import Derived.Test.YtlfnljpnoololaaDdW5
set_option linter.unusedSimpArgs false
set_option linter.unusedVariables false
namespace Go.Proofs.Ytlfnljpnoololaa
open Go.Sim
theorem awake_ok  : CallT Try.prog 15 [] [] (.one (Rp.bool true)) := by
  refine W.enter (fn := Try.f15) (n := 50) Try.func15 rfl Try.ntmps15 rfl (fun w₀ C₀ => ?_)
  simp only [argS]
  refine W.seq ?_
  refine W.region ?_
  refine L.op1 rfl rfl (GSpec.plain rfl (spec_assign rfl Get.cbool)) ?_
  refine L.nil ?_
  refine N.thenW ?_
  refine W.seq ?_
  refine W.region ?_
  refine L.op1 rfl rfl (GSpec.plain rfl (spec_call rfl Try.call9 (dStart_ok _) (.cons (Get.cint rfl) .nil))) ?_
  refine L.op1 rfl rfl (GSpec.plain rfl (spec_move rfl (Get.tmp rfl))) ?_
  refine L.op1 rfl rfl (GSpec.plain rfl (spec_extract rfl (Get.tmp rfl) rfl)) ?_
  refine L.op1 rfl rfl (GSpec.plain rfl (spec_extract rfl (Get.tmp rfl) rfl)) ?_
  refine L.box rfl rfl (GSpec.plain rfl (spec_alloc rfl ti24 z24)) (fun r1 => ?_)
  refine L.storeW (k := 0) rfl rfl rfl Try.sizeOf24 (Get.tmp rfl) (Get.tmp rfl) rfl rfl rfl ?_
  refine L.op1 rfl rfl (GSpec.plain rfl (spec_assign rfl (Get.tmp rfl))) ?_
  refine L.nil ?_
  refine N.thenW ?_
  refine W.seq ?_
  refine W.seq ?_
  refine W.region ?_
  refine L.op1 rfl rfl (GSpec.plain rfl (spec_assign rfl (Get.cint rfl))) ?_
  refine L.nil ?_
  refine N.thenW ?_
  refine W.block ?_
  refine W.loop (σ := Nat) (fun z => [(0, Rp.bool false), (1, Rp.ptr r1 0), (2, Rp.int .i64 0), (3, Rp.int .i64 (z : Nat))]) (fun z => [MF.box r1 24 (shrinkR (wakes z))]) (fun z => z ≤ waked) (fun z => waked - z) 0 (Nat.zero_le _) (.cons (t := 0) rfl (.cons (t := 1) rfl (.cons (t := 2) rfl (.cons (t := 3) rfl .nil)))) .refl ?_
  intro i hI
  try dsimp only
  refine W.seq ?_
  refine W.seq ?_
  refine W.region ?_
  refine L.op1 rfl rfl (GSpec.plain rfl (spec_move rfl (Get.tmp rfl))) ?_
  refine L.op1 rfl rfl (GSpec.plain rfl (spec_lss rfl (Get.tmp rfl) (Get.cint rfl))) ?_
  refine L.op1 rfl rfl (GSpec.plain rfl (spec_move rfl (Get.tmp rfl))) ?_
  refine L.op1 rfl rfl (GSpec.guard rfl rfl rfl fun hg => (spec_loadW (k := 0) rfl Try.isAgg24 Try.sizeOf24 (Get.tmp rfl) rfl rfl)) ?_
  refine L.op1 rfl rfl (GSpec.guard rfl rfl rfl fun hg => (spec_call rfl Try.call19 (dDone_ok _) (.cons (Get.opt rfl hg) .nil))) ?_
  refine L.op1 rfl rfl (GSpec.guard rfl rfl rfl fun hg => (spec_not rfl (Get.opt rfl hg))) ?_
  refine L.op1 rfl rfl (GSpec.plain rfl (spec_and rfl (Get.tmp rfl) (fun hb => (Get.opt rfl hb)))) ?_
  refine L.nil ?_
  refine N.thenW ?_
  refine W.cond (Get.tmp rfl) (fun h1 => ?_) (fun h1 => ?_)
  · simp only [Bool.and_eq_true, decide_eq_true_eq, Bool.not_eq_true'] at h1
    have hiw : i < waked := by
      rcases Nat.lt_or_ge i waked with h | h
      · exact h
      · have : i = waked := by omega
        rw [this, waked_eq.1] at h1; exact absurd h1.2 (by simp)
    have hw := waked_lt i hiw
    refine W.skip ?_
    refine N.thenW ?_
    refine W.seq ?_
    refine W.block ?_
    refine W.seq ?_
    refine W.region ?_
    refine L.op1 rfl rfl (GSpec.plain rfl (spec_loadW (k := 0) rfl Try.isAgg24 Try.sizeOf24 (Get.tmp rfl) rfl rfl)) ?_
    refine L.op1 rfl rfl (GSpec.plain rfl (spec_call rfl Try.call16 (candidate_ok _) (.cons (Get.tmp rfl) .nil))) ?_
    refine L.op1 rfl rfl (GSpec.plain rfl (spec_move rfl (Get.tmp rfl))) ?_
    refine L.op1 rfl rfl (GSpec.plain rfl (spec_extract rfl (Get.tmp rfl) rfl)) ?_
    refine L.op1 rfl rfl (GSpec.plain rfl (spec_extract rfl (Get.tmp rfl) rfl)) ?_
    refine L.op1 rfl rfl (GSpec.plain rfl (spec_assign rfl (Get.tmp rfl))) ?_
    refine L.op1 rfl rfl (GSpec.plain rfl (spec_assign rfl (Get.tmp rfl))) ?_
    refine L.nil ?_
    refine N.thenW ?_
    refine W.seq ?_
    refine W.seq ?_
    refine W.region ?_
    refine L.op1 rfl rfl (GSpec.plain rfl (spec_move rfl (Get.tmp rfl))) ?_
    refine L.op1 rfl rfl (GSpec.plain rfl (spec_not rfl (Get.tmp rfl))) ?_
    refine L.nil ?_
    refine N.thenW ?_
    refine W.cond (Get.tmp rfl) (fun h2 => ?_) (fun h2 => ?_)
    · rw [hw.2.1] at h2; cases h2
    · have ph2 := h2; try simp only [decide_eq_true_eq, decide_eq_false_iff_not, Bool.and_eq_true, Bool.or_eq_true, Bool.and_eq_false_iff, Bool.or_eq_false_iff, Bool.not_eq_true', Bool.not_eq_false', Bool.not_true, Bool.not_false, Int.not_lt, Int.not_le] at ph2
      refine W.skip ?_
      refine N.thenW ?_
      apply W.any 8 mixed (by kernel_rfl)
      · apply Head.one rfl rfl (GSpec.plain rfl (spec_loadW (k := 0) rfl Try.isAgg24 Try.sizeOf24 (Get.tmp rfl) rfl rfl))
        apply Head.one rfl rfl (GSpec.plain rfl (spec_move rfl (Get.tmp rfl)))
        apply Head.one rfl rfl (GSpec.plain rfl (spec_call rfl Try.call25 (has_ok _ _) (.cons (Get.tmp rfl) (.cons (Get.cint rfl) .nil))))
        apply Head.one rfl rfl (GSpec.plain rfl (spec_move rfl (Get.tmp rfl)))
        apply Head.one rfl rfl (GSpec.guard rfl rfl rfl fun hg => (spec_move rfl (Get.tmp rfl)))
        apply Head.one rfl rfl (GSpec.guard rfl rfl rfl fun hg => (spec_call rfl Try.call25 (has_ok _ _) (.cons (Get.opt rfl hg) (.cons (Get.cint rfl) .nil))))
        apply Head.one rfl rfl (GSpec.plain rfl (spec_and rfl (Get.tmp rfl) (fun hb => (Get.opt rfl hb))))
        apply Head.one rfl rfl (GSpec.plain rfl (spec_call rfl Try.call22 (tell_ok _ _ hw.2.2) (.cons (Get.tmp rfl) (.cons (Get.tmp rfl) .nil))))
        exact Head.nil
      refine Fin.one ?_
      refine Fin.one ?_
      refine Fin.one ?_
      refine Fin.one ?_
      refine Fin.one ?_
      refine Fin.one ?_
      refine Fin.one ?_
      refine Fin.one ?_
      refine Fin.nil ?_
      refine L.storeW (k := 0) rfl rfl rfl Try.sizeOf24 (Get.tmp rfl) (Get.tmp rfl) rfl rfl rfl ?_
      refine L.nil ?_
      refine N.blockNormal ?_
      refine N.thenW ?_
      refine W.region ?_
      refine L.op1 rfl rfl (GSpec.plain rfl (spec_move rfl (Get.tmp rfl))) ?_
      first | refine L.op1 rfl rfl (GSpec.plain rfl (fit_i64 (by omega) (by omega) (spec_add rfl (Get.tmp rfl) (Get.cint rfl)))) ?_ | refine L.op1 rfl rfl (GSpec.plain rfl (spec_add rfl (Get.tmp rfl) (Get.cint rfl))) ?_
      refine L.op1 rfl rfl (GSpec.plain rfl (spec_assign rfl (Get.tmp rfl))) ?_
      refine L.nil ?_
      refine N.round (i + 1) ?hI1 ?hmu1 ?hs1 ?hp1
      case hs1 => exact (.cons (t := 0) rfl (.cons (t := 1) rfl (.cons (t := 2) rfl (.cons (t := 3) rfl .nil))))
      case hp1 => exact .refl
      all_goals (first | rfl | trivial | omega | (simp_all; done))
  · have ph1 := h1; try simp only [decide_eq_true_eq, decide_eq_false_iff_not, Bool.and_eq_true, Bool.or_eq_true, Bool.and_eq_false_iff, Bool.or_eq_false_iff, Bool.not_eq_true', Bool.not_eq_false', Bool.not_true, Bool.not_false, Int.not_lt, Int.not_le] at ph1
    refine W.exit ?_
    refine N.thenExit ?_
    refine N.thenExit ?_
    refine N.blockExit ?_
    refine N.thenW ?_
    refine W.keep (.cons (t := 0) rfl (.cons (t := 1) rfl (.cons (t := 2) rfl .nil))) .refl ?_
    refine W.seq ?_
    refine W.region ?_
    refine L.op1 rfl rfl (GSpec.plain rfl (spec_move rfl (Get.tmp rfl))) ?_
    refine L.op1 rfl rfl (GSpec.plain rfl (spec_eql rfl (Get.tmp rfl) (Get.cint rfl))) ?_
    refine L.op1 rfl rfl (GSpec.plain rfl (spec_move rfl (Get.tmp rfl))) ?_
    refine L.op1 rfl rfl (GSpec.guard rfl rfl rfl fun hg => (spec_loadW (k := 0) rfl Try.isAgg24 Try.sizeOf24 (Get.tmp rfl) rfl rfl)) ?_
    refine L.op1 rfl rfl (GSpec.guard rfl rfl rfl fun hg => (spec_call rfl Try.call19 (dDone_ok _) (.cons (Get.opt rfl hg) .nil))) ?_
    refine L.op1 rfl rfl (GSpec.plain rfl (spec_and rfl (Get.tmp rfl) (fun hb => (Get.opt rfl hb)))) ?_
    refine L.op1 rfl rfl (GSpec.plain rfl (spec_move rfl (Get.tmp rfl))) ?_
    refine L.op1 rfl rfl (GSpec.guard rfl rfl rfl fun hg => (spec_fieldAddr (off' := 0) rfl Try.underlying24 rfl Try.sizeOf22 (Get.tmp rfl) rfl)) ?_
    refine L.op1 rfl rfl (GSpec.guard rfl rfl rfl fun hg => (spec_load1 (k := 0) rfl Try.isAgg22 (Get.opt rfl hg) rfl rfl)) ?_
    refine L.op1 rfl rfl (GSpec.guard rfl rfl rfl fun hg => (spec_buildSliceN (xs := [1, 2]) (E := eI) rfl Try.underlying22 ti3 z3 (by first | decide | simp) rfl (.cons (GetC.one (Get.cint rfl)) rfl rfl rfl (.cons (GetC.one (Get.cint rfl)) rfl rfl rfl .nil)) rfl rfl)) ?_
    refine L.op1 rfl rfl (GSpec.guard rfl rfl rfl fun hg => (spec_call rfl Try.call21 (ints_ok _ _) (.cons (Get.opt rfl hg) (.cons (Get.opt rfl hg) .nil)))) ?_
    refine L.op1 rfl rfl (GSpec.plain rfl (spec_and rfl (Get.tmp rfl) (fun hb => (Get.opt rfl hb)))) ?_
    refine L.op1 rfl rfl (GSpec.plain rfl (spec_move rfl (Get.tmp rfl))) ?_
    refine L.op1 rfl rfl (GSpec.guard rfl rfl rfl fun hg => (spec_call rfl Try.call12 (dBound_ok _) (.cons (Get.cint rfl) .nil))) ?_
    refine L.op1 rfl rfl (GSpec.guard rfl rfl rfl fun hg => (spec_eql rfl (Get.opt rfl hg) (Get.cint rfl))) ?_
    refine L.op1 rfl rfl (GSpec.plain rfl (spec_and rfl (Get.tmp rfl) (fun hb => (Get.opt rfl hb)))) ?_
    refine L.op1 rfl rfl (GSpec.plain rfl (spec_assign rfl (Get.tmp rfl))) ?_
    refine L.nil ?_
    refine N.thenW ?_
    refine W.keep (.cons (t := 0) rfl .nil) .refl ?_
    refine W.ret ?_
    refine N.ret () rfl (.tmp (t := 0) (Get.tmp rfl) .nil) (res1 (eqB ?_)) .nil (fun _ _ h => h)
    have hiw : i = waked := by
      rcases Nat.lt_or_ge i waked with h | h
      · have h9 := (waked_lt i h).1; have := waked_eq.2.1; simp [h9] at h1; omega
      · omega
    subst hiw; simp [waked_eq]

theorem DdminStarts_ok (n : Int) : CallT Try.prog 3 [Rp.int .i64 n] [] (.one (Rp.bool true)) := by
  refine W.enter (fn := Try.f3) (n := 43) Try.func3 rfl Try.ntmps3 rfl (fun w₀ C₀ => ?_)
  simp only [argS]
  refine W.seq ?_
  refine W.region ?_
  refine L.op1 rfl rfl (GSpec.plain rfl (spec_assign rfl Get.cbool)) ?_
  refine L.nil ?_
  refine N.thenW ?_
  refine W.seq ?_
  refine W.region ?_
  refine L.op1 rfl rfl (GSpec.plain rfl (spec_move rfl (Get.tmp rfl))) ?_
  refine L.op1 rfl rfl (GSpec.plain rfl (spec_call rfl Try.call9 (dStart_ok _) (.cons (Get.tmp rfl) .nil))) ?_
  refine L.op1 rfl rfl (GSpec.plain rfl (spec_move rfl (Get.tmp rfl))) ?_
  refine L.op1 rfl rfl (GSpec.plain rfl (spec_extract rfl (Get.tmp rfl) rfl)) ?_
  refine L.op1 rfl rfl (GSpec.plain rfl (spec_extract rfl (Get.tmp rfl) rfl)) ?_
  refine L.box rfl rfl (GSpec.plain rfl (spec_alloc rfl ti24 z24)) (fun r3 => ?_)
  refine L.storeW (k := 0) rfl rfl rfl Try.sizeOf24 (Get.tmp rfl) (Get.tmp rfl) rfl rfl rfl ?_
  refine L.op1 rfl rfl (GSpec.plain rfl (spec_assign rfl (Get.tmp rfl))) ?_
  refine L.nil ?_
  refine N.thenW ?_
  refine W.seq ?_
  refine W.region ?_
  refine L.op1 rfl rfl (GSpec.plain rfl (spec_move rfl (Get.tmp rfl))) ?_
  refine L.op1 rfl rfl (GSpec.plain rfl (spec_call rfl Try.call10 (rStart_ok _) (.cons (Get.tmp rfl) .nil))) ?_
  refine L.op1 rfl rfl (GSpec.plain rfl (spec_move rfl (Get.tmp rfl))) ?_
  refine L.op1 rfl rfl (GSpec.plain rfl (spec_extract rfl (Get.tmp rfl) rfl)) ?_
  refine L.op1 rfl rfl (GSpec.plain rfl (spec_extract rfl (Get.tmp rfl) rfl)) ?_
  refine L.box rfl rfl (GSpec.plain rfl (spec_alloc rfl ti24 z24)) (fun r5 => ?_)
  refine L.storeW (k := 0) rfl rfl rfl Try.sizeOf24 (Get.tmp rfl) (Get.tmp rfl) rfl rfl rfl ?_
  refine L.op1 rfl rfl (GSpec.plain rfl (spec_assign rfl (Get.tmp rfl))) ?_
  refine L.nil ?_
  refine N.thenW ?_
  refine W.keep (.cons (t := 0) rfl (.cons (t := 2) rfl (.cons (t := 3) rfl (.cons (t := 4) rfl (.cons (t := 5) rfl (.cons (t := 6) rfl .nil)))))) .refl ?_
  refine W.seq ?_
  refine W.region ?_
  refine L.op1 rfl rfl (GSpec.plain rfl (spec_move rfl (Get.tmp rfl))) ?_
  refine L.op1 rfl rfl (GSpec.plain rfl (spec_move rfl (Get.tmp rfl))) ?_
  refine L.op1 rfl rfl (GSpec.plain rfl (spec_eql rfl (Get.tmp rfl) (Get.tmp rfl))) ?_
  refine L.op1 rfl rfl (GSpec.plain rfl (spec_move rfl (Get.tmp rfl))) ?_
  refine L.op1 rfl rfl (GSpec.guard rfl rfl rfl fun hg => (spec_loadW (k := 1) rfl Try.isAgg24 Try.sizeOf24 (Get.tmp rfl) rfl rfl)) ?_
  refine L.op1 rfl rfl (GSpec.guard rfl rfl rfl fun hg => (spec_loadW (k := 0) rfl Try.isAgg24 Try.sizeOf24 (Get.tmp rfl) rfl rfl)) ?_
  refine L.op1 rfl rfl (GSpec.guard rfl rfl rfl fun hg => (spec_call rfl Try.call11 (same_ok _ _) (.cons (Get.opt rfl hg) (.cons (Get.opt rfl hg) .nil)))) ?_
  refine L.op1 rfl rfl (GSpec.plain rfl (spec_and rfl (Get.tmp rfl) (fun hb => (Get.opt rfl hb)))) ?_
  refine L.op1 rfl rfl (GSpec.plain rfl (spec_move rfl (Get.tmp rfl))) ?_
  refine L.op1 rfl rfl (GSpec.guard rfl rfl rfl fun hg => (spec_move rfl (Get.tmp rfl))) ?_
  refine L.op1 rfl rfl (GSpec.guard rfl rfl rfl fun hg => (spec_call rfl Try.call12 (dBound_ok _) (.cons (Get.opt rfl hg) .nil))) ?_
  refine L.op1 rfl rfl (GSpec.guard rfl rfl rfl fun hg => (spec_move rfl (Get.tmp rfl))) ?_
  refine L.op1 rfl rfl (GSpec.guard rfl rfl rfl fun hg => (spec_call rfl Try.call13 (rBound_ok _) (.cons (Get.opt rfl hg) .nil))) ?_
  refine L.op1 rfl rfl (GSpec.guard rfl rfl rfl fun hg => (spec_eql rfl (Get.opt rfl hg) (Get.opt rfl hg))) ?_
  refine L.op1 rfl rfl (GSpec.plain rfl (spec_and rfl (Get.tmp rfl) (fun hb => (Get.opt rfl hb)))) ?_
  refine L.op1 rfl rfl (GSpec.plain rfl (spec_move rfl (Get.tmp rfl))) ?_
  refine L.op1 rfl rfl (GSpec.guard rfl rfl rfl fun hg => (spec_move rfl (Get.tmp rfl))) ?_
  refine L.op1 rfl rfl (GSpec.guard rfl rfl rfl fun hg => (spec_neq rfl (Get.opt rfl hg) (Get.cint rfl))) ?_
  refine L.op1 rfl rfl (GSpec.guard rfl rfl rfl fun hg => (spec_move rfl (Get.opt rfl hg))) ?_
  refine L.op1 rfl rfl (GSpec.guardOpt rfl rfl rfl fun hg => (spec_loadW (k := 1) rfl Try.isAgg24 Try.sizeOf24 (Get.tmp rfl) rfl rfl)) ?_
  refine L.op1 rfl rfl (GSpec.guardOpt rfl rfl rfl fun hg => (spec_call rfl Try.call14 (dValid_ok _) (.cons (Get.opt rfl hg) .nil))) ?_
  refine L.op1 rfl rfl (GSpec.guard rfl rfl rfl fun hg => (spec_or rfl (Get.opt rfl hg) (fun hb => (Get.opt rfl ⟨hg, hb⟩)))) ?_
  refine L.op1 rfl rfl (GSpec.plain rfl (spec_and rfl (Get.tmp rfl) (fun hb => (Get.opt rfl hb)))) ?_
  refine L.op1 rfl rfl (GSpec.plain rfl (spec_move rfl (Get.tmp rfl))) ?_
  refine L.op1 rfl rfl (GSpec.guard rfl rfl rfl fun hg => (spec_call rfl Try.call15 (awake_ok ) .nil)) ?_
  refine L.op1 rfl rfl (GSpec.plain rfl (spec_and rfl (Get.tmp rfl) (fun hb => (Get.opt rfl hb)))) ?_
  refine L.op1 rfl rfl (GSpec.plain rfl (spec_assign rfl (Get.tmp rfl))) ?_
  refine L.nil ?_
  refine N.thenW ?_
  refine W.keep (.cons (t := 2) rfl .nil) .refl ?_
  refine W.ret ?_
  refine N.ret () rfl (.tmp (t := 2) (Get.tmp rfl) .nil) (res1 (eqB ?_)) .nil (fun _ _ h => h)
  simp [sameB, start_valid n]

end Go.Proofs.Ytlfnljpnoololaa
