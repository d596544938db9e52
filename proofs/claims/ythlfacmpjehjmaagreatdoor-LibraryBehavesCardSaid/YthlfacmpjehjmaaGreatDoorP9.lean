/- Lemmas for the claim, part 9: rules for walks, contracts of functions, the data they compute. No conditions. -/
import Derived.Test.YthlfacmpjehjmaaGreatDoorP4
import Derived.Test.YthlfacmpjehjmaaGreatDoorP8
set_option linter.unusedSimpArgs false
set_option maxRecDepth 8000
set_option linter.unusedVariables false
namespace Go.Proofs.YthlfacmpjehjmaaGreatDoor
open Go.Sim
theorem pick_ok (kind n w : Int) : CallT Tryz.prog 21 [Rp.int .u8 kind, Rp.int .u8 n, Rp.int .u8 w] [spG] (.one (Rp.tuple [Rp.agg (eD (pickD kind n w)), Rp.int .i64 0])) := by
  refine W.enter (fn := Tryz.f21) (n := 50) Tryz.func21 rfl Tryz.ntmps21 rfl (fun w₀ C₀ => ?_)
  simp only [argS]
  refine W.fact 0 rfl int_fact fun hk => ?_
  simp only [InR] at hk
  refine W.fact 1 rfl int_fact fun hn => ?_
  simp only [InR] at hn
  refine W.fact 2 rfl int_fact fun hw => ?_
  simp only [InR] at hw
  refine W.seq ?_
  refine W.region ?_
  refine L.box rfl rfl (GSpec.plain rfl (spec_alloc rfl ti27 z27)) (fun r6 => ?_)
  refine L.op1 rfl rfl (GSpec.plain rfl (spec_assign rfl (Get.cint rfl))) ?_
  refine L.nil ?_
  refine N.thenW ?_
  refine W.seq ?_
  refine W.region ?_
  refine L.op1 rfl rfl (GSpec.plain rfl (spec_move rfl (Get.tmp rfl))) ?_
  first | refine L.op1 rfl rfl (GSpec.plain rfl (spec_remP rfl (Get.tmp rfl) (Get.cint rfl) (by omega) (by omega))) ?_ | refine L.op1 rfl rfl (GSpec.plain rfl (spec_rem rfl (Get.tmp rfl) (Get.cint rfl) (by omega))) ?_
  first | refine L.op1 rfl rfl (GSpec.plain rfl (fit_i64 (by omega) (by omega) (spec_conv rfl Tryz.underlying3 ⟨_, Tryz.underlying5⟩ (Get.tmp rfl)))) ?_ | refine L.op1 rfl rfl (GSpec.plain rfl (spec_conv rfl Tryz.underlying3 ⟨_, Tryz.underlying5⟩ (Get.tmp rfl))) ?_
  first | refine L.op1 rfl rfl (GSpec.plain rfl (fit_i64 (by omega) (by omega) (spec_add rfl (Get.cint rfl) (Get.tmp rfl)))) ?_ | refine L.op1 rfl rfl (GSpec.plain rfl (spec_add rfl (Get.cint rfl) (Get.tmp rfl))) ?_
  refine L.op1 rfl rfl (GSpec.plain rfl (spec_move rfl (Get.tmp rfl))) ?_
  first | refine L.op1 rfl rfl (GSpec.plain rfl (spec_remP rfl (Get.tmp rfl) (Get.cint rfl) (by omega) (by omega))) ?_ | refine L.op1 rfl rfl (GSpec.plain rfl (spec_rem rfl (Get.tmp rfl) (Get.cint rfl) (by omega))) ?_
  first | refine L.op1 rfl rfl (GSpec.plain rfl (fit_i64 (by omega) (by omega) (spec_conv rfl Tryz.underlying3 ⟨_, Tryz.underlying5⟩ (Get.tmp rfl)))) ?_ | refine L.op1 rfl rfl (GSpec.plain rfl (spec_conv rfl Tryz.underlying3 ⟨_, Tryz.underlying5⟩ (Get.tmp rfl))) ?_
  first | refine L.op1 rfl rfl (GSpec.plain rfl (fit_i64 (by omega) (by omega) (spec_add rfl (Get.cint rfl) (Get.tmp rfl)))) ?_ | refine L.op1 rfl rfl (GSpec.plain rfl (spec_add rfl (Get.cint rfl) (Get.tmp rfl))) ?_
  refine L.op1 rfl rfl (GSpec.plain rfl (spec_assign rfl (Get.tmp rfl))) ?_
  refine L.op1 rfl rfl (GSpec.plain rfl (spec_assign rfl (Get.tmp rfl))) ?_
  refine L.nil ?_
  refine N.thenW ?_
  refine W.keep (.cons (t := 0) rfl (.cons (t := 6) rfl (.cons (t := 7) rfl (.cons (t := 8) rfl (.cons (t := 9) rfl .nil))))) .refl ?_
  refine W.seq ?_
  refine W.seq ?_
  refine W.region ?_
  refine L.op1 rfl rfl (GSpec.plain rfl (spec_move rfl (Get.tmp rfl))) ?_
  first | refine L.op1 rfl rfl (GSpec.plain rfl (spec_remP rfl (Get.tmp rfl) (Get.cint rfl) (by omega) (by omega))) ?_ | refine L.op1 rfl rfl (GSpec.plain rfl (spec_rem rfl (Get.tmp rfl) (Get.cint rfl) (by omega))) ?_
  refine L.nil ?_
  refine N.thenW ?_
  refine W.block ?_
  refine W.seq ?_
  refine W.region ?_
  refine L.op1 rfl rfl (GSpec.plain rfl (spec_eql rfl (Get.tmp rfl) (Get.cint rfl))) ?_
  refine L.op1 rfl rfl (GSpec.plain rfl (spec_assign rfl (Get.tmp rfl))) ?_
  refine L.nil ?_
  refine N.thenW ?_
  refine W.cond (Get.tmp rfl) (fun h1 => ?_) (fun h1 => ?_)
  · have ph1 := h1; try simp only [decide_eq_true_eq, decide_eq_false_iff_not, Bool.and_eq_true, Bool.or_eq_true, Bool.and_eq_false_iff, Bool.or_eq_false_iff, Bool.not_eq_true', Bool.not_eq_false', Bool.not_true, Bool.not_false, Int.not_lt, Int.not_le] at ph1
    refine W.seq ?_
    refine W.region ?_
    refine L.op1 rfl rfl (GSpec.plain rfl (spec_move rfl (Get.tmp rfl))) ?_
    refine L.op1 rfl rfl (GSpec.plain rfl (spec_move rfl (Get.tmp rfl))) ?_
    refine L.op1 rfl rfl (GSpec.plain rfl (spec_callG (k := 1) rfl Tryz.call9 rfl (queue_ok _ _ (by omega) (by omega)) (.cons (Get.tmp rfl) (.cons (Get.tmp rfl) .nil)))) ?_
    refine L.op1 rfl rfl (GSpec.plain rfl (spec_extract rfl (Get.tmp rfl) rfl)) ?_
    refine L.op1 rfl rfl (GSpec.plain rfl (spec_extract rfl (Get.tmp rfl) rfl)) ?_
    refine L.storeW (k := 0) rfl rfl rfl Tryz.sizeOf27 (Get.tmp rfl) (Get.tmp rfl) rfl rfl rfl ?_
    refine L.op1 rfl rfl (GSpec.plain rfl (spec_assign rfl (Get.tmp rfl))) ?_
    refine L.nil ?_
    refine N.thenW ?_
    refine W.keep (.cons (t := 6) rfl (.cons (t := 7) rfl (.cons (t := 8) rfl .nil))) .refl ?_
    refine W.ret ?_
    refine N.ret () rfl (.cellA (k := 0) (Get.tmp (t := 6) rfl) rfl Tryz.isAgg27 Tryz.sizeOf27 rfl (.tmp (t := 7) (Get.tmp rfl) .nil)) (res2w (eqA ?_) (eqI ?_)) .nil (fun _ _ h => h)
    all_goals first | rfl | (unfold pickD; simp_all)
  · have ph1 := h1; try simp only [decide_eq_true_eq, decide_eq_false_iff_not, Bool.and_eq_true, Bool.or_eq_true, Bool.and_eq_false_iff, Bool.or_eq_false_iff, Bool.not_eq_true', Bool.not_eq_false', Bool.not_true, Bool.not_false, Int.not_lt, Int.not_le] at ph1
    refine W.seq ?_
    refine W.region ?_
    refine L.op1 rfl rfl (GSpec.plain rfl (spec_eql rfl (Get.tmp rfl) (Get.cint rfl))) ?_
    refine L.op1 rfl rfl (GSpec.plain rfl (spec_assign rfl (Get.tmp rfl))) ?_
    refine L.nil ?_
    refine N.thenW ?_
    refine W.cond (Get.tmp rfl) (fun h2 => ?_) (fun h2 => ?_)
    · have ph2 := h2; try simp only [decide_eq_true_eq, decide_eq_false_iff_not, Bool.and_eq_true, Bool.or_eq_true, Bool.and_eq_false_iff, Bool.or_eq_false_iff, Bool.not_eq_true', Bool.not_eq_false', Bool.not_true, Bool.not_false, Int.not_lt, Int.not_le] at ph2
      refine W.seq ?_
      refine W.region ?_
      refine L.op1 rfl rfl (GSpec.plain rfl (spec_move rfl (Get.tmp rfl))) ?_
      refine L.op1 rfl rfl (GSpec.plain rfl (spec_callG (k := 1) rfl Tryz.call12 rfl (adder_ok _ (by omega)) (.cons (Get.tmp rfl) .nil))) ?_
      refine L.op1 rfl rfl (GSpec.plain rfl (spec_extract rfl (Get.tmp rfl) rfl)) ?_
      refine L.op1 rfl rfl (GSpec.plain rfl (spec_extract rfl (Get.tmp rfl) rfl)) ?_
      refine L.storeW (k := 0) rfl rfl rfl Tryz.sizeOf27 (Get.tmp rfl) (Get.tmp rfl) rfl rfl rfl ?_
      refine L.op1 rfl rfl (GSpec.plain rfl (spec_assign rfl (Get.tmp rfl))) ?_
      refine L.nil ?_
      refine N.thenW ?_
      refine W.keep (.cons (t := 6) rfl (.cons (t := 7) rfl (.cons (t := 8) rfl .nil))) .refl ?_
      refine W.ret ?_
      refine N.ret () rfl (.cellA (k := 0) (Get.tmp (t := 6) rfl) rfl Tryz.isAgg27 Tryz.sizeOf27 rfl (.tmp (t := 7) (Get.tmp rfl) .nil)) (res2w (eqA ?_) (eqI ?_)) .nil (fun _ _ h => h)
      all_goals first | rfl | (unfold pickD; simp_all)
    · have ph2 := h2; try simp only [decide_eq_true_eq, decide_eq_false_iff_not, Bool.and_eq_true, Bool.or_eq_true, Bool.and_eq_false_iff, Bool.or_eq_false_iff, Bool.not_eq_true', Bool.not_eq_false', Bool.not_true, Bool.not_false, Int.not_lt, Int.not_le] at ph2
      refine W.seq ?_
      refine W.region ?_
      refine L.op1 rfl rfl (GSpec.plain rfl (spec_eql rfl (Get.tmp rfl) (Get.cint rfl))) ?_
      refine L.op1 rfl rfl (GSpec.plain rfl (spec_assign rfl (Get.tmp rfl))) ?_
      refine L.nil ?_
      refine N.thenW ?_
      refine W.keep (.cons (t := 6) rfl (.cons (t := 7) rfl (.cons (t := 8) rfl (.cons (t := 9) rfl (.cons (t := 19) rfl (.cons (t := 33) rfl .nil)))))) .refl ?_
      refine W.cond (Get.tmp rfl) (fun h3 => ?_) (fun h3 => ?_)
      · have ph3 := h3; try simp only [decide_eq_true_eq, decide_eq_false_iff_not, Bool.and_eq_true, Bool.or_eq_true, Bool.and_eq_false_iff, Bool.or_eq_false_iff, Bool.not_eq_true', Bool.not_eq_false', Bool.not_true, Bool.not_false, Int.not_lt, Int.not_le] at ph3
        refine W.seq ?_
        refine W.region ?_
        refine L.op1 rfl rfl (GSpec.plain rfl (spec_move rfl (Get.tmp rfl))) ?_
        refine L.op1 rfl rfl (GSpec.plain rfl (spec_callG (k := 1) rfl Tryz.call14 rfl (counter_ok _ (by omega)) (.cons (Get.tmp rfl) .nil))) ?_
        refine L.op1 rfl rfl (GSpec.plain rfl (spec_extract rfl (Get.tmp rfl) rfl)) ?_
        refine L.op1 rfl rfl (GSpec.plain rfl (spec_extract rfl (Get.tmp rfl) rfl)) ?_
        refine L.storeW (k := 0) rfl rfl rfl Tryz.sizeOf27 (Get.tmp rfl) (Get.tmp rfl) rfl rfl rfl ?_
        refine L.op1 rfl rfl (GSpec.plain rfl (spec_assign rfl (Get.tmp rfl))) ?_
        refine L.nil ?_
        refine N.thenW ?_
        refine W.keep (.cons (t := 6) rfl (.cons (t := 7) rfl (.cons (t := 8) rfl .nil))) .refl ?_
        refine W.ret ?_
        refine N.ret () rfl (.cellA (k := 0) (Get.tmp (t := 6) rfl) rfl Tryz.isAgg27 Tryz.sizeOf27 rfl (.tmp (t := 7) (Get.tmp rfl) .nil)) (res2w (eqA ?_) (eqI ?_)) .nil (fun _ _ h => h)
        all_goals first | rfl | (unfold pickD; simp_all)
      · have ph3 := h3; try simp only [decide_eq_true_eq, decide_eq_false_iff_not, Bool.and_eq_true, Bool.or_eq_true, Bool.and_eq_false_iff, Bool.or_eq_false_iff, Bool.not_eq_true', Bool.not_eq_false', Bool.not_true, Bool.not_false, Int.not_lt, Int.not_le] at ph3
        refine W.seq ?_
        refine W.region ?_
        refine L.op1 rfl rfl (GSpec.plain rfl (spec_eql rfl (Get.tmp rfl) (Get.cint rfl))) ?_
        refine L.op1 rfl rfl (GSpec.plain rfl (spec_assign rfl (Get.tmp rfl))) ?_
        refine L.nil ?_
        refine N.thenW ?_
        refine W.cond (Get.tmp rfl) (fun h4 => ?_) (fun h4 => ?_)
        · have ph4 := h4; try simp only [decide_eq_true_eq, decide_eq_false_iff_not, Bool.and_eq_true, Bool.or_eq_true, Bool.and_eq_false_iff, Bool.or_eq_false_iff, Bool.not_eq_true', Bool.not_eq_false', Bool.not_true, Bool.not_false, Int.not_lt, Int.not_le] at ph4
          refine W.seq ?_
          refine W.region ?_
          refine L.op1 rfl rfl (GSpec.plain rfl (spec_move rfl (Get.tmp rfl))) ?_
          refine L.op1 rfl rfl (GSpec.plain rfl (spec_move rfl (Get.tmp rfl))) ?_
          refine L.op1 rfl rfl (GSpec.plain rfl (spec_callG (k := 1) rfl Tryz.call16 rfl (delay_ok _ _ (by omega) (by omega)) (.cons (Get.tmp rfl) (.cons (Get.tmp rfl) .nil)))) ?_
          refine L.op1 rfl rfl (GSpec.plain rfl (spec_extract rfl (Get.tmp rfl) rfl)) ?_
          refine L.op1 rfl rfl (GSpec.plain rfl (spec_extract rfl (Get.tmp rfl) rfl)) ?_
          refine L.storeW (k := 0) rfl rfl rfl Tryz.sizeOf27 (Get.tmp rfl) (Get.tmp rfl) rfl rfl rfl ?_
          refine L.op1 rfl rfl (GSpec.plain rfl (spec_assign rfl (Get.tmp rfl))) ?_
          refine L.nil ?_
          refine N.thenW ?_
          refine W.keep (.cons (t := 6) rfl (.cons (t := 7) rfl (.cons (t := 8) rfl .nil))) .refl ?_
          refine W.ret ?_
          refine N.ret () rfl (.cellA (k := 0) (Get.tmp (t := 6) rfl) rfl Tryz.isAgg27 Tryz.sizeOf27 rfl (.tmp (t := 7) (Get.tmp rfl) .nil)) (res2w (eqA ?_) (eqI ?_)) .nil (fun _ _ h => h)
          all_goals first | rfl | (unfold pickD; simp_all)
        · have ph4 := h4; try simp only [decide_eq_true_eq, decide_eq_false_iff_not, Bool.and_eq_true, Bool.or_eq_true, Bool.and_eq_false_iff, Bool.or_eq_false_iff, Bool.not_eq_true', Bool.not_eq_false', Bool.not_true, Bool.not_false, Int.not_lt, Int.not_le] at ph4
          refine W.skip ?_
          refine N.blockNormal ?_
          refine N.thenW ?_
          refine W.seq ?_
          refine W.region ?_
          refine L.op1 rfl rfl (GSpec.plain rfl (spec_move rfl (Get.tmp rfl))) ?_
          refine L.op1 rfl rfl (GSpec.plain rfl (spec_callG (k := 1) rfl Tryz.call18 rfl (swap_ok _ (by omega)) (.cons (Get.tmp rfl) .nil))) ?_
          refine L.op1 rfl rfl (GSpec.plain rfl (spec_extract rfl (Get.tmp rfl) rfl)) ?_
          refine L.op1 rfl rfl (GSpec.plain rfl (spec_extract rfl (Get.tmp rfl) rfl)) ?_
          refine L.storeW (k := 0) rfl rfl rfl Tryz.sizeOf27 (Get.tmp rfl) (Get.tmp rfl) rfl rfl rfl ?_
          refine L.op1 rfl rfl (GSpec.plain rfl (spec_assign rfl (Get.tmp rfl))) ?_
          refine L.nil ?_
          refine N.thenW ?_
          refine W.keep (.cons (t := 6) rfl (.cons (t := 7) rfl .nil)) .refl ?_
          refine W.ret ?_
          refine N.ret () rfl (.cellA (k := 0) (Get.tmp (t := 6) rfl) rfl Tryz.isAgg27 Tryz.sizeOf27 rfl (.tmp (t := 7) (Get.tmp rfl) .nil)) (res2w (eqA ?_) (eqI ?_)) .nil (fun _ _ h => h)
          all_goals first | rfl | (unfold pickD; simp_all)

theorem ent0_ok  : CallT Tryz.prog 90 [] [spG] (.one (Rp.tuple [Rp.agg (eD (queueD 4 8)), Rp.int .i64 0])) := by
  refine W.enter (fn := Tryz.f90) (n := 5) Tryz.func90 rfl Tryz.ntmps90 rfl (fun w₀ C₀ => ?_)
  simp only [argS]
  refine W.seq ?_
  refine W.region ?_
  refine L.box rfl rfl (GSpec.plain rfl (spec_alloc rfl ti27 z27)) (fun r0 => ?_)
  refine L.op1 rfl rfl (GSpec.plain rfl (spec_assign rfl (Get.cint rfl))) ?_
  refine L.nil ?_
  refine N.thenW ?_
  refine W.seq ?_
  refine W.region ?_
  refine L.op1 rfl rfl (GSpec.plain rfl (spec_callG (k := 1) rfl Tryz.call9 rfl (queue_ok _ _ (by omega) (by omega)) (.cons (Get.cint rfl) (.cons (Get.cint rfl) .nil)))) ?_
  refine L.op1 rfl rfl (GSpec.plain rfl (spec_extract rfl (Get.tmp rfl) rfl)) ?_
  refine L.op1 rfl rfl (GSpec.plain rfl (spec_extract rfl (Get.tmp rfl) rfl)) ?_
  refine L.storeW (k := 0) rfl rfl rfl Tryz.sizeOf27 (Get.tmp rfl) (Get.tmp rfl) rfl rfl rfl ?_
  refine L.op1 rfl rfl (GSpec.plain rfl (spec_assign rfl (Get.tmp rfl))) ?_
  refine L.nil ?_
  refine N.thenW ?_
  refine W.keep (.cons (t := 0) rfl (.cons (t := 1) rfl .nil)) .refl ?_
  refine W.ret ?_
  refine N.ret () rfl (.cellA (k := 0) (Get.tmp (t := 0) rfl) rfl Tryz.isAgg27 Tryz.sizeOf27 rfl (.tmp (t := 1) (Get.tmp rfl) .nil)) (res2w (eqA ?_) (eqI ?_)) .nil (fun _ _ h => h)
  all_goals rfl

theorem ent1_ok  : CallT Tryz.prog 91 [] [spG] (.one (Rp.tuple [Rp.agg (eD (adderD 8)), Rp.int .i64 0])) := by
  refine W.enter (fn := Tryz.f91) (n := 5) Tryz.func91 rfl Tryz.ntmps91 rfl (fun w₀ C₀ => ?_)
  simp only [argS]
  refine W.seq ?_
  refine W.region ?_
  refine L.box rfl rfl (GSpec.plain rfl (spec_alloc rfl ti27 z27)) (fun r0 => ?_)
  refine L.op1 rfl rfl (GSpec.plain rfl (spec_assign rfl (Get.cint rfl))) ?_
  refine L.nil ?_
  refine N.thenW ?_
  refine W.seq ?_
  refine W.region ?_
  refine L.op1 rfl rfl (GSpec.plain rfl (spec_callG (k := 1) rfl Tryz.call12 rfl (adder_ok _ (by omega)) (.cons (Get.cint rfl) .nil))) ?_
  refine L.op1 rfl rfl (GSpec.plain rfl (spec_extract rfl (Get.tmp rfl) rfl)) ?_
  refine L.op1 rfl rfl (GSpec.plain rfl (spec_extract rfl (Get.tmp rfl) rfl)) ?_
  refine L.storeW (k := 0) rfl rfl rfl Tryz.sizeOf27 (Get.tmp rfl) (Get.tmp rfl) rfl rfl rfl ?_
  refine L.op1 rfl rfl (GSpec.plain rfl (spec_assign rfl (Get.tmp rfl))) ?_
  refine L.nil ?_
  refine N.thenW ?_
  refine W.keep (.cons (t := 0) rfl (.cons (t := 1) rfl .nil)) .refl ?_
  refine W.ret ?_
  refine N.ret () rfl (.cellA (k := 0) (Get.tmp (t := 0) rfl) rfl Tryz.isAgg27 Tryz.sizeOf27 rfl (.tmp (t := 1) (Get.tmp rfl) .nil)) (res2w (eqA ?_) (eqI ?_)) .nil (fun _ _ h => h)
  all_goals rfl

theorem ent2_ok  : CallT Tryz.prog 92 [] [spG] (.one (Rp.tuple [Rp.agg (eD (counterD 8)), Rp.int .i64 0])) := by
  refine W.enter (fn := Tryz.f92) (n := 5) Tryz.func92 rfl Tryz.ntmps92 rfl (fun w₀ C₀ => ?_)
  simp only [argS]
  refine W.seq ?_
  refine W.region ?_
  refine L.box rfl rfl (GSpec.plain rfl (spec_alloc rfl ti27 z27)) (fun r0 => ?_)
  refine L.op1 rfl rfl (GSpec.plain rfl (spec_assign rfl (Get.cint rfl))) ?_
  refine L.nil ?_
  refine N.thenW ?_
  refine W.seq ?_
  refine W.region ?_
  refine L.op1 rfl rfl (GSpec.plain rfl (spec_callG (k := 1) rfl Tryz.call14 rfl (counter_ok _ (by omega)) (.cons (Get.cint rfl) .nil))) ?_
  refine L.op1 rfl rfl (GSpec.plain rfl (spec_extract rfl (Get.tmp rfl) rfl)) ?_
  refine L.op1 rfl rfl (GSpec.plain rfl (spec_extract rfl (Get.tmp rfl) rfl)) ?_
  refine L.storeW (k := 0) rfl rfl rfl Tryz.sizeOf27 (Get.tmp rfl) (Get.tmp rfl) rfl rfl rfl ?_
  refine L.op1 rfl rfl (GSpec.plain rfl (spec_assign rfl (Get.tmp rfl))) ?_
  refine L.nil ?_
  refine N.thenW ?_
  refine W.keep (.cons (t := 0) rfl (.cons (t := 1) rfl .nil)) .refl ?_
  refine W.ret ?_
  refine N.ret () rfl (.cellA (k := 0) (Get.tmp (t := 0) rfl) rfl Tryz.isAgg27 Tryz.sizeOf27 rfl (.tmp (t := 1) (Get.tmp rfl) .nil)) (res2w (eqA ?_) (eqI ?_)) .nil (fun _ _ h => h)
  all_goals rfl

theorem ent3_ok  : CallT Tryz.prog 93 [] [spG] (.one (Rp.tuple [Rp.agg (eD (delayD 2 8)), Rp.int .i64 0])) := by
  refine W.enter (fn := Tryz.f93) (n := 5) Tryz.func93 rfl Tryz.ntmps93 rfl (fun w₀ C₀ => ?_)
  simp only [argS]
  refine W.seq ?_
  refine W.region ?_
  refine L.box rfl rfl (GSpec.plain rfl (spec_alloc rfl ti27 z27)) (fun r0 => ?_)
  refine L.op1 rfl rfl (GSpec.plain rfl (spec_assign rfl (Get.cint rfl))) ?_
  refine L.nil ?_
  refine N.thenW ?_
  refine W.seq ?_
  refine W.region ?_
  refine L.op1 rfl rfl (GSpec.plain rfl (spec_callG (k := 1) rfl Tryz.call16 rfl (delay_ok _ _ (by omega) (by omega)) (.cons (Get.cint rfl) (.cons (Get.cint rfl) .nil)))) ?_
  refine L.op1 rfl rfl (GSpec.plain rfl (spec_extract rfl (Get.tmp rfl) rfl)) ?_
  refine L.op1 rfl rfl (GSpec.plain rfl (spec_extract rfl (Get.tmp rfl) rfl)) ?_
  refine L.storeW (k := 0) rfl rfl rfl Tryz.sizeOf27 (Get.tmp rfl) (Get.tmp rfl) rfl rfl rfl ?_
  refine L.op1 rfl rfl (GSpec.plain rfl (spec_assign rfl (Get.tmp rfl))) ?_
  refine L.nil ?_
  refine N.thenW ?_
  refine W.keep (.cons (t := 0) rfl (.cons (t := 1) rfl .nil)) .refl ?_
  refine W.ret ?_
  refine N.ret () rfl (.cellA (k := 0) (Get.tmp (t := 0) rfl) rfl Tryz.isAgg27 Tryz.sizeOf27 rfl (.tmp (t := 1) (Get.tmp rfl) .nil)) (res2w (eqA ?_) (eqI ?_)) .nil (fun _ _ h => h)
  all_goals rfl

theorem ent4_ok  : CallT Tryz.prog 94 [] [spG] (.one (Rp.tuple [Rp.agg (eD (swapD 8)), Rp.int .i64 0])) := by
  refine W.enter (fn := Tryz.f94) (n := 5) Tryz.func94 rfl Tryz.ntmps94 rfl (fun w₀ C₀ => ?_)
  simp only [argS]
  refine W.seq ?_
  refine W.region ?_
  refine L.box rfl rfl (GSpec.plain rfl (spec_alloc rfl ti27 z27)) (fun r0 => ?_)
  refine L.op1 rfl rfl (GSpec.plain rfl (spec_assign rfl (Get.cint rfl))) ?_
  refine L.nil ?_
  refine N.thenW ?_
  refine W.seq ?_
  refine W.region ?_
  refine L.op1 rfl rfl (GSpec.plain rfl (spec_callG (k := 1) rfl Tryz.call18 rfl (swap_ok _ (by omega)) (.cons (Get.cint rfl) .nil))) ?_
  refine L.op1 rfl rfl (GSpec.plain rfl (spec_extract rfl (Get.tmp rfl) rfl)) ?_
  refine L.op1 rfl rfl (GSpec.plain rfl (spec_extract rfl (Get.tmp rfl) rfl)) ?_
  refine L.storeW (k := 0) rfl rfl rfl Tryz.sizeOf27 (Get.tmp rfl) (Get.tmp rfl) rfl rfl rfl ?_
  refine L.op1 rfl rfl (GSpec.plain rfl (spec_assign rfl (Get.tmp rfl))) ?_
  refine L.nil ?_
  refine N.thenW ?_
  refine W.keep (.cons (t := 0) rfl (.cons (t := 1) rfl .nil)) .refl ?_
  refine W.ret ?_
  refine N.ret () rfl (.cellA (k := 0) (Get.tmp (t := 0) rfl) rfl Tryz.isAgg27 Tryz.sizeOf27 rfl (.tmp (t := 1) (Get.tmp rfl) .nil)) (res2w (eqA ?_) (eqI ?_)) .nil (fun _ _ h => h)
  all_goals rfl

theorem entries_ok  : CallT Tryz.prog 74 [] [] (.one (Rp.agg (ents.flatMap eEn))) := by
  refine W.enter (fn := Tryz.f74) (n := 7) Tryz.func74 rfl Tryz.ntmps74 rfl (fun w₀ C₀ => ?_)
  simp only [argS]
  refine W.seq ?_
  refine W.region ?_
  refine L.box rfl rfl (GSpec.plain rfl (spec_alloc rfl ti108 z108)) (fun r0 => ?_)
  refine L.nil ?_
  refine N.thenW ?_
  refine W.seq ?_
  refine W.region ?_
  refine L.op1 rfl rfl (GSpec.plain rfl (spec_build (Rs := [_, fnG (queueD 4 8)]) rfl ti107 z107 Tryz.underlying107 pl107 (.cons (GetC.one (Get.cstr (l := [113, 117, 101, 117, 101]) rfl rfl)) rfl rfl rfl (.cons (GetC.one (Get.weak Get.clo (fnM_of_clo Tryz.call90 (fun _ => ent0_ok)))) rfl rfl rfl .nil)))) ?_
  refine L.op1 rfl rfl (GSpec.plain rfl (spec_build (Rs := [_, fnG (adderD 8)]) rfl ti107 z107 Tryz.underlying107 pl107 (.cons (GetC.one (Get.cstr (l := [97, 100, 100, 101, 114]) rfl rfl)) rfl rfl rfl (.cons (GetC.one (Get.weak Get.clo (fnM_of_clo Tryz.call91 (fun _ => ent1_ok)))) rfl rfl rfl .nil)))) ?_
  refine L.op1 rfl rfl (GSpec.plain rfl (spec_build (Rs := [_, fnG (counterD 8)]) rfl ti107 z107 Tryz.underlying107 pl107 (.cons (GetC.one (Get.cstr (l := [99, 111, 117, 110, 116, 101, 114]) rfl rfl)) rfl rfl rfl (.cons (GetC.one (Get.weak Get.clo (fnM_of_clo Tryz.call92 (fun _ => ent2_ok)))) rfl rfl rfl .nil)))) ?_
  refine L.op1 rfl rfl (GSpec.plain rfl (spec_build (Rs := [_, fnG (delayD 2 8)]) rfl ti107 z107 Tryz.underlying107 pl107 (.cons (GetC.one (Get.cstr (l := [100, 101, 108, 97, 121]) rfl rfl)) rfl rfl rfl (.cons (GetC.one (Get.weak Get.clo (fnM_of_clo Tryz.call93 (fun _ => ent3_ok)))) rfl rfl rfl .nil)))) ?_
  refine L.op1 rfl rfl (GSpec.plain rfl (spec_build (Rs := [_, fnG (swapD 8)]) rfl ti107 z107 Tryz.underlying107 pl107 (.cons (GetC.one (Get.cstr (l := [115, 119, 97, 112]) rfl rfl)) rfl rfl rfl (.cons (GetC.one (Get.weak Get.clo (fnM_of_clo Tryz.call94 (fun _ => ent4_ok)))) rfl rfl rfl .nil)))) ?_
  refine L.op1 rfl rfl (GSpec.plain rfl (spec_buildArr (Rs := [_, _, _, _, _, _, _, _, _, _]) rfl ti108 z108 Tryz.underlying108 Tryz.sizeOf107 (.cons (GetC.agg (Get.tmp rfl)) rfl rfl rfl (.cons (GetC.agg (Get.tmp rfl)) rfl rfl rfl (.cons (GetC.agg (Get.tmp rfl)) rfl rfl rfl (.cons (GetC.agg (Get.tmp rfl)) rfl rfl rfl (.cons (GetC.agg (Get.tmp rfl)) rfl rfl rfl .nil))))))) ?_
  refine L.storeW (k := 0) rfl rfl rfl Tryz.sizeOf108 (Get.tmp rfl) (Get.tmp rfl) rfl rfl rfl ?_
  refine L.nil ?_
  refine N.thenW ?_
  refine W.keep (.cons (t := 0) rfl .nil) .refl ?_
  refine W.ret ?_
  refine N.ret () rfl (.cellA (k := 0) (Get.tmp (t := 0) rfl) rfl Tryz.isAgg108 Tryz.sizeOf108 rfl .nil) (res1 (eqA ?_)) .nil (fun _ _ h => h)
  all_goals rfl

theorem get_ok (s : List UInt8) : CallT Tryz.prog 29 [Rp.str s] [spG] (.one (Rp.tuple [Rp.agg (eD (getD1 s)), Rp.int .i64 (getE1 s)])) := by
  refine W.enter (fn := Tryz.f29) (n := 21) Tryz.func29 rfl Tryz.ntmps29 rfl (fun w₀ C₀ => ?_)
  simp only [argS]
  refine W.seq ?_
  refine W.region ?_
  refine L.box rfl rfl (GSpec.plain rfl (spec_alloc rfl ti27 z27)) (fun r2 => ?_)
  refine L.op1 rfl rfl (GSpec.plain rfl (spec_assign rfl (Get.cint rfl))) ?_
  refine L.nil ?_
  refine N.thenW ?_
  refine W.seq ?_
  refine W.seq ?_
  refine W.region ?_
  refine L.op1 rfl rfl (GSpec.plain rfl (spec_call rfl Tryz.call74 (entries_ok ) .nil)) ?_
  refine L.op1 rfl rfl (GSpec.plain rfl (spec_move rfl (Get.cint rfl))) ?_
  refine L.nil ?_
  refine N.thenW ?_
  refine W.block ?_
  -- assigned in the loop, not kept: [3]
  refine W.loopK (σ := Nat) (.cons (t := 0) rfl (.cons (t := 2) rfl (.cons (t := 6) rfl .nil))) (fun z => [(7, Rp.int .i64 (z : Nat))]) (fun z => []) (fun z => z ≤ 5 ∧ ∀ j : Nat, j < z → (ents.getD j default).name ≠ s) (fun z => 5 - z) 0 ⟨Nat.zero_le _, fun j hj => by omega⟩ (.cons (t := 7) rfl .nil) (.cons 0 rfl (.cons 0 rfl .nil)) ?_
  intro i hI S' M' hS hM
  obtain ⟨hI1, hI2⟩ := hI
  try dsimp only at hS hM
  simp only [List.cons_append, List.nil_append] at hS hM
  subst hS hM
  try dsimp only
  refine W.seq ?_
  refine W.region ?_
  refine L.op1 rfl rfl (GSpec.plain rfl (spec_lss rfl (Get.tmp rfl) (Get.cint rfl))) ?_
  refine L.nil ?_
  refine N.thenW ?_
  refine W.seq ?_
  refine W.cond (Get.tmp rfl) (fun h1 => ?_) (fun h1 => ?_)
  · have ph1 := h1; try simp only [decide_eq_true_eq, decide_eq_false_iff_not, Bool.and_eq_true, Bool.or_eq_true, Bool.and_eq_false_iff, Bool.or_eq_false_iff, Bool.not_eq_true', Bool.not_eq_false', Bool.not_true, Bool.not_false, Int.not_lt, Int.not_le] at ph1
    refine W.skip ?_
    refine N.thenW ?_
    refine W.seq ?_
    refine W.block ?_
    refine W.seq ?_
    refine W.region ?_
    refine L.op1 rfl rfl (GSpec.plain rfl (spec_indexAA (E := eEn) (xs := ents) rfl Tryz.underlying108 Tryz.sizeOf107 Tryz.isAgg107 (fun _ => rfl) (Get.tmp rfl) (Get.tmp rfl) (by omega) (by decide))) ?_
    refine L.box rfl rfl (GSpec.plain rfl (spec_alloc rfl ti107 z107)) (fun r5 => ?_)
    refine L.storeW (k := 0) rfl rfl rfl Tryz.sizeOf107 (Get.tmp rfl) (Get.tmp rfl) rfl rfl rfl ?_
    refine L.nil ?_
    refine N.thenW ?_
    refine W.seq ?_
    refine W.region ?_
    refine L.op1 rfl rfl (GSpec.plain rfl (spec_fieldAddr (f := 0) (off' := 0) rfl Tryz.underlying107 rfl Tryz.sizeOf9 (Get.tmp rfl) rfl)) ?_
    refine L.op1 rfl rfl (GSpec.plain rfl (spec_load1 (k := 0) rfl Tryz.isAgg9 (Get.tmp rfl) rfl rfl)) ?_
    refine L.op1 rfl rfl (GSpec.plain rfl (spec_move rfl (Get.tmp rfl))) ?_
    refine L.op1 rfl rfl (GSpec.plain rfl (spec_eqlS rfl (Get.tmp rfl) (Get.tmp rfl))) ?_
    refine L.nil ?_
    refine N.thenW ?_
    refine W.cond (Get.tmp rfl) (fun h2 => ?_) (fun h2 => ?_)
    · have ph2 := h2; try simp only [decide_eq_true_eq, decide_eq_false_iff_not, Bool.and_eq_true, Bool.or_eq_true, Bool.and_eq_false_iff, Bool.or_eq_false_iff, Bool.not_eq_true', Bool.not_eq_false', Bool.not_true, Bool.not_false, Int.not_lt, Int.not_le] at ph2
      refine W.seq ?_
      refine W.region ?_
      refine L.op1 rfl rfl (GSpec.plain rfl (spec_fieldAddr (f := 1) (off' := 1) rfl Tryz.underlying107 rfl Tryz.sizeOf74 (Get.tmp rfl) rfl)) ?_
      refine L.op1 rfl rfl (GSpec.plain rfl (spec_load1 (k := 0) rfl Tryz.isAgg74 (Get.tmp rfl) rfl rfl)) ?_
      refine L.op1 rfl rfl (GSpec.plain rfl (spec_callFG (A := fun _ : Unit => []) (X := fun _ => .one (Rp.tuple [Rp.agg (eD (ents.getD i default).d), Rp.int .i64 0])) (k := 2) rfl rfl () rfl (Get.tmp rfl) .nil)) ?_
      refine L.op1 rfl rfl (GSpec.plain rfl (spec_extract rfl (Get.tmp rfl) rfl)) ?_
      refine L.op1 rfl rfl (GSpec.plain rfl (spec_extract rfl (Get.tmp rfl) rfl)) ?_
      refine L.storeW (k := 1) rfl rfl rfl Tryz.sizeOf27 (Get.tmp rfl) (Get.tmp rfl) rfl rfl rfl ?_
      refine L.op1 rfl rfl (GSpec.plain rfl (spec_assign rfl (Get.tmp rfl))) ?_
      refine L.nil ?_
      refine N.thenW ?_
      refine W.ret ?_
      refine N.ret () rfl (.cellA (k := 1) (Get.tmp (t := 2) rfl) rfl Tryz.isAgg27 Tryz.sizeOf27 rfl (.tmp (t := 3) (Get.tmp rfl) .nil)) (res2w (eqA ?_) (eqI ?_)) .nil (fun _ _ h => h)
      all_goals (have hg := get_yes (by omega) (by simpa using h2) hI2; first | (unfold getD1; rw [hg, if_pos (by omega)]; rfl) | (unfold getE1; rw [hg, if_pos (by omega)]))
    · have ph2 := h2; try simp only [decide_eq_true_eq, decide_eq_false_iff_not, Bool.and_eq_true, Bool.or_eq_true, Bool.and_eq_false_iff, Bool.or_eq_false_iff, Bool.not_eq_true', Bool.not_eq_false', Bool.not_true, Bool.not_false, Int.not_lt, Int.not_le] at ph2
      refine W.skip ?_
      refine N.blockNormal ?_
      refine N.thenW ?_
      refine W.region ?_
      first | refine L.op1 rfl rfl (GSpec.plain rfl (fit_i64 (by omega) (by omega) (spec_add rfl (Get.tmp rfl) (Get.cint rfl)))) ?_ | refine L.op1 rfl rfl (GSpec.plain rfl (spec_add rfl (Get.tmp rfl) (Get.cint rfl))) ?_
      refine L.op1 rfl rfl (GSpec.plain rfl (spec_move rfl (Get.tmp rfl))) ?_
      refine L.nil ?_
      refine N.roundK (i + 1) ?hI1 ?hmu1 ?hs1 ?hk1 ?hp1
      case hs1 => exact (.cons (t := 7) rfl .nil)
      case hk1 => exact (.cons (t := 0) rfl (.cons (t := 2) rfl (.cons (t := 6) rfl .nil)))
      case hp1 => exact (.cons 1 rfl (.cons 1 rfl .nil))
      case hI1 => exact ⟨by omega, upto hI2 (by simpa using h2)⟩
      case hmu1 => omega
  · have ph1 := h1; try simp only [decide_eq_true_eq, decide_eq_false_iff_not, Bool.and_eq_true, Bool.or_eq_true, Bool.and_eq_false_iff, Bool.or_eq_false_iff, Bool.not_eq_true', Bool.not_eq_false', Bool.not_true, Bool.not_false, Int.not_lt, Int.not_le] at ph1
    refine W.exit ?_
    refine N.thenExit ?_
    refine N.thenExit ?_
    refine N.blockExit ?_
    refine N.thenW ?_
    refine W.seq ?_
    refine W.region ?_
    refine L.op1 rfl rfl (GSpec.plain rfl (spec_build (Rs := [Rp.str [], Rp.slice eP [], Rp.slice eWr [], Rp.slice eRg [], Rp.slice eS []]) rfl ti27 z27 Tryz.underlying27 pl27 .nil)) ?_
    refine L.storeW (k := 0) rfl rfl rfl Tryz.sizeOf27 (Get.tmp rfl) (Get.tmp rfl) rfl rfl rfl ?_
    refine L.op1 rfl rfl (GSpec.plain rfl (spec_assign rfl (Get.cint rfl))) ?_
    refine L.nil ?_
    refine N.thenW ?_
    refine W.ret ?_
    refine N.ret () rfl (.cellA (k := 0) (Get.tmp (t := 2) rfl) rfl Tryz.isAgg27 Tryz.sizeOf27 rfl (.tmp (t := 3) (Get.tmp rfl) .nil)) (res2w (eqA ?_) (eqI ?_)) .nil (fun _ _ h => h)
    all_goals (have hg := get_no fun j hj => hI2 j (by omega); first | (unfold getD1; rw [hg]; rfl) | (unfold getE1; rw [hg]; rfl))

end Go.Proofs.YthlfacmpjehjmaaGreatDoor
set_option linter.unusedSimpArgs false
set_option maxRecDepth 8000
set_option linter.unusedVariables false
namespace Go.Proofs.YthlfacmpjehjmaaGreatDoor
open Go.Sim
theorem awake_ok  : CallT Tryz.prog 20 [] [spG] (.one (Rp.bool true)) := by
  refine W.enter (fn := Tryz.f20) (n := 86) Tryz.func20 rfl Tryz.ntmps20 rfl (fun w₀ C₀ => ?_)
  simp only [argS]
  have hgs : getD1 [115, 119, 97, 112] = swapD 8 := by kernel_rfl
  have hge : getE1 [115, 119, 97, 112] = 0 := by kernel_rfl
  obtain ⟨a1, a2, a3⟩ := awake_1
  obtain ⟨b1, b2, b3, b4, b5⟩ := awake_2
  refine W.seq ?_
  refine W.region ?_
  refine L.op1 rfl rfl (GSpec.plain rfl (spec_assign rfl Get.cbool)) ?_
  refine L.nil ?_
  refine N.thenW ?_
  refine W.seq ?_
  refine W.region ?_
  refine L.op1 rfl rfl (GSpec.plain rfl (spec_callG (k := 0) rfl Tryz.call9 rfl (queue_ok 2 8 (by omega) (by omega)) (.cons (Get.cint rfl) (.cons (Get.cint rfl) .nil)))) ?_
  refine L.op1 rfl rfl (GSpec.plain rfl (spec_move rfl (Get.tmp rfl))) ?_
  refine L.op1 rfl rfl (GSpec.plain rfl (spec_extract rfl (Get.tmp rfl) rfl)) ?_
  refine L.op1 rfl rfl (GSpec.plain rfl (spec_extract rfl (Get.tmp rfl) rfl)) ?_
  refine L.box rfl rfl (GSpec.plain rfl (spec_alloc rfl ti27 z27)) (fun r1 => ?_)
  refine L.storeW (k := 0) rfl rfl rfl Tryz.sizeOf27 (Get.tmp rfl) (Get.tmp rfl) rfl rfl rfl ?_
  refine L.op1 rfl rfl (GSpec.plain rfl (spec_assign rfl (Get.tmp rfl))) ?_
  refine L.nil ?_
  refine N.thenW ?_
  refine W.seq ?_
  refine W.region ?_
  refine L.op1 rfl rfl (GSpec.plain rfl (spec_callG (k := 1) rfl Tryz.call29 rfl (get_ok _) (.cons (Get.cstr (l := [115, 119, 97, 112]) rfl rfl) .nil))) ?_
  refine L.op1 rfl rfl (GSpec.plain rfl (spec_move rfl (Get.tmp rfl))) ?_
  refine L.op1 rfl rfl (GSpec.plain rfl (spec_extract rfl (Get.tmp rfl) rfl)) ?_
  refine L.op1 rfl rfl (GSpec.plain rfl (spec_extract rfl (Get.tmp rfl) rfl)) ?_
  refine L.box rfl rfl (GSpec.plain rfl (spec_alloc rfl ti27 z27)) (fun r3 => ?_)
  refine L.storeW (k := 0) rfl rfl rfl Tryz.sizeOf27 (Get.tmp rfl) (Get.tmp rfl) rfl rfl rfl ?_
  refine L.op1 rfl rfl (GSpec.plain rfl (spec_assign rfl (Get.tmp rfl))) ?_
  refine L.nil ?_
  refine N.thenW ?_
  rw [hgs, hge]
  refine W.keep (.cons (t := 0) rfl (.cons (t := 1) rfl (.cons (t := 2) rfl (.cons (t := 3) rfl (.cons (t := 4) rfl .nil))))) .refl ?_
  refine W.seq ?_
  refine W.seq ?_
  refine W.region ?_
  refine L.op1 rfl rfl (GSpec.plain rfl (spec_move rfl (Get.tmp rfl))) ?_
  refine L.op1 rfl rfl (GSpec.plain rfl (spec_neq rfl (Get.tmp rfl) (Get.cint rfl))) ?_
  refine L.op1 rfl rfl (GSpec.plain rfl (spec_move rfl (Get.tmp rfl))) ?_
  refine L.op1 rfl rfl (GSpec.guard rfl rfl rfl fun hg => (spec_move rfl (Get.tmp rfl))) ?_
  refine L.op1 rfl rfl (GSpec.guard rfl rfl rfl fun hg => (spec_neq rfl (Get.opt rfl hg) (Get.cint rfl))) ?_
  refine L.op1 rfl rfl (GSpec.plain rfl (spec_or rfl (Get.tmp rfl) (fun hb => (Get.opt rfl hb)))) ?_
  refine L.nil ?_
  refine N.thenW ?_
  refine W.keep (.cons (t := 0) rfl (.cons (t := 1) rfl (.cons (t := 3) rfl (.cons (t := 22) rfl .nil)))) .refl ?_
  refine W.cond (Get.tmp rfl) (fun h1 => ?_) (fun h1 => ?_)
  · exfalso; have h := h1; simp [hge] at h
  · have ph1 := h1; try simp only [decide_eq_true_eq, decide_eq_false_iff_not, Bool.and_eq_true, Bool.or_eq_true, Bool.and_eq_false_iff, Bool.or_eq_false_iff, Bool.not_eq_true', Bool.not_eq_false', Bool.not_true, Bool.not_false, Int.not_lt, Int.not_le] at ph1
    refine W.skip ?_
    refine N.thenW ?_
    refine W.seq ?_
    refine W.region ?_
    refine L.op1 rfl rfl (GSpec.plain rfl (spec_loadW (k := 1) rfl Tryz.isAgg27 Tryz.sizeOf27 (Get.tmp rfl) rfl rfl)) ?_
    refine L.op1 rfl rfl (GSpec.plain rfl (spec_build (Rs := [_, Rp.bool false, Rp.int .u8 0, Rp.int .u8 0, Rp.int .u8 0]) rfl ti56 z56 Tryz.underlying56 pl56 (.cons (GetC.one Get.cbool) rfl rfl rfl .nil))) ?_
    refine L.op1 rfl rfl (GSpec.plain rfl (spec_build (Rs := [_, Rp.bool false, Rp.int .u8 0, Rp.int .u8 0, Rp.int .u8 0]) rfl ti56 z56 Tryz.underlying56 pl56 (.cons (GetC.one Get.cbool) rfl rfl rfl .nil))) ?_
    refine L.op1 rfl rfl (GSpec.plain rfl (spec_build (Rs := [_, Rp.bool false, Rp.int .u8 0, Rp.int .u8 0, Rp.int .u8 0]) rfl ti56 z56 Tryz.underlying56 pl56 (.cons (GetC.one Get.cbool) rfl rfl rfl .nil))) ?_
    refine L.op1 rfl rfl (GSpec.plain rfl (spec_buildSliceN (xs := ([⟨true, false, 0, 0, 0⟩, ⟨true, false, 0, 0, 0⟩, ⟨true, false, 0, 0, 0⟩] : List Rw)) (E := eRw) rfl Tryz.underlying40 ti56 z56 (by first | decide | simp) rfl (.cons (GetC.agg (Get.tmp rfl)) rfl rfl rfl (.cons (GetC.agg (Get.tmp rfl)) rfl rfl rfl (.cons (GetC.agg (Get.tmp rfl)) rfl rfl rfl .nil))) rfl rfl)) ?_
    refine L.op1 rfl rfl (GSpec.plain rfl (spec_call rfl Tryz.call24 (run_ok (queueD 2 8) ([⟨true, false, 0, 0, 0⟩, ⟨true, false, 0, 0, 0⟩, ⟨true, false, 0, 0, 0⟩] : List Rw) q28) (.cons (Get.tmp rfl) (.cons (Get.tmp rfl) .nil)))) ?_
    refine L.op1 rfl rfl (GSpec.plain rfl (spec_move rfl (Get.tmp rfl))) ?_
    refine L.op1 rfl rfl (GSpec.plain rfl (spec_extract rfl (Get.tmp rfl) rfl)) ?_
    refine L.op1 rfl rfl (GSpec.plain rfl (spec_extract rfl (Get.tmp rfl) rfl)) ?_
    refine L.box rfl rfl (GSpec.plain rfl (spec_alloc rfl ti45 z45)) (fun r5 => ?_)
    refine L.storeW (k := 0) rfl rfl rfl Tryz.sizeOf45 (Get.tmp rfl) (Get.tmp rfl) rfl rfl rfl ?_
    refine L.op1 rfl rfl (GSpec.plain rfl (spec_assign rfl (Get.tmp rfl))) ?_
    refine L.nil ?_
    refine N.thenW ?_
    refine W.keep (.cons (t := 0) rfl (.cons (t := 3) rfl (.cons (t := 5) rfl (.cons (t := 6) rfl .nil)))) .refl ?_
    refine W.seq ?_
    refine W.region ?_
    refine L.op1 rfl rfl (GSpec.plain rfl (spec_loadW (k := 1) rfl Tryz.isAgg27 Tryz.sizeOf27 (Get.tmp rfl) rfl rfl)) ?_
    refine L.op1 rfl rfl (GSpec.plain rfl (spec_build (Rs := [_, _, _, Rp.int .u8 0, Rp.int .u8 0]) rfl ti56 z56 Tryz.underlying56 pl56 (.cons (GetC.one Get.cbool) rfl rfl rfl (.cons (GetC.one Get.cbool) rfl rfl rfl (.cons (GetC.one (Get.cint rfl)) rfl rfl rfl .nil))))) ?_
    refine L.op1 rfl rfl (GSpec.plain rfl (spec_build (Rs := [_, _, _, Rp.int .u8 0, Rp.int .u8 0]) rfl ti56 z56 Tryz.underlying56 pl56 (.cons (GetC.one Get.cbool) rfl rfl rfl (.cons (GetC.one Get.cbool) rfl rfl rfl (.cons (GetC.one (Get.cint rfl)) rfl rfl rfl .nil))))) ?_
    refine L.op1 rfl rfl (GSpec.plain rfl (spec_build (Rs := [Rp.bool false, _, Rp.int .u8 0, Rp.int .u8 0, Rp.int .u8 0]) rfl ti56 z56 Tryz.underlying56 pl56 (.cons (GetC.one Get.cbool) rfl rfl rfl .nil))) ?_
    refine L.op1 rfl rfl (GSpec.plain rfl (spec_build (Rs := [Rp.bool false, _, Rp.int .u8 0, Rp.int .u8 0, Rp.int .u8 0]) rfl ti56 z56 Tryz.underlying56 pl56 (.cons (GetC.one Get.cbool) rfl rfl rfl .nil))) ?_
    refine L.op1 rfl rfl (GSpec.plain rfl (spec_buildSliceN (xs := ([⟨true, true, 1, 0, 0⟩, ⟨true, true, 2, 0, 0⟩, ⟨false, true, 0, 0, 0⟩, ⟨false, true, 0, 0, 0⟩] : List Rw)) (E := eRw) rfl Tryz.underlying40 ti56 z56 (by first | decide | simp) rfl (.cons (GetC.agg (Get.tmp rfl)) rfl rfl rfl (.cons (GetC.agg (Get.tmp rfl)) rfl rfl rfl (.cons (GetC.agg (Get.tmp rfl)) rfl rfl rfl (.cons (GetC.agg (Get.tmp rfl)) rfl rfl rfl .nil)))) rfl rfl)) ?_
    refine L.op1 rfl rfl (GSpec.plain rfl (spec_call rfl Tryz.call24 (run_ok (swapD 8) ([⟨true, true, 1, 0, 0⟩, ⟨true, true, 2, 0, 0⟩, ⟨false, true, 0, 0, 0⟩, ⟨false, true, 0, 0, 0⟩] : List Rw) s8) (.cons (Get.tmp rfl) (.cons (Get.tmp rfl) .nil)))) ?_
    refine L.op1 rfl rfl (GSpec.plain rfl (spec_move rfl (Get.tmp rfl))) ?_
    refine L.op1 rfl rfl (GSpec.plain rfl (spec_extract rfl (Get.tmp rfl) rfl)) ?_
    refine L.op1 rfl rfl (GSpec.plain rfl (spec_extract rfl (Get.tmp rfl) rfl)) ?_
    refine L.box rfl rfl (GSpec.plain rfl (spec_alloc rfl ti45 z45)) (fun r7 => ?_)
    refine L.storeW (k := 0) rfl rfl rfl Tryz.sizeOf45 (Get.tmp rfl) (Get.tmp rfl) rfl rfl rfl ?_
    refine L.op1 rfl rfl (GSpec.plain rfl (spec_assign rfl (Get.tmp rfl))) ?_
    refine L.nil ?_
    refine N.thenW ?_
    refine W.keep (.cons (t := 0) rfl (.cons (t := 5) rfl (.cons (t := 6) rfl (.cons (t := 7) rfl (.cons (t := 8) rfl .nil))))) .refl ?_
    refine W.seq ?_
    refine W.region ?_
    refine L.op1 rfl rfl (GSpec.plain rfl (spec_move rfl (Get.tmp rfl))) ?_
    refine L.op1 rfl rfl (GSpec.plain rfl (spec_move rfl (Get.tmp rfl))) ?_
    refine L.op1 rfl rfl (GSpec.guard rfl rfl rfl fun hg => (spec_move rfl (Get.tmp rfl))) ?_
    refine L.op1 rfl rfl (GSpec.plain rfl (spec_and rfl (Get.tmp rfl) (fun hb => (Get.opt rfl hb)))) ?_
    refine L.op1 rfl rfl (GSpec.plain rfl (spec_move rfl (Get.tmp rfl))) ?_
    refine L.op1 rfl rfl (GSpec.guard rfl rfl rfl fun hg => (spec_loadW (k := 1) rfl Tryz.isAgg45 Tryz.sizeOf45 (Get.tmp rfl) rfl rfl)) ?_
    refine L.op1 rfl rfl (GSpec.guard rfl rfl rfl fun hg => (spec_call rfl Tryz.call25 (see_ok _ _ _ (by omega) (by omega)) (.cons (Get.opt rfl hg) (.cons (Get.cstr (l := [105, 114, 100, 121]) rfl rfl) (.cons (Get.cint rfl) .nil))))) ?_
    refine L.op1 rfl rfl (GSpec.guard rfl rfl rfl fun hg => (spec_eql rfl (Get.opt rfl hg) (Get.cint rfl))) ?_
    refine L.op1 rfl rfl (GSpec.plain rfl (spec_and rfl (Get.tmp rfl) (fun hb => (Get.opt rfl hb)))) ?_
    refine L.op1 rfl rfl (GSpec.plain rfl (spec_move rfl (Get.tmp rfl))) ?_
    refine L.op1 rfl rfl (GSpec.guard rfl rfl rfl fun hg => (spec_loadW (k := 1) rfl Tryz.isAgg45 Tryz.sizeOf45 (Get.tmp rfl) rfl rfl)) ?_
    refine L.op1 rfl rfl (GSpec.guard rfl rfl rfl fun hg => (spec_call rfl Tryz.call25 (see_ok _ _ _ (by omega) (by omega)) (.cons (Get.opt rfl hg) (.cons (Get.cstr (l := [105, 114, 100, 121]) rfl rfl) (.cons (Get.cint rfl) .nil))))) ?_
    refine L.op1 rfl rfl (GSpec.guard rfl rfl rfl fun hg => (spec_eql rfl (Get.opt rfl hg) (Get.cint rfl))) ?_
    refine L.op1 rfl rfl (GSpec.plain rfl (spec_and rfl (Get.tmp rfl) (fun hb => (Get.opt rfl hb)))) ?_
    refine L.op1 rfl rfl (GSpec.plain rfl (spec_move rfl (Get.tmp rfl))) ?_
    refine L.op1 rfl rfl (GSpec.guard rfl rfl rfl fun hg => (spec_loadW (k := 1) rfl Tryz.isAgg45 Tryz.sizeOf45 (Get.tmp rfl) rfl rfl)) ?_
    refine L.op1 rfl rfl (GSpec.guard rfl rfl rfl fun hg => (spec_call rfl Tryz.call25 (see_ok _ _ _ (by omega) (by omega)) (.cons (Get.opt rfl hg) (.cons (Get.cstr (l := [105, 114, 100, 121]) rfl rfl) (.cons (Get.cint rfl) .nil))))) ?_
    refine L.op1 rfl rfl (GSpec.guard rfl rfl rfl fun hg => (spec_eql rfl (Get.opt rfl hg) (Get.cint rfl))) ?_
    refine L.op1 rfl rfl (GSpec.plain rfl (spec_and rfl (Get.tmp rfl) (fun hb => (Get.opt rfl hb)))) ?_
    refine L.op1 rfl rfl (GSpec.plain rfl (spec_move rfl (Get.tmp rfl))) ?_
    refine L.op1 rfl rfl (GSpec.guard rfl rfl rfl fun hg => (spec_loadW (k := 0) rfl Tryz.isAgg45 Tryz.sizeOf45 (Get.tmp rfl) rfl rfl)) ?_
    refine L.op1 rfl rfl (GSpec.guard rfl rfl rfl fun hg => (spec_call rfl Tryz.call25 (see_ok _ _ _ (by omega) (by omega)) (.cons (Get.opt rfl hg) (.cons (Get.cstr (l := [111, 118]) rfl rfl) (.cons (Get.cint rfl) .nil))))) ?_
    refine L.op1 rfl rfl (GSpec.guard rfl rfl rfl fun hg => (spec_eql rfl (Get.opt rfl hg) (Get.cint rfl))) ?_
    refine L.op1 rfl rfl (GSpec.plain rfl (spec_and rfl (Get.tmp rfl) (fun hb => (Get.opt rfl hb)))) ?_
    refine L.op1 rfl rfl (GSpec.plain rfl (spec_move rfl (Get.tmp rfl))) ?_
    refine L.op1 rfl rfl (GSpec.guard rfl rfl rfl fun hg => (spec_loadW (k := 0) rfl Tryz.isAgg45 Tryz.sizeOf45 (Get.tmp rfl) rfl rfl)) ?_
    refine L.op1 rfl rfl (GSpec.guard rfl rfl rfl fun hg => (spec_call rfl Tryz.call25 (see_ok _ _ _ (by omega) (by omega)) (.cons (Get.opt rfl hg) (.cons (Get.cstr (l := [111, 118]) rfl rfl) (.cons (Get.cint rfl) .nil))))) ?_
    refine L.op1 rfl rfl (GSpec.guard rfl rfl rfl fun hg => (spec_eql rfl (Get.opt rfl hg) (Get.cint rfl))) ?_
    refine L.op1 rfl rfl (GSpec.plain rfl (spec_and rfl (Get.tmp rfl) (fun hb => (Get.opt rfl hb)))) ?_
    refine L.op1 rfl rfl (GSpec.plain rfl (spec_move rfl (Get.tmp rfl))) ?_
    refine L.op1 rfl rfl (GSpec.guard rfl rfl rfl fun hg => (spec_loadW (k := 0) rfl Tryz.isAgg45 Tryz.sizeOf45 (Get.tmp rfl) rfl rfl)) ?_
    refine L.op1 rfl rfl (GSpec.guard rfl rfl rfl fun hg => (spec_call rfl Tryz.call25 (see_ok _ _ _ (by omega) (by omega)) (.cons (Get.opt rfl hg) (.cons (Get.cstr (l := [111, 116]) rfl rfl) (.cons (Get.cint rfl) .nil))))) ?_
    refine L.op1 rfl rfl (GSpec.guard rfl rfl rfl fun hg => (spec_eql rfl (Get.opt rfl hg) (Get.cint rfl))) ?_
    refine L.op1 rfl rfl (GSpec.plain rfl (spec_and rfl (Get.tmp rfl) (fun hb => (Get.opt rfl hb)))) ?_
    refine L.op1 rfl rfl (GSpec.plain rfl (spec_move rfl (Get.tmp rfl))) ?_
    refine L.op1 rfl rfl (GSpec.guard rfl rfl rfl fun hg => (spec_loadW (k := 0) rfl Tryz.isAgg45 Tryz.sizeOf45 (Get.tmp rfl) rfl rfl)) ?_
    refine L.op1 rfl rfl (GSpec.guard rfl rfl rfl fun hg => (spec_call rfl Tryz.call25 (see_ok _ _ _ (by omega) (by omega)) (.cons (Get.opt rfl hg) (.cons (Get.cstr (l := [111, 118]) rfl rfl) (.cons (Get.cint rfl) .nil))))) ?_
    refine L.op1 rfl rfl (GSpec.guard rfl rfl rfl fun hg => (spec_eql rfl (Get.opt rfl hg) (Get.cint rfl))) ?_
    refine L.op1 rfl rfl (GSpec.plain rfl (spec_and rfl (Get.tmp rfl) (fun hb => (Get.opt rfl hb)))) ?_
    refine L.op1 rfl rfl (GSpec.plain rfl (spec_move rfl (Get.tmp rfl))) ?_
    refine L.op1 rfl rfl (GSpec.guard rfl rfl rfl fun hg => (spec_loadW (k := 0) rfl Tryz.isAgg45 Tryz.sizeOf45 (Get.tmp rfl) rfl rfl)) ?_
    refine L.op1 rfl rfl (GSpec.guard rfl rfl rfl fun hg => (spec_call rfl Tryz.call25 (see_ok _ _ _ (by omega) (by omega)) (.cons (Get.opt rfl hg) (.cons (Get.cstr (l := [111, 116]) rfl rfl) (.cons (Get.cint rfl) .nil))))) ?_
    refine L.op1 rfl rfl (GSpec.guard rfl rfl rfl fun hg => (spec_eql rfl (Get.opt rfl hg) (Get.cint rfl))) ?_
    refine L.op1 rfl rfl (GSpec.plain rfl (spec_and rfl (Get.tmp rfl) (fun hb => (Get.opt rfl hb)))) ?_
    refine L.op1 rfl rfl (GSpec.plain rfl (spec_assign rfl (Get.tmp rfl))) ?_
    refine L.nil ?_
    refine N.thenW ?_
    refine W.keep (.cons (t := 0) rfl .nil) .refl ?_
    refine W.ret ?_
    refine N.ret () rfl (.tmp (t := 0) (Get.tmp rfl) .nil) (res1 (eqB ?_)) .nil (fun _ _ h => h)
    exact awake_all

end Go.Proofs.YthlfacmpjehjmaaGreatDoor
set_option linter.unusedSimpArgs false
set_option maxRecDepth 8000
set_option linter.unusedVariables false
namespace Go.Proofs.YthlfacmpjehjmaaGreatDoor
open Go.Sim
theorem LibraryStable_ok (x : Pl) (hst : StableP (waveE (plD x) (rowsS x.rows))) : CallT Tryz.prog 5 [Rp.agg (ePl x)] [spG] (.one (Rp.bool true)) := by
  refine W.enter (fn := Tryz.f5) (n := 75) Tryz.func5 rfl Tryz.ntmps5 rfl (fun w₀ C₀ => ?_)
  simp only [argS]
  refine W.fact 0 rfl pl_fact fun hpf => ?_
  simp only [InR] at hpf
  have hq : DsQ (plD x) := pick_q (by omega) (by omega) (by omega)
  have hwl := wave_len (plD x) (rowsS x.rows)
  have hrl := rowsS_len x.rows
  refine W.seq ?_
  refine W.region ?_
  refine L.box rfl rfl (GSpec.plain rfl (spec_box rfl (GetC.agg (Get.tmp rfl)))) (fun r1 => ?_)
  refine L.op1 rfl rfl (GSpec.plain rfl (spec_assign rfl Get.cbool)) ?_
  refine L.nil ?_
  refine N.thenW ?_
  refine W.seq ?_
  refine W.region ?_
  refine L.op1 rfl rfl (GSpec.plain rfl (spec_fieldAddr (f := 0) (off' := 0) rfl Tryz.underlying42 rfl Tryz.sizeOf5 (Get.tmp rfl) rfl)) ?_
  refine L.op1 rfl rfl (GSpec.plain rfl (spec_load1 (k := 0) rfl Tryz.isAgg5 (Get.tmp rfl) rfl rfl)) ?_
  refine L.op1 rfl rfl (GSpec.plain rfl (spec_fieldAddr (f := 1) (off' := 1) rfl Tryz.underlying42 rfl Tryz.sizeOf5 (Get.tmp rfl) rfl)) ?_
  refine L.op1 rfl rfl (GSpec.plain rfl (spec_load1 (k := 0) rfl Tryz.isAgg5 (Get.tmp rfl) rfl rfl)) ?_
  refine L.op1 rfl rfl (GSpec.plain rfl (spec_fieldAddr (f := 2) (off' := 2) rfl Tryz.underlying42 rfl Tryz.sizeOf5 (Get.tmp rfl) rfl)) ?_
  refine L.op1 rfl rfl (GSpec.plain rfl (spec_load1 (k := 0) rfl Tryz.isAgg5 (Get.tmp rfl) rfl rfl)) ?_
  refine L.op1 rfl rfl (GSpec.plain rfl (spec_callG (k := 1) rfl Tryz.call21 rfl (pick_ok x.kind x.n x.width) (.cons (Get.tmp rfl) (.cons (Get.tmp rfl) (.cons (Get.tmp rfl) .nil))))) ?_
  refine L.op1 rfl rfl (GSpec.plain rfl (spec_move rfl (Get.tmp rfl))) ?_
  refine L.op1 rfl rfl (GSpec.plain rfl (spec_extract rfl (Get.tmp rfl) rfl)) ?_
  refine L.op1 rfl rfl (GSpec.plain rfl (spec_extract rfl (Get.tmp rfl) rfl)) ?_
  refine L.box rfl rfl (GSpec.plain rfl (spec_alloc rfl ti27 z27)) (fun r3 => ?_)
  refine L.storeW (k := 0) rfl rfl rfl Tryz.sizeOf27 (Get.tmp rfl) (Get.tmp rfl) rfl rfl rfl ?_
  refine L.op1 rfl rfl (GSpec.plain rfl (spec_assign rfl (Get.tmp rfl))) ?_
  refine L.nil ?_
  refine N.thenW ?_
  refine W.keep (.cons (t := 1) rfl (.cons (t := 2) rfl (.cons (t := 3) rfl (.cons (t := 4) rfl .nil)))) .refl ?_
  refine W.seq ?_
  refine W.region ?_
  refine L.op1 rfl rfl (GSpec.plain rfl (spec_loadW (k := 0) rfl Tryz.isAgg27 Tryz.sizeOf27 (Get.tmp rfl) rfl rfl)) ?_
  refine L.op1 rfl rfl (GSpec.plain rfl (spec_fieldAddr (f := 3) (off' := 3) rfl Tryz.underlying42 rfl Tryz.sizeOf40 (Get.tmp rfl) rfl)) ?_
  refine L.op1 rfl rfl (GSpec.plain rfl (spec_load1 (k := 1) rfl Tryz.isAgg40 (Get.tmp rfl) rfl rfl)) ?_
  refine L.op1 rfl rfl (GSpec.plain rfl (spec_call rfl Tryz.call24 (run_ok (plD x) _ hq) (.cons (Get.tmp rfl) (.cons (Get.tmp rfl) .nil)))) ?_
  refine L.op1 rfl rfl (GSpec.plain rfl (spec_move rfl (Get.tmp rfl))) ?_
  refine L.op1 rfl rfl (GSpec.plain rfl (spec_extract rfl (Get.tmp rfl) rfl)) ?_
  refine L.op1 rfl rfl (GSpec.plain rfl (spec_extract rfl (Get.tmp rfl) rfl)) ?_
  refine L.box rfl rfl (GSpec.plain rfl (spec_alloc rfl ti45 z45)) (fun r5 => ?_)
  refine L.storeW (k := 0) rfl rfl rfl Tryz.sizeOf45 (Get.tmp rfl) (Get.tmp rfl) rfl rfl rfl ?_
  refine L.op1 rfl rfl (GSpec.plain rfl (spec_assign rfl (Get.tmp rfl))) ?_
  refine L.nil ?_
  refine N.thenW ?_
  refine W.keep (.cons (t := 2) rfl (.cons (t := 4) rfl (.cons (t := 5) rfl (.cons (t := 6) rfl .nil)))) .refl ?_
  refine W.seq ?_
  refine W.seq ?_
  refine W.region ?_
  refine L.op1 rfl rfl (GSpec.plain rfl (spec_move rfl (Get.tmp rfl))) ?_
  refine L.op1 rfl rfl (GSpec.plain rfl (spec_neq rfl (Get.tmp rfl) (Get.cint rfl))) ?_
  refine L.op1 rfl rfl (GSpec.plain rfl (spec_move rfl (Get.tmp rfl))) ?_
  refine L.op1 rfl rfl (GSpec.guard rfl rfl rfl fun hg => (spec_move rfl (Get.tmp rfl))) ?_
  refine L.op1 rfl rfl (GSpec.guard rfl rfl rfl fun hg => (spec_not rfl (Get.opt rfl hg))) ?_
  refine L.op1 rfl rfl (GSpec.plain rfl (spec_or rfl (Get.tmp rfl) (fun hb => (Get.opt rfl hb)))) ?_
  refine L.nil ?_
  refine N.thenW ?_
  refine W.keep (.cons (t := 2) rfl (.cons (t := 5) rfl (.cons (t := 30) rfl .nil))) .refl ?_
  refine W.cond (Get.tmp rfl) (fun h1 => ?_) (fun h1 => ?_)
  · exfalso; have h := h1; simp at h
  · have ph1 := h1; try simp only [decide_eq_true_eq, decide_eq_false_iff_not, Bool.and_eq_true, Bool.or_eq_true, Bool.and_eq_false_iff, Bool.or_eq_false_iff, Bool.not_eq_true', Bool.not_eq_false', Bool.not_true, Bool.not_false, Int.not_lt, Int.not_le] at ph1
    refine W.skip ?_
    refine N.thenW ?_
    refine W.seq ?_
    refine W.seq ?_
    refine W.region ?_
    refine L.op1 rfl rfl (GSpec.plain rfl (spec_assign rfl (Get.cint rfl))) ?_
    refine L.nil ?_
    refine N.thenW ?_
    refine W.block ?_
    -- assigned in the loop, not kept: [2]
    refine W.loopK (σ := Nat) (.cons (t := 5) rfl .nil) (fun z => [(7, Rp.int .i64 (z : Nat))]) (fun z => []) (fun z => 1 ≤ z) (fun z => (waveE (plD x) (rowsS x.rows)).rows.length - z) 1 (Nat.le_refl _) (.cons (t := 7) rfl .nil) (.cons 0 rfl (.cons 0 rfl (.cons 0 rfl (.cons 0 rfl .nil)))) ?_
    intro i hI S' M' hS hM
    try dsimp only at hS hM
    simp only [List.cons_append, List.nil_append] at hS hM
    subst hS hM
    try dsimp only
    refine W.seq ?_
    refine W.seq ?_
    refine W.region ?_
    refine L.op1 rfl rfl (GSpec.plain rfl (spec_move rfl (Get.tmp rfl))) ?_
    refine L.op1 rfl rfl (GSpec.plain rfl (spec_fieldAddr (f := 1) (off' := 1) rfl Tryz.underlying45 rfl Tryz.sizeOf43 (Get.tmp rfl) rfl)) ?_
    refine L.op1 rfl rfl (GSpec.plain rfl (spec_load1 (k := 0) rfl Tryz.isAgg43 (Get.tmp rfl) rfl rfl)) ?_
    refine L.op1 rfl rfl (GSpec.plain rfl (spec_len rfl Tryz.underlying43 (Get.tmp rfl))) ?_
    refine L.op1 rfl rfl (GSpec.plain rfl (spec_lss rfl (Get.tmp rfl) (Get.tmp rfl))) ?_
    refine L.nil ?_
    refine N.thenW ?_
    refine W.cond (Get.tmp rfl) (fun h2 => ?_) (fun h2 => ?_)
    · have ph2 := h2; try simp only [decide_eq_true_eq, decide_eq_false_iff_not, Bool.and_eq_true, Bool.or_eq_true, Bool.and_eq_false_iff, Bool.or_eq_false_iff, Bool.not_eq_true', Bool.not_eq_false', Bool.not_true, Bool.not_false, Int.not_lt, Int.not_le] at ph2
      refine W.skip ?_
      refine N.thenW ?_
      refine W.seq ?_
      refine W.block ?_
      refine W.seq ?_
      refine W.seq ?_
      refine W.region ?_
      refine L.op1 rfl rfl (GSpec.plain rfl (spec_loadW (k := 0) rfl Tryz.isAgg45 Tryz.sizeOf45 (Get.tmp rfl) rfl rfl)) ?_
      refine L.op1 rfl rfl (GSpec.plain rfl (spec_move rfl (Get.tmp rfl))) ?_
      first | refine L.op1 rfl rfl (GSpec.plain rfl (fit_i64 (by omega) (by omega) (spec_sub rfl (Get.tmp rfl) (Get.cint rfl)))) ?_ | refine L.op1 rfl rfl (GSpec.plain rfl (spec_sub rfl (Get.tmp rfl) (Get.cint rfl))) ?_
      refine L.op1 rfl rfl (GSpec.plain rfl (spec_call rfl Tryz.call25 (see_ok _ _ _ (by omega) (by omega)) (.cons (Get.tmp rfl) (.cons (Get.cstr (l := [111, 118]) rfl rfl) (.cons (Get.tmp rfl) .nil))))) ?_
      refine L.op1 rfl rfl (GSpec.plain rfl (spec_eql rfl (Get.tmp rfl) (Get.cint rfl))) ?_
      refine L.op1 rfl rfl (GSpec.plain rfl (spec_move rfl (Get.tmp rfl))) ?_
      refine L.op1 rfl rfl (GSpec.guard rfl rfl rfl fun hg => (spec_loadW (k := 0) rfl Tryz.isAgg45 Tryz.sizeOf45 (Get.tmp rfl) rfl rfl)) ?_
      refine L.op1 rfl rfl (GSpec.guard rfl rfl rfl fun hg => (spec_move rfl (Get.tmp rfl))) ?_
      first | refine L.op1 rfl rfl (GSpec.guard rfl rfl rfl fun hg => (fit_i64 (by (first | omega | (simp only [Int.toNat_natCast]; omega))) (by (first | omega | (simp only [Int.toNat_natCast]; omega))) (spec_sub rfl (Get.opt rfl hg) (Get.cint rfl)))) ?_ | refine L.op1 rfl rfl (GSpec.guard rfl rfl rfl fun hg => (spec_sub rfl (Get.opt rfl hg) (Get.cint rfl))) ?_
      refine L.op1 rfl rfl (GSpec.guard rfl rfl rfl fun hg => (spec_call rfl Tryz.call25 (see_ok _ _ _ (by omega) (by omega)) (.cons (Get.opt rfl hg) (.cons (Get.cstr (l := [111, 114, 100, 121]) rfl rfl) (.cons (Get.opt rfl hg) .nil))))) ?_
      refine L.op1 rfl rfl (GSpec.guard rfl rfl rfl fun hg => (spec_eql rfl (Get.opt rfl hg) (Get.cint rfl))) ?_
      refine L.op1 rfl rfl (GSpec.plain rfl (spec_or rfl (Get.tmp rfl) (fun hb => (Get.opt rfl hb)))) ?_
      refine L.nil ?_
      refine N.thenW ?_
      refine W.cond (Get.tmp rfl) (fun h3 => ?_) (fun h3 => ?_)
      · have ph3 := h3; try simp only [decide_eq_true_eq, decide_eq_false_iff_not, Bool.and_eq_true, Bool.or_eq_true, Bool.and_eq_false_iff, Bool.or_eq_false_iff, Bool.not_eq_true', Bool.not_eq_false', Bool.not_true, Bool.not_false, Int.not_lt, Int.not_le] at ph3
        refine W.exit ?_
        refine N.thenExit ?_
        refine N.blockExit ?_
        refine N.thenW ?_
        refine W.region ?_
        refine L.op1 rfl rfl (GSpec.plain rfl (spec_move rfl (Get.tmp rfl))) ?_
        first | refine L.op1 rfl rfl (GSpec.plain rfl (fit_i64 (by omega) (by omega) (spec_add rfl (Get.tmp rfl) (Get.cint rfl)))) ?_ | refine L.op1 rfl rfl (GSpec.plain rfl (spec_add rfl (Get.tmp rfl) (Get.cint rfl))) ?_
        refine L.op1 rfl rfl (GSpec.plain rfl (spec_assign rfl (Get.tmp rfl))) ?_
        refine L.nil ?_
        refine N.roundK (i + 1) ?hI1 ?hmu1 ?hs1 ?hk1 ?hp1
        case hs1 => exact (.cons (t := 7) rfl .nil)
        case hk1 => exact (.cons (t := 5) rfl .nil)
        case hp1 => exact (.cons 0 rfl (.cons 0 rfl (.cons 0 rfl (.cons 0 rfl .nil))))
        all_goals (first | rfl | trivial | omega | (simp_all; done))
      · have h49 := h3
        refine W.skip ?_
        refine N.thenW ?_
        refine W.seq ?_
        apply W.any 24 mixed (by kernel_rfl)
        · apply Head.one rfl rfl (GSpec.plain rfl (spec_loadW (k := 0) rfl Tryz.isAgg45 Tryz.sizeOf45 (Get.tmp rfl) rfl rfl))
          apply Head.one rfl rfl (GSpec.plain rfl (spec_move rfl (Get.tmp rfl)))
          apply Head.one rfl rfl (GSpec.plain rfl (spec_call rfl Tryz.call25 (see_ok _ _ _ (by omega) (by omega)) (.cons (Get.tmp rfl) (.cons (Get.cstr (l := [111, 118]) rfl rfl) (.cons (Get.tmp rfl) .nil)))))
          apply Head.one rfl rfl (GSpec.plain rfl (spec_eql rfl (Get.tmp rfl) (Get.cint rfl)))
          apply Head.one rfl rfl (GSpec.plain rfl (spec_move rfl (Get.tmp rfl)))
          apply Head.one rfl rfl (GSpec.guard rfl rfl rfl fun hg => (spec_loadW (k := 0) rfl Tryz.isAgg45 Tryz.sizeOf45 (Get.tmp rfl) rfl rfl))
          apply Head.one rfl rfl (GSpec.guard rfl rfl rfl fun hg => (spec_move rfl (Get.tmp rfl)))
          apply Head.one rfl rfl (GSpec.guard rfl rfl rfl fun hg => (spec_call rfl Tryz.call25 (see_ok _ _ _ (by omega) (by omega)) (.cons (Get.opt rfl hg) (.cons (Get.cstr (l := [111, 116]) rfl rfl) (.cons (Get.opt rfl hg) .nil)))))
          apply Head.one rfl rfl (GSpec.guard rfl rfl rfl fun hg => (spec_loadW (k := 0) rfl Tryz.isAgg45 Tryz.sizeOf45 (Get.tmp rfl) rfl rfl))
          apply Head.one rfl rfl (GSpec.guard rfl rfl rfl fun hg => (spec_move rfl (Get.tmp rfl)))
          first | apply Head.one rfl rfl (GSpec.guard rfl rfl rfl fun hg => (fit_i64 (by (first | omega | (simp only [Int.toNat_natCast]; omega))) (by (first | omega | (simp only [Int.toNat_natCast]; omega))) (spec_sub rfl (Get.opt rfl hg) (Get.cint rfl)))) | apply Head.one rfl rfl (GSpec.guard rfl rfl rfl fun hg => (spec_sub rfl (Get.opt rfl hg) (Get.cint rfl)))
          apply Head.one rfl rfl (GSpec.guard rfl rfl rfl fun hg => (spec_call rfl Tryz.call25 (see_ok _ _ _ (by omega) (by omega)) (.cons (Get.opt rfl hg) (.cons (Get.cstr (l := [111, 116]) rfl rfl) (.cons (Get.opt rfl hg) .nil)))))
          apply Head.one rfl rfl (GSpec.guard rfl rfl rfl fun hg => (spec_neq rfl (Get.opt rfl hg) (Get.opt rfl hg)))
          apply Head.one rfl rfl (GSpec.plain rfl (spec_or rfl (Get.tmp rfl) (fun hb => (Get.opt rfl hb))))
          apply Head.one rfl rfl (GSpec.plain rfl (spec_move rfl (Get.tmp rfl)))
          apply Head.one rfl rfl (GSpec.guard rfl rfl rfl fun hg => (spec_loadW (k := 0) rfl Tryz.isAgg45 Tryz.sizeOf45 (Get.tmp rfl) rfl rfl))
          apply Head.one rfl rfl (GSpec.guard rfl rfl rfl fun hg => (spec_move rfl (Get.tmp rfl)))
          apply Head.one rfl rfl (GSpec.guard rfl rfl rfl fun hg => (spec_call rfl Tryz.call25 (see_ok _ _ _ (by omega) (by omega)) (.cons (Get.opt rfl hg) (.cons (Get.cstr (l := [111, 97]) rfl rfl) (.cons (Get.opt rfl hg) .nil)))))
          apply Head.one rfl rfl (GSpec.guard rfl rfl rfl fun hg => (spec_loadW (k := 0) rfl Tryz.isAgg45 Tryz.sizeOf45 (Get.tmp rfl) rfl rfl))
          apply Head.one rfl rfl (GSpec.guard rfl rfl rfl fun hg => (spec_move rfl (Get.tmp rfl)))
          first | apply Head.one rfl rfl (GSpec.guard rfl rfl rfl fun hg => (fit_i64 (by (first | omega | (simp only [Int.toNat_natCast]; omega))) (by (first | omega | (simp only [Int.toNat_natCast]; omega))) (spec_sub rfl (Get.opt rfl hg) (Get.cint rfl)))) | apply Head.one rfl rfl (GSpec.guard rfl rfl rfl fun hg => (spec_sub rfl (Get.opt rfl hg) (Get.cint rfl)))
          apply Head.one rfl rfl (GSpec.guard rfl rfl rfl fun hg => (spec_call rfl Tryz.call25 (see_ok _ _ _ (by omega) (by omega)) (.cons (Get.opt rfl hg) (.cons (Get.cstr (l := [111, 97]) rfl rfl) (.cons (Get.opt rfl hg) .nil)))))
          apply Head.one rfl rfl (GSpec.guard rfl rfl rfl fun hg => (spec_neq rfl (Get.opt rfl hg) (Get.opt rfl hg)))
          apply Head.one rfl rfl (GSpec.plain rfl (spec_or rfl (Get.tmp rfl) (fun hb => (Get.opt rfl hb))))
          exact Head.nil
        refine Fin.one ?_
        refine Fin.one ?_
        refine Fin.one ?_
        refine Fin.one ?_
        refine Fin.one ?_
        refine Fin.one ?_
        refine Fin.one ?_
        refine Fin.one ?_
        refine Fin.one ?_
        refine Fin.one ?_
        refine Fin.one ?_
        refine Fin.one ?_
        refine Fin.one ?_
        refine Fin.one ?_
        refine Fin.one ?_
        refine Fin.one ?_
        refine Fin.one ?_
        refine Fin.one ?_
        refine Fin.one ?_
        refine Fin.one ?_
        refine Fin.one ?_
        refine Fin.one ?_
        refine Fin.one ?_
        refine Fin.one ?_
        refine Fin.nil ?_
        refine L.nil ?_
        refine N.thenW ?_
        refine W.cond (Get.tmp rfl) (fun h4 => ?_) (fun h4 => ?_)
        · exfalso; have h := h4; have h49' := h49; simp only [Bool.or_eq_false_iff, decide_eq_false_iff_not] at h49'; have hz := hst i (by omega) (by omega) h49'.1 h49'.2; simp only [Bool.or_eq_true, decide_eq_true_eq, Bool.not_eq_true', decide_eq_false_iff_not] at h; rcases h with (h | h) | h; exact hz.1 h; exact h hz.2.1; exact h hz.2.2
        · have ph4 := h4; try simp only [decide_eq_true_eq, decide_eq_false_iff_not, Bool.and_eq_true, Bool.or_eq_true, Bool.and_eq_false_iff, Bool.or_eq_false_iff, Bool.not_eq_true', Bool.not_eq_false', Bool.not_true, Bool.not_false, Int.not_lt, Int.not_le] at ph4
          refine W.skip ?_
          refine N.blockNormal ?_
          refine N.thenW ?_
          refine W.region ?_
          refine L.op1 rfl rfl (GSpec.plain rfl (spec_move rfl (Get.tmp rfl))) ?_
          first | refine L.op1 rfl rfl (GSpec.plain rfl (fit_i64 (by omega) (by omega) (spec_add rfl (Get.tmp rfl) (Get.cint rfl)))) ?_ | refine L.op1 rfl rfl (GSpec.plain rfl (spec_add rfl (Get.tmp rfl) (Get.cint rfl))) ?_
          refine L.op1 rfl rfl (GSpec.plain rfl (spec_assign rfl (Get.tmp rfl))) ?_
          refine L.nil ?_
          refine N.roundK (i + 1) ?hI2 ?hmu2 ?hs2 ?hk2 ?hp2
          case hs2 => exact (.cons (t := 7) rfl .nil)
          case hk2 => exact (.cons (t := 5) rfl .nil)
          case hp2 => exact (.cons 0 rfl (.cons 0 rfl (.cons 0 rfl (.cons 0 rfl .nil))))
          all_goals (first | rfl | trivial | omega | (simp_all; done))
    · have ph2 := h2; try simp only [decide_eq_true_eq, decide_eq_false_iff_not, Bool.and_eq_true, Bool.or_eq_true, Bool.and_eq_false_iff, Bool.or_eq_false_iff, Bool.not_eq_true', Bool.not_eq_false', Bool.not_true, Bool.not_false, Int.not_lt, Int.not_le] at ph2
      refine W.exit ?_
      refine N.thenExit ?_
      refine N.thenExit ?_
      refine N.blockExit ?_
      refine N.thenW ?_
      refine W.keep .nil .refl ?_
      refine W.seq ?_
      refine W.region ?_
      refine L.op1 rfl rfl (GSpec.plain rfl (spec_callG (k := 3) rfl Tryz.call20 rfl (awake_ok ) .nil)) ?_
      refine L.op1 rfl rfl (GSpec.plain rfl (spec_assign rfl (Get.tmp rfl))) ?_
      refine L.nil ?_
      refine N.thenW ?_
      refine W.ret ?_
      refine N.ret () rfl (.tmp (t := 2) (Get.tmp rfl) .nil) (res1 (eqB ?_)) .nil (fun _ _ h => h)
      rfl

end Go.Proofs.YthlfacmpjehjmaaGreatDoor
/- The law Stable, of the program. -/
namespace Go.Proofs.YthlfacmpjehjmaaGreatDoor
open Go.Sim
theorem stable_law (x : Pl) : CallT Tryz.prog 5 [Rp.agg (ePl x)] [spG] (.one (Rp.bool true)) := LibraryStable_ok x (stable_all x)
end Go.Proofs.YthlfacmpjehjmaaGreatDoor
set_option linter.unusedSimpArgs false
set_option maxRecDepth 8000
set_option linter.unusedVariables false
namespace Go.Proofs.YthlfacmpjehjmaaGreatDoor
open Go.Sim
theorem transfers_ok (w : Wv) (kind width : Int) (hwl : w.rows.length ≤ 60) : CallT Tryz.prog 26 [Rp.agg (eWv w), Rp.int .u8 kind, Rp.int .i64 width] [] (.one (Rp.tuple [Rp.slice eI2 (outE w w.rows.length), Rp.slice eI2 (inE w kind width w.rows.length)])) := by
  refine W.enter (fn := Tryz.f26) (n := 77) Tryz.func26 rfl Tryz.ntmps26 rfl (fun w₀ C₀ => ?_)
  simp only [argS]
  refine W.seq ?_
  refine W.region ?_
  refine L.box rfl rfl (GSpec.plain rfl (spec_box rfl (GetC.agg (Get.tmp rfl)))) (fun r3 => ?_)
  refine L.op1 rfl rfl (GSpec.plain rfl (spec_assign rfl (Get.cnil (E := eI2)))) ?_
  refine L.op1 rfl rfl (GSpec.plain rfl (spec_assign rfl (Get.cnil (E := eI2)))) ?_
  refine L.nil ?_
  refine N.thenW ?_
  refine W.seq ?_
  refine W.region ?_
  refine L.op1 rfl rfl (GSpec.plain rfl (spec_assign rfl Get.cval)) ?_
  refine L.op1 rfl rfl (GSpec.plain rfl (spec_assign rfl Get.cval)) ?_
  refine L.nil ?_
  refine N.thenW ?_
  refine W.nil 54 2 eI2 ?_
  refine W.nil 54 2 eI2 ?_
  refine W.seq ?_
  refine W.seq ?_
  refine W.region ?_
  refine L.op1 rfl rfl (GSpec.plain rfl (spec_fieldAddr (f := 1) (off' := 1) rfl Tryz.underlying45 rfl Tryz.sizeOf43 (Get.tmp rfl) rfl)) ?_
  refine L.op1 rfl rfl (GSpec.plain rfl (spec_load1 (k := 2) rfl Tryz.isAgg43 (Get.tmp rfl) rfl rfl)) ?_
  refine L.op1 rfl rfl (GSpec.plain rfl (spec_len rfl Tryz.underlying43 (Get.tmp rfl))) ?_
  refine L.op1 rfl rfl (GSpec.plain rfl (spec_move rfl (Get.cint rfl))) ?_
  refine L.nil ?_
  refine N.thenW ?_
  refine W.block ?_
  refine W.loopK (σ := Nat × Value × Value) (.cons (t := 1) rfl (.cons (t := 2) rfl (.cons (t := 3) rfl (.cons (t := 6) rfl (.cons (t := 7) rfl (.cons (t := 14) rfl .nil)))))) (fun z => [(15, Rp.int .i64 (z.1 : Nat)), (8, Rp.val z.2.1), (9, Rp.val z.2.2)]) (fun z => [MF.osl z.2.1 54 2 eI2 (inE w kind width z.1), MF.osl z.2.2 54 2 eI2 (outE w z.1)]) (fun z => z.1 ≤ w.rows.length) (fun z => w.rows.length - z.1) (0, (.slice none 0 0), (.slice none 0 0)) (Nat.zero_le _) (.cons (t := 15) rfl (.cons (t := 8) rfl (.cons (t := 9) rfl .nil))) (.cons 1 rfl (.cons 0 rfl (.cons 0 rfl .nil))) ?_
  intro ⟨t, vi, vo⟩ hI S' M' hS hM
  try dsimp only at hS hM
  simp only [List.cons_append, List.nil_append] at hS hM
  subst hS hM
  try dsimp only
  try dsimp only at hI
  refine W.seq ?_
  refine W.region ?_
  refine L.op1 rfl rfl (GSpec.plain rfl (spec_lss rfl (Get.tmp rfl) (Get.tmp rfl))) ?_
  refine L.nil ?_
  refine N.thenW ?_
  refine W.seq ?_
  refine W.cond (Get.tmp rfl) (fun h1 => ?_) (fun h1 => ?_)
  · have ph1 := h1; try simp only [decide_eq_true_eq, decide_eq_false_iff_not, Bool.and_eq_true, Bool.or_eq_true, Bool.and_eq_false_iff, Bool.or_eq_false_iff, Bool.not_eq_true', Bool.not_eq_false', Bool.not_true, Bool.not_false, Int.not_lt, Int.not_le] at ph1
    refine W.skip ?_
    refine N.thenW ?_
    have hil := in_len w kind width t
    have hol := out_len w t
    refine W.seq ?_
    refine W.block ?_
    refine W.seq ?_
    refine W.region ?_
    refine L.op1 rfl rfl (GSpec.plain rfl (spec_move rfl (Get.tmp rfl))) ?_
    refine L.op1 rfl rfl (GSpec.plain rfl (spec_assign rfl (Get.tmp rfl))) ?_
    refine L.nil ?_
    refine N.thenW ?_
    refine W.seq ?_
    refine W.seq ?_
    refine W.region ?_
    refine L.op1 rfl rfl (GSpec.plain rfl (spec_loadW (k := 2) rfl Tryz.isAgg45 Tryz.sizeOf45 (Get.tmp rfl) rfl rfl)) ?_
    refine L.op1 rfl rfl (GSpec.plain rfl (spec_move rfl (Get.tmp rfl))) ?_
    refine L.op1 rfl rfl (GSpec.plain rfl (spec_call rfl Tryz.call25 (see_ok _ _ _ (by omega) (by omega)) (.cons (Get.tmp rfl) (.cons (Get.cstr (l := [105, 118]) rfl rfl) (.cons (Get.tmp rfl) .nil))))) ?_
    refine L.op1 rfl rfl (GSpec.plain rfl (spec_eql rfl (Get.tmp rfl) (Get.cint rfl))) ?_
    refine L.op1 rfl rfl (GSpec.plain rfl (spec_move rfl (Get.tmp rfl))) ?_
    refine L.op1 rfl rfl (GSpec.guard rfl rfl rfl fun hg => (spec_loadW (k := 2) rfl Tryz.isAgg45 Tryz.sizeOf45 (Get.tmp rfl) rfl rfl)) ?_
    refine L.op1 rfl rfl (GSpec.guard rfl rfl rfl fun hg => (spec_move rfl (Get.tmp rfl))) ?_
    refine L.op1 rfl rfl (GSpec.guard rfl rfl rfl fun hg => (spec_call rfl Tryz.call25 (see_ok _ _ _ (by omega) (by omega)) (.cons (Get.opt rfl hg) (.cons (Get.cstr (l := [105, 114, 100, 121]) rfl rfl) (.cons (Get.opt rfl hg) .nil))))) ?_
    refine L.op1 rfl rfl (GSpec.guard rfl rfl rfl fun hg => (spec_eql rfl (Get.opt rfl hg) (Get.cint rfl))) ?_
    refine L.op1 rfl rfl (GSpec.plain rfl (spec_and rfl (Get.tmp rfl) (fun hb => (Get.opt rfl hb)))) ?_
    refine L.nil ?_
    refine N.thenW ?_
    refine W.cond (Get.tmp rfl) (fun h2 => ?_) (fun h2 => ?_)
    · have hci : seeV w sIv t = 1 ∧ seeV w sIrdy t = 1 := by have h := h2; simp only [Bool.and_eq_true, decide_eq_true_eq] at h; exact h
      have hin := in_yes (kind := kind) (width := width) hci
      refine W.seq ?_
      refine W.region ?_
      refine L.op1 rfl rfl (GSpec.plain rfl (spec_loadW (k := 2) rfl Tryz.isAgg45 Tryz.sizeOf45 (Get.tmp rfl) rfl rfl)) ?_
      refine L.op1 rfl rfl (GSpec.plain rfl (spec_move rfl (Get.tmp rfl))) ?_
      refine L.op1 rfl rfl (GSpec.plain rfl (spec_call rfl Tryz.call25 (see_ok _ _ _ (by omega) (by omega)) (.cons (Get.tmp rfl) (.cons (Get.cstr (l := [105, 97]) rfl rfl) (.cons (Get.tmp rfl) .nil))))) ?_
      refine L.op1 rfl rfl (GSpec.plain rfl (spec_assign rfl (Get.tmp rfl))) ?_
      refine L.nil ?_
      refine N.thenW ?_
      refine W.cut (σ := Unit) (fun z => [(1, Rp.int .u8 kind), (2, Rp.int .i64 width), (3, Rp.ptr r3 0), (8, Rp.val vi), (9, Rp.val vo), (10, Rp.int .i64 (t : Nat)), (14, Rp.int .i64 (w.rows.length : Nat)), (15, Rp.int .i64 (t : Nat)), (6, Rp.slice eI2 []), (7, Rp.slice eI2 []), (11, Rp.int .i64 (trV w kind t (inE w kind width t).length))]) (fun z => [MF.box r3 45 (eWv w), MF.osl vi 54 2 eI2 (inE w kind width t), MF.osl vo 54 2 eI2 (outE w t)]) ?_ ?_
      · refine W.seq ?_
        refine W.region ?_
        refine L.op1 rfl rfl (GSpec.plain rfl (spec_move rfl (Get.tmp rfl))) ?_
        refine L.nil ?_
        refine N.thenW ?_
        refine W.block ?_
        refine W.seq ?_
        refine W.region ?_
        refine L.op1 rfl rfl (GSpec.plain rfl (spec_eql rfl (Get.tmp rfl) (Get.cint rfl))) ?_
        refine L.op1 rfl rfl (GSpec.plain rfl (spec_assign rfl (Get.tmp rfl))) ?_
        refine L.nil ?_
        refine N.thenW ?_
        refine W.cond (Get.tmp rfl) (fun h3 => ?_) (fun h3 => ?_)
        · have hk1 : kind = 1 := of_decide_eq_true h3
          refine W.region ?_
          refine L.op1 rfl rfl (GSpec.plain rfl (spec_move rfl (Get.tmp rfl))) ?_
          refine L.op1 rfl rfl (GSpec.plain rfl (spec_loadW (k := 2) rfl Tryz.isAgg45 Tryz.sizeOf45 (Get.tmp rfl) rfl rfl)) ?_
          refine L.op1 rfl rfl (GSpec.plain rfl (spec_move rfl (Get.tmp rfl))) ?_
          refine L.op1 rfl rfl (GSpec.plain rfl (spec_call rfl Tryz.call25 (see_ok _ _ _ (by omega) (by omega)) (.cons (Get.tmp rfl) (.cons (Get.cstr (l := [105, 98]) rfl rfl) (.cons (Get.tmp rfl) .nil))))) ?_
          refine L.op1 rfl rfl (GSpec.plain rfl (spec_add rfl (Get.tmp rfl) (Get.tmp rfl))) ?_
          refine L.op1 rfl rfl (GSpec.plain rfl (spec_assign rfl (Get.tmp rfl))) ?_
          refine L.nil ?_
          refine N.blockNormal ?_
          refine N.mid () ?hs1 ?hp1
          case hs1 => exact (.cons (t := 1) rfl (.cons (t := 2) rfl (.cons (t := 3) rfl (.cons (t := 8) rfl (.cons (t := 9) rfl (.cons (t := 10) rfl (.cons (t := 14) rfl (.cons (t := 15) rfl (.cons (t := 6) rfl (.cons (t := 7) rfl (.weak (t := 11) rfl (eqI (by first | (rw [trV, if_pos hk1]; rfl) | (rw [trV, if_neg hk1, if_pos hk2]) | (rw [trV, if_neg hk1, if_neg hk2]; rfl))) .nil)))))))))))
          case hp1 => exact (.cons 2 rfl (.cons 0 rfl (.cons 0 rfl .nil)))
        · have hk1 : ¬ kind = 1 := of_decide_eq_false h3
          refine W.seq ?_
          refine W.region ?_
          refine L.op1 rfl rfl (GSpec.plain rfl (spec_eql rfl (Get.tmp rfl) (Get.cint rfl))) ?_
          refine L.op1 rfl rfl (GSpec.plain rfl (spec_assign rfl (Get.tmp rfl))) ?_
          refine L.nil ?_
          refine N.thenW ?_
          refine W.cond (Get.tmp rfl) (fun h4 => ?_) (fun h4 => ?_)
          · have hk2 : kind = 2 := of_decide_eq_true h4
            refine W.region ?_
            refine L.op1 rfl rfl (GSpec.plain rfl (spec_move rfl (Get.tmp rfl))) ?_
            refine L.op1 rfl rfl (GSpec.plain rfl (spec_lenO (k := 0) rfl Tryz.underlying50 (Get.tmp rfl) rfl)) ?_
            refine L.op1 rfl rfl (GSpec.plain rfl (spec_assign rfl (Get.tmp rfl))) ?_
            refine L.nil ?_
            refine N.blockNormal ?_
            refine N.mid () ?hs2 ?hp2
            case hs2 => exact (.cons (t := 1) rfl (.cons (t := 2) rfl (.cons (t := 3) rfl (.cons (t := 8) rfl (.cons (t := 9) rfl (.cons (t := 10) rfl (.cons (t := 14) rfl (.cons (t := 15) rfl (.cons (t := 6) rfl (.cons (t := 7) rfl (.weak (t := 11) rfl (eqI (by first | (rw [trV, if_pos hk1]; rfl) | (rw [trV, if_neg hk1, if_pos hk2]) | (rw [trV, if_neg hk1, if_neg hk2]; rfl))) .nil)))))))))))
            case hp2 => exact (.cons 2 rfl (.cons 0 rfl (.cons 0 rfl .nil)))
          · have hk2 : ¬ kind = 2 := of_decide_eq_false h4
            refine W.skip ?_
            refine N.blockNormal ?_
            refine N.mid () ?hs3 ?hp3
            case hs3 => exact (.cons (t := 1) rfl (.cons (t := 2) rfl (.cons (t := 3) rfl (.cons (t := 8) rfl (.cons (t := 9) rfl (.cons (t := 10) rfl (.cons (t := 14) rfl (.cons (t := 15) rfl (.cons (t := 6) rfl (.cons (t := 7) rfl (.weak (t := 11) rfl (eqI (by first | (rw [trV, if_pos hk1]; rfl) | (rw [trV, if_neg hk1, if_pos hk2]) | (rw [trV, if_neg hk1, if_neg hk2]; rfl))) .nil)))))))))))
            case hp3 => exact (.cons 2 rfl (.cons 0 rfl (.cons 0 rfl .nil)))
      intro _
      try dsimp only
      refine W.region ?_
      refine L.op1 rfl rfl (GSpec.plain rfl (spec_move rfl (Get.tmp rfl))) ?_
      refine L.op1 rfl rfl (GSpec.plain rfl (spec_loadW (k := 0) rfl Tryz.isAgg45 Tryz.sizeOf45 (Get.tmp rfl) rfl rfl)) ?_
      refine L.op1 rfl rfl (GSpec.plain rfl (spec_move rfl (Get.tmp rfl))) ?_
      refine L.op1 rfl rfl (GSpec.plain rfl (spec_call rfl Tryz.call25 (see_ok _ _ _ (by omega) (by omega)) (.cons (Get.tmp rfl) (.cons (Get.cstr (l := [105, 116]) rfl rfl) (.cons (Get.tmp rfl) .nil))))) ?_
      refine L.op1 rfl rfl (GSpec.plain rfl (spec_move rfl (Get.tmp rfl))) ?_
      refine L.op1 rfl rfl (GSpec.plain rfl (spec_move rfl (Get.tmp rfl))) ?_
      refine L.op1 rfl rfl (GSpec.plain rfl (spec_call rfl Tryz.call73 (mask_ok _) (.cons (Get.tmp rfl) .nil))) ?_
      refine L.op1 rfl rfl (GSpec.plain rfl (spec_bits rfl (by simp) (Get.tmp rfl) (Get.tmp rfl))) ?_
      refine L.op1 rfl rfl (GSpec.plain rfl (spec_buildArr (Rs := [_, _]) rfl ti54 z54 Tryz.underlying54 Tryz.sizeOf3 (.cons (GetC.one (Get.tmp rfl)) rfl rfl rfl (.cons (GetC.one (Get.tmp rfl)) rfl rfl rfl .nil)))) ?_
      refine L.op1 rfl rfl (GSpec.plain rfl (spec_buildSlice1 (y := ((seeV w sIt t, bitsOf .and .i64 (trV w kind t (inE w kind width t).length) (maskE width)) : Int × Int)) (E := eI2) rfl Tryz.underlying50 ti54 z54 (by decide) (GetC.agg (Get.tmp rfl)) (fun _ => rfl))) ?_
      refine L.append (k := 1) (E := eI2) rfl rfl rfl rfl Tryz.underlying50 ti54 rfl (by decide) (fun _ => rfl) (Get.tmp rfl) (Get.tmp rfl) rfl (by (simp only [List.length_cons, List.length_nil]; omega)) (by (simp only [List.length_cons, List.length_nil]; omega)) (fun v53 => ?_)
      refine L.op1 rfl rfl (GSpec.plain rfl (spec_assign rfl (Get.tmp rfl))) ?_
      refine L.nil ?_
      refine N.thenW ?_
      refine W.seq ?_
      refine W.region ?_
      refine L.op1 rfl rfl (GSpec.plain rfl (spec_loadW (k := 0) rfl Tryz.isAgg45 Tryz.sizeOf45 (Get.tmp rfl) rfl rfl)) ?_
      refine L.op1 rfl rfl (GSpec.plain rfl (spec_move rfl (Get.tmp rfl))) ?_
      refine L.op1 rfl rfl (GSpec.plain rfl (spec_call rfl Tryz.call25 (see_ok _ _ _ (by omega) (by omega)) (.cons (Get.tmp rfl) (.cons (Get.cstr (l := [111, 118]) rfl rfl) (.cons (Get.tmp rfl) .nil))))) ?_
      refine L.op1 rfl rfl (GSpec.plain rfl (spec_eql rfl (Get.tmp rfl) (Get.cint rfl))) ?_
      refine L.op1 rfl rfl (GSpec.plain rfl (spec_move rfl (Get.tmp rfl))) ?_
      refine L.op1 rfl rfl (GSpec.guard rfl rfl rfl fun hg => (spec_loadW (k := 0) rfl Tryz.isAgg45 Tryz.sizeOf45 (Get.tmp rfl) rfl rfl)) ?_
      refine L.op1 rfl rfl (GSpec.guard rfl rfl rfl fun hg => (spec_move rfl (Get.tmp rfl))) ?_
      refine L.op1 rfl rfl (GSpec.guard rfl rfl rfl fun hg => (spec_call rfl Tryz.call25 (see_ok _ _ _ (by omega) (by omega)) (.cons (Get.opt rfl hg) (.cons (Get.cstr (l := [111, 114, 100, 121]) rfl rfl) (.cons (Get.opt rfl hg) .nil))))) ?_
      refine L.op1 rfl rfl (GSpec.guard rfl rfl rfl fun hg => (spec_eql rfl (Get.opt rfl hg) (Get.cint rfl))) ?_
      refine L.op1 rfl rfl (GSpec.plain rfl (spec_and rfl (Get.tmp rfl) (fun hb => (Get.opt rfl hb)))) ?_
      refine L.nil ?_
      refine N.thenW ?_
      refine W.cond (Get.tmp rfl) (fun h5 => ?_) (fun h5 => ?_)
      · have hco : seeV w sOv t = 1 ∧ seeV w sOrdy t = 1 := by have h := h5; simp only [Bool.and_eq_true, decide_eq_true_eq] at h; exact h
        have hout := out_yes hco
        apply W.any 9 mixed (by kernel_rfl)
        · apply Head.one rfl rfl (GSpec.plain rfl (spec_move rfl (Get.tmp rfl)))
          apply Head.one rfl rfl (GSpec.plain rfl (spec_loadW (k := 0) rfl Tryz.isAgg45 Tryz.sizeOf45 (Get.tmp rfl) rfl rfl))
          apply Head.one rfl rfl (GSpec.plain rfl (spec_move rfl (Get.tmp rfl)))
          apply Head.one rfl rfl (GSpec.plain rfl (spec_call rfl Tryz.call25 (see_ok _ _ _ (by omega) (by omega)) (.cons (Get.tmp rfl) (.cons (Get.cstr (l := [111, 116]) rfl rfl) (.cons (Get.tmp rfl) .nil)))))
          apply Head.one rfl rfl (GSpec.plain rfl (spec_loadW (k := 0) rfl Tryz.isAgg45 Tryz.sizeOf45 (Get.tmp rfl) rfl rfl))
          apply Head.one rfl rfl (GSpec.plain rfl (spec_move rfl (Get.tmp rfl)))
          apply Head.one rfl rfl (GSpec.plain rfl (spec_call rfl Tryz.call25 (see_ok _ _ _ (by omega) (by omega)) (.cons (Get.tmp rfl) (.cons (Get.cstr (l := [111, 97]) rfl rfl) (.cons (Get.tmp rfl) .nil)))))
          apply Head.one rfl rfl (GSpec.plain rfl (spec_buildArr (Rs := [_, _]) rfl ti54 z54 Tryz.underlying54 Tryz.sizeOf3 (.cons (GetC.one (Get.tmp rfl)) rfl rfl rfl (.cons (GetC.one (Get.tmp rfl)) rfl rfl rfl .nil))))
          apply Head.one rfl rfl (GSpec.plain rfl (spec_buildSlice1 (y := ((seeV w sOt t, seeV w sOa t) : Int × Int)) (E := eI2) rfl Tryz.underlying50 ti54 z54 (by decide) (GetC.agg (Get.tmp rfl)) (fun _ => rfl)))
          exact Head.nil
        refine Fin.one ?_
        refine Fin.one ?_
        refine Fin.one ?_
        refine Fin.one ?_
        refine Fin.one ?_
        refine Fin.one ?_
        refine Fin.one ?_
        refine Fin.one ?_
        refine Fin.one ?_
        refine Fin.nil ?_
        refine L.append (k := 2) (E := eI2) rfl rfl rfl rfl Tryz.underlying50 ti54 rfl (by decide) (fun _ => rfl) (Get.tmp rfl) (Get.tmp rfl) rfl (by (simp only [List.length_cons, List.length_nil]; omega)) (by (simp only [List.length_cons, List.length_nil]; omega)) (fun v73 => ?_)
        refine L.op1 rfl rfl (GSpec.plain rfl (spec_assign rfl (Get.tmp rfl))) ?_
        refine L.nil ?_
        refine N.blockNormal ?_
        refine N.thenW ?_
        refine W.region ?_
        first | refine L.op1 rfl rfl (GSpec.plain rfl (fit_i64 (by omega) (by omega) (spec_add rfl (Get.tmp rfl) (Get.cint rfl)))) ?_ | refine L.op1 rfl rfl (GSpec.plain rfl (spec_add rfl (Get.tmp rfl) (Get.cint rfl))) ?_
        refine L.op1 rfl rfl (GSpec.plain rfl (spec_move rfl (Get.tmp rfl))) ?_
        refine L.nil ?_
        refine N.roundK (t + 1, v53, v73) ?hI4 ?hmu4 ?hs4 ?hk4 ?hp4
        case hs4 => exact (.cons (t := 15) rfl (.cons (t := 8) rfl (.cons (t := 9) rfl .nil)))
        case hk4 => exact (.cons (t := 1) rfl (.cons (t := 2) rfl (.cons (t := 3) rfl (.cons (t := 6) rfl (.cons (t := 7) rfl (.cons (t := 14) rfl .nil))))))
        case hp4 => dsimp only; rw [hin, hout]; exact (.cons 1 rfl (.cons 1 rfl (.cons 0 rfl .nil)))
        case hI4 => dsimp only; omega
        case hmu4 => dsimp only; omega
      · have hco : ¬ (seeV w sOv t = 1 ∧ seeV w sOrdy t = 1) := by have h := h5; simp only [Bool.and_eq_false_iff, decide_eq_false_iff_not] at h; intro hc; rcases h with h | h; exact h hc.1; exact h hc.2
        have hout := out_no hco
        refine W.skip ?_
        refine N.blockNormal ?_
        refine N.thenW ?_
        refine W.region ?_
        first | refine L.op1 rfl rfl (GSpec.plain rfl (fit_i64 (by omega) (by omega) (spec_add rfl (Get.tmp rfl) (Get.cint rfl)))) ?_ | refine L.op1 rfl rfl (GSpec.plain rfl (spec_add rfl (Get.tmp rfl) (Get.cint rfl))) ?_
        refine L.op1 rfl rfl (GSpec.plain rfl (spec_move rfl (Get.tmp rfl))) ?_
        refine L.nil ?_
        refine N.roundK (t + 1, v53, vo) ?hI5 ?hmu5 ?hs5 ?hk5 ?hp5
        case hs5 => exact (.cons (t := 15) rfl (.cons (t := 8) rfl (.cons (t := 9) rfl .nil)))
        case hk5 => exact (.cons (t := 1) rfl (.cons (t := 2) rfl (.cons (t := 3) rfl (.cons (t := 6) rfl (.cons (t := 7) rfl (.cons (t := 14) rfl .nil))))))
        case hp5 => dsimp only; rw [hin, hout]; exact (.cons 1 rfl (.cons 1 rfl (.cons 0 rfl .nil)))
        case hI5 => dsimp only; omega
        case hmu5 => dsimp only; omega
    · have hci : ¬ (seeV w sIv t = 1 ∧ seeV w sIrdy t = 1) := by have h := h2; simp only [Bool.and_eq_false_iff, decide_eq_false_iff_not] at h; intro hc; rcases h with h | h; exact h hc.1; exact h hc.2
      have hin := in_no (kind := kind) (width := width) hci
      refine W.skip ?_
      refine N.thenW ?_
      refine W.seq ?_
      refine W.region ?_
      refine L.op1 rfl rfl (GSpec.plain rfl (spec_loadW (k := 2) rfl Tryz.isAgg45 Tryz.sizeOf45 (Get.tmp rfl) rfl rfl)) ?_
      refine L.op1 rfl rfl (GSpec.plain rfl (spec_move rfl (Get.tmp rfl))) ?_
      refine L.op1 rfl rfl (GSpec.plain rfl (spec_call rfl Tryz.call25 (see_ok _ _ _ (by omega) (by omega)) (.cons (Get.tmp rfl) (.cons (Get.cstr (l := [111, 118]) rfl rfl) (.cons (Get.tmp rfl) .nil))))) ?_
      refine L.op1 rfl rfl (GSpec.plain rfl (spec_eql rfl (Get.tmp rfl) (Get.cint rfl))) ?_
      refine L.op1 rfl rfl (GSpec.plain rfl (spec_move rfl (Get.tmp rfl))) ?_
      refine L.op1 rfl rfl (GSpec.guard rfl rfl rfl fun hg => (spec_loadW (k := 2) rfl Tryz.isAgg45 Tryz.sizeOf45 (Get.tmp rfl) rfl rfl)) ?_
      refine L.op1 rfl rfl (GSpec.guard rfl rfl rfl fun hg => (spec_move rfl (Get.tmp rfl))) ?_
      refine L.op1 rfl rfl (GSpec.guard rfl rfl rfl fun hg => (spec_call rfl Tryz.call25 (see_ok _ _ _ (by omega) (by omega)) (.cons (Get.opt rfl hg) (.cons (Get.cstr (l := [111, 114, 100, 121]) rfl rfl) (.cons (Get.opt rfl hg) .nil))))) ?_
      refine L.op1 rfl rfl (GSpec.guard rfl rfl rfl fun hg => (spec_eql rfl (Get.opt rfl hg) (Get.cint rfl))) ?_
      refine L.op1 rfl rfl (GSpec.plain rfl (spec_and rfl (Get.tmp rfl) (fun hb => (Get.opt rfl hb)))) ?_
      refine L.nil ?_
      refine N.thenW ?_
      refine W.cond (Get.tmp rfl) (fun h6 => ?_) (fun h6 => ?_)
      · have hco : seeV w sOv t = 1 ∧ seeV w sOrdy t = 1 := by have h := h6; simp only [Bool.and_eq_true, decide_eq_true_eq] at h; exact h
        have hout := out_yes hco
        apply W.any 9 mixed (by kernel_rfl)
        · apply Head.one rfl rfl (GSpec.plain rfl (spec_move rfl (Get.tmp rfl)))
          apply Head.one rfl rfl (GSpec.plain rfl (spec_loadW (k := 2) rfl Tryz.isAgg45 Tryz.sizeOf45 (Get.tmp rfl) rfl rfl))
          apply Head.one rfl rfl (GSpec.plain rfl (spec_move rfl (Get.tmp rfl)))
          apply Head.one rfl rfl (GSpec.plain rfl (spec_call rfl Tryz.call25 (see_ok _ _ _ (by omega) (by omega)) (.cons (Get.tmp rfl) (.cons (Get.cstr (l := [111, 116]) rfl rfl) (.cons (Get.tmp rfl) .nil)))))
          apply Head.one rfl rfl (GSpec.plain rfl (spec_loadW (k := 2) rfl Tryz.isAgg45 Tryz.sizeOf45 (Get.tmp rfl) rfl rfl))
          apply Head.one rfl rfl (GSpec.plain rfl (spec_move rfl (Get.tmp rfl)))
          apply Head.one rfl rfl (GSpec.plain rfl (spec_call rfl Tryz.call25 (see_ok _ _ _ (by omega) (by omega)) (.cons (Get.tmp rfl) (.cons (Get.cstr (l := [111, 97]) rfl rfl) (.cons (Get.tmp rfl) .nil)))))
          apply Head.one rfl rfl (GSpec.plain rfl (spec_buildArr (Rs := [_, _]) rfl ti54 z54 Tryz.underlying54 Tryz.sizeOf3 (.cons (GetC.one (Get.tmp rfl)) rfl rfl rfl (.cons (GetC.one (Get.tmp rfl)) rfl rfl rfl .nil))))
          apply Head.one rfl rfl (GSpec.plain rfl (spec_buildSlice1 (y := ((seeV w sOt t, seeV w sOa t) : Int × Int)) (E := eI2) rfl Tryz.underlying50 ti54 z54 (by decide) (GetC.agg (Get.tmp rfl)) (fun _ => rfl)))
          exact Head.nil
        refine Fin.one ?_
        refine Fin.one ?_
        refine Fin.one ?_
        refine Fin.one ?_
        refine Fin.one ?_
        refine Fin.one ?_
        refine Fin.one ?_
        refine Fin.one ?_
        refine Fin.one ?_
        refine Fin.nil ?_
        refine L.append (k := 1) (E := eI2) rfl rfl rfl rfl Tryz.underlying50 ti54 rfl (by decide) (fun _ => rfl) (Get.tmp rfl) (Get.tmp rfl) rfl (by (simp only [List.length_cons, List.length_nil]; omega)) (by (simp only [List.length_cons, List.length_nil]; omega)) (fun v73 => ?_)
        refine L.op1 rfl rfl (GSpec.plain rfl (spec_assign rfl (Get.tmp rfl))) ?_
        refine L.nil ?_
        refine N.blockNormal ?_
        refine N.thenW ?_
        refine W.region ?_
        first | refine L.op1 rfl rfl (GSpec.plain rfl (fit_i64 (by omega) (by omega) (spec_add rfl (Get.tmp rfl) (Get.cint rfl)))) ?_ | refine L.op1 rfl rfl (GSpec.plain rfl (spec_add rfl (Get.tmp rfl) (Get.cint rfl))) ?_
        refine L.op1 rfl rfl (GSpec.plain rfl (spec_move rfl (Get.tmp rfl))) ?_
        refine L.nil ?_
        refine N.roundK (t + 1, vi, v73) ?hI6 ?hmu6 ?hs6 ?hk6 ?hp6
        case hs6 => exact (.cons (t := 15) rfl (.cons (t := 8) rfl (.cons (t := 9) rfl .nil)))
        case hk6 => exact (.cons (t := 1) rfl (.cons (t := 2) rfl (.cons (t := 3) rfl (.cons (t := 6) rfl (.cons (t := 7) rfl (.cons (t := 14) rfl .nil))))))
        case hp6 => dsimp only; rw [hin, hout]; exact (.cons 0 rfl (.cons 0 rfl (.cons 0 rfl .nil)))
        case hI6 => dsimp only; omega
        case hmu6 => dsimp only; omega
      · have hco : ¬ (seeV w sOv t = 1 ∧ seeV w sOrdy t = 1) := by have h := h6; simp only [Bool.and_eq_false_iff, decide_eq_false_iff_not] at h; intro hc; rcases h with h | h; exact h hc.1; exact h hc.2
        have hout := out_no hco
        refine W.skip ?_
        refine N.blockNormal ?_
        refine N.thenW ?_
        refine W.region ?_
        first | refine L.op1 rfl rfl (GSpec.plain rfl (fit_i64 (by omega) (by omega) (spec_add rfl (Get.tmp rfl) (Get.cint rfl)))) ?_ | refine L.op1 rfl rfl (GSpec.plain rfl (spec_add rfl (Get.tmp rfl) (Get.cint rfl))) ?_
        refine L.op1 rfl rfl (GSpec.plain rfl (spec_move rfl (Get.tmp rfl))) ?_
        refine L.nil ?_
        refine N.roundK (t + 1, vi, vo) ?hI7 ?hmu7 ?hs7 ?hk7 ?hp7
        case hs7 => exact (.cons (t := 15) rfl (.cons (t := 8) rfl (.cons (t := 9) rfl .nil)))
        case hk7 => exact (.cons (t := 1) rfl (.cons (t := 2) rfl (.cons (t := 3) rfl (.cons (t := 6) rfl (.cons (t := 7) rfl (.cons (t := 14) rfl .nil))))))
        case hp7 => dsimp only; rw [hin, hout]; exact (.cons 0 rfl (.cons 0 rfl (.cons 0 rfl .nil)))
        case hI7 => dsimp only; omega
        case hmu7 => dsimp only; omega
  · have ph1 := h1; try simp only [decide_eq_true_eq, decide_eq_false_iff_not, Bool.and_eq_true, Bool.or_eq_true, Bool.and_eq_false_iff, Bool.or_eq_false_iff, Bool.not_eq_true', Bool.not_eq_false', Bool.not_true, Bool.not_false, Int.not_lt, Int.not_le] at ph1
    refine W.exit ?_
    refine N.thenExit ?_
    refine N.thenExit ?_
    refine N.blockExit ?_
    refine N.thenW ?_
    have ht : t = w.rows.length := by omega
    subst ht
    refine W.pub (t := 8) (k := 0) rfl rfl (fun _ => rfl) ?_
    refine W.pub (t := 9) (k := 0) rfl rfl (fun _ => rfl) ?_
    refine W.keep (.cons (t := 6) rfl (.cons (t := 7) rfl (.cons (t := 8) rfl (.cons (t := 9) rfl .nil)))) .refl ?_
    refine W.seq ?_
    refine W.region ?_
    refine L.op1 rfl rfl (GSpec.plain rfl (spec_move rfl (Get.tmp rfl))) ?_
    refine L.op1 rfl rfl (GSpec.plain rfl (spec_move rfl (Get.tmp rfl))) ?_
    refine L.op1 rfl rfl (GSpec.plain rfl (spec_assign rfl (Get.tmp rfl))) ?_
    refine L.op1 rfl rfl (GSpec.plain rfl (spec_assign rfl (Get.tmp rfl))) ?_
    refine L.nil ?_
    refine N.thenW ?_
    refine W.keep (.cons (t := 6) rfl (.cons (t := 7) rfl .nil)) .refl ?_
    refine W.ret ?_
    refine N.ret () rfl (.tmp (t := 6) (Get.tmp rfl) (.tmp (t := 7) (Get.tmp rfl) .nil)) (res2w (eqSl ?_) (eqSl ?_)) .nil (fun _ _ h => h)
    all_goals rfl

end Go.Proofs.YthlfacmpjehjmaaGreatDoor
set_option linter.unusedSimpArgs false
set_option maxRecDepth 8000
set_option linter.unusedVariables false
namespace Go.Proofs.YthlfacmpjehjmaaGreatDoor
open Go.Sim
theorem LibraryBehaves_ok (x : Pl) (hb : BehP (x.kind % 5) (inE (waveE (plD x) (rowsS x.rows)) (x.kind % 5) (1 + x.width % 8) (waveE (plD x) (rowsS x.rows)).rows.length) (outE (waveE (plD x) (rowsS x.rows)) (waveE (plD x) (rowsS x.rows)).rows.length)) : CallT Tryz.prog 6 [Rp.agg (ePl x)] [spG] (.one (Rp.bool true)) := by
  refine W.enter (fn := Tryz.f6) (n := 125) Tryz.func6 rfl Tryz.ntmps6 rfl (fun w₀ C₀ => ?_)
  simp only [argS]
  refine W.fact 0 rfl pl_fact fun hpf => ?_
  simp only [InR] at hpf
  have hq : DsQ (plD x) := pick_q (by omega) (by omega) (by omega)
  have hwl := wave_len (plD x) (rowsS x.rows)
  have hrl := rowsS_len x.rows
  have hil := in_len (waveE (plD x) (rowsS x.rows)) (x.kind % 5) (1 + x.width % 8) (waveE (plD x) (rowsS x.rows)).rows.length
  have hol := out_len (waveE (plD x) (rowsS x.rows)) (waveE (plD x) (rowsS x.rows)).rows.length
  refine W.seq ?_
  refine W.region ?_
  refine L.box rfl rfl (GSpec.plain rfl (spec_box rfl (GetC.agg (Get.tmp rfl)))) (fun r1 => ?_)
  refine L.op1 rfl rfl (GSpec.plain rfl (spec_assign rfl Get.cbool)) ?_
  refine L.nil ?_
  refine N.thenW ?_
  refine W.seq ?_
  refine W.region ?_
  refine L.op1 rfl rfl (GSpec.plain rfl (spec_fieldAddr (f := 0) (off' := 0) rfl Tryz.underlying42 rfl Tryz.sizeOf5 (Get.tmp rfl) rfl)) ?_
  refine L.op1 rfl rfl (GSpec.plain rfl (spec_load1 (k := 0) rfl Tryz.isAgg5 (Get.tmp rfl) rfl rfl)) ?_
  refine L.op1 rfl rfl (GSpec.plain rfl (spec_fieldAddr (f := 1) (off' := 1) rfl Tryz.underlying42 rfl Tryz.sizeOf5 (Get.tmp rfl) rfl)) ?_
  refine L.op1 rfl rfl (GSpec.plain rfl (spec_load1 (k := 0) rfl Tryz.isAgg5 (Get.tmp rfl) rfl rfl)) ?_
  refine L.op1 rfl rfl (GSpec.plain rfl (spec_fieldAddr (f := 2) (off' := 2) rfl Tryz.underlying42 rfl Tryz.sizeOf5 (Get.tmp rfl) rfl)) ?_
  refine L.op1 rfl rfl (GSpec.plain rfl (spec_load1 (k := 0) rfl Tryz.isAgg5 (Get.tmp rfl) rfl rfl)) ?_
  refine L.op1 rfl rfl (GSpec.plain rfl (spec_callG (k := 1) rfl Tryz.call21 rfl (pick_ok x.kind x.n x.width) (.cons (Get.tmp rfl) (.cons (Get.tmp rfl) (.cons (Get.tmp rfl) .nil))))) ?_
  refine L.op1 rfl rfl (GSpec.plain rfl (spec_move rfl (Get.tmp rfl))) ?_
  refine L.op1 rfl rfl (GSpec.plain rfl (spec_extract rfl (Get.tmp rfl) rfl)) ?_
  refine L.op1 rfl rfl (GSpec.plain rfl (spec_extract rfl (Get.tmp rfl) rfl)) ?_
  refine L.box rfl rfl (GSpec.plain rfl (spec_alloc rfl ti27 z27)) (fun r3 => ?_)
  refine L.storeW (k := 0) rfl rfl rfl Tryz.sizeOf27 (Get.tmp rfl) (Get.tmp rfl) rfl rfl rfl ?_
  refine L.op1 rfl rfl (GSpec.plain rfl (spec_assign rfl (Get.tmp rfl))) ?_
  refine L.nil ?_
  refine N.thenW ?_
  refine W.keep (.cons (t := 1) rfl (.cons (t := 2) rfl (.cons (t := 3) rfl (.cons (t := 4) rfl .nil)))) .refl ?_
  refine W.seq ?_
  refine W.region ?_
  refine L.op1 rfl rfl (GSpec.plain rfl (spec_loadW (k := 0) rfl Tryz.isAgg27 Tryz.sizeOf27 (Get.tmp rfl) rfl rfl)) ?_
  refine L.op1 rfl rfl (GSpec.plain rfl (spec_fieldAddr (f := 3) (off' := 3) rfl Tryz.underlying42 rfl Tryz.sizeOf40 (Get.tmp rfl) rfl)) ?_
  refine L.op1 rfl rfl (GSpec.plain rfl (spec_load1 (k := 1) rfl Tryz.isAgg40 (Get.tmp rfl) rfl rfl)) ?_
  refine L.op1 rfl rfl (GSpec.plain rfl (spec_call rfl Tryz.call24 (run_ok (plD x) _ hq) (.cons (Get.tmp rfl) (.cons (Get.tmp rfl) .nil)))) ?_
  refine L.op1 rfl rfl (GSpec.plain rfl (spec_move rfl (Get.tmp rfl))) ?_
  refine L.op1 rfl rfl (GSpec.plain rfl (spec_extract rfl (Get.tmp rfl) rfl)) ?_
  refine L.op1 rfl rfl (GSpec.plain rfl (spec_extract rfl (Get.tmp rfl) rfl)) ?_
  refine L.box rfl rfl (GSpec.plain rfl (spec_alloc rfl ti45 z45)) (fun r5 => ?_)
  refine L.storeW (k := 0) rfl rfl rfl Tryz.sizeOf45 (Get.tmp rfl) (Get.tmp rfl) rfl rfl rfl ?_
  refine L.op1 rfl rfl (GSpec.plain rfl (spec_assign rfl (Get.tmp rfl))) ?_
  refine L.nil ?_
  refine N.thenW ?_
  refine W.keep (.cons (t := 1) rfl (.cons (t := 2) rfl (.cons (t := 4) rfl (.cons (t := 5) rfl (.cons (t := 6) rfl .nil))))) .refl ?_
  refine W.seq ?_
  refine W.seq ?_
  refine W.region ?_
  refine L.op1 rfl rfl (GSpec.plain rfl (spec_move rfl (Get.tmp rfl))) ?_
  refine L.op1 rfl rfl (GSpec.plain rfl (spec_neq rfl (Get.tmp rfl) (Get.cint rfl))) ?_
  refine L.op1 rfl rfl (GSpec.plain rfl (spec_move rfl (Get.tmp rfl))) ?_
  refine L.op1 rfl rfl (GSpec.guard rfl rfl rfl fun hg => (spec_move rfl (Get.tmp rfl))) ?_
  refine L.op1 rfl rfl (GSpec.guard rfl rfl rfl fun hg => (spec_not rfl (Get.opt rfl hg))) ?_
  refine L.op1 rfl rfl (GSpec.plain rfl (spec_or rfl (Get.tmp rfl) (fun hb => (Get.opt rfl hb)))) ?_
  refine L.nil ?_
  refine N.thenW ?_
  refine W.keep (.cons (t := 1) rfl (.cons (t := 2) rfl (.cons (t := 5) rfl (.cons (t := 38) rfl .nil)))) .refl ?_
  refine W.cond (Get.tmp rfl) (fun h1 => ?_) (fun h1 => ?_)
  · exfalso; have h := h1; simp at h
  · have ph1 := h1; try simp only [decide_eq_true_eq, decide_eq_false_iff_not, Bool.and_eq_true, Bool.or_eq_true, Bool.and_eq_false_iff, Bool.or_eq_false_iff, Bool.not_eq_true', Bool.not_eq_false', Bool.not_true, Bool.not_false, Int.not_lt, Int.not_le] at ph1
    refine W.skip ?_
    refine N.thenW ?_
    refine W.seq ?_
    refine W.region ?_
    refine L.op1 rfl rfl (GSpec.plain rfl (spec_fieldAddr (f := 0) (off' := 0) rfl Tryz.underlying42 rfl Tryz.sizeOf5 (Get.tmp rfl) rfl)) ?_
    refine L.op1 rfl rfl (GSpec.plain rfl (spec_load1 (k := 2) rfl Tryz.isAgg5 (Get.tmp rfl) rfl rfl)) ?_
    first | refine L.op1 rfl rfl (GSpec.plain rfl (spec_remP rfl (Get.tmp rfl) (Get.cint rfl) (by (first | omega | (simp only [Int.toNat_natCast]; omega))) (by (first | omega | (simp only [Int.toNat_natCast]; omega))))) ?_ | refine L.op1 rfl rfl (GSpec.plain rfl (spec_rem rfl (Get.tmp rfl) (Get.cint rfl) (by (first | omega | (simp only [Int.toNat_natCast]; omega))))) ?_
    refine L.op1 rfl rfl (GSpec.plain rfl (spec_assign rfl (Get.tmp rfl))) ?_
    refine L.nil ?_
    refine N.thenW ?_
    refine W.seq ?_
    refine W.region ?_
    refine L.op1 rfl rfl (GSpec.plain rfl (spec_loadW (k := 0) rfl Tryz.isAgg45 Tryz.sizeOf45 (Get.tmp rfl) rfl rfl)) ?_
    refine L.op1 rfl rfl (GSpec.plain rfl (spec_move rfl (Get.tmp rfl))) ?_
    refine L.op1 rfl rfl (GSpec.plain rfl (spec_fieldAddr (f := 2) (off' := 2) rfl Tryz.underlying42 rfl Tryz.sizeOf5 (Get.tmp rfl) rfl)) ?_
    refine L.op1 rfl rfl (GSpec.plain rfl (spec_load1 (k := 2) rfl Tryz.isAgg5 (Get.tmp rfl) rfl rfl)) ?_
    first | refine L.op1 rfl rfl (GSpec.plain rfl (spec_remP rfl (Get.tmp rfl) (Get.cint rfl) (by (first | omega | (simp only [Int.toNat_natCast]; omega))) (by (first | omega | (simp only [Int.toNat_natCast]; omega))))) ?_ | refine L.op1 rfl rfl (GSpec.plain rfl (spec_rem rfl (Get.tmp rfl) (Get.cint rfl) (by (first | omega | (simp only [Int.toNat_natCast]; omega))))) ?_
    first | refine L.op1 rfl rfl (GSpec.plain rfl (fit_i64 (by (first | omega | (simp only [Int.toNat_natCast]; omega))) (by (first | omega | (simp only [Int.toNat_natCast]; omega))) (spec_conv rfl Tryz.underlying3 ⟨_, Tryz.underlying5⟩ (Get.tmp rfl)))) ?_ | refine L.op1 rfl rfl (GSpec.plain rfl (spec_conv rfl Tryz.underlying3 ⟨_, Tryz.underlying5⟩ (Get.tmp rfl))) ?_
    first | refine L.op1 rfl rfl (GSpec.plain rfl (fit_i64 (by (first | omega | (simp only [Int.toNat_natCast]; omega))) (by (first | omega | (simp only [Int.toNat_natCast]; omega))) (spec_add rfl (Get.cint rfl) (Get.tmp rfl)))) ?_ | refine L.op1 rfl rfl (GSpec.plain rfl (spec_add rfl (Get.cint rfl) (Get.tmp rfl))) ?_
    refine L.op1 rfl rfl (GSpec.plain rfl (spec_call rfl Tryz.call26 (transfers_ok (waveE (plD x) (rowsS x.rows)) (x.kind % 5) (1 + x.width % 8) (by omega)) (.cons (Get.tmp rfl) (.cons (Get.tmp rfl) (.cons (Get.tmp rfl) .nil))))) ?_
    refine L.op1 rfl rfl (GSpec.plain rfl (spec_move rfl (Get.tmp rfl))) ?_
    refine L.op1 rfl rfl (GSpec.plain rfl (spec_extract rfl (Get.tmp rfl) rfl)) ?_
    refine L.op1 rfl rfl (GSpec.plain rfl (spec_extract rfl (Get.tmp rfl) rfl)) ?_
    refine L.op1 rfl rfl (GSpec.plain rfl (spec_assign rfl (Get.tmp rfl))) ?_
    refine L.op1 rfl rfl (GSpec.plain rfl (spec_assign rfl (Get.tmp rfl))) ?_
    refine L.nil ?_
    refine N.thenW ?_
    generalize hO : (outE (waveE (plD x) (rowsS x.rows)) (waveE (plD x) (rowsS x.rows)).rows.length) = outs at hb hol ⊢
    generalize hI : (inE (waveE (plD x) (rowsS x.rows)) (x.kind % 5) (1 + x.width % 8) (waveE (plD x) (rowsS x.rows)).rows.length) = ins at hb hil ⊢
    have hil2 : ins.length ≤ 60 := by omega
    have hol2 : outs.length ≤ 60 := by omega
    refine W.keep (.cons (t := 2) rfl (.cons (t := 7) rfl (.cons (t := 8) rfl (.cons (t := 9) rfl .nil)))) .refl ?_
    refine W.seq ?_
    refine W.seq ?_
    refine W.region ?_
    refine L.op1 rfl rfl (GSpec.plain rfl (spec_move rfl (Get.tmp rfl))) ?_
    refine L.op1 rfl rfl (GSpec.plain rfl (spec_len rfl Tryz.underlying50 (Get.tmp rfl))) ?_
    refine L.op1 rfl rfl (GSpec.plain rfl (spec_move rfl (Get.tmp rfl))) ?_
    refine L.op1 rfl rfl (GSpec.plain rfl (spec_len rfl Tryz.underlying50 (Get.tmp rfl))) ?_
    refine L.op1 rfl rfl (GSpec.plain rfl (spec_gtr rfl (Get.tmp rfl) (Get.tmp rfl))) ?_
    refine L.op1 rfl rfl (GSpec.plain rfl (spec_move rfl (Get.tmp rfl))) ?_
    refine L.op1 rfl rfl (GSpec.guard rfl rfl rfl fun hg => (spec_move rfl (Get.tmp rfl))) ?_
    refine L.op1 rfl rfl (GSpec.guard rfl rfl rfl fun hg => (spec_len rfl Tryz.underlying50 (Get.opt rfl hg))) ?_
    refine L.op1 rfl rfl (GSpec.guard rfl rfl rfl fun hg => (spec_move rfl (Get.tmp rfl))) ?_
    refine L.op1 rfl rfl (GSpec.guard rfl rfl rfl fun hg => (spec_len rfl Tryz.underlying50 (Get.opt rfl hg))) ?_
    first | refine L.op1 rfl rfl (GSpec.guard rfl rfl rfl fun hg => (fit_i64 (by (first | omega | (simp only [Int.toNat_natCast]; omega))) (by (first | omega | (simp only [Int.toNat_natCast]; omega))) (spec_sub rfl (Get.opt rfl hg) (Get.opt rfl hg)))) ?_ | refine L.op1 rfl rfl (GSpec.guard rfl rfl rfl fun hg => (spec_sub rfl (Get.opt rfl hg) (Get.opt rfl hg))) ?_
    refine L.op1 rfl rfl (GSpec.guard rfl rfl rfl fun hg => (spec_gtr rfl (Get.opt rfl hg) (Get.cint rfl))) ?_
    refine L.op1 rfl rfl (GSpec.plain rfl (spec_or rfl (Get.tmp rfl) (fun hb => (Get.opt rfl hb)))) ?_
    refine L.op1 rfl rfl (GSpec.plain rfl (spec_move rfl (Get.tmp rfl))) ?_
    refine L.op1 rfl rfl (GSpec.guard rfl rfl rfl fun hg => (spec_move rfl (Get.tmp rfl))) ?_
    refine L.op1 rfl rfl (GSpec.guard rfl rfl rfl fun hg => (spec_eql rfl (Get.opt rfl hg) (Get.cint rfl))) ?_
    refine L.op1 rfl rfl (GSpec.guard rfl rfl rfl fun hg => (spec_move rfl (Get.opt rfl hg))) ?_
    refine L.op1 rfl rfl (GSpec.guardOpt rfl rfl rfl fun hg => (spec_move rfl (Get.tmp rfl))) ?_
    refine L.op1 rfl rfl (GSpec.guardOpt rfl rfl rfl fun hg => (spec_len rfl Tryz.underlying50 (Get.opt rfl hg))) ?_
    refine L.op1 rfl rfl (GSpec.guardOpt rfl rfl rfl fun hg => (spec_move rfl (Get.tmp rfl))) ?_
    refine L.op1 rfl rfl (GSpec.guardOpt rfl rfl rfl fun hg => (spec_len rfl Tryz.underlying50 (Get.opt rfl hg))) ?_
    first | refine L.op1 rfl rfl (GSpec.guardOpt rfl rfl rfl fun hg => (fit_i64 (by (first | omega | (simp only [Int.toNat_natCast]; omega))) (by (first | omega | (simp only [Int.toNat_natCast]; omega))) (spec_sub rfl (Get.opt rfl hg) (Get.opt rfl hg)))) ?_ | refine L.op1 rfl rfl (GSpec.guardOpt rfl rfl rfl fun hg => (spec_sub rfl (Get.opt rfl hg) (Get.opt rfl hg))) ?_
    refine L.op1 rfl rfl (GSpec.guardOpt rfl rfl rfl fun hg => (spec_gtr rfl (Get.opt rfl hg) (Get.cint rfl))) ?_
    refine L.op1 rfl rfl (GSpec.guard rfl rfl rfl fun hg => (spec_and rfl (Get.opt rfl hg) (fun hb => (Get.opt rfl ⟨hg, hb⟩)))) ?_
    refine L.op1 rfl rfl (GSpec.plain rfl (spec_or rfl (Get.tmp rfl) (fun hb => (Get.opt rfl hb)))) ?_
    refine L.nil ?_
    refine N.thenW ?_
    refine W.keep (.cons (t := 2) rfl (.cons (t := 7) rfl (.cons (t := 8) rfl (.cons (t := 9) rfl (.cons (t := 77) rfl .nil))))) .refl ?_
    refine W.cond (Get.tmp rfl) (fun h2 => ?_) (fun h2 => ?_)
    · exfalso; have h := h2; have hle := hb.le; have h8 := hb.d8; have h2 := hb.d2; simp only [Bool.or_eq_true, Bool.and_eq_true, decide_eq_true_eq] at h; rcases h with (h | h) | ⟨ha, hc⟩; omega; omega; have := h2 ha; omega
    · have ph2 := h2; try simp only [decide_eq_true_eq, decide_eq_false_iff_not, Bool.and_eq_true, Bool.or_eq_true, Bool.and_eq_false_iff, Bool.or_eq_false_iff, Bool.not_eq_true', Bool.not_eq_false', Bool.not_true, Bool.not_false, Int.not_lt, Int.not_le] at ph2
      refine W.skip ?_
      refine N.thenW ?_
      refine W.seq ?_
      refine W.region ?_
      refine L.op1 rfl rfl (GSpec.plain rfl (spec_move rfl (Get.tmp rfl))) ?_
      refine L.op1 rfl rfl (GSpec.plain rfl (spec_len rfl Tryz.underlying50 (Get.tmp rfl))) ?_
      refine L.op rfl rfl (GSpec.plain rfl (spec_makeSlice (z₀ := false) (E := eB) rfl Tryz.underlying53 ti4 z4 (fun _ => rfl) (Get.tmp rfl) (Get.tmp rfl) (by (first | omega | (simp only [Int.toNat_natCast]; omega))) (by (first | omega | (simp only [Int.toNat_natCast]; omega))) (by (first | omega | (simp only [Int.toNat_natCast]; omega))))) (fun v80 => ?_)
      refine L.op1 rfl rfl (GSpec.plain rfl (spec_assign rfl (Get.tmp rfl))) ?_
      refine L.nil ?_
      refine N.thenW ?_
      refine W.seq ?_
      refine W.seq ?_
      refine W.region ?_
      refine L.op1 rfl rfl (GSpec.plain rfl (spec_move rfl (Get.tmp rfl))) ?_
      refine L.op1 rfl rfl (GSpec.plain rfl (spec_len rfl Tryz.underlying50 (Get.tmp rfl))) ?_
      refine L.op1 rfl rfl (GSpec.plain rfl (spec_move rfl (Get.cint rfl))) ?_
      refine L.nil ?_
      refine N.thenW ?_
      refine W.block ?_
      -- assigned in the loop, not kept: [2]
      refine W.loopK (σ := Nat) (.cons (t := 7) rfl (.cons (t := 9) rfl (.cons (t := 10) rfl (.cons (t := 81) rfl (.cons (t := 82) rfl .nil))))) (fun z => [(83, Rp.int .i64 (z : Nat))]) (fun z => [MF.osl v80 4 1 eB (useN (x.kind % 5) ins outs z)]) (fun z => z ≤ outs.length) (fun z => outs.length - z) 0 (Nat.zero_le _) (.cons (t := 83) rfl .nil) (.cons 0 rfl (.cons 0 rfl (.cons 0 rfl (.cons 0 rfl (.cons 0 rfl .nil))))) ?_
      intro i hI S' M' hS hM
      try dsimp only at hS hM
      simp only [List.cons_append, List.nil_append] at hS hM
      subst hS hM
      try dsimp only
      refine W.seq ?_
      refine W.region ?_
      refine L.op1 rfl rfl (GSpec.plain rfl (spec_lss rfl (Get.tmp rfl) (Get.tmp rfl))) ?_
      refine L.nil ?_
      refine N.thenW ?_
      refine W.seq ?_
      refine W.cond (Get.tmp rfl) (fun h3 => ?_) (fun h3 => ?_)
      · have ph3 := h3; try simp only [decide_eq_true_eq, decide_eq_false_iff_not, Bool.and_eq_true, Bool.or_eq_true, Bool.and_eq_false_iff, Bool.or_eq_false_iff, Bool.not_eq_true', Bool.not_eq_false', Bool.not_true, Bool.not_false, Int.not_lt, Int.not_le] at ph3
        refine W.skip ?_
        refine N.thenW ?_
        have hul := use_len (x.kind % 5) ins outs i
        refine W.seq ?_
        refine W.block ?_
        refine W.seq ?_
        refine W.region ?_
        refine L.op1 rfl rfl (GSpec.plain rfl (spec_move rfl (Get.tmp rfl))) ?_
        refine L.op1 rfl rfl (GSpec.plain rfl (spec_indexAddrD (E := eI2) rfl Tryz.underlying50 Tryz.sizeOf54 (fun _ => rfl) (Get.tmp rfl) (Get.tmp rfl) (by (first | omega | (simp only [Int.toNat_natCast]; omega))))) ?_
        refine L.op1 rfl rfl (GSpec.plain rfl (spec_loadPA rfl Tryz.isAgg54 Tryz.sizeOf54 (Get.tmp rfl) rfl)) ?_
        refine L.box rfl rfl (GSpec.plain rfl (spec_alloc rfl ti54 z54)) (fun r12 => ?_)
        refine L.op1 rfl rfl (GSpec.plain rfl (spec_assign rfl (Get.tmp rfl))) ?_
        refine L.storeW (k := 0) rfl rfl rfl Tryz.sizeOf54 (Get.tmp rfl) (Get.tmp rfl) rfl rfl rfl ?_
        refine L.nil ?_
        refine N.thenW ?_
        refine W.seq ?_
        refine W.seq ?_
        refine W.region ?_
        refine L.op1 rfl rfl (GSpec.plain rfl (spec_move rfl (Get.tmp rfl))) ?_
        refine L.op1 rfl rfl (GSpec.plain rfl (spec_lss rfl (Get.tmp rfl) (Get.cint rfl))) ?_
        refine L.nil ?_
        refine N.thenW ?_
        refine W.cond (Get.tmp rfl) (fun h4 => ?_) (fun h4 => ?_)
        · have hk4 : (x.kind % 5) < 4 := of_decide_eq_true h4
          have hun : useN (x.kind % 5) ins outs (i + 1) = useN (x.kind % 5) ins outs i := by rw [useN, if_pos hk4]
          refine W.seq ?_
          refine W.seq ?_
          apply W.any 6 mixed (by kernel_rfl)
          · apply Head.one rfl rfl (GSpec.plain rfl (spec_move rfl (Get.tmp rfl)))
            apply Head.one rfl rfl (GSpec.plain rfl (spec_move rfl (Get.tmp rfl)))
            apply Head.one rfl rfl (GSpec.plain rfl (spec_indexAddrD (E := eI2) rfl Tryz.underlying50 Tryz.sizeOf54 (fun _ => rfl) (Get.tmp rfl) (Get.tmp rfl) (by (first | omega | (simp only [Int.toNat_natCast]; omega)))))
            apply Head.one rfl rfl (GSpec.plain rfl (spec_loadPA rfl Tryz.isAgg54 Tryz.sizeOf54 (Get.tmp rfl) rfl))
            apply Head.one rfl rfl (GSpec.plain rfl (spec_loadW (k := 0) rfl Tryz.isAgg54 Tryz.sizeOf54 (Get.tmp rfl) rfl rfl))
            apply Head.one rfl rfl (GSpec.plain rfl (neq54 rfl (Get.tmp rfl) (Get.tmp rfl)))
            exact Head.nil
          refine Fin.one ?_
          refine Fin.one ?_
          refine Fin.one ?_
          refine Fin.one ?_
          refine Fin.one ?_
          refine Fin.one ?_
          refine Fin.nil ?_
          refine L.nil ?_
          refine N.thenW ?_
          refine W.cond (Get.tmp rfl) (fun h5 => ?_) (fun h5 => ?_)
          · exfalso; have h := h5; have he := hb.eq hk4 i (by omega); simp only [Bool.not_eq_true', decide_eq_false_iff_not] at h; exact h he
          · have ph5 := h5; try simp only [decide_eq_true_eq, decide_eq_false_iff_not, Bool.and_eq_true, Bool.or_eq_true, Bool.and_eq_false_iff, Bool.or_eq_false_iff, Bool.not_eq_true', Bool.not_eq_false', Bool.not_true, Bool.not_false, Int.not_lt, Int.not_le] at ph5
            refine W.skip ?_
            refine N.thenW ?_
            refine W.exit ?_
            refine N.thenExit ?_
            refine N.blockExit ?_
            refine N.thenW ?_
            refine W.region ?_
            first | refine L.op1 rfl rfl (GSpec.plain rfl (fit_i64 (by (first | omega | (simp only [Int.toNat_natCast]; omega))) (by (first | omega | (simp only [Int.toNat_natCast]; omega))) (spec_add rfl (Get.tmp rfl) (Get.cint rfl)))) ?_ | refine L.op1 rfl rfl (GSpec.plain rfl (spec_add rfl (Get.tmp rfl) (Get.cint rfl))) ?_
            refine L.op1 rfl rfl (GSpec.plain rfl (spec_move rfl (Get.tmp rfl))) ?_
            refine L.nil ?_
            refine N.roundK (i + 1) ?hI1 ?hmu1 ?hs1 ?hk1 ?hp1
            case hs1 => exact (.cons (t := 83) rfl .nil)
            case hk1 => exact (.cons (t := 7) rfl (.cons (t := 9) rfl (.cons (t := 10) rfl (.cons (t := 81) rfl (.cons (t := 82) rfl .nil)))))
            case hp1 => rw [hun]; exact (.cons 1 rfl (.cons 1 rfl (.cons 1 rfl (.cons 1 rfl (.cons 1 rfl .nil)))))
            all_goals (first | rfl | trivial | omega | (simp_all; done))
        · have hk4 : ¬ (x.kind % 5) < 4 := of_decide_eq_false h4
          have hun : useN (x.kind % 5) ins outs (i + 1) = markU ins (useN (x.kind % 5) ins outs i) (outs.getD i default) ins.length := by rw [useN, if_neg hk4]
          refine W.skip ?_
          refine N.thenW ?_
          refine W.seq ?_
          refine W.region ?_
          refine L.op1 rfl rfl (GSpec.plain rfl (spec_assign rfl Get.cbool)) ?_
          refine L.nil ?_
          refine N.thenW ?_
          refine W.seq ?_
          refine W.seq ?_
          refine W.region ?_
          refine L.op1 rfl rfl (GSpec.plain rfl (spec_move rfl (Get.tmp rfl))) ?_
          refine L.op1 rfl rfl (GSpec.plain rfl (spec_len rfl Tryz.underlying50 (Get.tmp rfl))) ?_
          refine L.op1 rfl rfl (GSpec.plain rfl (spec_move rfl (Get.cint rfl))) ?_
          refine L.nil ?_
          refine N.thenW ?_
          refine W.block ?_
          refine W.loopK (σ := Nat) (.cons (t := 7) rfl (.cons (t := 9) rfl (.cons (t := 10) rfl (.cons (t := 11) rfl (.cons (t := 12) rfl (.cons (t := 81) rfl (.cons (t := 82) rfl (.cons (t := 83) rfl (.cons (t := 84) rfl (.cons (t := 85) rfl (.cons (t := 86) rfl (.cons (t := 87) rfl (.cons (t := 88) rfl (.cons (t := 89) rfl (.cons (t := 96) rfl (.cons (t := 97) rfl .nil)))))))))))))))) (fun z => [(98, Rp.int .i64 (z : Nat)), (13, Rp.bool (fndU ins (useN (x.kind % 5) ins outs i) (outs.getD i default) z))]) (fun z => [MF.osl v80 4 1 eB (markU ins (useN (x.kind % 5) ins outs i) (outs.getD i default) z)]) (fun z => z ≤ ins.length) (fun z => ins.length - z) 0 (Nat.zero_le _) (.cons (t := 98) rfl (.weak (t := 13) rfl (eqB (by exact (fnd_zero _ _ _).symm)) .nil)) (by rw [mark_zero]; exact (.cons 1 rfl (.cons 0 rfl (.cons 0 rfl (.cons 0 rfl (.cons 0 rfl (.cons 0 rfl .nil))))))) ?_
          intro k hI S' M' hS hM
          try dsimp only at hS hM
          simp only [List.cons_append, List.nil_append] at hS hM
          subst hS hM
          try dsimp only
          refine W.seq ?_
          refine W.region ?_
          refine L.op1 rfl rfl (GSpec.plain rfl (spec_lss rfl (Get.tmp rfl) (Get.tmp rfl))) ?_
          refine L.nil ?_
          refine N.thenW ?_
          refine W.seq ?_
          refine W.cond (Get.tmp rfl) (fun h6 => ?_) (fun h6 => ?_)
          · have ph6 := h6; try simp only [decide_eq_true_eq, decide_eq_false_iff_not, Bool.and_eq_true, Bool.or_eq_true, Bool.and_eq_false_iff, Bool.or_eq_false_iff, Bool.not_eq_true', Bool.not_eq_false', Bool.not_true, Bool.not_false, Int.not_lt, Int.not_le] at ph6
            refine W.skip ?_
            refine N.thenW ?_
            have hml := mark_len ins (useN (x.kind % 5) ins outs i) (outs.getD i default) k
            refine W.seq ?_
            refine W.block ?_
            refine W.seq ?_
            refine W.region ?_
            refine L.op1 rfl rfl (GSpec.plain rfl (spec_move rfl (Get.tmp rfl))) ?_
            refine L.op1 rfl rfl (GSpec.plain rfl (spec_indexAddrD (E := eI2) rfl Tryz.underlying50 Tryz.sizeOf54 (fun _ => rfl) (Get.tmp rfl) (Get.tmp rfl) (by (first | omega | (simp only [Int.toNat_natCast]; omega))))) ?_
            refine L.op1 rfl rfl (GSpec.plain rfl (spec_loadPA rfl Tryz.isAgg54 Tryz.sizeOf54 (Get.tmp rfl) rfl)) ?_
            refine L.box rfl rfl (GSpec.plain rfl (spec_alloc rfl ti54 z54)) (fun r15 => ?_)
            refine L.op1 rfl rfl (GSpec.plain rfl (spec_assign rfl (Get.tmp rfl))) ?_
            refine L.storeW (k := 0) rfl rfl rfl Tryz.sizeOf54 (Get.tmp rfl) (Get.tmp rfl) rfl rfl rfl ?_
            refine L.nil ?_
            refine N.thenW ?_
            refine W.seq ?_
            refine W.region ?_
            refine L.op1 rfl rfl (GSpec.plain rfl (spec_move rfl (Get.tmp rfl))) ?_
            refine L.op1 rfl rfl (GSpec.plain rfl (spec_not rfl (Get.tmp rfl))) ?_
            refine L.op1 rfl rfl (GSpec.plain rfl (spec_move rfl (Get.tmp rfl))) ?_
            refine L.op1 rfl rfl (GSpec.guard rfl rfl rfl fun hg => (spec_move rfl (Get.tmp rfl))) ?_
            refine L.op1 rfl rfl (GSpec.guard rfl rfl rfl fun hg => (spec_move rfl (Get.tmp rfl))) ?_
            refine L.op1 rfl rfl (GSpec.guard rfl rfl rfl fun hg => (spec_indexAddrO (k := 1) (E := eB) rfl Tryz.underlying53 Tryz.sizeOf4 (Get.opt rfl hg) (Get.opt rfl hg) rfl (by (first | omega | (simp only [Int.toNat_natCast]; omega))))) ?_
            refine L.op1 rfl rfl (GSpec.guard rfl rfl rfl fun hg => (spec_loadO1 (k := 1) (j := 0) (E := eB) rfl Tryz.isAgg4 (fun _ => rfl) (Get.opt rfl hg) rfl rfl (getD_some (by (first | omega | (simp only [Int.toNat_natCast]; omega)))) rfl)) ?_
            refine L.op1 rfl rfl (GSpec.guard rfl rfl rfl fun hg => (spec_not rfl (Get.opt rfl hg))) ?_
            refine L.op1 rfl rfl (GSpec.plain rfl (spec_and rfl (Get.tmp rfl) (fun hb => (Get.opt rfl hb)))) ?_
            refine L.op1 rfl rfl (GSpec.plain rfl (spec_move rfl (Get.tmp rfl))) ?_
            refine L.op1 rfl rfl (GSpec.guard rfl rfl rfl fun hg => (spec_loadW (k := 0) rfl Tryz.isAgg54 Tryz.sizeOf54 (Get.tmp rfl) rfl rfl)) ?_
            refine L.op1 rfl rfl (GSpec.guard rfl rfl rfl fun hg => (spec_loadW (k := 2) rfl Tryz.isAgg54 Tryz.sizeOf54 (Get.tmp rfl) rfl rfl)) ?_
            refine L.op1 rfl rfl (GSpec.guard rfl rfl rfl fun hg => (eql54 rfl (Get.opt rfl hg) (Get.opt rfl hg))) ?_
            refine L.op1 rfl rfl (GSpec.plain rfl (spec_and rfl (Get.tmp rfl) (fun hb => (Get.opt rfl hb)))) ?_
            refine L.nil ?_
            refine N.thenW ?_
            refine W.cond (Get.tmp rfl) (fun h7 => ?_) (fun h7 => ?_)
            · have hm : matI ins (useN (x.kind % 5) ins outs i) (outs.getD i default) = k := by have h := h7; have h2 := mat_step (ins := ins) (used := (useN (x.kind % 5) ins outs i)) (o := (outs.getD i default)) (k := k) (by omega); exact of_decide_eq_true (h2.symm.trans h)
              have hff : fndU ins (useN (x.kind % 5) ins outs i) (outs.getD i default) k = false := by unfold fndU; rw [decide_eq_false_iff_not]; omega
              have hst := mark_next hff hm
              have hs1 := hst.1
              have hs2 := hst.2
              refine W.seq ?_
              refine W.region ?_
              refine L.op1 rfl rfl (GSpec.plain rfl (spec_move rfl (Get.tmp rfl))) ?_
              refine L.op1 rfl rfl (GSpec.plain rfl (spec_move rfl (Get.tmp rfl))) ?_
              refine L.op1 rfl rfl (GSpec.plain rfl (spec_indexAddrO (k := 1) (E := eB) rfl Tryz.underlying53 Tryz.sizeOf4 (Get.tmp rfl) (Get.tmp rfl) rfl (by (first | omega | (simp only [Int.toNat_natCast]; omega))))) ?_
              refine L.storeO1 (k := 1) (j := 0) (E := eB) rfl rfl rfl Tryz.sizeOf4 (fun _ => rfl) (Get.tmp rfl) Get.cbool rfl rfl (by decide) (getD_some (by (first | omega | (simp only [Int.toNat_natCast]; omega)))) rfl ?_
              refine L.nil ?_
              refine N.thenW ?_
              refine W.region ?_
              refine L.op1 rfl rfl (GSpec.plain rfl (spec_assign rfl Get.cbool)) ?_
              refine L.nil ?_
              refine N.blockNormal ?_
              refine N.thenW ?_
              refine W.region ?_
              first | refine L.op1 rfl rfl (GSpec.plain rfl (fit_i64 (by (first | omega | (simp only [Int.toNat_natCast]; omega))) (by (first | omega | (simp only [Int.toNat_natCast]; omega))) (spec_add rfl (Get.tmp rfl) (Get.cint rfl)))) ?_ | refine L.op1 rfl rfl (GSpec.plain rfl (spec_add rfl (Get.tmp rfl) (Get.cint rfl))) ?_
              refine L.op1 rfl rfl (GSpec.plain rfl (spec_move rfl (Get.tmp rfl))) ?_
              refine L.nil ?_
              refine N.roundK (k + 1) ?hI2 ?hmu2 ?hs2 ?hk2 ?hp2
              case hs2 => exact (.cons (t := 98) rfl (.weak (t := 13) rfl (eqB (by (rw [hs2]))) .nil))
              case hk2 => exact (.cons (t := 7) rfl (.cons (t := 9) rfl (.cons (t := 10) rfl (.cons (t := 11) rfl (.cons (t := 12) rfl (.cons (t := 81) rfl (.cons (t := 82) rfl (.cons (t := 83) rfl (.cons (t := 84) rfl (.cons (t := 85) rfl (.cons (t := 86) rfl (.cons (t := 87) rfl (.cons (t := 88) rfl (.cons (t := 89) rfl (.cons (t := 96) rfl (.cons (t := 97) rfl .nil))))))))))))))))
              case hp2 => rw [hs1]; exact (.cons 1 rfl (.cons 1 rfl (.cons 1 rfl (.cons 1 rfl (.cons 1 rfl (.cons 1 rfl .nil))))))
              all_goals (first | rfl | trivial | omega | (simp_all; done))
            · have hm : matI ins (useN (x.kind % 5) ins outs i) (outs.getD i default) ≠ k := by have h := h7; have h2 := mat_step (ins := ins) (used := (useN (x.kind % 5) ins outs i)) (o := (outs.getD i default)) (k := k) (by omega); exact of_decide_eq_false (h2.symm.trans h)
              have hst := mark_same hm
              have hs1 := hst.1
              have hs2 := hst.2
              refine W.skip ?_
              refine N.blockNormal ?_
              refine N.thenW ?_
              refine W.region ?_
              first | refine L.op1 rfl rfl (GSpec.plain rfl (fit_i64 (by (first | omega | (simp only [Int.toNat_natCast]; omega))) (by (first | omega | (simp only [Int.toNat_natCast]; omega))) (spec_add rfl (Get.tmp rfl) (Get.cint rfl)))) ?_ | refine L.op1 rfl rfl (GSpec.plain rfl (spec_add rfl (Get.tmp rfl) (Get.cint rfl))) ?_
              refine L.op1 rfl rfl (GSpec.plain rfl (spec_move rfl (Get.tmp rfl))) ?_
              refine L.nil ?_
              refine N.roundK (k + 1) ?hI3 ?hmu3 ?hs3 ?hk3 ?hp3
              case hs3 => exact (.cons (t := 98) rfl (.weak (t := 13) rfl (eqB (by (rw [hs2]))) .nil))
              case hk3 => exact (.cons (t := 7) rfl (.cons (t := 9) rfl (.cons (t := 10) rfl (.cons (t := 11) rfl (.cons (t := 12) rfl (.cons (t := 81) rfl (.cons (t := 82) rfl (.cons (t := 83) rfl (.cons (t := 84) rfl (.cons (t := 85) rfl (.cons (t := 86) rfl (.cons (t := 87) rfl (.cons (t := 88) rfl (.cons (t := 89) rfl (.cons (t := 96) rfl (.cons (t := 97) rfl .nil))))))))))))))))
              case hp3 => rw [hs1]; exact (.cons 1 rfl (.cons 1 rfl (.cons 1 rfl (.cons 1 rfl (.cons 1 rfl (.cons 1 rfl .nil))))))
              all_goals (first | rfl | trivial | omega | (simp_all; done))
          · have ph6 := h6; try simp only [decide_eq_true_eq, decide_eq_false_iff_not, Bool.and_eq_true, Bool.or_eq_true, Bool.and_eq_false_iff, Bool.or_eq_false_iff, Bool.not_eq_true', Bool.not_eq_false', Bool.not_true, Bool.not_false, Int.not_lt, Int.not_le] at ph6
            refine W.exit ?_
            refine N.thenExit ?_
            refine N.thenExit ?_
            refine N.blockExit ?_
            refine N.thenW ?_
            have hkk : k = ins.length := by omega
            subst hkk
            refine W.seq ?_
            refine W.region ?_
            refine L.op1 rfl rfl (GSpec.plain rfl (spec_move rfl (Get.tmp rfl))) ?_
            refine L.op1 rfl rfl (GSpec.plain rfl (spec_not rfl (Get.tmp rfl))) ?_
            refine L.nil ?_
            refine N.thenW ?_
            refine W.cond (Get.tmp rfl) (fun h8 => ?_) (fun h8 => ?_)
            · exfalso; have h := h8; rw [mat_end (hb.mt (by omega) i (by omega))] at h; cases h
            · have ph8 := h8; try simp only [decide_eq_true_eq, decide_eq_false_iff_not, Bool.and_eq_true, Bool.or_eq_true, Bool.and_eq_false_iff, Bool.or_eq_false_iff, Bool.not_eq_true', Bool.not_eq_false', Bool.not_true, Bool.not_false, Int.not_lt, Int.not_le] at ph8
              refine W.skip ?_
              refine N.blockNormal ?_
              refine N.thenW ?_
              refine W.region ?_
              first | refine L.op1 rfl rfl (GSpec.plain rfl (fit_i64 (by (first | omega | (simp only [Int.toNat_natCast]; omega))) (by (first | omega | (simp only [Int.toNat_natCast]; omega))) (spec_add rfl (Get.tmp rfl) (Get.cint rfl)))) ?_ | refine L.op1 rfl rfl (GSpec.plain rfl (spec_add rfl (Get.tmp rfl) (Get.cint rfl))) ?_
              refine L.op1 rfl rfl (GSpec.plain rfl (spec_move rfl (Get.tmp rfl))) ?_
              refine L.nil ?_
              refine N.roundK (i + 1) ?hI4 ?hmu4 ?hs4 ?hk4 ?hp4
              case hs4 => exact (.cons (t := 83) rfl .nil)
              case hk4 => exact (.cons (t := 7) rfl (.cons (t := 9) rfl (.cons (t := 10) rfl (.cons (t := 81) rfl (.cons (t := 82) rfl .nil)))))
              case hp4 => rw [hun]; exact (.cons 0 rfl (.cons 1 rfl (.cons 1 rfl (.cons 1 rfl (.cons 1 rfl .nil)))))
              all_goals (first | rfl | trivial | omega | (simp_all; done))
      · have ph3 := h3; try simp only [decide_eq_true_eq, decide_eq_false_iff_not, Bool.and_eq_true, Bool.or_eq_true, Bool.and_eq_false_iff, Bool.or_eq_false_iff, Bool.not_eq_true', Bool.not_eq_false', Bool.not_true, Bool.not_false, Int.not_lt, Int.not_le] at ph3
        refine W.exit ?_
        refine N.thenExit ?_
        refine N.thenExit ?_
        refine N.blockExit ?_
        refine N.thenW ?_
        refine W.keep .nil .refl ?_
        refine W.seq ?_
        refine W.region ?_
        refine L.op1 rfl rfl (GSpec.plain rfl (spec_callG (k := 4) rfl Tryz.call20 rfl (awake_ok ) .nil)) ?_
        refine L.op1 rfl rfl (GSpec.plain rfl (spec_assign rfl (Get.tmp rfl))) ?_
        refine L.nil ?_
        refine N.thenW ?_
        refine W.ret ?_
        refine N.ret () rfl (.tmp (t := 2) (Get.tmp rfl) .nil) (res1 (eqB ?_)) .nil (fun _ _ h => h)
        rfl

end Go.Proofs.YthlfacmpjehjmaaGreatDoor
/- The law Behaves, of the program. -/
namespace Go.Proofs.YthlfacmpjehjmaaGreatDoor
open Go.Sim
theorem behaves_law (x : Pl) : CallT Tryz.prog 6 [Rp.agg (ePl x)] [spG] (.one (Rp.bool true)) := LibraryBehaves_ok x (beh_all x)
end Go.Proofs.YthlfacmpjehjmaaGreatDoor
set_option linter.unusedSimpArgs false
set_option maxRecDepth 8000
set_option linter.unusedVariables false
namespace Go.Proofs.YthlfacmpjehjmaaGreatDoor
open Go.Sim
theorem LibraryDrains_ok (x : Pl) (hdr : (outE (waveE (plD x) (rowsS (drN x.rows 12))) (waveE (plD x) (rowsS (drN x.rows 12))).rows.length).length = (inE (waveE (plD x) (rowsS (drN x.rows 12))) 0 8 (waveE (plD x) (rowsS (drN x.rows 12))).rows.length).length) : CallT Tryz.prog 7 [Rp.agg (ePl x)] [spG] (.one (Rp.bool true)) := by
  refine W.enter (fn := Tryz.f7) (n := 63) Tryz.func7 rfl Tryz.ntmps7 rfl (fun w₀ C₀ => ?_)
  simp only [argS]
  refine W.fact 0 rfl pl_fact fun hpf => ?_
  simp only [InR] at hpf
  have hq : DsQ (plD x) := pick_q (by omega) (by omega) (by omega)
  have hwl := wave_len (plD x) (rowsS (drN x.rows 12))
  have hrl := rowsS_len (drN x.rows 12)
  have hdl := dr_len x.rows
  refine W.seq ?_
  refine W.region ?_
  refine L.box rfl rfl (GSpec.plain rfl (spec_box rfl (GetC.agg (Get.tmp rfl)))) (fun r1 => ?_)
  refine L.op1 rfl rfl (GSpec.plain rfl (spec_assign rfl Get.cbool)) ?_
  refine L.nil ?_
  refine N.thenW ?_
  refine W.seq ?_
  refine W.region ?_
  refine L.op1 rfl rfl (GSpec.plain rfl (spec_fieldAddr (f := 0) (off' := 0) rfl Tryz.underlying42 rfl Tryz.sizeOf5 (Get.tmp rfl) rfl)) ?_
  refine L.op1 rfl rfl (GSpec.plain rfl (spec_load1 (k := 0) rfl Tryz.isAgg5 (Get.tmp rfl) rfl rfl)) ?_
  refine L.op1 rfl rfl (GSpec.plain rfl (spec_fieldAddr (f := 1) (off' := 1) rfl Tryz.underlying42 rfl Tryz.sizeOf5 (Get.tmp rfl) rfl)) ?_
  refine L.op1 rfl rfl (GSpec.plain rfl (spec_load1 (k := 0) rfl Tryz.isAgg5 (Get.tmp rfl) rfl rfl)) ?_
  refine L.op1 rfl rfl (GSpec.plain rfl (spec_fieldAddr (f := 2) (off' := 2) rfl Tryz.underlying42 rfl Tryz.sizeOf5 (Get.tmp rfl) rfl)) ?_
  refine L.op1 rfl rfl (GSpec.plain rfl (spec_load1 (k := 0) rfl Tryz.isAgg5 (Get.tmp rfl) rfl rfl)) ?_
  refine L.op1 rfl rfl (GSpec.plain rfl (spec_callG (k := 1) rfl Tryz.call21 rfl (pick_ok x.kind x.n x.width) (.cons (Get.tmp rfl) (.cons (Get.tmp rfl) (.cons (Get.tmp rfl) .nil))))) ?_
  refine L.op1 rfl rfl (GSpec.plain rfl (spec_move rfl (Get.tmp rfl))) ?_
  refine L.op1 rfl rfl (GSpec.plain rfl (spec_extract rfl (Get.tmp rfl) rfl)) ?_
  refine L.op1 rfl rfl (GSpec.plain rfl (spec_extract rfl (Get.tmp rfl) rfl)) ?_
  refine L.box rfl rfl (GSpec.plain rfl (spec_alloc rfl ti27 z27)) (fun r3 => ?_)
  refine L.storeW (k := 0) rfl rfl rfl Tryz.sizeOf27 (Get.tmp rfl) (Get.tmp rfl) rfl rfl rfl ?_
  refine L.op1 rfl rfl (GSpec.plain rfl (spec_assign rfl (Get.tmp rfl))) ?_
  refine L.nil ?_
  refine N.thenW ?_
  refine W.keep (.cons (t := 1) rfl (.cons (t := 2) rfl (.cons (t := 3) rfl (.cons (t := 4) rfl .nil)))) .refl ?_
  refine W.seq ?_
  refine W.region ?_
  refine L.op rfl rfl (GSpec.plain rfl (spec_buildSlice0 (E := eRw) rfl Tryz.underlying40 Tryz.sizeOf56)) (fun v21 => ?_)
  refine L.op1 rfl rfl (GSpec.plain rfl (spec_fieldAddr (f := 3) (off' := 3) rfl Tryz.underlying42 rfl Tryz.sizeOf40 (Get.tmp rfl) rfl)) ?_
  refine L.op1 rfl rfl (GSpec.plain rfl (spec_load1 (k := 2) rfl Tryz.isAgg40 (Get.tmp rfl) rfl rfl)) ?_
  refine L.op1 rfl rfl (GSpec.plain rfl (spec_fieldAddr (f := 3) (off' := 3) rfl Tryz.underlying42 rfl Tryz.sizeOf40 (Get.tmp rfl) rfl)) ?_
  refine L.op1 rfl rfl (GSpec.plain rfl (spec_load1 (k := 2) rfl Tryz.isAgg40 (Get.tmp rfl) rfl rfl)) ?_
  refine L.op1 rfl rfl (GSpec.plain rfl (spec_len rfl Tryz.underlying40 (Get.tmp rfl))) ?_
  refine L.op1 rfl rfl (GSpec.plain rfl (spec_min2 rfl (Get.tmp rfl) (Get.cint rfl))) ?_
  refine L.op1 rfl rfl (GSpec.plain rfl (spec_slice (E := eRw) rfl Tryz.underlying40 Tryz.sizeOf56 (fun _ => rfl) (Get.tmp rfl) .none (.some (Get.tmp rfl) (by (first | omega | (simp only [Int.toNat_natCast]; omega)))) (by (first | omega | (simp only [Int.toNat_natCast]; omega))))) ?_
  refine L.append (k := 0) (E := eRw) rfl rfl rfl rfl Tryz.underlying40 ti56 rfl (by decide) (fun _ => rfl) (Get.tmp rfl) (Get.tmp rfl) rfl (by (simp only [List.length_nil, List.length_take, List.length_drop]; omega)) (by (simp only [List.length_nil, List.length_take, List.length_drop]; omega)) (fun v29 => ?_)
  refine L.op1 rfl rfl (GSpec.plain rfl (spec_assign rfl (Get.tmp rfl))) ?_
  refine L.nil ?_
  refine N.thenW ?_
  rw [show List.take ((min ((x.rows.length : Nat) : Int) 40).toNat - 0) (List.drop 0 x.rows) = x.rows.take 40 by rw [List.drop_zero, Nat.sub_zero]; rcases Nat.le_total x.rows.length 40 with q | q; (rw [List.take_of_length_le (by omega), List.take_of_length_le (by omega)]); (congr 1; omega)]
  refine W.keep (.cons (t := 2) rfl (.cons (t := 3) rfl (.cons (t := 4) rfl (.cons (t := 5) rfl .nil)))) .refl ?_
  refine W.seq ?_
  refine W.seq ?_
  refine W.region ?_
  refine L.op1 rfl rfl (GSpec.plain rfl (spec_assign rfl (Get.cint rfl))) ?_
  refine L.nil ?_
  refine N.thenW ?_
  refine W.block ?_
  refine W.loopK (σ := Nat × Value) (.cons (t := 2) rfl (.cons (t := 3) rfl (.cons (t := 4) rfl .nil))) (fun z => [(6, Rp.int .i64 (z.1 : Nat)), (5, Rp.val z.2)]) (fun z => [MF.osl z.2 56 5 eRw (drN x.rows z.1)]) (fun z => z.1 ≤ 12) (fun z => 12 - z.1) (0, v29) (Nat.zero_le _) (.cons (t := 6) rfl (.cons (t := 5) rfl .nil)) (by dsimp only; rw [show drN x.rows 0 = x.rows.take 40 from List.append_nil _]; exact (.cons 0 rfl (.cons 0 rfl (.cons 0 rfl (.cons 0 rfl .nil))))) ?_
  intro ⟨i, vi⟩ hI S' M' hS hM
  try dsimp only at hS hM
  simp only [List.cons_append, List.nil_append] at hS hM
  subst hS hM
  try dsimp only
  try dsimp only at hI
  have hdl2 := hdl i
  refine W.seq ?_
  refine W.seq ?_
  refine W.region ?_
  refine L.op1 rfl rfl (GSpec.plain rfl (spec_move rfl (Get.tmp rfl))) ?_
  refine L.op1 rfl rfl (GSpec.plain rfl (spec_lss rfl (Get.tmp rfl) (Get.cint rfl))) ?_
  refine L.nil ?_
  refine N.thenW ?_
  refine W.cond (Get.tmp rfl) (fun h1 => ?_) (fun h1 => ?_)
  · have ph1 := h1; try simp only [decide_eq_true_eq, decide_eq_false_iff_not, Bool.and_eq_true, Bool.or_eq_true, Bool.and_eq_false_iff, Bool.or_eq_false_iff, Bool.not_eq_true', Bool.not_eq_false', Bool.not_true, Bool.not_false, Int.not_lt, Int.not_le] at ph1
    refine W.skip ?_
    refine N.thenW ?_
    refine W.seq ?_
    refine W.block ?_
    refine W.region ?_
    refine L.op1 rfl rfl (GSpec.plain rfl (spec_move rfl (Get.tmp rfl))) ?_
    refine L.op1 rfl rfl (GSpec.plain rfl (spec_build (Rs := [Rp.bool false, _, Rp.int .u8 0, Rp.int .u8 0, Rp.int .u8 0]) rfl ti56 z56 Tryz.underlying56 pl56 (.cons (GetC.one Get.cbool) rfl rfl rfl .nil))) ?_
    refine L.op1 rfl rfl (GSpec.plain rfl (spec_buildSlice1 (y := (⟨false, true, 0, 0, 0⟩ : Rw)) (E := eRw) rfl Tryz.underlying40 ti56 z56 (by decide) (GetC.agg (Get.tmp rfl)) (fun _ => rfl))) ?_
    refine L.append (k := 0) (E := eRw) rfl rfl rfl rfl Tryz.underlying40 ti56 rfl (by decide) (fun _ => rfl) (Get.tmp rfl) (Get.tmp rfl) rfl (by (simp only [List.length_cons, List.length_nil]; omega)) (by (simp only [List.length_cons, List.length_nil]; omega)) (fun v37 => ?_)
    refine L.op1 rfl rfl (GSpec.plain rfl (spec_assign rfl (Get.tmp rfl))) ?_
    refine L.nil ?_
    refine N.blockNormal ?_
    refine N.thenW ?_
    refine W.region ?_
    refine L.op1 rfl rfl (GSpec.plain rfl (spec_move rfl (Get.tmp rfl))) ?_
    first | refine L.op1 rfl rfl (GSpec.plain rfl (fit_i64 (by (first | omega | (simp only [Int.toNat_natCast]; omega))) (by (first | omega | (simp only [Int.toNat_natCast]; omega))) (spec_add rfl (Get.tmp rfl) (Get.cint rfl)))) ?_ | refine L.op1 rfl rfl (GSpec.plain rfl (spec_add rfl (Get.tmp rfl) (Get.cint rfl))) ?_
    refine L.op1 rfl rfl (GSpec.plain rfl (spec_assign rfl (Get.tmp rfl))) ?_
    refine L.nil ?_
    refine N.roundK (i + 1, v37) ?hI1 ?hmu1 ?hs1 ?hk1 ?hp1
    case hs1 => exact (.cons (t := 6) rfl (.cons (t := 5) rfl .nil))
    case hk1 => exact (.cons (t := 2) rfl (.cons (t := 3) rfl (.cons (t := 4) rfl .nil)))
    case hp1 => dsimp only; rw [dr_next]; exact (.cons 0 rfl (.cons 0 rfl (.cons 0 rfl (.cons 0 rfl .nil))))
    case hI1 => dsimp only; omega
    case hmu1 => dsimp only; omega
  · have ph1 := h1; try simp only [decide_eq_true_eq, decide_eq_false_iff_not, Bool.and_eq_true, Bool.or_eq_true, Bool.and_eq_false_iff, Bool.or_eq_false_iff, Bool.not_eq_true', Bool.not_eq_false', Bool.not_true, Bool.not_false, Int.not_lt, Int.not_le] at ph1
    refine W.exit ?_
    refine N.thenExit ?_
    refine N.thenExit ?_
    refine N.blockExit ?_
    refine N.thenW ?_
    have hi : i = 12 := by omega
    subst hi
    refine W.pub (t := 5) (k := 0) rfl rfl (fun _ => rfl) ?_
    refine W.seq ?_
    refine W.region ?_
    refine L.op1 rfl rfl (GSpec.plain rfl (spec_loadW (k := 0) rfl Tryz.isAgg27 Tryz.sizeOf27 (Get.tmp rfl) rfl rfl)) ?_
    refine L.op1 rfl rfl (GSpec.plain rfl (spec_move rfl (Get.tmp rfl))) ?_
    refine L.op1 rfl rfl (GSpec.plain rfl (spec_call rfl Tryz.call24 (run_ok (plD x) _ hq) (.cons (Get.tmp rfl) (.cons (Get.tmp rfl) .nil)))) ?_
    refine L.op1 rfl rfl (GSpec.plain rfl (spec_move rfl (Get.tmp rfl))) ?_
    refine L.op1 rfl rfl (GSpec.plain rfl (spec_extract rfl (Get.tmp rfl) rfl)) ?_
    refine L.op1 rfl rfl (GSpec.plain rfl (spec_extract rfl (Get.tmp rfl) rfl)) ?_
    refine L.box rfl rfl (GSpec.plain rfl (spec_alloc rfl ti45 z45)) (fun r7 => ?_)
    refine L.storeW (k := 0) rfl rfl rfl Tryz.sizeOf45 (Get.tmp rfl) (Get.tmp rfl) rfl rfl rfl ?_
    refine L.op1 rfl rfl (GSpec.plain rfl (spec_assign rfl (Get.tmp rfl))) ?_
    refine L.nil ?_
    refine N.thenW ?_
    refine W.keep (.cons (t := 2) rfl (.cons (t := 4) rfl (.cons (t := 7) rfl (.cons (t := 8) rfl .nil)))) .refl ?_
    refine W.seq ?_
    refine W.seq ?_
    refine W.region ?_
    refine L.op1 rfl rfl (GSpec.plain rfl (spec_move rfl (Get.tmp rfl))) ?_
    refine L.op1 rfl rfl (GSpec.plain rfl (spec_neq rfl (Get.tmp rfl) (Get.cint rfl))) ?_
    refine L.op1 rfl rfl (GSpec.plain rfl (spec_move rfl (Get.tmp rfl))) ?_
    refine L.op1 rfl rfl (GSpec.guard rfl rfl rfl fun hg => (spec_move rfl (Get.tmp rfl))) ?_
    refine L.op1 rfl rfl (GSpec.guard rfl rfl rfl fun hg => (spec_not rfl (Get.opt rfl hg))) ?_
    refine L.op1 rfl rfl (GSpec.plain rfl (spec_or rfl (Get.tmp rfl) (fun hb => (Get.opt rfl hb)))) ?_
    refine L.nil ?_
    refine N.thenW ?_
    refine W.keep (.cons (t := 2) rfl (.cons (t := 7) rfl (.cons (t := 49) rfl .nil))) .refl ?_
    refine W.cond (Get.tmp rfl) (fun h2 => ?_) (fun h2 => ?_)
    · exfalso; have h := h2; simp at h
    · have ph2 := h2; try simp only [decide_eq_true_eq, decide_eq_false_iff_not, Bool.and_eq_true, Bool.or_eq_true, Bool.and_eq_false_iff, Bool.or_eq_false_iff, Bool.not_eq_true', Bool.not_eq_false', Bool.not_true, Bool.not_false, Int.not_lt, Int.not_le] at ph2
      refine W.skip ?_
      refine N.thenW ?_
      refine W.seq ?_
      refine W.region ?_
      refine L.op1 rfl rfl (GSpec.plain rfl (spec_loadW (k := 0) rfl Tryz.isAgg45 Tryz.sizeOf45 (Get.tmp rfl) rfl rfl)) ?_
      refine L.op1 rfl rfl (GSpec.plain rfl (spec_call rfl Tryz.call26 (transfers_ok (waveE (plD x) (rowsS (drN x.rows 12))) 0 8 (by omega)) (.cons (Get.tmp rfl) (.cons (Get.cint rfl) (.cons (Get.cint rfl) .nil))))) ?_
      refine L.op1 rfl rfl (GSpec.plain rfl (spec_move rfl (Get.tmp rfl))) ?_
      refine L.op1 rfl rfl (GSpec.plain rfl (spec_extract rfl (Get.tmp rfl) rfl)) ?_
      refine L.op1 rfl rfl (GSpec.plain rfl (spec_extract rfl (Get.tmp rfl) rfl)) ?_
      refine L.op1 rfl rfl (GSpec.plain rfl (spec_assign rfl (Get.tmp rfl))) ?_
      refine L.op1 rfl rfl (GSpec.plain rfl (spec_assign rfl (Get.tmp rfl))) ?_
      refine L.nil ?_
      refine N.thenW ?_
      refine W.keep (.cons (t := 2) rfl (.cons (t := 9) rfl (.cons (t := 10) rfl .nil))) .refl ?_
      refine W.seq ?_
      refine W.region ?_
      refine L.op1 rfl rfl (GSpec.plain rfl (spec_move rfl (Get.tmp rfl))) ?_
      refine L.op1 rfl rfl (GSpec.plain rfl (spec_len rfl Tryz.underlying50 (Get.tmp rfl))) ?_
      refine L.op1 rfl rfl (GSpec.plain rfl (spec_move rfl (Get.tmp rfl))) ?_
      refine L.op1 rfl rfl (GSpec.plain rfl (spec_len rfl Tryz.underlying50 (Get.tmp rfl))) ?_
      refine L.op1 rfl rfl (GSpec.plain rfl (spec_eql rfl (Get.tmp rfl) (Get.tmp rfl))) ?_
      refine L.op1 rfl rfl (GSpec.plain rfl (spec_move rfl (Get.tmp rfl))) ?_
      refine L.op1 rfl rfl (GSpec.guard rfl rfl rfl fun hg => (spec_callG (k := 3) rfl Tryz.call20 rfl (awake_ok ) .nil)) ?_
      refine L.op1 rfl rfl (GSpec.plain rfl (spec_and rfl (Get.tmp rfl) (fun hb => (Get.opt rfl hb)))) ?_
      refine L.op1 rfl rfl (GSpec.plain rfl (spec_assign rfl (Get.tmp rfl))) ?_
      refine L.nil ?_
      refine N.thenW ?_
      refine W.keep (.cons (t := 2) rfl .nil) .refl ?_
      refine W.ret ?_
      refine N.ret () rfl (.tmp (t := 2) (Get.tmp rfl) .nil) (res1 (eqB ?_)) .nil (fun _ _ h => h)
      rw [hdr]; simp

end Go.Proofs.YthlfacmpjehjmaaGreatDoor
/- The law Drains, of the program. -/
namespace Go.Proofs.YthlfacmpjehjmaaGreatDoor
open Go.Sim
theorem drains_law (x : Pl) : CallT Tryz.prog 7 [Rp.agg (ePl x)] [spG] (.one (Rp.bool true)) := LibraryDrains_ok x (dry_all x)
end Go.Proofs.YthlfacmpjehjmaaGreatDoor
