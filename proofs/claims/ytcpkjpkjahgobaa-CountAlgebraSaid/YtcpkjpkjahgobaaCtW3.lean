import Derived.Test.YtcpkjpkjahgobaaCtW2
import Derived.Test.YtcpkjpkjahgobaaCtD
set_option linter.unusedSimpArgs false
set_option maxRecDepth 8000
set_option linter.unusedVariables false
namespace Go.Proofs.Ytcpkjpkjahgobaa
open Go.Sim
theorem dEval_ok (l : List Node) (f : Int) (bits : List Bool) : CallT Try.prog 36 [Rp.agg (dagR l), Rp.int .i64 f, Rp.slice eB bits] [] (.one (Rp.bool (evalD l f bits))) := by
  refine W.enter (fn := Try.f36) (n := 38) Try.func36 rfl Try.ntmps36 rfl (fun w₀ C₀ => ?_)
  simp only [argS]
  refine W.fact 0 rfl dag_fact fun hl => ?_
  refine W.fact 2 rfl slice_fact fun hbl => ?_
  refine W.seq ?_
  refine W.region ?_
  refine L.box rfl rfl (GSpec.plain rfl (spec_box rfl (GetC.agg (Get.tmp rfl)))) (fun r3 => ?_)
  refine L.op1 rfl rfl (GSpec.plain rfl (spec_assign rfl Get.cbool)) ?_
  refine L.nil ?_
  refine N.thenW ?_
  refine W.seq ?_
  refine W.seq ?_
  refine W.region ?_
  refine L.op1 rfl rfl (GSpec.plain rfl (spec_loadW (k := 0) rfl Try.isAgg24 Try.sizeOf24 (Get.tmp rfl) rfl rfl)) ?_
  refine L.op1 rfl rfl (GSpec.plain rfl (spec_move rfl (Get.tmp rfl))) ?_
  refine L.op1 rfl rfl (GSpec.plain rfl (spec_buildSlice1 (E := eI) rfl Try.underlying39 ti3 z3 (by decide) (GetC.one (Get.tmp rfl)) (fun _ => rfl))) ?_
  refine L.op1 rfl rfl (GSpec.plain rfl (spec_call rfl Try.call55 (has_ok _ _) (.cons (Get.tmp rfl) (.cons (Get.tmp rfl) .nil)))) ?_
  refine L.op1 rfl rfl (GSpec.plain rfl (spec_not rfl (Get.tmp rfl))) ?_
  refine L.nil ?_
  refine N.thenW ?_
  refine W.cond (Get.tmp rfl) (fun h1 => ?_) (fun h1 => ?_)
  · have ph1 := h1; try simp only [decide_eq_true_eq, decide_eq_false_iff_not, Bool.and_eq_true, Bool.or_eq_true, Bool.and_eq_false_iff, Bool.or_eq_false_iff, Bool.not_eq_true', Bool.not_eq_false', Bool.not_true, Bool.not_false, Int.not_lt, Int.not_le] at ph1
    refine W.seq ?_
    refine W.region ?_
    refine L.op1 rfl rfl (GSpec.plain rfl (spec_assign rfl Get.cbool)) ?_
    refine L.nil ?_
    refine N.thenW ?_
    refine W.ret ?_
    refine N.ret () rfl (.tmp (t := 6) (Get.tmp rfl) .nil) (res1 (eqB ?_)) .nil (fun _ _ h => h)
    symm; simp only [evalD, Bool.and_eq_false_iff]; left; simpa using h1
  · obtain ⟨hG, hO⟩ := has1.1 (by simpa using h1)
    refine W.skip ?_
    refine N.thenW ?_
    refine W.seq ?_
    refine W.block ?_
    refine W.loopK (σ := Int) (.cons (t := 2) rfl (.cons (t := 3) rfl (.cons (t := 6) rfl .nil))) (fun z => [(1, Rp.int .i64 z)]) (fun z => []) (fun z => okNode l z ∧ evF l bits z = evF l bits f) (fun z => z.toNat) f ⟨hO, rfl⟩ (.cons (t := 1) rfl .nil) (.cons 0 rfl .nil) ?_
    intro z hI S' M' hS hM
    try dsimp only at hS hM
    simp only [List.cons_append, List.nil_append] at hS hM
    subst hS hM
    try dsimp only
    refine W.seq ?_
    refine W.seq ?_
    refine W.region ?_
    refine L.op1 rfl rfl (GSpec.plain rfl (spec_move rfl (Get.tmp rfl))) ?_
    refine L.op1 rfl rfl (GSpec.plain rfl (spec_gtr rfl (Get.tmp rfl) (Get.cint rfl))) ?_
    refine L.nil ?_
    refine N.thenW ?_
    refine W.cond (Get.tmp rfl) (fun h2 => ?_) (fun h2 => ?_)
    · have hlv := ev_lvl hG hI.1 h2
      have hok := hI.1; unfold okNode at hok; unfold nd at hlv
      refine W.skip ?_
      refine N.thenW ?_
      refine W.block ?_
      refine W.seq ?_
      refine W.region ?_
      refine L.op1 rfl rfl (GSpec.plain rfl (spec_fieldAddr (f := 0) (off' := 0) rfl Try.underlying24 rfl Try.sizeOf22 (Get.tmp rfl) rfl)) ?_
      refine L.op1 rfl rfl (GSpec.plain rfl (spec_load1 (k := 0) rfl Try.isAgg22 (Get.tmp rfl) rfl rfl)) ?_
      refine L.op1 rfl rfl (GSpec.plain rfl (spec_move rfl (Get.tmp rfl))) ?_
      refine L.op1 rfl rfl (GSpec.plain rfl (spec_indexAddrD (E := eN) rfl Try.underlying22 Try.sizeOf50 (fun _ => rfl) (Get.tmp rfl) (Get.tmp rfl) (by omega))) ?_
      refine L.op1 rfl rfl (GSpec.plain rfl (spec_loadPA rfl Try.isAgg50 Try.sizeOf50 (Get.tmp rfl) rfl)) ?_
      refine L.box rfl rfl (GSpec.plain rfl (spec_alloc rfl ti50 z50)) (fun r7 => ?_)
      refine L.storeW (k := 0) rfl rfl rfl Try.sizeOf50 (Get.tmp rfl) (Get.tmp rfl) rfl rfl rfl ?_
      refine L.nil ?_
      refine N.thenW ?_
      refine W.seq ?_
      refine W.region ?_
      refine L.op1 rfl rfl (GSpec.plain rfl (spec_fieldAddr (f := 1) (off' := 1) rfl Try.underlying50 rfl Try.sizeOf3 (Get.tmp rfl) rfl)) ?_
      refine L.op1 rfl rfl (GSpec.plain rfl (spec_load1 (k := 0) rfl Try.isAgg3 (Get.tmp rfl) rfl rfl)) ?_
      refine L.op1 rfl rfl (GSpec.plain rfl (spec_assign rfl (Get.tmp rfl))) ?_
      refine L.nil ?_
      refine N.thenW ?_
      refine W.seq ?_
      refine W.region ?_
      refine L.op1 rfl rfl (GSpec.plain rfl (spec_fieldAddr (f := 0) (off' := 0) rfl Try.underlying50 rfl Try.sizeOf3 (Get.tmp rfl) rfl)) ?_
      refine L.op1 rfl rfl (GSpec.plain rfl (spec_load1 (k := 0) rfl Try.isAgg3 (Get.tmp rfl) rfl rfl)) ?_
      refine L.op1 rfl rfl (GSpec.plain rfl (spec_move rfl (Get.tmp rfl))) ?_
      refine L.op1 rfl rfl (GSpec.plain rfl (spec_len rfl Try.underlying33 (Get.tmp rfl))) ?_
      refine L.op1 rfl rfl (GSpec.plain rfl (spec_lss rfl (Get.tmp rfl) (Get.tmp rfl))) ?_
      refine L.op1 rfl rfl (GSpec.plain rfl (spec_move rfl (Get.tmp rfl))) ?_
      refine L.op1 rfl rfl (GSpec.guard rfl rfl rfl fun hg => (spec_move rfl (Get.tmp rfl))) ?_
      refine L.op1 rfl rfl (GSpec.guard rfl rfl rfl fun hg => (spec_fieldAddr (f := 0) (off' := 0) rfl Try.underlying50 rfl Try.sizeOf3 (Get.tmp rfl) rfl)) ?_
      refine L.op1 rfl rfl (GSpec.guard rfl rfl rfl fun hg => (spec_load1 (k := 0) rfl Try.isAgg3 (Get.opt rfl hg) rfl rfl)) ?_
      refine L.op1 rfl rfl (GSpec.guard rfl rfl rfl fun hg => (spec_indexAddrD (E := eB) rfl Try.underlying33 Try.sizeOf4 (fun _ => rfl) (Get.opt rfl hg) (Get.opt rfl hg) (by (simp only [decide_eq_true_eq, decide_eq_false_iff_not, Bool.and_eq_true, Bool.or_eq_true, Bool.and_eq_false_iff, Bool.or_eq_false_iff, Bool.not_eq_true', Bool.not_eq_false', Bool.not_true, Bool.not_false, Int.not_lt, Int.not_le] at hg; omega)))) ?_
      refine L.op1 rfl rfl (GSpec.guard rfl rfl rfl fun hg => (spec_loadP1 rfl Try.isAgg4 (Get.opt rfl hg))) ?_
      refine L.op1 rfl rfl (GSpec.plain rfl (spec_and rfl (Get.tmp rfl) (fun hb => (Get.opt rfl hb)))) ?_
      refine L.nil ?_
      refine N.thenW ?_
      refine W.cond (Get.tmp rfl) (fun h3 => ?_) (fun h3 => ?_)
      · have ph3 := h3; try simp only [decide_eq_true_eq, decide_eq_false_iff_not, Bool.and_eq_true, Bool.or_eq_true, Bool.and_eq_false_iff, Bool.or_eq_false_iff, Bool.not_eq_true', Bool.not_eq_false', Bool.not_true, Bool.not_false, Int.not_lt, Int.not_le] at ph3
        refine W.region ?_
        refine L.op1 rfl rfl (GSpec.plain rfl (spec_fieldAddr (f := 2) (off' := 2) rfl Try.underlying50 rfl Try.sizeOf3 (Get.tmp rfl) rfl)) ?_
        refine L.op1 rfl rfl (GSpec.plain rfl (spec_load1 (k := 0) rfl Try.isAgg3 (Get.tmp rfl) rfl rfl)) ?_
        refine L.op1 rfl rfl (GSpec.plain rfl (spec_assign rfl (Get.tmp rfl))) ?_
        refine L.nil ?_
        refine N.blockNormal ?_
        refine N.roundK (nd l z).hi ?hI1 ?hmu1 ?hs1 ?hk1 ?hp1
        case hs1 => exact (.cons (t := 1) rfl .nil)
        case hk1 => exact (.cons (t := 2) rfl (.cons (t := 3) rfl (.cons (t := 6) rfl .nil)))
        case hp1 => exact (.cons 1 rfl .nil)
        case hI1 => exact (ev_hi hG hI h2 h3).1
        case hmu1 => exact (ev_hi hG hI h2 h3).2
      · have ph3 := h3; try simp only [decide_eq_true_eq, decide_eq_false_iff_not, Bool.and_eq_true, Bool.or_eq_true, Bool.and_eq_false_iff, Bool.or_eq_false_iff, Bool.not_eq_true', Bool.not_eq_false', Bool.not_true, Bool.not_false, Int.not_lt, Int.not_le] at ph3
        refine W.skip ?_
        refine N.blockNormal ?_
        refine N.roundK (nd l z).lo ?hI2 ?hmu2 ?hs2 ?hk2 ?hp2
        case hs2 => exact (.cons (t := 1) rfl .nil)
        case hk2 => exact (.cons (t := 2) rfl (.cons (t := 3) rfl (.cons (t := 6) rfl .nil)))
        case hp2 => exact (.cons 1 rfl .nil)
        case hI2 => exact (ev_lo hG hI h2 h3).1
        case hmu2 => exact (ev_lo hG hI h2 h3).2
    · have ph2 := h2; try simp only [decide_eq_true_eq, decide_eq_false_iff_not, Bool.and_eq_true, Bool.or_eq_true, Bool.and_eq_false_iff, Bool.or_eq_false_iff, Bool.not_eq_true', Bool.not_eq_false', Bool.not_true, Bool.not_false, Int.not_lt, Int.not_le] at ph2
      refine W.exit ?_
      refine N.thenExit ?_
      refine N.thenExit ?_
      refine N.blockExit ?_
      refine N.thenW ?_
      refine W.seq ?_
      refine W.region ?_
      refine L.op1 rfl rfl (GSpec.plain rfl (spec_move rfl (Get.tmp rfl))) ?_
      refine L.op1 rfl rfl (GSpec.plain rfl (spec_eql rfl (Get.tmp rfl) (Get.cint rfl))) ?_
      refine L.op1 rfl rfl (GSpec.plain rfl (spec_assign rfl (Get.tmp rfl))) ?_
      refine L.nil ?_
      refine N.thenW ?_
      refine W.keep (.cons (t := 6) rfl .nil) .refl ?_
      refine W.ret ?_
      refine N.ret () rfl (.tmp (t := 6) (Get.tmp rfl) .nil) (res1 (eqB ?_)) .nil (fun _ _ h => h)
      symm; exact eval_end hG hO hI h2

theorem rEval_ok (l : List Node) (f : Int) (bits : List Bool) : CallT Try.prog 23 [Rp.agg (dagR l), Rp.int .i64 f, Rp.slice eB bits] [] (.one (Rp.bool (evalD l f bits))) := by
  refine W.enter (fn := Try.f23) (n := 43) Try.func23 rfl Try.ntmps23 rfl (fun w₀ C₀ => ?_)
  simp only [argS]
  refine W.fact 0 rfl dag_fact fun hl => ?_
  refine W.fact 2 rfl slice_fact fun hbl => ?_
  refine W.seq ?_
  refine W.region ?_
  refine L.box rfl rfl (GSpec.plain rfl (spec_box rfl (GetC.agg (Get.tmp rfl)))) (fun r3 => ?_)
  refine L.op1 rfl rfl (GSpec.plain rfl (spec_assign rfl Get.cbool)) ?_
  refine L.nil ?_
  refine N.thenW ?_
  refine W.seq ?_
  refine W.seq ?_
  refine W.region ?_
  refine L.op1 rfl rfl (GSpec.plain rfl (spec_loadW (k := 0) rfl Try.isAgg24 Try.sizeOf24 (Get.tmp rfl) rfl rfl)) ?_
  refine L.op1 rfl rfl (GSpec.plain rfl (spec_call rfl Try.call44 (rValid_ok _) (.cons (Get.tmp rfl) .nil))) ?_
  refine L.op1 rfl rfl (GSpec.plain rfl (spec_not rfl (Get.tmp rfl))) ?_
  refine L.op1 rfl rfl (GSpec.plain rfl (spec_move rfl (Get.tmp rfl))) ?_
  refine L.op1 rfl rfl (GSpec.guard rfl rfl rfl fun hg => (spec_loadW (k := 0) rfl Try.isAgg24 Try.sizeOf24 (Get.tmp rfl) rfl rfl)) ?_
  refine L.op1 rfl rfl (GSpec.guard rfl rfl rfl fun hg => (spec_move rfl (Get.tmp rfl))) ?_
  refine L.op1 rfl rfl (GSpec.guard rfl rfl rfl fun hg => (spec_buildSlice1 (E := eI) rfl Try.underlying39 ti3 z3 (by decide) (GetC.one (Get.opt rfl hg)) (fun _ => rfl))) ?_
  refine L.op1 rfl rfl (GSpec.guard rfl rfl rfl fun hg => (spec_call rfl Try.call45 (in_ok _ _) (.cons (Get.opt rfl hg) (.cons (Get.opt rfl hg) .nil)))) ?_
  refine L.op1 rfl rfl (GSpec.guard rfl rfl rfl fun hg => (spec_not rfl (Get.opt rfl hg))) ?_
  refine L.op1 rfl rfl (GSpec.plain rfl (spec_or rfl (Get.tmp rfl) (fun hb => (Get.opt rfl hb)))) ?_
  refine L.nil ?_
  refine N.thenW ?_
  refine W.keep (.cons (t := 1) rfl (.cons (t := 2) rfl (.cons (t := 3) rfl (.cons (t := 6) rfl (.cons (t := 17) rfl .nil))))) .refl ?_
  refine W.cond (Get.tmp rfl) (fun h1 => ?_) (fun h1 => ?_)
  · have ph1 := h1; try simp only [decide_eq_true_eq, decide_eq_false_iff_not, Bool.and_eq_true, Bool.or_eq_true, Bool.and_eq_false_iff, Bool.or_eq_false_iff, Bool.not_eq_true', Bool.not_eq_false', Bool.not_true, Bool.not_false, Int.not_lt, Int.not_le] at ph1
    refine W.seq ?_
    refine W.region ?_
    refine L.op1 rfl rfl (GSpec.plain rfl (spec_assign rfl Get.cbool)) ?_
    refine L.nil ?_
    refine N.thenW ?_
    refine W.ret ?_
    refine N.ret () rfl (.tmp (t := 6) (Get.tmp rfl) .nil) (res1 (eqB ?_)) .nil (fun _ _ h => h)
    symm; simp only [evalD, Bool.and_eq_false_iff]; left; simp only [Bool.or_eq_true, Bool.not_eq_true'] at h1
    unfold hasB; rcases h1 with h1 | h1
    · rw [h1]; rfl
    · rw [show (validB l && ([f] : List Int).all fun f => decide (okNode l f)) = (validB l && insB l [f]) from rfl, h1, Bool.and_false]
  · obtain ⟨hG, hO⟩ := has1.1 (show hasB l [f] = true by unfold hasB; simp only [Bool.or_eq_false_iff, Bool.not_eq_false'] at h1; rw [h1.1]; exact h1.2)
    refine W.skip ?_
    refine N.thenW ?_
    refine W.seq ?_
    refine W.block ?_
    refine W.loopK (σ := Int) (.cons (t := 2) rfl (.cons (t := 3) rfl (.cons (t := 6) rfl .nil))) (fun z => [(1, Rp.int .i64 z)]) (fun z => []) (fun z => okNode l z ∧ evF l bits z = evF l bits f) (fun z => z.toNat) f ⟨hO, rfl⟩ (.cons (t := 1) rfl .nil) (.cons 0 rfl .nil) ?_
    intro z hI S' M' hS hM
    try dsimp only at hS hM
    simp only [List.cons_append, List.nil_append] at hS hM
    subst hS hM
    try dsimp only
    refine W.seq ?_
    refine W.seq ?_
    refine W.region ?_
    refine L.op1 rfl rfl (GSpec.plain rfl (spec_move rfl (Get.tmp rfl))) ?_
    refine L.op1 rfl rfl (GSpec.plain rfl (spec_gtr rfl (Get.tmp rfl) (Get.cint rfl))) ?_
    refine L.nil ?_
    refine N.thenW ?_
    refine W.cond (Get.tmp rfl) (fun h2 => ?_) (fun h2 => ?_)
    · have hlv := ev_lvl hG hI.1 h2
      have hok := hI.1; unfold okNode at hok; unfold nd at hlv
      refine W.skip ?_
      refine N.thenW ?_
      refine W.block ?_
      refine W.seq ?_
      refine W.region ?_
      refine L.op1 rfl rfl (GSpec.plain rfl (spec_fieldAddr (f := 0) (off' := 0) rfl Try.underlying24 rfl Try.sizeOf22 (Get.tmp rfl) rfl)) ?_
      refine L.op1 rfl rfl (GSpec.plain rfl (spec_load1 (k := 0) rfl Try.isAgg22 (Get.tmp rfl) rfl rfl)) ?_
      refine L.op1 rfl rfl (GSpec.plain rfl (spec_move rfl (Get.tmp rfl))) ?_
      refine L.op1 rfl rfl (GSpec.plain rfl (spec_indexAddrD (E := eN) rfl Try.underlying22 Try.sizeOf50 (fun _ => rfl) (Get.tmp rfl) (Get.tmp rfl) (by omega))) ?_
      refine L.op1 rfl rfl (GSpec.plain rfl (spec_loadPA rfl Try.isAgg50 Try.sizeOf50 (Get.tmp rfl) rfl)) ?_
      refine L.box rfl rfl (GSpec.plain rfl (spec_alloc rfl ti50 z50)) (fun r7 => ?_)
      refine L.storeW (k := 0) rfl rfl rfl Try.sizeOf50 (Get.tmp rfl) (Get.tmp rfl) rfl rfl rfl ?_
      refine L.nil ?_
      refine N.thenW ?_
      refine W.seq ?_
      refine W.region ?_
      refine L.op1 rfl rfl (GSpec.plain rfl (spec_fieldAddr (f := 0) (off' := 0) rfl Try.underlying50 rfl Try.sizeOf3 (Get.tmp rfl) rfl)) ?_
      refine L.op1 rfl rfl (GSpec.plain rfl (spec_load1 (k := 0) rfl Try.isAgg3 (Get.tmp rfl) rfl rfl)) ?_
      refine L.op1 rfl rfl (GSpec.plain rfl (spec_move rfl (Get.tmp rfl))) ?_
      refine L.op1 rfl rfl (GSpec.plain rfl (spec_len rfl Try.underlying33 (Get.tmp rfl))) ?_
      refine L.op1 rfl rfl (GSpec.plain rfl (spec_lss rfl (Get.tmp rfl) (Get.tmp rfl))) ?_
      refine L.op1 rfl rfl (GSpec.plain rfl (spec_move rfl (Get.tmp rfl))) ?_
      refine L.op1 rfl rfl (GSpec.guard rfl rfl rfl fun hg => (spec_move rfl (Get.tmp rfl))) ?_
      refine L.op1 rfl rfl (GSpec.guard rfl rfl rfl fun hg => (spec_fieldAddr (f := 0) (off' := 0) rfl Try.underlying50 rfl Try.sizeOf3 (Get.tmp rfl) rfl)) ?_
      refine L.op1 rfl rfl (GSpec.guard rfl rfl rfl fun hg => (spec_load1 (k := 0) rfl Try.isAgg3 (Get.opt rfl hg) rfl rfl)) ?_
      refine L.op1 rfl rfl (GSpec.guard rfl rfl rfl fun hg => (spec_indexAddrD (E := eB) rfl Try.underlying33 Try.sizeOf4 (fun _ => rfl) (Get.opt rfl hg) (Get.opt rfl hg) (by (simp only [decide_eq_true_eq, decide_eq_false_iff_not, Bool.and_eq_true, Bool.or_eq_true, Bool.and_eq_false_iff, Bool.or_eq_false_iff, Bool.not_eq_true', Bool.not_eq_false', Bool.not_true, Bool.not_false, Int.not_lt, Int.not_le] at hg; omega)))) ?_
      refine L.op1 rfl rfl (GSpec.guard rfl rfl rfl fun hg => (spec_loadP1 rfl Try.isAgg4 (Get.opt rfl hg))) ?_
      refine L.op1 rfl rfl (GSpec.plain rfl (spec_and rfl (Get.tmp rfl) (fun hb => (Get.opt rfl hb)))) ?_
      refine L.nil ?_
      refine N.thenW ?_
      refine W.cond (Get.tmp rfl) (fun h3 => ?_) (fun h3 => ?_)
      · have ph3 := h3; try simp only [decide_eq_true_eq, decide_eq_false_iff_not, Bool.and_eq_true, Bool.or_eq_true, Bool.and_eq_false_iff, Bool.or_eq_false_iff, Bool.not_eq_true', Bool.not_eq_false', Bool.not_true, Bool.not_false, Int.not_lt, Int.not_le] at ph3
        refine W.region ?_
        refine L.op1 rfl rfl (GSpec.plain rfl (spec_fieldAddr (f := 2) (off' := 2) rfl Try.underlying50 rfl Try.sizeOf3 (Get.tmp rfl) rfl)) ?_
        refine L.op1 rfl rfl (GSpec.plain rfl (spec_load1 (k := 0) rfl Try.isAgg3 (Get.tmp rfl) rfl rfl)) ?_
        refine L.op1 rfl rfl (GSpec.plain rfl (spec_assign rfl (Get.tmp rfl))) ?_
        refine L.nil ?_
        refine N.blockNormal ?_
        refine N.roundK (nd l z).hi ?hI3 ?hmu3 ?hs3 ?hk3 ?hp3
        case hs3 => exact (.cons (t := 1) rfl .nil)
        case hk3 => exact (.cons (t := 2) rfl (.cons (t := 3) rfl (.cons (t := 6) rfl .nil)))
        case hp3 => exact (.cons 1 rfl .nil)
        case hI3 => exact (ev_hi hG hI h2 h3).1
        case hmu3 => exact (ev_hi hG hI h2 h3).2
      · have ph3 := h3; try simp only [decide_eq_true_eq, decide_eq_false_iff_not, Bool.and_eq_true, Bool.or_eq_true, Bool.and_eq_false_iff, Bool.or_eq_false_iff, Bool.not_eq_true', Bool.not_eq_false', Bool.not_true, Bool.not_false, Int.not_lt, Int.not_le] at ph3
        refine W.region ?_
        refine L.op1 rfl rfl (GSpec.plain rfl (spec_fieldAddr (f := 1) (off' := 1) rfl Try.underlying50 rfl Try.sizeOf3 (Get.tmp rfl) rfl)) ?_
        refine L.op1 rfl rfl (GSpec.plain rfl (spec_load1 (k := 0) rfl Try.isAgg3 (Get.tmp rfl) rfl rfl)) ?_
        refine L.op1 rfl rfl (GSpec.plain rfl (spec_assign rfl (Get.tmp rfl))) ?_
        refine L.nil ?_
        refine N.blockNormal ?_
        refine N.roundK (nd l z).lo ?hI4 ?hmu4 ?hs4 ?hk4 ?hp4
        case hs4 => exact (.cons (t := 1) rfl .nil)
        case hk4 => exact (.cons (t := 2) rfl (.cons (t := 3) rfl (.cons (t := 6) rfl .nil)))
        case hp4 => exact (.cons 1 rfl .nil)
        case hI4 => exact (ev_lo hG hI h2 h3).1
        case hmu4 => exact (ev_lo hG hI h2 h3).2
    · have ph2 := h2; try simp only [decide_eq_true_eq, decide_eq_false_iff_not, Bool.and_eq_true, Bool.or_eq_true, Bool.and_eq_false_iff, Bool.or_eq_false_iff, Bool.not_eq_true', Bool.not_eq_false', Bool.not_true, Bool.not_false, Int.not_lt, Int.not_le] at ph2
      refine W.exit ?_
      refine N.thenExit ?_
      refine N.thenExit ?_
      refine N.blockExit ?_
      refine N.thenW ?_
      refine W.seq ?_
      refine W.region ?_
      refine L.op1 rfl rfl (GSpec.plain rfl (spec_move rfl (Get.tmp rfl))) ?_
      refine L.op1 rfl rfl (GSpec.plain rfl (spec_eql rfl (Get.tmp rfl) (Get.cint rfl))) ?_
      refine L.op1 rfl rfl (GSpec.plain rfl (spec_assign rfl (Get.tmp rfl))) ?_
      refine L.nil ?_
      refine N.thenW ?_
      refine W.keep (.cons (t := 6) rfl .nil) .refl ?_
      refine W.ret ?_
      refine N.ret () rfl (.tmp (t := 6) (Get.tmp rfl) .nil) (res1 (eqB ?_)) .nil (fun _ _ h => h)
      symm; exact eval_end hG hO hI h2

theorem dhalf_ok (l : List Node) (R₀ : Rp) (fl : Bool) (f lv : Int) (one : Bool) (hok : okNode l f) : CallT Try.prog 71 [Rp.at [Rp.slice eN l, R₀, Rp.bool fl], Rp.int .i64 f, Rp.int .i64 lv, Rp.bool one] [] (.one (Rp.int .i64 (half l f lv one))) := by
  refine W.enter (fn := Try.f71) (n := 29) Try.func71 rfl Try.ntmps71 rfl (fun w₀ C₀ => ?_)
  simp only [argS]
  have hok2 := hok; unfold okNode at hok2
  refine W.seq ?_
  refine W.region ?_
  refine L.op1 rfl rfl (GSpec.plain rfl (spec_assign rfl (Get.cint rfl))) ?_
  refine L.nil ?_
  refine N.thenW ?_
  refine W.seq ?_
  refine W.region ?_
  refine L.op1 rfl rfl (GSpec.plain rfl (spec_move rfl (Get.tmp rfl))) ?_
  refine L.op1 rfl rfl (GSpec.plain rfl (spec_nilCheck rfl (Get.tmp rfl))) ?_
  refine L.op1 rfl rfl (GSpec.plain rfl (spec_fieldAddrP (f := 0) rfl Try.underlying105 rfl Try.sizeOf22 (Get.tmp rfl) rfl rfl)) ?_
  refine L.op1 rfl rfl (GSpec.plain rfl (spec_loadP1 rfl Try.isAgg22 (Get.tmp rfl))) ?_
  refine L.op1 rfl rfl (GSpec.plain rfl (spec_move rfl (Get.tmp rfl))) ?_
  refine L.op1 rfl rfl (GSpec.plain rfl (spec_indexAddrD (E := eN) rfl Try.underlying22 Try.sizeOf50 (fun _ => rfl) (Get.tmp rfl) (Get.tmp rfl) (by omega))) ?_
  refine L.op1 rfl rfl (GSpec.plain rfl (spec_loadPA rfl Try.isAgg50 Try.sizeOf50 (Get.tmp rfl) rfl)) ?_
  refine L.box rfl rfl (GSpec.plain rfl (spec_alloc rfl ti50 z50)) (fun r9 => ?_)
  refine L.storeW (k := 0) rfl rfl rfl Try.sizeOf50 (Get.tmp rfl) (Get.tmp rfl) rfl rfl rfl ?_
  refine L.nil ?_
  refine N.thenW ?_
  refine W.seq ?_
  refine W.block ?_
  refine W.seq ?_
  refine W.region ?_
  refine L.op1 rfl rfl (GSpec.plain rfl (spec_fieldAddr (f := 0) (off' := 0) rfl Try.underlying50 rfl Try.sizeOf3 (Get.tmp rfl) rfl)) ?_
  refine L.op1 rfl rfl (GSpec.plain rfl (spec_load1 (k := 0) rfl Try.isAgg3 (Get.tmp rfl) rfl rfl)) ?_
  refine L.op1 rfl rfl (GSpec.plain rfl (spec_move rfl (Get.tmp rfl))) ?_
  refine L.op1 rfl rfl (GSpec.plain rfl (spec_neq rfl (Get.tmp rfl) (Get.tmp rfl))) ?_
  refine L.op1 rfl rfl (GSpec.plain rfl (spec_assign rfl (Get.tmp rfl))) ?_
  refine L.nil ?_
  refine N.thenW ?_
  refine W.keep (.cons (t := 1) rfl (.cons (t := 3) rfl (.cons (t := 8) rfl (.cons (t := 9) rfl (.cons (t := 17) rfl .nil))))) .refl ?_
  refine W.cond (Get.tmp rfl) (fun h1 => ?_) (fun h1 => ?_)
  · have ph1 := h1; try simp only [decide_eq_true_eq, decide_eq_false_iff_not, Bool.and_eq_true, Bool.or_eq_true, Bool.and_eq_false_iff, Bool.or_eq_false_iff, Bool.not_eq_true', Bool.not_eq_false', Bool.not_true, Bool.not_false, Int.not_lt, Int.not_le] at ph1
    refine W.seq ?_
    refine W.region ?_
    refine L.op1 rfl rfl (GSpec.plain rfl (spec_move rfl (Get.tmp rfl))) ?_
    refine L.op1 rfl rfl (GSpec.plain rfl (spec_assign rfl (Get.tmp rfl))) ?_
    refine L.nil ?_
    refine N.thenW ?_
    refine W.ret ?_
    refine N.ret () rfl (.tmp (t := 8) (Get.tmp rfl) .nil) (res1 (eqI ?_)) .nil (fun _ _ h => h)
    symm; unfold half; rw [if_pos (by simpa [nd] using h1)]
  · have ph1 := h1; try simp only [decide_eq_true_eq, decide_eq_false_iff_not, Bool.and_eq_true, Bool.or_eq_true, Bool.and_eq_false_iff, Bool.or_eq_false_iff, Bool.not_eq_true', Bool.not_eq_false', Bool.not_true, Bool.not_false, Int.not_lt, Int.not_le] at ph1
    refine W.seq ?_
    refine W.region ?_
    refine L.op1 rfl rfl (GSpec.plain rfl (spec_move rfl (Get.tmp rfl))) ?_
    refine L.op1 rfl rfl (GSpec.plain rfl (spec_assign rfl (Get.tmp rfl))) ?_
    refine L.nil ?_
    refine N.thenW ?_
    refine W.cond (Get.tmp rfl) (fun h2 => ?_) (fun h2 => ?_)
    · have ph2 := h2; try simp only [decide_eq_true_eq, decide_eq_false_iff_not, Bool.and_eq_true, Bool.or_eq_true, Bool.and_eq_false_iff, Bool.or_eq_false_iff, Bool.not_eq_true', Bool.not_eq_false', Bool.not_true, Bool.not_false, Int.not_lt, Int.not_le] at ph2
      refine W.seq ?_
      refine W.region ?_
      refine L.op1 rfl rfl (GSpec.plain rfl (spec_fieldAddr (f := 2) (off' := 2) rfl Try.underlying50 rfl Try.sizeOf3 (Get.tmp rfl) rfl)) ?_
      refine L.op1 rfl rfl (GSpec.plain rfl (spec_load1 (k := 0) rfl Try.isAgg3 (Get.tmp rfl) rfl rfl)) ?_
      refine L.op1 rfl rfl (GSpec.plain rfl (spec_assign rfl (Get.tmp rfl))) ?_
      refine L.nil ?_
      refine N.thenW ?_
      refine W.keep (.cons (t := 8) rfl (.cons (t := 9) rfl .nil)) .refl ?_
      refine W.ret ?_
      refine N.ret () rfl (.tmp (t := 8) (Get.tmp rfl) .nil) (res1 (eqI ?_)) .nil (fun _ _ h => h)
      symm; unfold half; rw [if_neg (by simpa [nd] using h1), if_pos h2]; rfl
    · have ph2 := h2; try simp only [decide_eq_true_eq, decide_eq_false_iff_not, Bool.and_eq_true, Bool.or_eq_true, Bool.and_eq_false_iff, Bool.or_eq_false_iff, Bool.not_eq_true', Bool.not_eq_false', Bool.not_true, Bool.not_false, Int.not_lt, Int.not_le] at ph2
      refine W.skip ?_
      refine N.blockNormal ?_
      refine N.thenW ?_
      refine W.seq ?_
      refine W.region ?_
      refine L.op1 rfl rfl (GSpec.plain rfl (spec_fieldAddr (f := 1) (off' := 1) rfl Try.underlying50 rfl Try.sizeOf3 (Get.tmp rfl) rfl)) ?_
      refine L.op1 rfl rfl (GSpec.plain rfl (spec_load1 (k := 0) rfl Try.isAgg3 (Get.tmp rfl) rfl rfl)) ?_
      refine L.op1 rfl rfl (GSpec.plain rfl (spec_assign rfl (Get.tmp rfl))) ?_
      refine L.nil ?_
      refine N.thenW ?_
      refine W.keep (.cons (t := 8) rfl .nil) .refl ?_
      refine W.ret ?_
      refine N.ret () rfl (.tmp (t := 8) (Get.tmp rfl) .nil) (res1 (eqI ?_)) .nil (fun _ _ h => h)
      symm; unfold half; rw [if_neg (by simpa [nd] using h1), if_neg (by simp [h2])]; rfl

theorem notf_ok (a b c : Bool) : CallT Try.prog 47 [Rp.bool a, Rp.bool b, Rp.bool c] [] (.one (Rp.bool (notV a b c))) := by
  refine W.enter (fn := Try.f47) (n := 9) Try.func47 rfl Try.ntmps47 rfl (fun w₀ C₀ => ?_)
  simp only [argS]
  refine W.seq ?_
  refine W.region ?_
  refine L.op1 rfl rfl (GSpec.plain rfl (spec_assign rfl Get.cbool)) ?_
  refine L.nil ?_
  refine N.thenW ?_
  refine W.seq ?_
  refine W.region ?_
  refine L.op1 rfl rfl (GSpec.plain rfl (spec_move rfl (Get.tmp rfl))) ?_
  refine L.op1 rfl rfl (GSpec.plain rfl (spec_not rfl (Get.tmp rfl))) ?_
  refine L.op1 rfl rfl (GSpec.plain rfl (spec_assign rfl (Get.tmp rfl))) ?_
  refine L.nil ?_
  refine N.thenW ?_
  refine W.ret ?_
  refine N.ret () rfl (.tmp (t := 6) (Get.tmp rfl) .nil) (res1 (eqB ?_)) .nil (fun _ _ h => h)
  rfl

theorem andf_ok (a b c : Bool) : CallT Try.prog 48 [Rp.bool a, Rp.bool b, Rp.bool c] [] (.one (Rp.bool (andV a b c))) := by
  refine W.enter (fn := Try.f48) (n := 11) Try.func48 rfl Try.ntmps48 rfl (fun w₀ C₀ => ?_)
  simp only [argS]
  refine W.seq ?_
  refine W.region ?_
  refine L.op1 rfl rfl (GSpec.plain rfl (spec_assign rfl Get.cbool)) ?_
  refine L.nil ?_
  refine N.thenW ?_
  refine W.seq ?_
  refine W.region ?_
  refine L.op1 rfl rfl (GSpec.plain rfl (spec_move rfl (Get.tmp rfl))) ?_
  refine L.op1 rfl rfl (GSpec.plain rfl (spec_move rfl (Get.tmp rfl))) ?_
  refine L.op1 rfl rfl (GSpec.guard rfl rfl rfl fun hg => (spec_move rfl (Get.tmp rfl))) ?_
  refine L.op1 rfl rfl (GSpec.plain rfl (spec_and rfl (Get.tmp rfl) (fun hb => (Get.opt rfl hb)))) ?_
  refine L.op1 rfl rfl (GSpec.plain rfl (spec_assign rfl (Get.tmp rfl))) ?_
  refine L.nil ?_
  refine N.thenW ?_
  refine W.keep (.cons (t := 6) rfl .nil) .refl ?_
  refine W.ret ?_
  refine N.ret () rfl (.tmp (t := 6) (Get.tmp rfl) .nil) (res1 (eqB ?_)) .nil (fun _ _ h => h)
  rfl

theorem orf_ok (a b c : Bool) : CallT Try.prog 49 [Rp.bool a, Rp.bool b, Rp.bool c] [] (.one (Rp.bool (orV a b c))) := by
  refine W.enter (fn := Try.f49) (n := 11) Try.func49 rfl Try.ntmps49 rfl (fun w₀ C₀ => ?_)
  simp only [argS]
  refine W.seq ?_
  refine W.region ?_
  refine L.op1 rfl rfl (GSpec.plain rfl (spec_assign rfl Get.cbool)) ?_
  refine L.nil ?_
  refine N.thenW ?_
  refine W.seq ?_
  refine W.region ?_
  refine L.op1 rfl rfl (GSpec.plain rfl (spec_move rfl (Get.tmp rfl))) ?_
  refine L.op1 rfl rfl (GSpec.plain rfl (spec_move rfl (Get.tmp rfl))) ?_
  refine L.op1 rfl rfl (GSpec.guard rfl rfl rfl fun hg => (spec_move rfl (Get.tmp rfl))) ?_
  refine L.op1 rfl rfl (GSpec.plain rfl (spec_or rfl (Get.tmp rfl) (fun hb => (Get.opt rfl hb)))) ?_
  refine L.op1 rfl rfl (GSpec.plain rfl (spec_assign rfl (Get.tmp rfl))) ?_
  refine L.nil ?_
  refine N.thenW ?_
  refine W.keep (.cons (t := 6) rfl .nil) .refl ?_
  refine W.ret ?_
  refine N.ret () rfl (.tmp (t := 6) (Get.tmp rfl) .nil) (res1 (eqB ?_)) .nil (fun _ _ h => h)
  rfl

end Go.Proofs.Ytcpkjpkjahgobaa
