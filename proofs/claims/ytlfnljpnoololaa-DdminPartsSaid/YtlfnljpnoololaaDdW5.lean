import Derived.Test.YtlfnljpnoololaaDdW4
set_option linter.unusedSimpArgs false
set_option linter.unusedVariables false
namespace Go.Proofs.Ytlfnljpnoololaa
open Go.Sim
theorem rCandidate_ok (s : Shrink) : CallT Try.prog 17 [Rp.agg (shrinkR s)] [] (.one (Rp.tuple [Rp.slice eI (candidateD s).1, Rp.bool (candidateD s).2])) := by
  refine W.enter (fn := Try.f17) (n := 27) Try.func17 rfl Try.ntmps17 rfl (fun w₀ C₀ => ?_)
  simp only [argS]
  refine W.seq ?_
  refine W.region ?_
  refine L.box rfl rfl (GSpec.plain rfl (spec_box rfl (GetC.agg (Get.tmp rfl)))) (fun r1 => ?_)
  refine L.op1 rfl rfl (GSpec.plain rfl (spec_assign rfl (Get.cnil (E := eI)))) ?_
  refine L.op1 rfl rfl (GSpec.plain rfl (spec_assign rfl Get.cbool)) ?_
  refine L.nil ?_
  refine N.thenW ?_
  refine W.seq ?_
  refine W.seq ?_
  refine W.region ?_
  refine L.op1 rfl rfl (GSpec.plain rfl (spec_loadW (k := 0) rfl Try.isAgg24 Try.sizeOf24 (Get.tmp rfl) rfl rfl)) ?_
  refine L.op1 rfl rfl (GSpec.plain rfl (spec_call rfl Try.call18 (rValid_ok _) (.cons (Get.tmp rfl) .nil))) ?_
  refine L.op1 rfl rfl (GSpec.plain rfl (spec_not rfl (Get.tmp rfl))) ?_
  refine L.op1 rfl rfl (GSpec.plain rfl (spec_move rfl (Get.tmp rfl))) ?_
  refine L.op1 rfl rfl (GSpec.guard rfl rfl rfl fun hg => (spec_loadW (k := 0) rfl Try.isAgg24 Try.sizeOf24 (Get.tmp rfl) rfl rfl)) ?_
  refine L.op1 rfl rfl (GSpec.guard rfl rfl rfl fun hg => (spec_call rfl Try.call20 (rDone_ok _) (.cons (Get.opt rfl hg) .nil))) ?_
  refine L.op1 rfl rfl (GSpec.plain rfl (spec_or rfl (Get.tmp rfl) (fun hb => (Get.opt rfl hb)))) ?_
  refine L.nil ?_
  refine N.thenW ?_
  refine W.keep (.cons (t := 1) rfl (.cons (t := 2) rfl (.cons (t := 3) rfl (.cons (t := 10) rfl .nil)))) .refl ?_
  refine W.cond (Get.tmp rfl) (fun h1 => ?_) (fun h1 => ?_)
  · have ph1 := h1; try simp only [decide_eq_true_eq, decide_eq_false_iff_not, Bool.and_eq_true, Bool.or_eq_true, Bool.and_eq_false_iff, Bool.or_eq_false_iff, Bool.not_eq_true', Bool.not_eq_false', Bool.not_true, Bool.not_false, Int.not_lt, Int.not_le] at ph1
    refine W.seq ?_
    refine W.region ?_
    refine L.op1 rfl rfl (GSpec.plain rfl (spec_assign rfl (Get.cnil (E := eI)))) ?_
    refine L.op1 rfl rfl (GSpec.plain rfl (spec_assign rfl Get.cbool)) ?_
    refine L.nil ?_
    refine N.thenW ?_
    refine W.ret ?_
    refine N.ret () rfl (.tmp (t := 2) (Get.tmp rfl) (.tmp (t := 3) (Get.tmp rfl) .nil)) (res2w (eqSl ?_) (eqB ?_)) .nil (fun _ _ h => h)
    all_goals rw [candidate_dead h1]
  · have hlv := live_of' h1; have h := hlv; have hlg := h.v.large (by have := h.two; omega); have hlt := h.lt; have htw := h.two; have hln := h.v.len; have hte := h.v.tests
    refine W.skip ?_
    refine N.thenW ?_
    refine W.seq ?_
    refine W.seq ?_
    refine W.region ?_
    refine L.op1 rfl rfl (GSpec.plain rfl (spec_fieldAddr (off' := 2) rfl Try.underlying24 rfl Try.sizeOf3 (Get.tmp rfl) rfl)) ?_
    refine L.op1 rfl rfl (GSpec.plain rfl (spec_load1 (k := 0) rfl Try.isAgg3 (Get.tmp rfl) rfl rfl)) ?_
    refine L.op1 rfl rfl (GSpec.plain rfl (spec_fieldAddr (off' := 1) rfl Try.underlying24 rfl Try.sizeOf3 (Get.tmp rfl) rfl)) ?_
    refine L.op1 rfl rfl (GSpec.plain rfl (spec_load1 (k := 0) rfl Try.isAgg3 (Get.tmp rfl) rfl rfl)) ?_
    refine L.op1 rfl rfl (GSpec.plain rfl (spec_lss rfl (Get.tmp rfl) (Get.tmp rfl))) ?_
    refine L.nil ?_
    refine N.thenW ?_
    refine W.cond (Get.tmp rfl) (fun h2 => ?_) (fun h2 => ?_)
    · have ph2 := h2; try simp only [decide_eq_true_eq, decide_eq_false_iff_not, Bool.and_eq_true, Bool.or_eq_true, Bool.and_eq_false_iff, Bool.or_eq_false_iff, Bool.not_eq_true', Bool.not_eq_false', Bool.not_true, Bool.not_false, Int.not_lt, Int.not_le] at ph2
      refine W.seq ?_
      refine W.region ?_
      refine L.op1 rfl rfl (GSpec.plain rfl (spec_loadW (k := 0) rfl Try.isAgg24 Try.sizeOf24 (Get.tmp rfl) rfl rfl)) ?_
      refine L.op1 rfl rfl (GSpec.plain rfl (spec_fieldAddr (off' := 2) rfl Try.underlying24 rfl Try.sizeOf3 (Get.tmp rfl) rfl)) ?_
      refine L.op1 rfl rfl (GSpec.plain rfl (spec_load1 (k := 0) rfl Try.isAgg3 (Get.tmp rfl) rfl rfl)) ?_
      refine L.op1 rfl rfl (GSpec.plain rfl (spec_call rfl Try.call28 (rCand_ok s _ true (by omega) (by omega) (by omega) (by omega) (by omega)) (.cons (Get.tmp rfl) (.cons (Get.tmp rfl) (.cons Get.cbool .nil))))) ?_
      refine L.op1 rfl rfl (GSpec.plain rfl (spec_assign rfl (Get.tmp rfl))) ?_
      refine L.op1 rfl rfl (GSpec.plain rfl (spec_assign rfl Get.cbool)) ?_
      refine L.nil ?_
      refine N.thenW ?_
      refine W.keep (.cons (t := 1) rfl (.cons (t := 2) rfl (.cons (t := 3) rfl .nil))) .refl ?_
      refine W.ret ?_
      refine N.ret () rfl (.tmp (t := 2) (Get.tmp rfl) (.tmp (t := 3) (Get.tmp rfl) .nil)) (res2w (eqSl ?_) (eqB ?_)) .nil (fun _ _ h => h)
      all_goals rw [candidate_live h1]
      simp only [candD, if_pos ph2, if_true]
    · have ph2 := h2; try simp only [decide_eq_true_eq, decide_eq_false_iff_not, Bool.and_eq_true, Bool.or_eq_true, Bool.and_eq_false_iff, Bool.or_eq_false_iff, Bool.not_eq_true', Bool.not_eq_false', Bool.not_true, Bool.not_false, Int.not_lt, Int.not_le] at ph2
      refine W.skip ?_
      refine N.thenW ?_
      refine W.keep (.cons (t := 1) rfl (.cons (t := 2) rfl (.cons (t := 3) rfl .nil))) .refl ?_
      refine W.seq ?_
      refine W.region ?_
      refine L.op1 rfl rfl (GSpec.plain rfl (spec_loadW (k := 0) rfl Try.isAgg24 Try.sizeOf24 (Get.tmp rfl) rfl rfl)) ?_
      refine L.op1 rfl rfl (GSpec.plain rfl (spec_fieldAddr (off' := 2) rfl Try.underlying24 rfl Try.sizeOf3 (Get.tmp rfl) rfl)) ?_
      refine L.op1 rfl rfl (GSpec.plain rfl (spec_load1 (k := 0) rfl Try.isAgg3 (Get.tmp rfl) rfl rfl)) ?_
      refine L.op1 rfl rfl (GSpec.plain rfl (spec_fieldAddr (off' := 1) rfl Try.underlying24 rfl Try.sizeOf3 (Get.tmp rfl) rfl)) ?_
      refine L.op1 rfl rfl (GSpec.plain rfl (spec_load1 (k := 0) rfl Try.isAgg3 (Get.tmp rfl) rfl rfl)) ?_
      first | refine L.op1 rfl rfl (GSpec.plain rfl (fit_i64 (by omega) (by omega) (spec_sub rfl (Get.tmp rfl) (Get.tmp rfl)))) ?_ | refine L.op1 rfl rfl (GSpec.plain rfl (spec_sub rfl (Get.tmp rfl) (Get.tmp rfl))) ?_
      refine L.op1 rfl rfl (GSpec.plain rfl (spec_call rfl Try.call28 (rCand_ok s _ false (by omega) (by omega) (by omega) (by omega) (by omega)) (.cons (Get.tmp rfl) (.cons (Get.tmp rfl) (.cons Get.cbool .nil))))) ?_
      refine L.op1 rfl rfl (GSpec.plain rfl (spec_assign rfl (Get.tmp rfl))) ?_
      refine L.op1 rfl rfl (GSpec.plain rfl (spec_assign rfl Get.cbool)) ?_
      refine L.nil ?_
      refine N.thenW ?_
      refine W.keep (.cons (t := 2) rfl (.cons (t := 3) rfl .nil)) .refl ?_
      refine W.ret ?_
      refine N.ret () rfl (.tmp (t := 2) (Get.tmp rfl) (.tmp (t := 3) (Get.tmp rfl) .nil)) (res2w (eqSl ?_) (eqB ?_)) .nil (fun _ _ h => h)
      all_goals rw [candidate_live h1]
      simp only [candD, Bool.false_eq_true, if_false, if_neg (show ¬ s.tries < s.parts by omega)]

theorem rTell_ok (s : Shrink) (f : Bool) : CallT Try.prog 23 [Rp.agg (shrinkR s), Rp.bool f] [] (.one (Rp.agg (shrinkR (tellD s f)))) := by
  refine W.enter (fn := Try.f23) (n := 73) Try.func23 rfl Try.ntmps23 rfl (fun w₀ C₀ => ?_)
  simp only [argS]
  refine W.fact 0 rfl shrink_ok fun hs => ?_
  have hk := hs.kept
  refine W.seq ?_
  refine W.region ?_
  refine L.box rfl rfl (GSpec.plain rfl (spec_box rfl (GetC.agg (Get.tmp rfl)))) (fun r2 => ?_)
  refine L.box rfl rfl (GSpec.plain rfl (spec_alloc rfl ti24 z24)) (fun r4 => ?_)
  refine L.nil ?_
  refine N.thenW ?_
  refine W.seq ?_
  refine W.region ?_
  refine L.op1 rfl rfl (GSpec.plain rfl (spec_loadW (k := 1) rfl Try.isAgg24 Try.sizeOf24 (Get.tmp rfl) rfl rfl)) ?_
  refine L.op1 rfl rfl (GSpec.plain rfl (spec_call rfl Try.call17 (rCandidate_ok _) (.cons (Get.tmp rfl) .nil))) ?_
  refine L.op1 rfl rfl (GSpec.plain rfl (spec_move rfl (Get.tmp rfl))) ?_
  refine L.op1 rfl rfl (GSpec.plain rfl (spec_extract rfl (Get.tmp rfl) rfl)) ?_
  refine L.op1 rfl rfl (GSpec.plain rfl (spec_extract rfl (Get.tmp rfl) rfl)) ?_
  refine L.op1 rfl rfl (GSpec.plain rfl (spec_assign rfl (Get.tmp rfl))) ?_
  refine L.op1 rfl rfl (GSpec.plain rfl (spec_assign rfl (Get.tmp rfl))) ?_
  refine L.nil ?_
  refine N.thenW ?_
  refine W.keep (.cons (t := 1) rfl (.cons (t := 2) rfl (.cons (t := 4) rfl (.cons (t := 5) rfl (.cons (t := 6) rfl .nil))))) .refl ?_
  refine W.seq ?_
  refine W.seq ?_
  refine W.region ?_
  refine L.op1 rfl rfl (GSpec.plain rfl (spec_move rfl (Get.tmp rfl))) ?_
  refine L.op1 rfl rfl (GSpec.plain rfl (spec_not rfl (Get.tmp rfl))) ?_
  refine L.nil ?_
  refine N.thenW ?_
  refine W.cond (Get.tmp rfl) (fun h1 => ?_) (fun h1 => ?_)
  · have ph1 := h1; try simp only [decide_eq_true_eq, decide_eq_false_iff_not, Bool.and_eq_true, Bool.or_eq_true, Bool.and_eq_false_iff, Bool.or_eq_false_iff, Bool.not_eq_true', Bool.not_eq_false', Bool.not_true, Bool.not_false, Int.not_lt, Int.not_le] at ph1
    refine W.seq ?_
    refine W.region ?_
    refine L.op1 rfl rfl (GSpec.plain rfl (spec_loadW (k := 1) rfl Try.isAgg24 Try.sizeOf24 (Get.tmp rfl) rfl rfl)) ?_
    refine L.storeW (k := 0) rfl rfl rfl Try.sizeOf24 (Get.tmp rfl) (Get.tmp rfl) rfl rfl rfl ?_
    refine L.nil ?_
    refine N.thenW ?_
    refine W.ret ?_
    refine N.ret () rfl (.cellA (k := 0) (Get.tmp (t := 4) rfl) rfl Try.isAgg24 Try.sizeOf24 rfl .nil) (res1 (eqA ?_)) .nil (fun _ _ h => h)
    simp only [tellD, cand_no_of h1]; rfl
  · have h9 := cand_ok_of h1; have hlv := live_of' h9; have h := hlv; have hlg := h.v.large (by have := h.two; omega); have hlt := h.lt; have htw := h.two; have hln := h.v.len; have hte := h.v.tests; have hcl := cand_le hlv; have hc := candidate_live h9; have hc1 : (candidateD s).1 = candD s := (by rw [hc]); have hl1 : (candidateD s).1.length = (candD s).length := (by rw [hc1])
    refine W.skip ?_
    refine N.thenW ?_
    refine W.seq ?_
    refine W.region ?_
    refine L.op1 rfl rfl (GSpec.plain rfl (spec_fieldAddr (off' := 0) rfl Try.underlying24 rfl Try.sizeOf22 (Get.tmp rfl) rfl)) ?_
    refine L.op1 rfl rfl (GSpec.plain rfl (spec_load1 (k := 1) rfl Try.isAgg22 (Get.tmp rfl) rfl rfl)) ?_
    refine L.op1 rfl rfl (GSpec.plain rfl (spec_fieldAddr (off' := 1) rfl Try.underlying24 rfl Try.sizeOf3 (Get.tmp rfl) rfl)) ?_
    refine L.op1 rfl rfl (GSpec.plain rfl (spec_load1 (k := 1) rfl Try.isAgg3 (Get.tmp rfl) rfl rfl)) ?_
    refine L.op1 rfl rfl (GSpec.plain rfl (spec_fieldAddr (off' := 2) rfl Try.underlying24 rfl Try.sizeOf3 (Get.tmp rfl) rfl)) ?_
    refine L.op1 rfl rfl (GSpec.plain rfl (spec_load1 (k := 1) rfl Try.isAgg3 (Get.tmp rfl) rfl rfl)) ?_
    first | refine L.op1 rfl rfl (GSpec.plain rfl (fit_i64 (by omega) (by omega) (spec_add rfl (Get.tmp rfl) (Get.cint rfl)))) ?_ | refine L.op1 rfl rfl (GSpec.plain rfl (spec_add rfl (Get.tmp rfl) (Get.cint rfl))) ?_
    refine L.op1 rfl rfl (GSpec.plain rfl (spec_fieldAddr (off' := 3) rfl Try.underlying24 rfl Try.sizeOf3 (Get.tmp rfl) rfl)) ?_
    refine L.op1 rfl rfl (GSpec.plain rfl (spec_load1 (k := 1) rfl Try.isAgg3 (Get.tmp rfl) rfl rfl)) ?_
    first | refine L.op1 rfl rfl (GSpec.plain rfl (fit_i64 (by omega) (by omega) (spec_add rfl (Get.tmp rfl) (Get.cint rfl)))) ?_ | refine L.op1 rfl rfl (GSpec.plain rfl (spec_add rfl (Get.tmp rfl) (Get.cint rfl))) ?_
    refine L.op1 rfl rfl (GSpec.plain rfl (spec_min2 rfl (Get.tmp rfl) (Get.cint rfl))) ?_
    refine L.op1 rfl rfl (GSpec.plain rfl (spec_build (Rs := [_, _, _, _]) rfl ti24 z24 Try.underlying24 pl24 (.cons (GetC.one (Get.tmp rfl)) rfl rfl rfl (.cons (GetC.one (Get.tmp rfl)) rfl rfl rfl (.cons (GetC.one (Get.tmp rfl)) rfl rfl rfl (.cons (GetC.one (Get.tmp rfl)) rfl rfl rfl .nil)))))) ?_
    refine L.box rfl rfl (GSpec.plain rfl (spec_alloc rfl ti24 z24)) (fun r7 => ?_)
    refine L.storeW (k := 0) rfl rfl rfl Try.sizeOf24 (Get.tmp rfl) (Get.tmp rfl) rfl rfl rfl ?_
    refine L.nil ?_
    refine N.thenW ?_
    refine W.keep (.cons (t := 1) rfl (.cons (t := 2) rfl (.cons (t := 4) rfl (.cons (t := 5) rfl (.cons (t := 7) rfl .nil))))) .refl ?_
    refine W.seq ?_
    refine W.seq ?_
    refine W.region ?_
    refine L.op1 rfl rfl (GSpec.plain rfl (spec_move rfl (Get.tmp rfl))) ?_
    refine L.op1 rfl rfl (GSpec.plain rfl (spec_not rfl (Get.tmp rfl))) ?_
    refine L.nil ?_
    refine N.thenW ?_
    refine W.cond (Get.tmp rfl) (fun h2 => ?_) (fun h2 => ?_)
    · have ph2 := h2; try simp only [decide_eq_true_eq, decide_eq_false_iff_not, Bool.and_eq_true, Bool.or_eq_true, Bool.and_eq_false_iff, Bool.or_eq_false_iff, Bool.not_eq_true', Bool.not_eq_false', Bool.not_true, Bool.not_false, Int.not_lt, Int.not_le] at ph2
      refine W.seq ?_
      refine W.seq ?_
      refine W.region ?_
      refine L.op1 rfl rfl (GSpec.plain rfl (spec_fieldAddr (off' := 2) rfl Try.underlying24 rfl Try.sizeOf3 (Get.tmp rfl) rfl)) ?_
      refine L.op1 rfl rfl (GSpec.plain rfl (spec_load1 (k := 0) rfl Try.isAgg3 (Get.tmp rfl) rfl rfl)) ?_
      refine L.op1 rfl rfl (GSpec.plain rfl (spec_fieldAddr (off' := 1) rfl Try.underlying24 rfl Try.sizeOf3 (Get.tmp rfl) rfl)) ?_
      refine L.op1 rfl rfl (GSpec.plain rfl (spec_load1 (k := 2) rfl Try.isAgg3 (Get.tmp rfl) rfl rfl)) ?_
      first | refine L.op1 rfl rfl (GSpec.plain rfl (fit_i64 (by omega) (by omega) (spec_mul rfl (Get.cint rfl) (Get.tmp rfl)))) ?_ | refine L.op1 rfl rfl (GSpec.plain rfl (spec_mul rfl (Get.cint rfl) (Get.tmp rfl))) ?_
      refine L.op1 rfl rfl (GSpec.plain rfl (spec_eql rfl (Get.tmp rfl) (Get.tmp rfl))) ?_
      refine L.op1 rfl rfl (GSpec.plain rfl (spec_move rfl (Get.tmp rfl))) ?_
      refine L.op1 rfl rfl (GSpec.guard rfl rfl rfl fun hg => (spec_fieldAddr (off' := 1) rfl Try.underlying24 rfl Try.sizeOf3 (Get.tmp rfl) rfl)) ?_
      refine L.op1 rfl rfl (GSpec.guard rfl rfl rfl fun hg => (spec_load1 (k := 2) rfl Try.isAgg3 (Get.opt rfl hg) rfl rfl)) ?_
      refine L.op1 rfl rfl (GSpec.guard rfl rfl rfl fun hg => (spec_fieldAddr (off' := 0) rfl Try.underlying24 rfl Try.sizeOf22 (Get.tmp rfl) rfl)) ?_
      refine L.op1 rfl rfl (GSpec.guard rfl rfl rfl fun hg => (spec_load1 (k := 2) rfl Try.isAgg22 (Get.opt rfl hg) rfl rfl)) ?_
      refine L.op1 rfl rfl (GSpec.guard rfl rfl rfl fun hg => (spec_len rfl Try.underlying22 (Get.opt rfl hg))) ?_
      refine L.op1 rfl rfl (GSpec.guard rfl rfl rfl fun hg => (spec_lss rfl (Get.opt rfl hg) (Get.opt rfl hg))) ?_
      refine L.op1 rfl rfl (GSpec.plain rfl (spec_and rfl (Get.tmp rfl) (fun hb => (Get.opt rfl hb)))) ?_
      refine L.nil ?_
      refine N.thenW ?_
      refine W.keep (.cons (t := 2) rfl (.cons (t := 4) rfl (.cons (t := 5) rfl (.cons (t := 7) rfl (.cons (t := 43) rfl .nil))))) .refl ?_
      refine W.cond (Get.tmp rfl) (fun h3 => ?_) (fun h3 => ?_)
      · have ph3 := h3; try simp only [decide_eq_true_eq, decide_eq_false_iff_not, Bool.and_eq_true, Bool.or_eq_true, Bool.and_eq_false_iff, Bool.or_eq_false_iff, Bool.not_eq_true', Bool.not_eq_false', Bool.not_true, Bool.not_false, Int.not_lt, Int.not_le] at ph3
        refine W.seq ?_
        refine W.region ?_
        refine L.op1 rfl rfl (GSpec.plain rfl (spec_fieldAddr (off' := 1) rfl Try.underlying24 rfl Try.sizeOf3 (Get.tmp rfl) rfl)) ?_
        refine L.op1 rfl rfl (GSpec.plain rfl (spec_load1 (k := 2) rfl Try.isAgg3 (Get.tmp rfl) rfl rfl)) ?_
        first | refine L.op1 rfl rfl (GSpec.plain rfl (fit_i64 (by omega) (by omega) (spec_mul rfl (Get.cint rfl) (Get.tmp rfl)))) ?_ | refine L.op1 rfl rfl (GSpec.plain rfl (spec_mul rfl (Get.cint rfl) (Get.tmp rfl))) ?_
        refine L.op1 rfl rfl (GSpec.plain rfl (spec_fieldAddr (off' := 0) rfl Try.underlying24 rfl Try.sizeOf22 (Get.tmp rfl) rfl)) ?_
        refine L.op1 rfl rfl (GSpec.plain rfl (spec_load1 (k := 2) rfl Try.isAgg22 (Get.tmp rfl) rfl rfl)) ?_
        refine L.op1 rfl rfl (GSpec.plain rfl (spec_len rfl Try.underlying22 (Get.tmp rfl))) ?_
        refine L.op1 rfl rfl (GSpec.plain rfl (spec_min2 rfl (Get.tmp rfl) (Get.tmp rfl))) ?_
        refine L.op1 rfl rfl (GSpec.plain rfl (spec_fieldAddr (off' := 1) rfl Try.underlying24 rfl Try.sizeOf3 (Get.tmp rfl) rfl)) ?_
        refine L.storeB (k := 0) rfl rfl rfl Try.sizeOf3 (Get.tmp rfl) (Get.tmp rfl) rfl rfl ?_
        refine L.nil ?_
        refine N.thenW ?_
        refine W.keep (.cons (t := 2) rfl (.cons (t := 4) rfl (.cons (t := 5) rfl (.cons (t := 7) rfl .nil)))) .refl ?_
        refine W.region ?_
        refine L.op1 rfl rfl (GSpec.plain rfl (spec_fieldAddr (off' := 2) rfl Try.underlying24 rfl Try.sizeOf3 (Get.tmp rfl) rfl)) ?_
        refine L.storeB (k := 0) rfl rfl rfl Try.sizeOf3 (Get.tmp rfl) (Get.cint rfl) rfl rfl ?_
        refine L.nil ?_
        refine N.thenW ?_
        refine W.seq ?_
        refine W.region ?_
        refine L.op1 rfl rfl (GSpec.plain rfl (spec_loadW (k := 0) rfl Try.isAgg24 Try.sizeOf24 (Get.tmp rfl) rfl rfl)) ?_
        refine L.storeW (k := 1) rfl rfl rfl Try.sizeOf24 (Get.tmp rfl) (Get.tmp rfl) rfl rfl rfl ?_
        refine L.nil ?_
        refine N.thenW ?_
        refine W.ret ?_
        refine N.ret () rfl (.cellA (k := 1) (Get.tmp (t := 4) rfl) rfl Try.isAgg24 Try.sizeOf24 rfl .nil) (res1 (eqA ?_)) .nil (fun _ _ h => h)
        have hf : f = false := by simpa using h2
        subst hf; simp only [tellD, h9, h3]; rfl
      · have ph3 := h3; try simp only [decide_eq_true_eq, decide_eq_false_iff_not, Bool.and_eq_true, Bool.or_eq_true, Bool.and_eq_false_iff, Bool.or_eq_false_iff, Bool.not_eq_true', Bool.not_eq_false', Bool.not_true, Bool.not_false, Int.not_lt, Int.not_le] at ph3
        refine W.skip ?_
        refine N.thenW ?_
        refine W.seq ?_
        refine W.region ?_
        refine L.op1 rfl rfl (GSpec.plain rfl (spec_loadW (k := 0) rfl Try.isAgg24 Try.sizeOf24 (Get.tmp rfl) rfl rfl)) ?_
        refine L.storeW (k := 1) rfl rfl rfl Try.sizeOf24 (Get.tmp rfl) (Get.tmp rfl) rfl rfl rfl ?_
        refine L.nil ?_
        refine N.thenW ?_
        refine W.ret ?_
        refine N.ret () rfl (.cellA (k := 1) (Get.tmp (t := 4) rfl) rfl Try.isAgg24 Try.sizeOf24 rfl .nil) (res1 (eqA ?_)) .nil (fun _ _ h => h)
        have hf : f = false := by simpa using h2
        subst hf; simp only [tellD, h9, h3]; rfl
    · have ph2 := h2; try simp only [decide_eq_true_eq, decide_eq_false_iff_not, Bool.and_eq_true, Bool.or_eq_true, Bool.and_eq_false_iff, Bool.or_eq_false_iff, Bool.not_eq_true', Bool.not_eq_false', Bool.not_true, Bool.not_false, Int.not_lt, Int.not_le] at ph2
      refine W.skip ?_
      refine N.thenW ?_
      refine W.seq ?_
      refine W.region ?_
      refine L.op1 rfl rfl (GSpec.plain rfl (spec_move rfl (Get.tmp rfl))) ?_
      refine L.op1 rfl rfl (GSpec.plain rfl (spec_fieldAddr (off' := 0) rfl Try.underlying24 rfl Try.sizeOf22 (Get.tmp rfl) rfl)) ?_
      refine L.storeB (k := 0) rfl rfl rfl Try.sizeOf22 (Get.tmp rfl) (Get.tmp rfl) rfl rfl ?_
      refine L.nil ?_
      refine N.thenW ?_
      refine W.seq ?_
      refine W.region ?_
      refine L.op1 rfl rfl (GSpec.plain rfl (spec_fieldAddr (off' := 2) rfl Try.underlying24 rfl Try.sizeOf3 (Get.tmp rfl) rfl)) ?_
      refine L.storeB (k := 0) rfl rfl rfl Try.sizeOf3 (Get.tmp rfl) (Get.cint rfl) rfl rfl ?_
      refine L.nil ?_
      refine N.thenW ?_
      refine W.keep (.cons (t := 2) rfl (.cons (t := 4) rfl (.cons (t := 5) rfl (.cons (t := 7) rfl .nil)))) .refl ?_
      refine W.seq ?_
      refine W.region ?_
      refine L.op1 rfl rfl (GSpec.plain rfl (spec_fieldAddr (off' := 1) rfl Try.underlying24 rfl Try.sizeOf3 (Get.tmp rfl) rfl)) ?_
      refine L.storeB (k := 0) rfl rfl rfl Try.sizeOf3 (Get.tmp rfl) (Get.cint rfl) rfl rfl ?_
      refine L.nil ?_
      refine N.thenW ?_
      refine W.seq ?_
      refine W.seq ?_
      refine W.region ?_
      refine L.op1 rfl rfl (GSpec.plain rfl (spec_fieldAddr (off' := 2) rfl Try.underlying24 rfl Try.sizeOf3 (Get.tmp rfl) rfl)) ?_
      refine L.op1 rfl rfl (GSpec.plain rfl (spec_load1 (k := 2) rfl Try.isAgg3 (Get.tmp rfl) rfl rfl)) ?_
      refine L.op1 rfl rfl (GSpec.plain rfl (spec_fieldAddr (off' := 1) rfl Try.underlying24 rfl Try.sizeOf3 (Get.tmp rfl) rfl)) ?_
      refine L.op1 rfl rfl (GSpec.plain rfl (spec_load1 (k := 2) rfl Try.isAgg3 (Get.tmp rfl) rfl rfl)) ?_
      refine L.op1 rfl rfl (GSpec.plain rfl (spec_geq rfl (Get.tmp rfl) (Get.tmp rfl))) ?_
      refine L.nil ?_
      refine N.thenW ?_
      refine W.cond (Get.tmp rfl) (fun h4 => ?_) (fun h4 => ?_)
      · have ph4 := h4; try simp only [decide_eq_true_eq, decide_eq_false_iff_not, Bool.and_eq_true, Bool.or_eq_true, Bool.and_eq_false_iff, Bool.or_eq_false_iff, Bool.not_eq_true', Bool.not_eq_false', Bool.not_true, Bool.not_false, Int.not_lt, Int.not_le] at ph4
        refine W.region ?_
        refine L.op1 rfl rfl (GSpec.plain rfl (spec_fieldAddr (off' := 1) rfl Try.underlying24 rfl Try.sizeOf3 (Get.tmp rfl) rfl)) ?_
        refine L.op1 rfl rfl (GSpec.plain rfl (spec_load1 (k := 2) rfl Try.isAgg3 (Get.tmp rfl) rfl rfl)) ?_
        first | refine L.op1 rfl rfl (GSpec.plain rfl (fit_i64 (by omega) (by omega) (spec_sub rfl (Get.tmp rfl) (Get.cint rfl)))) ?_ | refine L.op1 rfl rfl (GSpec.plain rfl (spec_sub rfl (Get.tmp rfl) (Get.cint rfl))) ?_
        refine L.op1 rfl rfl (GSpec.plain rfl (spec_max2 rfl (Get.cint rfl) (Get.tmp rfl))) ?_
        refine L.op1 rfl rfl (GSpec.plain rfl (spec_fieldAddr (off' := 1) rfl Try.underlying24 rfl Try.sizeOf3 (Get.tmp rfl) rfl)) ?_
        refine L.storeB (k := 0) rfl rfl rfl Try.sizeOf3 (Get.tmp rfl) (Get.tmp rfl) rfl rfl ?_
        refine L.nil ?_
        refine N.thenW ?_
        refine W.keep (.cons (t := 4) rfl (.cons (t := 5) rfl (.cons (t := 7) rfl .nil))) .refl ?_
        refine W.seq ?_
        refine W.seq ?_
        refine W.region ?_
        refine L.op1 rfl rfl (GSpec.plain rfl (spec_move rfl (Get.tmp rfl))) ?_
        refine L.op1 rfl rfl (GSpec.plain rfl (spec_len rfl Try.underlying22 (Get.tmp rfl))) ?_
        refine L.op1 rfl rfl (GSpec.plain rfl (spec_lss rfl (Get.tmp rfl) (Get.cint rfl))) ?_
        refine L.nil ?_
        refine N.thenW ?_
        refine W.cond (Get.tmp rfl) (fun h5 => ?_) (fun h5 => ?_)
        · have ph5 := h5; try simp only [decide_eq_true_eq, decide_eq_false_iff_not, Bool.and_eq_true, Bool.or_eq_true, Bool.and_eq_false_iff, Bool.or_eq_false_iff, Bool.not_eq_true', Bool.not_eq_false', Bool.not_true, Bool.not_false, Int.not_lt, Int.not_le] at ph5
          refine W.region ?_
          refine L.op1 rfl rfl (GSpec.plain rfl (spec_fieldAddr (off' := 1) rfl Try.underlying24 rfl Try.sizeOf3 (Get.tmp rfl) rfl)) ?_
          refine L.storeB (k := 0) rfl rfl rfl Try.sizeOf3 (Get.tmp rfl) (Get.cint rfl) rfl rfl ?_
          refine L.nil ?_
          refine N.thenW ?_
          refine W.seq ?_
          refine W.region ?_
          refine L.op1 rfl rfl (GSpec.plain rfl (spec_loadW (k := 0) rfl Try.isAgg24 Try.sizeOf24 (Get.tmp rfl) rfl rfl)) ?_
          refine L.storeW (k := 1) rfl rfl rfl Try.sizeOf24 (Get.tmp rfl) (Get.tmp rfl) rfl rfl rfl ?_
          refine L.nil ?_
          refine N.thenW ?_
          refine W.keep (.cons (t := 4) rfl .nil) .refl ?_
          refine W.ret ?_
          refine N.ret () rfl (.cellA (k := 1) (Get.tmp (t := 4) rfl) rfl Try.isAgg24 Try.sizeOf24 rfl .nil) (res1 (eqA ?_)) .nil (fun _ _ h => h)
          have hf : f = true := by simpa using h2
          subst hf; rw [tell_yes h9]; refine shrinkR_eq hc1 ?_ rfl rfl
          split <;> (try split) <;> omega
        · have ph5 := h5; try simp only [decide_eq_true_eq, decide_eq_false_iff_not, Bool.and_eq_true, Bool.or_eq_true, Bool.and_eq_false_iff, Bool.or_eq_false_iff, Bool.not_eq_true', Bool.not_eq_false', Bool.not_true, Bool.not_false, Int.not_lt, Int.not_le] at ph5
          refine W.skip ?_
          refine N.thenW ?_
          refine W.seq ?_
          refine W.region ?_
          refine L.op1 rfl rfl (GSpec.plain rfl (spec_loadW (k := 0) rfl Try.isAgg24 Try.sizeOf24 (Get.tmp rfl) rfl rfl)) ?_
          refine L.storeW (k := 1) rfl rfl rfl Try.sizeOf24 (Get.tmp rfl) (Get.tmp rfl) rfl rfl rfl ?_
          refine L.nil ?_
          refine N.thenW ?_
          refine W.keep (.cons (t := 4) rfl .nil) .refl ?_
          refine W.ret ?_
          refine N.ret () rfl (.cellA (k := 1) (Get.tmp (t := 4) rfl) rfl Try.isAgg24 Try.sizeOf24 rfl .nil) (res1 (eqA ?_)) .nil (fun _ _ h => h)
          have hf : f = true := by simpa using h2
          subst hf; rw [tell_yes h9]; refine shrinkR_eq hc1 ?_ rfl rfl
          split <;> (try split) <;> omega
      · have ph4 := h4; try simp only [decide_eq_true_eq, decide_eq_false_iff_not, Bool.and_eq_true, Bool.or_eq_true, Bool.and_eq_false_iff, Bool.or_eq_false_iff, Bool.not_eq_true', Bool.not_eq_false', Bool.not_true, Bool.not_false, Int.not_lt, Int.not_le] at ph4
        refine W.skip ?_
        refine N.thenW ?_
        refine W.keep (.cons (t := 4) rfl (.cons (t := 5) rfl (.cons (t := 7) rfl .nil))) .refl ?_
        refine W.seq ?_
        refine W.seq ?_
        refine W.region ?_
        refine L.op1 rfl rfl (GSpec.plain rfl (spec_move rfl (Get.tmp rfl))) ?_
        refine L.op1 rfl rfl (GSpec.plain rfl (spec_len rfl Try.underlying22 (Get.tmp rfl))) ?_
        refine L.op1 rfl rfl (GSpec.plain rfl (spec_lss rfl (Get.tmp rfl) (Get.cint rfl))) ?_
        refine L.nil ?_
        refine N.thenW ?_
        refine W.cond (Get.tmp rfl) (fun h6 => ?_) (fun h6 => ?_)
        · have ph6 := h6; try simp only [decide_eq_true_eq, decide_eq_false_iff_not, Bool.and_eq_true, Bool.or_eq_true, Bool.and_eq_false_iff, Bool.or_eq_false_iff, Bool.not_eq_true', Bool.not_eq_false', Bool.not_true, Bool.not_false, Int.not_lt, Int.not_le] at ph6
          refine W.region ?_
          refine L.op1 rfl rfl (GSpec.plain rfl (spec_fieldAddr (off' := 1) rfl Try.underlying24 rfl Try.sizeOf3 (Get.tmp rfl) rfl)) ?_
          refine L.storeB (k := 0) rfl rfl rfl Try.sizeOf3 (Get.tmp rfl) (Get.cint rfl) rfl rfl ?_
          refine L.nil ?_
          refine N.thenW ?_
          refine W.seq ?_
          refine W.region ?_
          refine L.op1 rfl rfl (GSpec.plain rfl (spec_loadW (k := 0) rfl Try.isAgg24 Try.sizeOf24 (Get.tmp rfl) rfl rfl)) ?_
          refine L.storeW (k := 1) rfl rfl rfl Try.sizeOf24 (Get.tmp rfl) (Get.tmp rfl) rfl rfl rfl ?_
          refine L.nil ?_
          refine N.thenW ?_
          refine W.keep (.cons (t := 4) rfl .nil) .refl ?_
          refine W.ret ?_
          refine N.ret () rfl (.cellA (k := 1) (Get.tmp (t := 4) rfl) rfl Try.isAgg24 Try.sizeOf24 rfl .nil) (res1 (eqA ?_)) .nil (fun _ _ h => h)
          have hf : f = true := by simpa using h2
          subst hf; rw [tell_yes h9]; refine shrinkR_eq hc1 ?_ rfl rfl
          split <;> (try split) <;> omega
        · have ph6 := h6; try simp only [decide_eq_true_eq, decide_eq_false_iff_not, Bool.and_eq_true, Bool.or_eq_true, Bool.and_eq_false_iff, Bool.or_eq_false_iff, Bool.not_eq_true', Bool.not_eq_false', Bool.not_true, Bool.not_false, Int.not_lt, Int.not_le] at ph6
          refine W.skip ?_
          refine N.thenW ?_
          refine W.seq ?_
          refine W.region ?_
          refine L.op1 rfl rfl (GSpec.plain rfl (spec_loadW (k := 0) rfl Try.isAgg24 Try.sizeOf24 (Get.tmp rfl) rfl rfl)) ?_
          refine L.storeW (k := 1) rfl rfl rfl Try.sizeOf24 (Get.tmp rfl) (Get.tmp rfl) rfl rfl rfl ?_
          refine L.nil ?_
          refine N.thenW ?_
          refine W.keep (.cons (t := 4) rfl .nil) .refl ?_
          refine W.ret ?_
          refine N.ret () rfl (.cellA (k := 1) (Get.tmp (t := 4) rfl) rfl Try.isAgg24 Try.sizeOf24 rfl .nil) (res1 (eqA ?_)) .nil (fun _ _ h => h)
          have hf : f = true := by simpa using h2
          subst hf; rw [tell_yes h9]; refine shrinkR_eq hc1 ?_ rfl rfl
          split <;> (try split) <;> omega

end Go.Proofs.Ytlfnljpnoololaa
