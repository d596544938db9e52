import Derived.Test.YtlfnljpnoololaaDdW
set_option linter.unusedSimpArgs false
set_option linter.unusedVariables false
namespace Go.Proofs.Ytlfnljpnoololaa
open Go.Sim
theorem rest_ok (l : List Int) (m i : Int) (hl : l.length ≤ 1024) (hm : 0 < m) (hi : 0 ≤ i) (hi2 : i < m) (hm2 : m ≤ 1024) : CallT Try.prog 33 [Rp.agg [Rp.slice eI l, Rp.int .i64 m], Rp.int .i64 i] [] (.one (Rp.slice eI (restD l m i))) := by
  refine W.enter (fn := Try.f33) (n := 23) Try.func33 rfl Try.ntmps33 rfl (fun w₀ C₀ => ?_)
  simp only [argS]
  obtain ⟨f1, f2, f3⟩ := from_le (k := l.length) (n := m) (i := i) (by omega) (by omega) (by omega) (by omega)
  refine W.seq ?_
  refine W.region ?_
  refine L.box rfl rfl (GSpec.plain rfl (spec_box rfl (GetC.agg (Get.tmp rfl)))) (fun r2 => ?_)
  refine L.op1 rfl rfl (GSpec.plain rfl (spec_assign rfl (Get.cnil (E := eI)))) ?_
  refine L.nil ?_
  refine N.thenW ?_
  refine W.seq ?_
  refine W.region ?_
  refine L.op1 rfl rfl (GSpec.plain rfl (spec_loadW (k := 0) rfl Try.isAgg49 Try.sizeOf49 (Get.tmp rfl) rfl rfl)) ?_
  refine L.op1 rfl rfl (GSpec.plain rfl (spec_move rfl (Get.tmp rfl))) ?_
  refine L.op1 rfl rfl (GSpec.plain rfl (spec_call rfl Try.call34 (bounds_ok _ _ _ (by omega) (by omega) (by omega) (by omega)) (.cons (Get.tmp rfl) (.cons (Get.tmp rfl) .nil)))) ?_
  refine L.op1 rfl rfl (GSpec.plain rfl (spec_move rfl (Get.tmp rfl))) ?_
  refine L.op1 rfl rfl (GSpec.plain rfl (spec_extract rfl (Get.tmp rfl) rfl)) ?_
  refine L.op1 rfl rfl (GSpec.plain rfl (spec_extract rfl (Get.tmp rfl) rfl)) ?_
  refine L.op1 rfl rfl (GSpec.plain rfl (spec_assign rfl (Get.tmp rfl))) ?_
  refine L.op1 rfl rfl (GSpec.plain rfl (spec_assign rfl (Get.tmp rfl))) ?_
  refine L.nil ?_
  refine N.thenW ?_
  refine W.keep (.cons (t := 2) rfl (.cons (t := 4) rfl (.cons (t := 5) rfl (.cons (t := 6) rfl .nil)))) .refl ?_
  refine W.seq ?_
  apply W.any 11 mixed (by kernel_rfl)
  · apply Head.one rfl rfl (GSpec.plain rfl (spec_fieldAddr (off' := 0) rfl Try.underlying49 rfl Try.sizeOf22 (Get.tmp rfl) rfl))
    apply Head.one rfl rfl (GSpec.plain rfl (spec_load1 (k := 0) rfl Try.isAgg22 (Get.tmp rfl) rfl rfl))
    apply Head.one rfl rfl (GSpec.plain rfl (spec_move rfl (Get.tmp rfl)))
    apply Head.one rfl rfl (GSpec.plain rfl (spec_slice (E := eI) rfl Try.underlying22 Try.sizeOf3 (fun _ => rfl) (Get.tmp rfl) .none (.some (Get.tmp rfl) (by omega)) (by omega)))
    apply Head.one rfl rfl (GSpec.plain rfl (spec_fieldAddr (off' := 0) rfl Try.underlying49 rfl Try.sizeOf22 (Get.tmp rfl) rfl))
    apply Head.one rfl rfl (GSpec.plain rfl (spec_load1 (k := 0) rfl Try.isAgg22 (Get.tmp rfl) rfl rfl))
    apply Head.one rfl rfl (GSpec.plain rfl (spec_move rfl (Get.tmp rfl)))
    apply Head.one rfl rfl (GSpec.plain rfl (spec_slice (E := eI) rfl Try.underlying22 Try.sizeOf3 (fun _ => rfl) (Get.tmp rfl) (.some (Get.tmp rfl) (by omega)) .none (by omega)))
    apply Head.one rfl rfl (GSpec.plain rfl (spec_buildSliceN (xs := [_, _]) (E := eII) rfl Try.underlying55 ti22 z22 (by first | decide | simp) rfl (.cons (GetC.one (Get.tmp rfl)) rfl rfl rfl (.cons (GetC.one (Get.tmp rfl)) rfl rfl rfl .nil)) rfl rfl))
    apply Head.one rfl rfl (GSpec.plain rfl (spec_call rfl Try.call35 (concat_ok _ _ (by simp; omega) (by simp; omega)) (.cons (Get.tmp rfl) .nil)))
    apply Head.one rfl rfl (GSpec.plain rfl (spec_assign rfl (Get.tmp rfl)))
    exact Head.nil
  refine Fin.one ?_
  refine Fin.one ?_
  refine Fin.one ?_
  refine Fin.one ?_
  refine Fin.one ?_
  refine Fin.one ?_
  refine Fin.one ?_
  refine Fin.one ?_
  refine Fin.one ?_
  refine Fin.one ?_
  refine Fin.one ?_
  refine Fin.nil ?_
  refine L.nil ?_
  refine N.thenW ?_
  refine W.keep (.cons (t := 4) rfl .nil) .refl ?_
  refine W.ret ?_
  refine N.ret () rfl (.tmp (t := 4) (Get.tmp rfl) .nil) (res1 (eqSl ?_)) .nil (fun _ _ h => h)
  simp only [restD, List.drop_zero, Nat.sub_zero]; rw [List.take_of_length_le (l := l.drop _) (by simp)]

theorem cand_ok (s : Shrink) (h : Live s) : CallT Try.prog 27 [Rp.agg (shrinkR s)] [] (.one (Rp.slice eI (candD s))) := by
  refine W.enter (fn := Try.f27) (n := 21) Try.func27 rfl Try.ntmps27 rfl (fun w₀ C₀ => ?_)
  simp only [argS]
  have hlg := h.v.large (by have := h.two; omega)
  have hlt := h.lt; have htw := h.two; have hln := h.v.len; have hte := h.v.tests
  refine W.seq ?_
  refine W.region ?_
  refine L.box rfl rfl (GSpec.plain rfl (spec_box rfl (GetC.agg (Get.tmp rfl)))) (fun r1 => ?_)
  refine L.op1 rfl rfl (GSpec.plain rfl (spec_assign rfl (Get.cnil (E := eI)))) ?_
  refine L.nil ?_
  refine N.thenW ?_
  refine W.seq ?_
  refine W.seq ?_
  refine W.region ?_
  refine L.op1 rfl rfl (GSpec.plain rfl (spec_fieldAddr (off' := 2) rfl Try.underlying24 rfl Try.sizeOf3 (Get.tmp rfl) rfl)) ?_
  refine L.op1 rfl rfl (GSpec.plain rfl (spec_load1 (k := 0) rfl Try.isAgg3 (Get.tmp rfl) rfl rfl)) ?_
  refine L.op1 rfl rfl (GSpec.plain rfl (spec_fieldAddr (off' := 1) rfl Try.underlying24 rfl Try.sizeOf3 (Get.tmp rfl) rfl)) ?_
  refine L.op1 rfl rfl (GSpec.plain rfl (spec_load1 (k := 0) rfl Try.isAgg3 (Get.tmp rfl) rfl rfl)) ?_
  refine L.op1 rfl rfl (GSpec.plain rfl (spec_lss rfl (Get.tmp rfl) (Get.tmp rfl))) ?_
  refine L.nil ?_
  refine N.thenW ?_
  refine W.cond (Get.tmp rfl) (fun h1 => ?_) (fun h1 => ?_)
  · have ph1 := h1; try simp only [decide_eq_true_eq, decide_eq_false_iff_not, Bool.and_eq_true, Bool.or_eq_true, Bool.and_eq_false_iff, Bool.or_eq_false_iff, Bool.not_eq_true', Bool.not_eq_false', Bool.not_true, Bool.not_false, Int.not_lt, Int.not_le] at ph1
    refine W.seq ?_
    apply W.any 6 mixed (by kernel_rfl)
    · apply Head.one rfl rfl (GSpec.plain rfl (spec_loadW (k := 0) rfl Try.isAgg24 Try.sizeOf24 (Get.tmp rfl) rfl rfl))
      apply Head.one rfl rfl (GSpec.plain rfl (spec_call rfl Try.call31 (of_ok _) (.cons (Get.tmp rfl) .nil)))
      apply Head.one rfl rfl (GSpec.plain rfl (spec_fieldAddr (off' := 2) rfl Try.underlying24 rfl Try.sizeOf3 (Get.tmp rfl) rfl))
      apply Head.one rfl rfl (GSpec.plain rfl (spec_load1 (k := 0) rfl Try.isAgg3 (Get.tmp rfl) rfl rfl))
      apply Head.one rfl rfl (GSpec.plain rfl (spec_call rfl Try.call32 (part_ok _ _ _ (by omega) (by omega) (by omega) (by omega) (by omega)) (.cons (Get.tmp rfl) (.cons (Get.tmp rfl) .nil))))
      apply Head.one rfl rfl (GSpec.plain rfl (spec_assign rfl (Get.tmp rfl)))
      exact Head.nil
    refine Fin.one ?_
    refine Fin.one ?_
    refine Fin.one ?_
    refine Fin.one ?_
    refine Fin.one ?_
    refine Fin.one ?_
    refine Fin.nil ?_
    refine L.nil ?_
    refine N.thenW ?_
    refine W.keep (.cons (t := 1) rfl (.cons (t := 2) rfl .nil)) .refl ?_
    refine W.ret ?_
    refine N.ret () rfl (.tmp (t := 2) (Get.tmp rfl) .nil) (res1 (eqSl ?_)) .nil (fun _ _ h => h)
    all_goals (first | rfl | (simp_all [candD]; done) | (simp only [candD]; (repeat' split) <;> first | rfl | omega | (simp_all; done)) | omega)
  · have ph1 := h1; try simp only [decide_eq_true_eq, decide_eq_false_iff_not, Bool.and_eq_true, Bool.or_eq_true, Bool.and_eq_false_iff, Bool.or_eq_false_iff, Bool.not_eq_true', Bool.not_eq_false', Bool.not_true, Bool.not_false, Int.not_lt, Int.not_le] at ph1
    refine W.skip ?_
    refine N.thenW ?_
    refine W.keep (.cons (t := 1) rfl (.cons (t := 2) rfl .nil)) .refl ?_
    refine W.seq ?_
    apply W.any 9 mixed (by kernel_rfl)
    · apply Head.one rfl rfl (GSpec.plain rfl (spec_loadW (k := 0) rfl Try.isAgg24 Try.sizeOf24 (Get.tmp rfl) rfl rfl))
      apply Head.one rfl rfl (GSpec.plain rfl (spec_call rfl Try.call31 (of_ok _) (.cons (Get.tmp rfl) .nil)))
      apply Head.one rfl rfl (GSpec.plain rfl (spec_fieldAddr (off' := 2) rfl Try.underlying24 rfl Try.sizeOf3 (Get.tmp rfl) rfl))
      apply Head.one rfl rfl (GSpec.plain rfl (spec_load1 (k := 0) rfl Try.isAgg3 (Get.tmp rfl) rfl rfl))
      apply Head.one rfl rfl (GSpec.plain rfl (spec_fieldAddr (off' := 1) rfl Try.underlying24 rfl Try.sizeOf3 (Get.tmp rfl) rfl))
      apply Head.one rfl rfl (GSpec.plain rfl (spec_load1 (k := 0) rfl Try.isAgg3 (Get.tmp rfl) rfl rfl))
      first | apply Head.one rfl rfl (GSpec.plain rfl (fit_i64 (by omega) (by omega) (spec_sub rfl (Get.tmp rfl) (Get.tmp rfl)))) | apply Head.one rfl rfl (GSpec.plain rfl (spec_sub rfl (Get.tmp rfl) (Get.tmp rfl)))
      apply Head.one rfl rfl (GSpec.plain rfl (spec_call rfl Try.call33 (rest_ok _ _ _ (by omega) (by omega) (by omega) (by omega) (by omega)) (.cons (Get.tmp rfl) (.cons (Get.tmp rfl) .nil))))
      apply Head.one rfl rfl (GSpec.plain rfl (spec_assign rfl (Get.tmp rfl)))
      exact Head.nil
    refine Fin.one ?_
    refine Fin.one ?_
    refine Fin.one ?_
    refine Fin.one ?_
    refine Fin.one ?_
    refine Fin.one ?_
    refine Fin.one ?_
    refine Fin.one ?_
    refine Fin.one ?_
    refine Fin.nil ?_
    refine L.nil ?_
    refine N.thenW ?_
    refine W.keep (.cons (t := 2) rfl .nil) .refl ?_
    refine W.ret ?_
    refine N.ret () rfl (.tmp (t := 2) (Get.tmp rfl) .nil) (res1 (eqSl ?_)) .nil (fun _ _ h => h)
    all_goals (first | rfl | (simp_all [candD]; done) | (simp only [candD]; (repeat' split) <;> first | rfl | omega | (simp_all; done)) | omega)

theorem candidate_ok (s : Shrink) : CallT Try.prog 16 [Rp.agg (shrinkR s)] [] (.one (Rp.tuple [Rp.slice eI (candidateD s).1, Rp.bool (candidateD s).2])) := by
  refine W.enter (fn := Try.f16) (n := 13) Try.func16 rfl Try.ntmps16 rfl (fun w₀ C₀ => ?_)
  simp only [argS]
  refine W.seq ?_
  refine W.region ?_
  refine L.box rfl rfl (GSpec.plain rfl (spec_box rfl (GetC.agg (Get.tmp rfl)))) (fun r1 => ?_)
  refine L.op1 rfl rfl (GSpec.plain rfl (spec_assign rfl (Get.cnil (E := eI)))) ?_
  refine L.op1 rfl rfl (GSpec.plain rfl (spec_assign rfl Get.cbool)) ?_
  refine L.nil ?_
  refine N.thenW ?_
  refine W.seq ?_
  refine W.seq ?_
  refine W.region ?_
  refine L.op1 rfl rfl (GSpec.plain rfl (spec_loadW (k := 0) rfl Try.isAgg24 Try.sizeOf24 (Get.tmp rfl) rfl rfl)) ?_
  refine L.op1 rfl rfl (GSpec.plain rfl (spec_call rfl Try.call14 (dValid_ok _) (.cons (Get.tmp rfl) .nil))) ?_
  refine L.op1 rfl rfl (GSpec.plain rfl (spec_not rfl (Get.tmp rfl))) ?_
  refine L.op1 rfl rfl (GSpec.plain rfl (spec_move rfl (Get.tmp rfl))) ?_
  refine L.op1 rfl rfl (GSpec.guard rfl rfl rfl fun hg => (spec_loadW (k := 0) rfl Try.isAgg24 Try.sizeOf24 (Get.tmp rfl) rfl rfl)) ?_
  refine L.op1 rfl rfl (GSpec.guard rfl rfl rfl fun hg => (spec_call rfl Try.call19 (dDone_ok _) (.cons (Get.opt rfl hg) .nil))) ?_
  refine L.op1 rfl rfl (GSpec.plain rfl (spec_or rfl (Get.tmp rfl) (fun hb => (Get.opt rfl hb)))) ?_
  refine L.nil ?_
  refine N.thenW ?_
  refine W.keep (.cons (t := 1) rfl (.cons (t := 2) rfl (.cons (t := 3) rfl (.cons (t := 10) rfl .nil)))) .refl ?_
  refine W.cond (Get.tmp rfl) (fun h1 => ?_) (fun h1 => ?_)
  · have ph1 := h1; try simp only [decide_eq_true_eq, decide_eq_false_iff_not, Bool.and_eq_true, Bool.or_eq_true, Bool.and_eq_false_iff, Bool.or_eq_false_iff, Bool.not_eq_true', Bool.not_eq_false', Bool.not_true, Bool.not_false, Int.not_lt, Int.not_le] at ph1
    refine W.seq ?_
    refine W.region ?_
    refine L.op1 rfl rfl (GSpec.plain rfl (spec_assign rfl (Get.cnil (E := eI)))) ?_
    refine L.op1 rfl rfl (GSpec.plain rfl (spec_assign rfl Get.cbool)) ?_
    refine L.nil ?_
    refine N.thenW ?_
    refine W.ret ?_
    refine N.ret () rfl (.tmp (t := 2) (Get.tmp rfl) (.tmp (t := 3) (Get.tmp rfl) .nil)) (res2w (eqSl ?_) (eqB ?_)) .nil (fun _ _ h => h)
    all_goals rw [candidate_dead h1]
  · have ph1 := h1; try simp only [decide_eq_true_eq, decide_eq_false_iff_not, Bool.and_eq_true, Bool.or_eq_true, Bool.and_eq_false_iff, Bool.or_eq_false_iff, Bool.not_eq_true', Bool.not_eq_false', Bool.not_true, Bool.not_false, Int.not_lt, Int.not_le] at ph1
    refine W.skip ?_
    refine N.thenW ?_
    refine W.seq ?_
    refine W.region ?_
    refine L.op1 rfl rfl (GSpec.plain rfl (spec_loadW (k := 0) rfl Try.isAgg24 Try.sizeOf24 (Get.tmp rfl) rfl rfl)) ?_
    refine L.op1 rfl rfl (GSpec.plain rfl (spec_call rfl Try.call27 (cand_ok s (live_of' h1)) (.cons (Get.tmp rfl) .nil))) ?_
    refine L.op1 rfl rfl (GSpec.plain rfl (spec_assign rfl (Get.tmp rfl))) ?_
    refine L.op1 rfl rfl (GSpec.plain rfl (spec_assign rfl Get.cbool)) ?_
    refine L.nil ?_
    refine N.thenW ?_
    refine W.keep (.cons (t := 2) rfl (.cons (t := 3) rfl .nil)) .refl ?_
    refine W.ret ?_
    refine N.ret () rfl (.tmp (t := 2) (Get.tmp rfl) (.tmp (t := 3) (Get.tmp rfl) .nil)) (res2w (eqSl ?_) (eqB ?_)) .nil (fun _ _ h => h)
    all_goals rw [candidate_live h1]

theorem reduced_ok (s : Shrink) (h : Live s) : CallT Try.prog 30 [Rp.agg (shrinkR s)] [] (.one (Rp.agg (shrinkR (reducedD s)))) := by
  refine W.enter (fn := Try.f30) (n := 28) Try.func30 rfl Try.ntmps30 rfl (fun w₀ C₀ => ?_)
  simp only [argS]
  have hlg := h.v.large (by have := h.two; omega)
  have hlt := h.lt; have htw := h.two; have hln := h.v.len; have hte := h.v.tests
  have hcl := cand_le h
  refine W.seq ?_
  refine W.region ?_
  refine L.box rfl rfl (GSpec.plain rfl (spec_box rfl (GetC.agg (Get.tmp rfl)))) (fun r1 => ?_)
  refine L.box rfl rfl (GSpec.plain rfl (spec_alloc rfl ti24 z24)) (fun r2 => ?_)
  refine L.nil ?_
  refine N.thenW ?_
  refine W.seq ?_
  refine W.region ?_
  refine L.op1 rfl rfl (GSpec.plain rfl (spec_loadW (k := 1) rfl Try.isAgg24 Try.sizeOf24 (Get.tmp rfl) rfl rfl)) ?_
  refine L.op1 rfl rfl (GSpec.plain rfl (spec_call rfl Try.call27 (cand_ok s h) (.cons (Get.tmp rfl) .nil))) ?_
  refine L.op1 rfl rfl (GSpec.plain rfl (spec_assign rfl (Get.tmp rfl))) ?_
  refine L.nil ?_
  refine N.thenW ?_
  refine W.seq ?_
  refine W.region ?_
  refine L.op1 rfl rfl (GSpec.plain rfl (spec_move rfl (Get.tmp rfl))) ?_
  refine L.op1 rfl rfl (GSpec.plain rfl (spec_len rfl Try.underlying22 (Get.tmp rfl))) ?_
  refine L.op1 rfl rfl (GSpec.plain rfl (spec_call rfl Try.call26 (begun_ok _) (.cons (Get.tmp rfl) .nil))) ?_
  refine L.op1 rfl rfl (GSpec.plain rfl (spec_assign rfl (Get.tmp rfl))) ?_
  refine L.nil ?_
  refine N.thenW ?_
  refine W.keep (.cons (t := 1) rfl (.cons (t := 2) rfl (.cons (t := 3) rfl (.cons (t := 4) rfl .nil)))) .refl ?_
  refine W.seq ?_
  refine W.seq ?_
  refine W.region ?_
  refine L.op1 rfl rfl (GSpec.plain rfl (spec_fieldAddr (off' := 2) rfl Try.underlying24 rfl Try.sizeOf3 (Get.tmp rfl) rfl)) ?_
  refine L.op1 rfl rfl (GSpec.plain rfl (spec_load1 (k := 1) rfl Try.isAgg3 (Get.tmp rfl) rfl rfl)) ?_
  refine L.op1 rfl rfl (GSpec.plain rfl (spec_fieldAddr (off' := 1) rfl Try.underlying24 rfl Try.sizeOf3 (Get.tmp rfl) rfl)) ?_
  refine L.op1 rfl rfl (GSpec.plain rfl (spec_load1 (k := 1) rfl Try.isAgg3 (Get.tmp rfl) rfl rfl)) ?_
  refine L.op1 rfl rfl (GSpec.plain rfl (spec_geq rfl (Get.tmp rfl) (Get.tmp rfl))) ?_
  refine L.op1 rfl rfl (GSpec.plain rfl (spec_move rfl (Get.tmp rfl))) ?_
  refine L.op1 rfl rfl (GSpec.guard rfl rfl rfl fun hg => (spec_move rfl (Get.tmp rfl))) ?_
  refine L.op1 rfl rfl (GSpec.guard rfl rfl rfl fun hg => (spec_eql rfl (Get.opt rfl hg) (Get.cint rfl))) ?_
  refine L.op1 rfl rfl (GSpec.plain rfl (spec_and rfl (Get.tmp rfl) (fun hb => (Get.opt rfl hb)))) ?_
  refine L.nil ?_
  refine N.thenW ?_
  refine W.keep (.cons (t := 1) rfl (.cons (t := 2) rfl (.cons (t := 3) rfl (.cons (t := 4) rfl (.cons (t := 18) rfl .nil))))) .refl ?_
  refine W.cond (Get.tmp rfl) (fun h1 => ?_) (fun h1 => ?_)
  · have ph1 := h1; try simp only [decide_eq_true_eq, decide_eq_false_iff_not, Bool.and_eq_true, Bool.or_eq_true, Bool.and_eq_false_iff, Bool.or_eq_false_iff, Bool.not_eq_true', Bool.not_eq_false', Bool.not_true, Bool.not_false, Int.not_lt, Int.not_le] at ph1
    refine W.region ?_
    refine L.op1 rfl rfl (GSpec.plain rfl (spec_fieldAddr (off' := 1) rfl Try.underlying24 rfl Try.sizeOf3 (Get.tmp rfl) rfl)) ?_
    refine L.op1 rfl rfl (GSpec.plain rfl (spec_load1 (k := 1) rfl Try.isAgg3 (Get.tmp rfl) rfl rfl)) ?_
    first | refine L.op1 rfl rfl (GSpec.plain rfl (fit_i64 (by omega) (by omega) (spec_sub rfl (Get.tmp rfl) (Get.cint rfl)))) ?_ | refine L.op1 rfl rfl (GSpec.plain rfl (spec_sub rfl (Get.tmp rfl) (Get.cint rfl))) ?_
    refine L.op1 rfl rfl (GSpec.plain rfl (spec_max2 rfl (Get.tmp rfl) (Get.cint rfl))) ?_
    refine L.op1 rfl rfl (GSpec.plain rfl (spec_assign rfl (Get.tmp rfl))) ?_
    refine L.nil ?_
    refine N.thenW ?_
    refine W.keep (.cons (t := 1) rfl (.cons (t := 2) rfl (.cons (t := 3) rfl (.cons (t := 4) rfl .nil)))) .refl ?_
    refine W.seq ?_
    refine W.region ?_
    refine L.op1 rfl rfl (GSpec.plain rfl (spec_move rfl (Get.tmp rfl))) ?_
    refine L.op1 rfl rfl (GSpec.plain rfl (spec_move rfl (Get.tmp rfl))) ?_
    refine L.op1 rfl rfl (GSpec.plain rfl (spec_fieldAddr (off' := 3) rfl Try.underlying24 rfl Try.sizeOf3 (Get.tmp rfl) rfl)) ?_
    refine L.op1 rfl rfl (GSpec.plain rfl (spec_load1 (k := 1) rfl Try.isAgg3 (Get.tmp rfl) rfl rfl)) ?_
    refine L.op1 rfl rfl (GSpec.plain rfl (spec_build (Rs := [_, _, Rp.int .i64 0, _]) rfl ti24 z24 Try.underlying24 pl24 (.cons (GetC.one (Get.tmp rfl)) rfl rfl rfl (.cons (GetC.one (Get.tmp rfl)) rfl rfl rfl (.cons (GetC.one (Get.tmp rfl)) rfl rfl rfl .nil))))) ?_
    refine L.storeW (k := 0) rfl rfl rfl Try.sizeOf24 (Get.tmp rfl) (Get.tmp rfl) rfl rfl rfl ?_
    refine L.nil ?_
    refine N.thenW ?_
    refine W.keep (.cons (t := 2) rfl .nil) .refl ?_
    refine W.ret ?_
    refine N.ret () rfl (.cellA (k := 0) (Get.tmp (t := 2) rfl) rfl Try.isAgg24 Try.sizeOf24 rfl .nil) (res1 (eqA ?_)) .nil (fun _ _ h => h)
    simp only [reducedD, shrinkR, h1]; rfl
  · have ph1 := h1; try simp only [decide_eq_true_eq, decide_eq_false_iff_not, Bool.and_eq_true, Bool.or_eq_true, Bool.and_eq_false_iff, Bool.or_eq_false_iff, Bool.not_eq_true', Bool.not_eq_false', Bool.not_true, Bool.not_false, Int.not_lt, Int.not_le] at ph1
    refine W.skip ?_
    refine N.thenW ?_
    refine W.seq ?_
    refine W.region ?_
    refine L.op1 rfl rfl (GSpec.plain rfl (spec_move rfl (Get.tmp rfl))) ?_
    refine L.op1 rfl rfl (GSpec.plain rfl (spec_move rfl (Get.tmp rfl))) ?_
    refine L.op1 rfl rfl (GSpec.plain rfl (spec_fieldAddr (off' := 3) rfl Try.underlying24 rfl Try.sizeOf3 (Get.tmp rfl) rfl)) ?_
    refine L.op1 rfl rfl (GSpec.plain rfl (spec_load1 (k := 1) rfl Try.isAgg3 (Get.tmp rfl) rfl rfl)) ?_
    refine L.op1 rfl rfl (GSpec.plain rfl (spec_build (Rs := [_, _, Rp.int .i64 0, _]) rfl ti24 z24 Try.underlying24 pl24 (.cons (GetC.one (Get.tmp rfl)) rfl rfl rfl (.cons (GetC.one (Get.tmp rfl)) rfl rfl rfl (.cons (GetC.one (Get.tmp rfl)) rfl rfl rfl .nil))))) ?_
    refine L.storeW (k := 0) rfl rfl rfl Try.sizeOf24 (Get.tmp rfl) (Get.tmp rfl) rfl rfl rfl ?_
    refine L.nil ?_
    refine N.thenW ?_
    refine W.keep (.cons (t := 2) rfl .nil) .refl ?_
    refine W.ret ?_
    refine N.ret () rfl (.cellA (k := 0) (Get.tmp (t := 2) rfl) rfl Try.isAgg24 Try.sizeOf24 rfl .nil) (res1 (eqA ?_)) .nil (fun _ _ h => h)
    simp only [reducedD, shrinkR, h1]; rfl

theorem tell_ok (s : Shrink) (f : Bool) (hks : s.kept.length ≤ 1024) : CallT Try.prog 22 [Rp.agg (shrinkR s), Rp.bool f] [] (.one (Rp.agg (shrinkR (tellD s f)))) := by
  refine W.enter (fn := Try.f22) (n := 55) Try.func22 rfl Try.ntmps22 rfl (fun w₀ C₀ => ?_)
  simp only [argS]
  refine W.fact 0 rfl shrink_ok fun hs => ?_
  have hk := hs.kept
  refine W.seq ?_
  refine W.region ?_
  refine L.box rfl rfl (GSpec.plain rfl (spec_box rfl (GetC.agg (Get.tmp rfl)))) (fun r2 => ?_)
  refine L.box rfl rfl (GSpec.plain rfl (spec_alloc rfl ti24 z24)) (fun r4 => ?_)
  refine L.nil ?_
  refine N.thenW ?_
  refine W.seq ?_
  refine W.region ?_
  refine L.op1 rfl rfl (GSpec.plain rfl (spec_loadW (k := 1) rfl Try.isAgg24 Try.sizeOf24 (Get.tmp rfl) rfl rfl)) ?_
  refine L.box rfl rfl (GSpec.plain rfl (spec_alloc rfl ti24 z24)) (fun r5 => ?_)
  refine L.storeW (k := 0) rfl rfl rfl Try.sizeOf24 (Get.tmp rfl) (Get.tmp rfl) rfl rfl rfl ?_
  refine L.nil ?_
  refine N.thenW ?_
  refine W.seq ?_
  refine W.region ?_
  refine L.op1 rfl rfl (GSpec.plain rfl (spec_fieldAddr (off' := 0) rfl Try.underlying24 rfl Try.sizeOf22 (Get.tmp rfl) rfl)) ?_
  refine L.op1 rfl rfl (GSpec.plain rfl (spec_load1 (k := 2) rfl Try.isAgg22 (Get.tmp rfl) rfl rfl)) ?_
  refine L.op1 rfl rfl (GSpec.plain rfl (spec_call rfl Try.call29 (clone_ok _ (by omega)) (.cons (Get.tmp rfl) .nil))) ?_
  refine L.op1 rfl rfl (GSpec.plain rfl (spec_fieldAddr (off' := 0) rfl Try.underlying24 rfl Try.sizeOf22 (Get.tmp rfl) rfl)) ?_
  refine L.storeB (k := 0) rfl rfl rfl Try.sizeOf22 (Get.tmp rfl) (Get.tmp rfl) rfl rfl ?_
  refine L.nil ?_
  refine N.thenW ?_
  refine W.seq ?_
  refine W.seq ?_
  refine W.region ?_
  refine L.op1 rfl rfl (GSpec.plain rfl (spec_loadW (k := 2) rfl Try.isAgg24 Try.sizeOf24 (Get.tmp rfl) rfl rfl)) ?_
  refine L.op1 rfl rfl (GSpec.plain rfl (spec_call rfl Try.call14 (dValid_ok _) (.cons (Get.tmp rfl) .nil))) ?_
  refine L.op1 rfl rfl (GSpec.plain rfl (spec_not rfl (Get.tmp rfl))) ?_
  refine L.op1 rfl rfl (GSpec.plain rfl (spec_move rfl (Get.tmp rfl))) ?_
  refine L.op1 rfl rfl (GSpec.guard rfl rfl rfl fun hg => (spec_loadW (k := 2) rfl Try.isAgg24 Try.sizeOf24 (Get.tmp rfl) rfl rfl)) ?_
  refine L.op1 rfl rfl (GSpec.guard rfl rfl rfl fun hg => (spec_call rfl Try.call19 (dDone_ok _) (.cons (Get.opt rfl hg) .nil))) ?_
  refine L.op1 rfl rfl (GSpec.plain rfl (spec_or rfl (Get.tmp rfl) (fun hb => (Get.opt rfl hb)))) ?_
  refine L.nil ?_
  refine N.thenW ?_
  refine W.keep (.cons (t := 1) rfl (.cons (t := 2) rfl (.cons (t := 4) rfl (.cons (t := 5) rfl (.cons (t := 18) rfl .nil))))) .refl ?_
  refine W.cond (Get.tmp rfl) (fun h1 => ?_) (fun h1 => ?_)
  · have ph1 := h1; try simp only [decide_eq_true_eq, decide_eq_false_iff_not, Bool.and_eq_true, Bool.or_eq_true, Bool.and_eq_false_iff, Bool.or_eq_false_iff, Bool.not_eq_true', Bool.not_eq_false', Bool.not_true, Bool.not_false, Int.not_lt, Int.not_le] at ph1
    refine W.seq ?_
    refine W.region ?_
    refine L.op1 rfl rfl (GSpec.plain rfl (spec_loadW (k := 0) rfl Try.isAgg24 Try.sizeOf24 (Get.tmp rfl) rfl rfl)) ?_
    refine L.storeW (k := 1) rfl rfl rfl Try.sizeOf24 (Get.tmp rfl) (Get.tmp rfl) rfl rfl rfl ?_
    refine L.nil ?_
    refine N.thenW ?_
    refine W.ret ?_
    refine N.ret () rfl (.cellA (k := 1) (Get.tmp (t := 4) rfl) rfl Try.isAgg24 Try.sizeOf24 rfl .nil) (res1 (eqA ?_)) .nil (fun _ _ h => h)
    simp only [tellD, h1]; rfl
  · have hlv := live_of' h1; have h := hlv; have hlg := h.v.large (by have := h.two; omega); have hlt := h.lt; have htw := h.two; have hln := h.v.len; have hte := h.v.tests
    refine W.skip ?_
    refine N.thenW ?_
    refine W.seq ?_
    refine W.region ?_
    refine L.op1 rfl rfl (GSpec.plain rfl (spec_fieldAddr (off' := 3) rfl Try.underlying24 rfl Try.sizeOf3 (Get.tmp rfl) rfl)) ?_
    refine L.op1 rfl rfl (GSpec.plain rfl (spec_load1 (k := 2) rfl Try.isAgg3 (Get.tmp rfl) rfl rfl)) ?_
    first | refine L.op1 rfl rfl (GSpec.plain rfl (fit_i64 (by omega) (by omega) (spec_add rfl (Get.tmp rfl) (Get.cint rfl)))) ?_ | refine L.op1 rfl rfl (GSpec.plain rfl (spec_add rfl (Get.tmp rfl) (Get.cint rfl))) ?_
    refine L.op1 rfl rfl (GSpec.plain rfl (spec_min2 rfl (Get.tmp rfl) (Get.cint rfl))) ?_
    refine L.op1 rfl rfl (GSpec.plain rfl (spec_fieldAddr (off' := 3) rfl Try.underlying24 rfl Try.sizeOf3 (Get.tmp rfl) rfl)) ?_
    refine L.storeB (k := 0) rfl rfl rfl Try.sizeOf3 (Get.tmp rfl) (Get.tmp rfl) rfl rfl ?_
    refine L.nil ?_
    refine N.thenW ?_
    refine W.keep (.cons (t := 1) rfl (.cons (t := 4) rfl (.cons (t := 5) rfl .nil))) .refl ?_
    refine W.seq ?_
    refine W.seq ?_
    refine W.region ?_
    refine L.op1 rfl rfl (GSpec.plain rfl (spec_move rfl (Get.tmp rfl))) ?_
    refine L.nil ?_
    refine N.thenW ?_
    refine W.cond (Get.tmp rfl) (fun h2 => ?_) (fun h2 => ?_)
    · have ph2 := h2; try simp only [decide_eq_true_eq, decide_eq_false_iff_not, Bool.and_eq_true, Bool.or_eq_true, Bool.and_eq_false_iff, Bool.or_eq_false_iff, Bool.not_eq_true', Bool.not_eq_false', Bool.not_true, Bool.not_false, Int.not_lt, Int.not_le] at ph2
      refine W.seq ?_
      refine W.region ?_
      refine L.op1 rfl rfl (GSpec.plain rfl (spec_loadW (k := 0) rfl Try.isAgg24 Try.sizeOf24 (Get.tmp rfl) rfl rfl)) ?_
      refine L.op1 rfl rfl (GSpec.plain rfl (spec_call rfl Try.call30 (reduced_ok { s with tests := min (s.tests + 1) 1099511627776 } (hlv.tests (by omega))) (.cons (Get.tmp rfl) .nil))) ?_
      refine L.storeW (k := 1) rfl rfl rfl Try.sizeOf24 (Get.tmp rfl) (Get.tmp rfl) rfl rfl rfl ?_
      refine L.nil ?_
      refine N.thenW ?_
      refine W.ret ?_
      refine N.ret () rfl (.cellA (k := 1) (Get.tmp (t := 4) rfl) rfl Try.isAgg24 Try.sizeOf24 rfl .nil) (res1 (eqA ?_)) .nil (fun _ _ h => h)
      simp only [tellD, h1, h2]; rfl
    · have ph2 := h2; try simp only [decide_eq_true_eq, decide_eq_false_iff_not, Bool.and_eq_true, Bool.or_eq_true, Bool.and_eq_false_iff, Bool.or_eq_false_iff, Bool.not_eq_true', Bool.not_eq_false', Bool.not_true, Bool.not_false, Int.not_lt, Int.not_le] at ph2
      refine W.skip ?_
      refine N.thenW ?_
      refine W.seq ?_
      refine W.region ?_
      refine L.op1 rfl rfl (GSpec.plain rfl (spec_fieldAddr (off' := 2) rfl Try.underlying24 rfl Try.sizeOf3 (Get.tmp rfl) rfl)) ?_
      refine L.op1 rfl rfl (GSpec.plain rfl (spec_load1 (k := 0) rfl Try.isAgg3 (Get.tmp rfl) rfl rfl)) ?_
      first | refine L.op1 rfl rfl (GSpec.plain rfl (fit_i64 (by omega) (by omega) (spec_add rfl (Get.tmp rfl) (Get.cint rfl)))) ?_ | refine L.op1 rfl rfl (GSpec.plain rfl (spec_add rfl (Get.tmp rfl) (Get.cint rfl))) ?_
      refine L.op1 rfl rfl (GSpec.plain rfl (spec_fieldAddr (off' := 2) rfl Try.underlying24 rfl Try.sizeOf3 (Get.tmp rfl) rfl)) ?_
      refine L.storeB (k := 0) rfl rfl rfl Try.sizeOf3 (Get.tmp rfl) (Get.tmp rfl) rfl rfl ?_
      refine L.nil ?_
      refine N.thenW ?_
      refine W.keep (.cons (t := 4) rfl (.cons (t := 5) rfl .nil)) .refl ?_
      refine W.seq ?_
      refine W.seq ?_
      refine W.region ?_
      refine L.op1 rfl rfl (GSpec.plain rfl (spec_fieldAddr (off' := 0) rfl Try.underlying24 rfl Try.sizeOf22 (Get.tmp rfl) rfl)) ?_
      refine L.op1 rfl rfl (GSpec.plain rfl (spec_load1 (k := 0) rfl Try.isAgg22 (Get.tmp rfl) rfl rfl)) ?_
      refine L.op1 rfl rfl (GSpec.plain rfl (spec_len rfl Try.underlying22 (Get.tmp rfl))) ?_
      refine L.op1 rfl rfl (GSpec.plain rfl (spec_assign rfl (Get.tmp rfl))) ?_
      refine L.nil ?_
      refine N.thenW ?_
      refine W.seq ?_
      refine W.region ?_
      refine L.op1 rfl rfl (GSpec.plain rfl (spec_fieldAddr (off' := 2) rfl Try.underlying24 rfl Try.sizeOf3 (Get.tmp rfl) rfl)) ?_
      refine L.op1 rfl rfl (GSpec.plain rfl (spec_load1 (k := 0) rfl Try.isAgg3 (Get.tmp rfl) rfl rfl)) ?_
      refine L.op1 rfl rfl (GSpec.plain rfl (spec_fieldAddr (off' := 1) rfl Try.underlying24 rfl Try.sizeOf3 (Get.tmp rfl) rfl)) ?_
      refine L.op1 rfl rfl (GSpec.plain rfl (spec_load1 (k := 0) rfl Try.isAgg3 (Get.tmp rfl) rfl rfl)) ?_
      first | refine L.op1 rfl rfl (GSpec.plain rfl (fit_i64 (by omega) (by omega) (spec_mul rfl (Get.cint rfl) (Get.tmp rfl)))) ?_ | refine L.op1 rfl rfl (GSpec.plain rfl (spec_mul rfl (Get.cint rfl) (Get.tmp rfl))) ?_
      refine L.op1 rfl rfl (GSpec.plain rfl (spec_eql rfl (Get.tmp rfl) (Get.tmp rfl))) ?_
      refine L.op1 rfl rfl (GSpec.plain rfl (spec_move rfl (Get.tmp rfl))) ?_
      refine L.op1 rfl rfl (GSpec.guard rfl rfl rfl fun hg => (spec_fieldAddr (off' := 1) rfl Try.underlying24 rfl Try.sizeOf3 (Get.tmp rfl) rfl)) ?_
      refine L.op1 rfl rfl (GSpec.guard rfl rfl rfl fun hg => (spec_load1 (k := 0) rfl Try.isAgg3 (Get.opt rfl hg) rfl rfl)) ?_
      refine L.op1 rfl rfl (GSpec.guard rfl rfl rfl fun hg => (spec_move rfl (Get.tmp rfl))) ?_
      refine L.op1 rfl rfl (GSpec.guard rfl rfl rfl fun hg => (spec_lss rfl (Get.opt rfl hg) (Get.opt rfl hg))) ?_
      refine L.op1 rfl rfl (GSpec.plain rfl (spec_and rfl (Get.tmp rfl) (fun hb => (Get.opt rfl hb)))) ?_
      refine L.nil ?_
      refine N.thenW ?_
      refine W.keep (.cons (t := 4) rfl (.cons (t := 5) rfl (.cons (t := 6) rfl (.cons (t := 46) rfl .nil)))) .refl ?_
      refine W.cond (Get.tmp rfl) (fun h3 => ?_) (fun h3 => ?_)
      · have ph3 := h3; try simp only [decide_eq_true_eq, decide_eq_false_iff_not, Bool.and_eq_true, Bool.or_eq_true, Bool.and_eq_false_iff, Bool.or_eq_false_iff, Bool.not_eq_true', Bool.not_eq_false', Bool.not_true, Bool.not_false, Int.not_lt, Int.not_le] at ph3
        refine W.seq ?_
        refine W.region ?_
        refine L.op1 rfl rfl (GSpec.plain rfl (spec_fieldAddr (off' := 1) rfl Try.underlying24 rfl Try.sizeOf3 (Get.tmp rfl) rfl)) ?_
        refine L.op1 rfl rfl (GSpec.plain rfl (spec_load1 (k := 0) rfl Try.isAgg3 (Get.tmp rfl) rfl rfl)) ?_
        first | refine L.op1 rfl rfl (GSpec.plain rfl (fit_i64 (by omega) (by omega) (spec_mul rfl (Get.cint rfl) (Get.tmp rfl)))) ?_ | refine L.op1 rfl rfl (GSpec.plain rfl (spec_mul rfl (Get.cint rfl) (Get.tmp rfl))) ?_
        refine L.op1 rfl rfl (GSpec.plain rfl (spec_move rfl (Get.tmp rfl))) ?_
        refine L.op1 rfl rfl (GSpec.plain rfl (spec_min2 rfl (Get.tmp rfl) (Get.tmp rfl))) ?_
        refine L.op1 rfl rfl (GSpec.plain rfl (spec_fieldAddr (off' := 1) rfl Try.underlying24 rfl Try.sizeOf3 (Get.tmp rfl) rfl)) ?_
        refine L.storeB (k := 0) rfl rfl rfl Try.sizeOf3 (Get.tmp rfl) (Get.tmp rfl) rfl rfl ?_
        refine L.nil ?_
        refine N.thenW ?_
        refine W.keep (.cons (t := 4) rfl (.cons (t := 5) rfl .nil)) .refl ?_
        refine W.region ?_
        refine L.op1 rfl rfl (GSpec.plain rfl (spec_fieldAddr (off' := 2) rfl Try.underlying24 rfl Try.sizeOf3 (Get.tmp rfl) rfl)) ?_
        refine L.storeB (k := 0) rfl rfl rfl Try.sizeOf3 (Get.tmp rfl) (Get.cint rfl) rfl rfl ?_
        refine L.nil ?_
        refine N.thenW ?_
        refine W.seq ?_
        refine W.region ?_
        refine L.op1 rfl rfl (GSpec.plain rfl (spec_loadW (k := 0) rfl Try.isAgg24 Try.sizeOf24 (Get.tmp rfl) rfl rfl)) ?_
        refine L.storeW (k := 1) rfl rfl rfl Try.sizeOf24 (Get.tmp rfl) (Get.tmp rfl) rfl rfl rfl ?_
        refine L.nil ?_
        refine N.thenW ?_
        refine W.ret ?_
        refine N.ret () rfl (.cellA (k := 1) (Get.tmp (t := 4) rfl) rfl Try.isAgg24 Try.sizeOf24 rfl .nil) (res1 (eqA ?_)) .nil (fun _ _ h => h)
        simp only [tellD, h1, h2, h3]; rfl
      · have ph3 := h3; try simp only [decide_eq_true_eq, decide_eq_false_iff_not, Bool.and_eq_true, Bool.or_eq_true, Bool.and_eq_false_iff, Bool.or_eq_false_iff, Bool.not_eq_true', Bool.not_eq_false', Bool.not_true, Bool.not_false, Int.not_lt, Int.not_le] at ph3
        refine W.skip ?_
        refine N.thenW ?_
        refine W.seq ?_
        refine W.region ?_
        refine L.op1 rfl rfl (GSpec.plain rfl (spec_loadW (k := 0) rfl Try.isAgg24 Try.sizeOf24 (Get.tmp rfl) rfl rfl)) ?_
        refine L.storeW (k := 1) rfl rfl rfl Try.sizeOf24 (Get.tmp rfl) (Get.tmp rfl) rfl rfl rfl ?_
        refine L.nil ?_
        refine N.thenW ?_
        refine W.ret ?_
        refine N.ret () rfl (.cellA (k := 1) (Get.tmp (t := 4) rfl) rfl Try.isAgg24 Try.sizeOf24 rfl .nil) (res1 (eqA ?_)) .nil (fun _ _ h => h)
        simp only [tellD, h1, h2, h3]; rfl

end Go.Proofs.Ytlfnljpnoololaa
