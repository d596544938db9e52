import Derived.Test.YtlfnljpnoololaaDdW8
import Derived.Test.YtlfnljpnoololaaDdC
set_option linter.unusedSimpArgs false
set_option linter.unusedVariables false
namespace Go.Proofs.Ytlfnljpnoololaa
open Go.Sim
theorem DdminMinimal_ok (n : Int) (t : List Int) : CallT Try.prog 6 [Rp.int .u8 n, Rp.slice eU8 t] [] (.one (Rp.bool true)) := by
  refine W.enter (fn := Try.f6) (n := 118) Try.func6 rfl Try.ntmps6 rfl (fun w₀ C₀ => ?_)
  simp only [argS]
  refine W.fact 0 rfl int_fact fun hn => ?_
  simp only [InR] at hn
  obtain ⟨hst, hmi⟩ := min_start (m := n % 9) (by omega) t
  have hb := bound_small (n % 9)
  refine W.seq ?_
  refine W.region ?_
  refine L.op1 rfl rfl (GSpec.plain rfl (spec_assign rfl Get.cbool)) ?_
  refine L.nil ?_
  refine N.thenW ?_
  refine W.seq ?_
  refine W.region ?_
  refine L.op1 rfl rfl (GSpec.plain rfl (spec_move rfl (Get.tmp rfl))) ?_
  first | refine L.op1 rfl rfl (GSpec.plain rfl (spec_remP rfl (Get.tmp rfl) (Get.cint rfl) (by omega) (by omega))) ?_ | refine L.op1 rfl rfl (GSpec.plain rfl (spec_rem rfl (Get.tmp rfl) (Get.cint rfl) (by omega))) ?_
  first | refine L.op1 rfl rfl (GSpec.plain rfl (fit_i64 (by omega) (by omega) (spec_conv rfl Try.underlying3 ⟨_, Try.underlying5⟩ (Get.tmp rfl)))) ?_ | refine L.op1 rfl rfl (GSpec.plain rfl (spec_conv rfl Try.underlying3 ⟨_, Try.underlying5⟩ (Get.tmp rfl))) ?_
  refine L.op1 rfl rfl (GSpec.plain rfl (spec_call rfl Try.call9 (dStart_ok _) (.cons (Get.tmp rfl) .nil))) ?_
  refine L.op1 rfl rfl (GSpec.plain rfl (spec_move rfl (Get.tmp rfl))) ?_
  refine L.op1 rfl rfl (GSpec.plain rfl (spec_extract rfl (Get.tmp rfl) rfl)) ?_
  refine L.op1 rfl rfl (GSpec.plain rfl (spec_extract rfl (Get.tmp rfl) rfl)) ?_
  refine L.box rfl rfl (GSpec.plain rfl (spec_alloc rfl ti24 z24)) (fun r5 => ?_)
  refine L.storeW (k := 0) rfl rfl rfl Try.sizeOf24 (Get.tmp rfl) (Get.tmp rfl) rfl rfl rfl ?_
  refine L.op1 rfl rfl (GSpec.plain rfl (spec_assign rfl (Get.tmp rfl))) ?_
  refine L.nil ?_
  refine N.thenW ?_
  refine W.seq ?_
  refine W.seq ?_
  refine W.region ?_
  refine L.op1 rfl rfl (GSpec.plain rfl (spec_move rfl (Get.tmp rfl))) ?_
  refine L.op1 rfl rfl (GSpec.plain rfl (spec_neq rfl (Get.tmp rfl) (Get.cint rfl))) ?_
  refine L.nil ?_
  refine N.thenW ?_
  refine W.keep (.cons (t := 0) rfl (.cons (t := 1) rfl (.cons (t := 4) rfl (.cons (t := 5) rfl (.cons (t := 22) rfl .nil))))) .refl ?_
  refine W.cond (Get.tmp rfl) (fun h1 => ?_) (fun h1 => ?_)
  · rw [hst] at h1; cases h1
  · have ph1 := h1; try simp only [decide_eq_true_eq, decide_eq_false_iff_not, Bool.and_eq_true, Bool.or_eq_true, Bool.and_eq_false_iff, Bool.or_eq_false_iff, Bool.not_eq_true', Bool.not_eq_false', Bool.not_true, Bool.not_false, Int.not_lt, Int.not_le] at ph1
    refine W.skip ?_
    refine N.thenW ?_
    refine W.seq ?_
    refine W.region ?_
    refine L.op1 rfl rfl (GSpec.plain rfl (spec_assign rfl (Get.cint rfl))) ?_
    refine L.op1 rfl rfl (GSpec.plain rfl (spec_assign rfl Get.cbool)) ?_
    refine L.nil ?_
    refine N.thenW ?_
    refine W.seq ?_
    refine W.block ?_
    have ht0 : (startD (n % 9)).1.tests = 0 := by simp only [startD]; split; rfl; split <;> rfl
    refine W.loop (σ := Shrink × Bool) (fun z => [(0, Rp.int .u8 n), (1, Rp.slice eU8 t), (4, Rp.bool false), (5, Rp.ptr r5 0), (7, Rp.int .i64 z.1.tests), (8, Rp.bool z.2)]) (fun z => [MF.box r5 24 (shrinkR z.1)]) (fun z => MinI (n % 9) t z.1 z.2) (fun z => psi z.1) ((startD (n % 9)).1, false) hmi (.cons (t := 0) rfl (.cons (t := 1) rfl (.cons (t := 4) rfl (.cons (t := 5) rfl (.weak (t := 7) rfl (eqI (by first | rfl | assumption | omega | simp_all)) (.cons (t := 8) rfl .nil)))))) .refl ?_
    intro ⟨s, g⟩ hI
    try dsimp only
    dsimp only at hI
    refine W.seq ?_
    refine W.seq ?_
    refine W.region ?_
    refine L.op1 rfl rfl (GSpec.plain rfl (spec_loadW (k := 0) rfl Try.isAgg24 Try.sizeOf24 (Get.tmp rfl) rfl rfl)) ?_
    refine L.op1 rfl rfl (GSpec.plain rfl (spec_call rfl Try.call19 (dDone_ok _) (.cons (Get.tmp rfl) .nil))) ?_
    refine L.op1 rfl rfl (GSpec.plain rfl (spec_not rfl (Get.tmp rfl))) ?_
    refine L.nil ?_
    refine N.thenW ?_
    refine W.cond (Get.tmp rfl) (fun h2 => ?_) (fun h2 => ?_)
    · simp only [Bool.not_eq_true'] at h2
      obtain ⟨hs1, hs2, hs3, hs4, hs5, hs6⟩ := min_step hI h2
      have hln := hI.len
      have hts := hI.valid.tests
      refine W.skip ?_
      refine N.thenW ?_
      refine W.block ?_
      refine W.seq ?_
      refine W.region ?_
      refine L.op1 rfl rfl (GSpec.plain rfl (spec_loadW (k := 0) rfl Try.isAgg24 Try.sizeOf24 (Get.tmp rfl) rfl rfl)) ?_
      refine L.op1 rfl rfl (GSpec.plain rfl (spec_call rfl Try.call16 (candidate_ok _) (.cons (Get.tmp rfl) .nil))) ?_
      refine L.op1 rfl rfl (GSpec.plain rfl (spec_move rfl (Get.tmp rfl))) ?_
      refine L.op1 rfl rfl (GSpec.plain rfl (spec_extract rfl (Get.tmp rfl) rfl)) ?_
      refine L.op1 rfl rfl (GSpec.plain rfl (spec_extract rfl (Get.tmp rfl) rfl)) ?_
      refine L.op1 rfl rfl (GSpec.plain rfl (spec_assign rfl (Get.tmp rfl))) ?_
      refine L.op1 rfl rfl (GSpec.plain rfl (spec_assign rfl (Get.tmp rfl))) ?_
      refine L.nil ?_
      refine N.thenW ?_
      refine W.seq ?_
      refine W.seq ?_
      refine W.region ?_
      refine L.op1 rfl rfl (GSpec.plain rfl (spec_move rfl (Get.tmp rfl))) ?_
      refine L.op1 rfl rfl (GSpec.plain rfl (spec_not rfl (Get.tmp rfl))) ?_
      refine L.op1 rfl rfl (GSpec.plain rfl (spec_move rfl (Get.tmp rfl))) ?_
      refine L.op1 rfl rfl (GSpec.guard rfl rfl rfl fun hg => (spec_move rfl (Get.tmp rfl))) ?_
      refine L.op1 rfl rfl (GSpec.guard rfl rfl rfl fun hg => (spec_move rfl (Get.tmp rfl))) ?_
      first | refine L.op1 rfl rfl (GSpec.guard rfl rfl rfl fun hg => (spec_remP rfl (Get.opt rfl hg) (Get.cint rfl) (by (simp only [decide_eq_true_eq, decide_eq_false_iff_not, Bool.and_eq_true, Bool.or_eq_true, Bool.and_eq_false_iff, Bool.or_eq_false_iff, Bool.not_eq_true', Bool.not_eq_false', Bool.not_true, Bool.not_false, Int.not_lt, Int.not_le] at hg; omega)) (by (simp only [decide_eq_true_eq, decide_eq_false_iff_not, Bool.and_eq_true, Bool.or_eq_true, Bool.and_eq_false_iff, Bool.or_eq_false_iff, Bool.not_eq_true', Bool.not_eq_false', Bool.not_true, Bool.not_false, Int.not_lt, Int.not_le] at hg; omega)))) ?_ | refine L.op1 rfl rfl (GSpec.guard rfl rfl rfl fun hg => (spec_rem rfl (Get.opt rfl hg) (Get.cint rfl) (by (simp only [decide_eq_true_eq, decide_eq_false_iff_not, Bool.and_eq_true, Bool.or_eq_true, Bool.and_eq_false_iff, Bool.or_eq_false_iff, Bool.not_eq_true', Bool.not_eq_false', Bool.not_true, Bool.not_false, Int.not_lt, Int.not_le] at hg; omega)))) ?_
      first | refine L.op1 rfl rfl (GSpec.guard rfl rfl rfl fun hg => (fit_i64 (by (simp only [decide_eq_true_eq, decide_eq_false_iff_not, Bool.and_eq_true, Bool.or_eq_true, Bool.and_eq_false_iff, Bool.or_eq_false_iff, Bool.not_eq_true', Bool.not_eq_false', Bool.not_true, Bool.not_false, Int.not_lt, Int.not_le] at hg; omega)) (by (simp only [decide_eq_true_eq, decide_eq_false_iff_not, Bool.and_eq_true, Bool.or_eq_true, Bool.and_eq_false_iff, Bool.or_eq_false_iff, Bool.not_eq_true', Bool.not_eq_false', Bool.not_true, Bool.not_false, Int.not_lt, Int.not_le] at hg; omega)) (spec_conv rfl Try.underlying3 ⟨_, Try.underlying5⟩ (Get.opt rfl hg)))) ?_ | refine L.op1 rfl rfl (GSpec.guard rfl rfl rfl fun hg => (spec_conv rfl Try.underlying3 ⟨_, Try.underlying5⟩ (Get.opt rfl hg))) ?_
      refine L.op1 rfl rfl (GSpec.guard rfl rfl rfl fun hg => (spec_call rfl Try.call12 (dBound_ok _) (.cons (Get.opt rfl hg) .nil))) ?_
      refine L.op1 rfl rfl (GSpec.guard rfl rfl rfl fun hg => (spec_gtr rfl (Get.opt rfl hg) (Get.opt rfl hg))) ?_
      refine L.op1 rfl rfl (GSpec.plain rfl (spec_or rfl (Get.tmp rfl) (fun hb => (Get.opt rfl hb)))) ?_
      refine L.nil ?_
      refine N.thenW ?_
      refine W.cond (Get.tmp rfl) (fun h3 => ?_) (fun h3 => ?_)
      · simp only [hs4, Bool.not_true, Bool.false_or, decide_eq_true_eq] at h3; omega
      · have ph3 := h3; try simp only [decide_eq_true_eq, decide_eq_false_iff_not, Bool.and_eq_true, Bool.or_eq_true, Bool.and_eq_false_iff, Bool.or_eq_false_iff, Bool.not_eq_true', Bool.not_eq_false', Bool.not_true, Bool.not_false, Int.not_lt, Int.not_le] at ph3
        refine W.skip ?_
        refine N.thenW ?_
        refine W.seq ?_
        refine W.region ?_
        refine L.op1 rfl rfl (GSpec.plain rfl (spec_move rfl (Get.tmp rfl))) ?_
        refine L.op1 rfl rfl (GSpec.plain rfl (spec_move rfl (Get.tmp rfl))) ?_
        refine L.op1 rfl rfl (GSpec.plain rfl (spec_call rfl Try.call24 (fails_ok t _ hs5) (.cons (Get.tmp rfl) (.cons (Get.tmp rfl) .nil)))) ?_
        refine L.op1 rfl rfl (GSpec.plain rfl (spec_assign rfl (Get.tmp rfl))) ?_
        refine L.nil ?_
        refine N.thenW ?_
        refine W.seq ?_
        refine W.region ?_
        refine L.op1 rfl rfl (GSpec.plain rfl (spec_move rfl (Get.tmp rfl))) ?_
        refine L.op1 rfl rfl (GSpec.plain rfl (spec_move rfl (Get.tmp rfl))) ?_
        refine L.op1 rfl rfl (GSpec.guard rfl rfl rfl fun hg => (spec_move rfl (Get.tmp rfl))) ?_
        refine L.op1 rfl rfl (GSpec.plain rfl (spec_or rfl (Get.tmp rfl) (fun hb => (Get.opt rfl hb)))) ?_
        refine L.op1 rfl rfl (GSpec.plain rfl (spec_assign rfl (Get.tmp rfl))) ?_
        refine L.nil ?_
        refine N.thenW ?_
        refine W.seq ?_
        refine W.region ?_
        refine L.op1 rfl rfl (GSpec.plain rfl (spec_loadW (k := 0) rfl Try.isAgg24 Try.sizeOf24 (Get.tmp rfl) rfl rfl)) ?_
        refine L.op1 rfl rfl (GSpec.plain rfl (spec_move rfl (Get.tmp rfl))) ?_
        refine L.op1 rfl rfl (GSpec.plain rfl (spec_call rfl Try.call22 (tell_ok _ _ (by omega)) (.cons (Get.tmp rfl) (.cons (Get.tmp rfl) .nil)))) ?_
        refine L.storeW (k := 0) rfl rfl rfl Try.sizeOf24 (Get.tmp rfl) (Get.tmp rfl) rfl rfl rfl ?_
        refine L.nil ?_
        refine N.thenW ?_
        refine W.region ?_
        refine L.op1 rfl rfl (GSpec.plain rfl (spec_move rfl (Get.tmp rfl))) ?_
        first | refine L.op1 rfl rfl (GSpec.plain rfl (fit_i64 (by omega) (by omega) (spec_add rfl (Get.tmp rfl) (Get.cint rfl)))) ?_ | refine L.op1 rfl rfl (GSpec.plain rfl (spec_add rfl (Get.tmp rfl) (Get.cint rfl))) ?_
        refine L.op1 rfl rfl (GSpec.plain rfl (spec_assign rfl (Get.tmp rfl))) ?_
        refine L.nil ?_
        refine N.blockNormal ?_
        refine N.round (tellD s (failsB t (candidateD s).1), g || failsB t (candidateD s).1) ?hI1 ?hmu1 ?hs1 ?hp1
        case hs1 => exact (.cons (t := 0) rfl (.cons (t := 1) rfl (.cons (t := 4) rfl (.cons (t := 5) rfl (.weak (t := 7) rfl (eqI (by exact hs2.symm)) (.cons (t := 8) rfl .nil))))))
        case hp1 => exact .refl
        case hI1 => exact hs1
        case hmu1 => exact hs3
    · have hdn : doneB s = true := by simpa using h2
      have hln := hI.len
      have hts := hI.valid.tests
      have hMI := hI
      refine W.exit ?_
      refine N.thenExit ?_
      refine N.thenExit ?_
      refine N.blockExit ?_
      refine N.thenW ?_
      refine W.seq ?_
      refine W.seq ?_
      refine W.region ?_
      refine L.op1 rfl rfl (GSpec.plain rfl (spec_move rfl (Get.tmp rfl))) ?_
      refine L.op1 rfl rfl (GSpec.plain rfl (spec_move rfl (Get.tmp rfl))) ?_
      first | refine L.op1 rfl rfl (GSpec.plain rfl (spec_remP rfl (Get.tmp rfl) (Get.cint rfl) (by omega) (by omega))) ?_ | refine L.op1 rfl rfl (GSpec.plain rfl (spec_rem rfl (Get.tmp rfl) (Get.cint rfl) (by omega))) ?_
      first | refine L.op1 rfl rfl (GSpec.plain rfl (fit_i64 (by omega) (by omega) (spec_conv rfl Try.underlying3 ⟨_, Try.underlying5⟩ (Get.tmp rfl)))) ?_ | refine L.op1 rfl rfl (GSpec.plain rfl (spec_conv rfl Try.underlying3 ⟨_, Try.underlying5⟩ (Get.tmp rfl))) ?_
      refine L.op1 rfl rfl (GSpec.plain rfl (spec_call rfl Try.call12 (dBound_ok _) (.cons (Get.tmp rfl) .nil))) ?_
      refine L.op1 rfl rfl (GSpec.plain rfl (spec_gtr rfl (Get.tmp rfl) (Get.tmp rfl))) ?_
      refine L.op1 rfl rfl (GSpec.plain rfl (spec_move rfl (Get.tmp rfl))) ?_
      refine L.op1 rfl rfl (GSpec.guard rfl rfl rfl fun hg => (spec_fieldAddr (off' := 3) rfl Try.underlying24 rfl Try.sizeOf3 (Get.tmp rfl) rfl)) ?_
      refine L.op1 rfl rfl (GSpec.guard rfl rfl rfl fun hg => (spec_load1 (k := 0) rfl Try.isAgg3 (Get.opt rfl hg) rfl rfl)) ?_
      refine L.op1 rfl rfl (GSpec.guard rfl rfl rfl fun hg => (spec_move rfl (Get.tmp rfl))) ?_
      refine L.op1 rfl rfl (GSpec.guard rfl rfl rfl fun hg => (spec_neq rfl (Get.opt rfl hg) (Get.opt rfl hg))) ?_
      refine L.op1 rfl rfl (GSpec.plain rfl (spec_or rfl (Get.tmp rfl) (fun hb => (Get.opt rfl hb)))) ?_
      refine L.op1 rfl rfl (GSpec.plain rfl (spec_move rfl (Get.tmp rfl))) ?_
      refine L.op1 rfl rfl (GSpec.guard rfl rfl rfl fun hg => (spec_move rfl (Get.tmp rfl))) ?_
      refine L.op1 rfl rfl (GSpec.guard rfl rfl rfl fun hg => (spec_move rfl (Get.opt rfl hg))) ?_
      refine L.op1 rfl rfl (GSpec.guardOpt rfl rfl rfl fun hg => (spec_move rfl (Get.tmp rfl))) ?_
      refine L.op1 rfl rfl (GSpec.guardOpt rfl rfl rfl fun hg => (spec_fieldAddr (off' := 0) rfl Try.underlying24 rfl Try.sizeOf22 (Get.tmp rfl) rfl)) ?_
      refine L.op1 rfl rfl (GSpec.guardOpt rfl rfl rfl fun hg => (spec_load1 (k := 0) rfl Try.isAgg22 (Get.opt rfl hg) rfl rfl)) ?_
      refine L.op1 rfl rfl (GSpec.guardOpt rfl rfl rfl fun hg => (spec_call rfl Try.call24 (fails_ok t _ hI.small) (.cons (Get.opt rfl hg) (.cons (Get.opt rfl hg) .nil)))) ?_
      refine L.op1 rfl rfl (GSpec.guardOpt rfl rfl rfl fun hg => (spec_not rfl (Get.opt rfl hg))) ?_
      refine L.op1 rfl rfl (GSpec.guard rfl rfl rfl fun hg => (spec_and rfl (Get.opt rfl hg) (fun hb => (Get.opt rfl ⟨hg, hb⟩)))) ?_
      refine L.op1 rfl rfl (GSpec.plain rfl (spec_or rfl (Get.tmp rfl) (fun hb => (Get.opt rfl hb)))) ?_
      refine L.op1 rfl rfl (GSpec.plain rfl (spec_move rfl (Get.tmp rfl))) ?_
      refine L.op1 rfl rfl (GSpec.guard rfl rfl rfl fun hg => (spec_move rfl (Get.tmp rfl))) ?_
      refine L.op1 rfl rfl (GSpec.guard rfl rfl rfl fun hg => (spec_not rfl (Get.opt rfl hg))) ?_
      refine L.op1 rfl rfl (GSpec.guard rfl rfl rfl fun hg => (spec_move rfl (Get.opt rfl hg))) ?_
      refine L.op1 rfl rfl (GSpec.guardOpt rfl rfl rfl fun hg => (spec_fieldAddr (off' := 0) rfl Try.underlying24 rfl Try.sizeOf22 (Get.tmp rfl) rfl)) ?_
      refine L.op1 rfl rfl (GSpec.guardOpt rfl rfl rfl fun hg => (spec_load1 (k := 0) rfl Try.isAgg22 (Get.opt rfl hg) rfl rfl)) ?_
      refine L.op1 rfl rfl (GSpec.guardOpt rfl rfl rfl fun hg => (spec_len rfl Try.underlying22 (Get.opt rfl hg))) ?_
      refine L.op1 rfl rfl (GSpec.guardOpt rfl rfl rfl fun hg => (spec_move rfl (Get.tmp rfl))) ?_
      first | refine L.op1 rfl rfl (GSpec.guardOpt rfl rfl rfl fun hg => (spec_remP rfl (Get.opt rfl hg) (Get.cint rfl) (by (simp only [decide_eq_true_eq, decide_eq_false_iff_not, Bool.and_eq_true, Bool.or_eq_true, Bool.and_eq_false_iff, Bool.or_eq_false_iff, Bool.not_eq_true', Bool.not_eq_false', Bool.not_true, Bool.not_false, Int.not_lt, Int.not_le] at hg; omega)) (by (simp only [decide_eq_true_eq, decide_eq_false_iff_not, Bool.and_eq_true, Bool.or_eq_true, Bool.and_eq_false_iff, Bool.or_eq_false_iff, Bool.not_eq_true', Bool.not_eq_false', Bool.not_true, Bool.not_false, Int.not_lt, Int.not_le] at hg; omega)))) ?_ | refine L.op1 rfl rfl (GSpec.guardOpt rfl rfl rfl fun hg => (spec_rem rfl (Get.opt rfl hg) (Get.cint rfl) (by (simp only [decide_eq_true_eq, decide_eq_false_iff_not, Bool.and_eq_true, Bool.or_eq_true, Bool.and_eq_false_iff, Bool.or_eq_false_iff, Bool.not_eq_true', Bool.not_eq_false', Bool.not_true, Bool.not_false, Int.not_lt, Int.not_le] at hg; omega)))) ?_
      first | refine L.op1 rfl rfl (GSpec.guardOpt rfl rfl rfl fun hg => (fit_i64 (by (simp only [decide_eq_true_eq, decide_eq_false_iff_not, Bool.and_eq_true, Bool.or_eq_true, Bool.and_eq_false_iff, Bool.or_eq_false_iff, Bool.not_eq_true', Bool.not_eq_false', Bool.not_true, Bool.not_false, Int.not_lt, Int.not_le] at hg; omega)) (by (simp only [decide_eq_true_eq, decide_eq_false_iff_not, Bool.and_eq_true, Bool.or_eq_true, Bool.and_eq_false_iff, Bool.or_eq_false_iff, Bool.not_eq_true', Bool.not_eq_false', Bool.not_true, Bool.not_false, Int.not_lt, Int.not_le] at hg; omega)) (spec_conv rfl Try.underlying3 ⟨_, Try.underlying5⟩ (Get.opt rfl hg)))) ?_ | refine L.op1 rfl rfl (GSpec.guardOpt rfl rfl rfl fun hg => (spec_conv rfl Try.underlying3 ⟨_, Try.underlying5⟩ (Get.opt rfl hg))) ?_
      refine L.op1 rfl rfl (GSpec.guardOpt rfl rfl rfl fun hg => (spec_neq rfl (Get.opt rfl hg) (Get.opt rfl hg))) ?_
      refine L.op1 rfl rfl (GSpec.guard rfl rfl rfl fun hg => (spec_and rfl (Get.opt rfl hg) (fun hb => (Get.opt rfl ⟨hg, hb⟩)))) ?_
      refine L.op1 rfl rfl (GSpec.plain rfl (spec_or rfl (Get.tmp rfl) (fun hb => (Get.opt rfl hb)))) ?_
      refine L.nil ?_
      refine N.thenW ?_
      refine W.keep (.cons (t := 1) rfl (.cons (t := 4) rfl (.cons (t := 5) rfl (.cons (t := 87) rfl .nil)))) .refl ?_
      refine W.cond (Get.tmp rfl) (fun h4 => ?_) (fun h4 => ?_)
      · exfalso; have := hI.pot; have := hI.fl; have := hI.nf; cases g <;> simp_all <;> omega
      · have ph4 := h4; try simp only [decide_eq_true_eq, decide_eq_false_iff_not, Bool.and_eq_true, Bool.or_eq_true, Bool.and_eq_false_iff, Bool.or_eq_false_iff, Bool.not_eq_true', Bool.not_eq_false', Bool.not_true, Bool.not_false, Int.not_lt, Int.not_le] at ph4
        refine W.skip ?_
        refine N.thenW ?_
        refine W.seq ?_
        refine W.seq ?_
        refine W.region ?_
        refine L.op1 rfl rfl (GSpec.plain rfl (spec_assign rfl (Get.cint rfl))) ?_
        refine L.nil ?_
        refine N.thenW ?_
        refine W.block ?_
        refine W.loop (σ := Nat) (fun z => [(1, Rp.slice eU8 t), (4, Rp.bool false), (5, Rp.ptr r5 0), (12, Rp.int .i64 (z : Nat))]) (fun z => [MF.box r5 24 (shrinkR s)]) (fun z => z ≤ s.kept.length) (fun z => s.kept.length - z) 0 (Nat.zero_le _) (.cons (t := 1) rfl (.cons (t := 4) rfl (.cons (t := 5) rfl (.cons (t := 12) rfl .nil)))) .refl ?_
        intro i hI
        try dsimp only
        refine W.seq ?_
        refine W.seq ?_
        refine W.region ?_
        refine L.op1 rfl rfl (GSpec.plain rfl (spec_move rfl (Get.tmp rfl))) ?_
        refine L.op1 rfl rfl (GSpec.plain rfl (spec_fieldAddr (off' := 0) rfl Try.underlying24 rfl Try.sizeOf22 (Get.tmp rfl) rfl)) ?_
        refine L.op1 rfl rfl (GSpec.plain rfl (spec_load1 (k := 0) rfl Try.isAgg22 (Get.tmp rfl) rfl rfl)) ?_
        refine L.op1 rfl rfl (GSpec.plain rfl (spec_len rfl Try.underlying22 (Get.tmp rfl))) ?_
        refine L.op1 rfl rfl (GSpec.plain rfl (spec_lss rfl (Get.tmp rfl) (Get.tmp rfl))) ?_
        refine L.op1 rfl rfl (GSpec.plain rfl (spec_move rfl (Get.tmp rfl))) ?_
        refine L.op1 rfl rfl (GSpec.guard rfl rfl rfl fun hg => (spec_fieldAddr (off' := 0) rfl Try.underlying24 rfl Try.sizeOf22 (Get.tmp rfl) rfl)) ?_
        refine L.op1 rfl rfl (GSpec.guard rfl rfl rfl fun hg => (spec_load1 (k := 0) rfl Try.isAgg22 (Get.opt rfl hg) rfl rfl)) ?_
        refine L.op1 rfl rfl (GSpec.guard rfl rfl rfl fun hg => (spec_len rfl Try.underlying22 (Get.opt rfl hg))) ?_
        refine L.op1 rfl rfl (GSpec.guard rfl rfl rfl fun hg => (spec_gtr rfl (Get.opt rfl hg) (Get.cint rfl))) ?_
        refine L.op1 rfl rfl (GSpec.plain rfl (spec_and rfl (Get.tmp rfl) (fun hb => (Get.opt rfl hb)))) ?_
        refine L.nil ?_
        refine N.thenW ?_
        refine W.cond (Get.tmp rfl) (fun h5 => ?_) (fun h5 => ?_)
        · simp only [Bool.and_eq_true, decide_eq_true_eq] at h5
          refine W.skip ?_
          refine N.thenW ?_
          refine W.seq ?_
          refine W.block ?_
          refine W.seq ?_
          refine W.region ?_
          refine L.op1 rfl rfl (GSpec.plain rfl (spec_assign rfl Get.cval)) ?_
          refine L.nil ?_
          refine N.thenW ?_
          refine W.nil 3 1 eI ?_
          refine W.seq ?_
          refine W.region ?_
          refine L.op1 rfl rfl (GSpec.plain rfl (spec_move rfl (Get.tmp rfl))) ?_
          refine L.op1 rfl rfl (GSpec.plain rfl (spec_fieldAddr (off' := 0) rfl Try.underlying24 rfl Try.sizeOf22 (Get.tmp rfl) rfl)) ?_
          refine L.op1 rfl rfl (GSpec.plain rfl (spec_load1 (k := 1) rfl Try.isAgg22 (Get.tmp rfl) rfl rfl)) ?_
          refine L.op1 rfl rfl (GSpec.plain rfl (spec_move rfl (Get.tmp rfl))) ?_
          refine L.op1 rfl rfl (GSpec.plain rfl (spec_slice (E := eI) rfl Try.underlying22 Try.sizeOf3 (fun _ => rfl) (Get.tmp rfl) .none (.some (Get.tmp rfl) (by omega)) (by omega))) ?_
          refine L.append (k := 0) (E := eI) rfl rfl rfl rfl Try.underlying22 ti3 rfl (by decide) (fun _ => rfl) (Get.tmp rfl) (Get.tmp rfl) rfl (by (first | omega | (simp; omega))) (by (first | omega | (simp; omega))) (fun v106 => ?_)
          refine L.op1 rfl rfl (GSpec.plain rfl (spec_assign rfl (Get.tmp rfl))) ?_
          refine L.nil ?_
          refine N.thenW ?_
          refine W.seq ?_
          refine W.region ?_
          refine L.op1 rfl rfl (GSpec.plain rfl (spec_move rfl (Get.tmp rfl))) ?_
          refine L.op1 rfl rfl (GSpec.plain rfl (spec_fieldAddr (off' := 0) rfl Try.underlying24 rfl Try.sizeOf22 (Get.tmp rfl) rfl)) ?_
          refine L.op1 rfl rfl (GSpec.plain rfl (spec_load1 (k := 1) rfl Try.isAgg22 (Get.tmp rfl) rfl rfl)) ?_
          refine L.op1 rfl rfl (GSpec.plain rfl (spec_move rfl (Get.tmp rfl))) ?_
          first | refine L.op1 rfl rfl (GSpec.plain rfl (fit_i64 (by omega) (by omega) (spec_add rfl (Get.tmp rfl) (Get.cint rfl)))) ?_ | refine L.op1 rfl rfl (GSpec.plain rfl (spec_add rfl (Get.tmp rfl) (Get.cint rfl))) ?_
          refine L.op1 rfl rfl (GSpec.plain rfl (spec_slice (E := eI) rfl Try.underlying22 Try.sizeOf3 (fun _ => rfl) (Get.tmp rfl) (.some (Get.tmp rfl) (by omega)) .none (by omega))) ?_
          refine L.append (k := 0) (E := eI) rfl rfl rfl rfl Try.underlying22 ti3 rfl (by decide) (fun _ => rfl) (Get.tmp rfl) (Get.tmp rfl) rfl (by (first | omega | (simp; omega))) (by (first | omega | (simp; omega))) (fun v113 => ?_)
          refine L.op1 rfl rfl (GSpec.plain rfl (spec_assign rfl (Get.tmp rfl))) ?_
          refine L.nil ?_
          refine N.thenW ?_
          refine W.pub (t := 13) (k := 0) rfl rfl (fun _ => rfl) ?_
          refine W.seq ?_
          refine W.region ?_
          refine L.op1 rfl rfl (GSpec.plain rfl (spec_move rfl (Get.tmp rfl))) ?_
          refine L.op1 rfl rfl (GSpec.plain rfl (spec_move rfl (Get.tmp rfl))) ?_
          refine L.op1 rfl rfl (GSpec.plain rfl (spec_call rfl Try.call24 (fails_ok t _ (sub_small hMI.small i)) (.cons (Get.tmp rfl) (.cons (Get.tmp rfl) .nil)))) ?_
          refine L.nil ?_
          refine N.thenW ?_
          refine W.cond (Get.tmp rfl) (fun h6 => ?_) (fun h6 => ?_)
          · simp only [List.nil_append, List.drop_zero, Nat.sub_zero, Int.toNat_natCast] at h6; rw [List.take_of_length_le (l := s.kept.drop _) (by simp), show ((i : Int) + 1).toNat = i + 1 by omega, min_end hMI hdn (by omega) (by omega)] at h6; cases h6
          · have ph6 := h6; try simp only [decide_eq_true_eq, decide_eq_false_iff_not, Bool.and_eq_true, Bool.or_eq_true, Bool.and_eq_false_iff, Bool.or_eq_false_iff, Bool.not_eq_true', Bool.not_eq_false', Bool.not_true, Bool.not_false, Int.not_lt, Int.not_le] at ph6
            refine W.skip ?_
            refine N.blockNormal ?_
            refine N.thenW ?_
            refine W.region ?_
            refine L.op1 rfl rfl (GSpec.plain rfl (spec_move rfl (Get.tmp rfl))) ?_
            first | refine L.op1 rfl rfl (GSpec.plain rfl (fit_i64 (by omega) (by omega) (spec_add rfl (Get.tmp rfl) (Get.cint rfl)))) ?_ | refine L.op1 rfl rfl (GSpec.plain rfl (spec_add rfl (Get.tmp rfl) (Get.cint rfl))) ?_
            refine L.op1 rfl rfl (GSpec.plain rfl (spec_assign rfl (Get.tmp rfl))) ?_
            refine L.nil ?_
            refine N.round (i + 1) ?hI2 ?hmu2 ?hs2 ?hp2
            case hs2 => exact (.cons (t := 1) rfl (.cons (t := 4) rfl (.cons (t := 5) rfl (.cons (t := 12) rfl .nil))))
            case hp2 => exact (.cons 0 rfl .nil)
            all_goals (first | rfl | trivial | omega | (simp_all; done))
        · have ph5 := h5; try simp only [decide_eq_true_eq, decide_eq_false_iff_not, Bool.and_eq_true, Bool.or_eq_true, Bool.and_eq_false_iff, Bool.or_eq_false_iff, Bool.not_eq_true', Bool.not_eq_false', Bool.not_true, Bool.not_false, Int.not_lt, Int.not_le] at ph5
          refine W.exit ?_
          refine N.thenExit ?_
          refine N.thenExit ?_
          refine N.blockExit ?_
          refine N.thenW ?_
          refine W.keep (.cons (t := 4) rfl .nil) .refl ?_
          refine W.seq ?_
          refine W.region ?_
          refine L.op1 rfl rfl (GSpec.plain rfl (spec_call rfl Try.call15 (awake_ok ) .nil)) ?_
          refine L.op1 rfl rfl (GSpec.plain rfl (spec_assign rfl (Get.tmp rfl))) ?_
          refine L.nil ?_
          refine N.thenW ?_
          refine W.ret ?_
          refine N.ret () rfl (.tmp (t := 4) (Get.tmp rfl) .nil) (res1 (eqB ?_)) .nil (fun _ _ h => h)
          rfl

end Go.Proofs.Ytlfnljpnoololaa
