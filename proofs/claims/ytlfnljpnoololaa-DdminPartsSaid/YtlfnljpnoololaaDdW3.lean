import Derived.Test.YtlfnljpnoololaaDdW2
set_option linter.unusedSimpArgs false
set_option linter.unusedVariables false
namespace Go.Proofs.Ytlfnljpnoololaa
open Go.Sim
theorem rStart_ok (m : Int) : CallT Try.prog 10 [Rp.int .i64 m] [] (.one (Rp.tuple [Rp.agg (shrinkR (startD m).1), Rp.int .i64 (startD m).2])) := by
  refine W.enter (fn := Try.f10) (n := 28) Try.func10 rfl Try.ntmps10 rfl (fun w₀ C₀ => ?_)
  simp only [argS]
  refine W.fact 0 rfl int_fact fun hm => ?_
  simp only [InR] at hm
  refine W.seq ?_
  refine W.region ?_
  refine L.box rfl rfl (GSpec.plain rfl (spec_alloc rfl ti24 z24)) (fun r2 => ?_)
  refine L.op1 rfl rfl (GSpec.plain rfl (spec_assign rfl (Get.cint rfl))) ?_
  refine L.nil ?_
  refine N.thenW ?_
  refine W.seq ?_
  refine W.seq ?_
  refine W.region ?_
  refine L.op1 rfl rfl (GSpec.plain rfl (spec_move rfl (Get.tmp rfl))) ?_
  refine L.op1 rfl rfl (GSpec.plain rfl (spec_lss rfl (Get.tmp rfl) (Get.cint rfl))) ?_
  refine L.nil ?_
  refine N.thenW ?_
  refine W.cond (Get.tmp rfl) (fun h1 => ?_) (fun h1 => ?_)
  · have ph1 := h1; try simp only [decide_eq_true_eq, decide_eq_false_iff_not, Bool.and_eq_true, Bool.or_eq_true, Bool.and_eq_false_iff, Bool.or_eq_false_iff, Bool.not_eq_true', Bool.not_eq_false', Bool.not_true, Bool.not_false, Int.not_lt, Int.not_le] at ph1
    refine W.seq ?_
    refine W.region ?_
    refine L.op1 rfl rfl (GSpec.plain rfl (spec_build (Rs := [Rp.slice eI [], Rp.int .i64 0, Rp.int .i64 0, Rp.int .i64 0]) rfl ti24 z24 Try.underlying24 pl24 .nil)) ?_
    refine L.storeW (k := 0) rfl rfl rfl Try.sizeOf24 (Get.tmp rfl) (Get.tmp rfl) rfl rfl rfl ?_
    refine L.op1 rfl rfl (GSpec.plain rfl (spec_assign rfl (Get.cint rfl))) ?_
    refine L.nil ?_
    refine N.thenW ?_
    refine W.ret ?_
    refine N.ret () rfl (.cellA (k := 0) (Get.tmp (t := 2) rfl) rfl Try.isAgg24 Try.sizeOf24 rfl (.tmp (t := 3) (Get.tmp rfl) .nil)) (res2w (eqA ?_) (eqI ?_)) .nil (fun _ _ h => h)
    all_goals (first | rfl | (simp_all [startD]; done) | (simp only [startD]; (repeat' split) <;> first | rfl | omega | (simp_all; done)) | omega)
  · have ph1 := h1; try simp only [decide_eq_true_eq, decide_eq_false_iff_not, Bool.and_eq_true, Bool.or_eq_true, Bool.and_eq_false_iff, Bool.or_eq_false_iff, Bool.not_eq_true', Bool.not_eq_false', Bool.not_true, Bool.not_false, Int.not_lt, Int.not_le] at ph1
    refine W.skip ?_
    refine N.thenW ?_
    refine W.seq ?_
    refine W.seq ?_
    refine W.region ?_
    refine L.op1 rfl rfl (GSpec.plain rfl (spec_move rfl (Get.tmp rfl))) ?_
    refine L.op1 rfl rfl (GSpec.plain rfl (spec_gtr rfl (Get.tmp rfl) (Get.cint rfl))) ?_
    refine L.nil ?_
    refine N.thenW ?_
    refine W.cond (Get.tmp rfl) (fun h2 => ?_) (fun h2 => ?_)
    · have ph2 := h2; try simp only [decide_eq_true_eq, decide_eq_false_iff_not, Bool.and_eq_true, Bool.or_eq_true, Bool.and_eq_false_iff, Bool.or_eq_false_iff, Bool.not_eq_true', Bool.not_eq_false', Bool.not_true, Bool.not_false, Int.not_lt, Int.not_le] at ph2
      refine W.seq ?_
      refine W.region ?_
      refine L.op1 rfl rfl (GSpec.plain rfl (spec_build (Rs := [Rp.slice eI [], Rp.int .i64 0, Rp.int .i64 0, Rp.int .i64 0]) rfl ti24 z24 Try.underlying24 pl24 .nil)) ?_
      refine L.storeW (k := 0) rfl rfl rfl Try.sizeOf24 (Get.tmp rfl) (Get.tmp rfl) rfl rfl rfl ?_
      refine L.op1 rfl rfl (GSpec.plain rfl (spec_assign rfl (Get.cint rfl))) ?_
      refine L.nil ?_
      refine N.thenW ?_
      refine W.ret ?_
      refine N.ret () rfl (.cellA (k := 0) (Get.tmp (t := 2) rfl) rfl Try.isAgg24 Try.sizeOf24 rfl (.tmp (t := 3) (Get.tmp rfl) .nil)) (res2w (eqA ?_) (eqI ?_)) .nil (fun _ _ h => h)
      all_goals (first | rfl | (simp_all [startD]; done) | (simp only [startD]; (repeat' split) <;> first | rfl | omega | (simp_all; done)) | omega)
    · have ph2 := h2; try simp only [decide_eq_true_eq, decide_eq_false_iff_not, Bool.and_eq_true, Bool.or_eq_true, Bool.and_eq_false_iff, Bool.or_eq_false_iff, Bool.not_eq_true', Bool.not_eq_false', Bool.not_true, Bool.not_false, Int.not_lt, Int.not_le] at ph2
      refine W.skip ?_
      refine N.thenW ?_
      refine W.seq ?_
      refine W.region ?_
      refine L.op1 rfl rfl (GSpec.plain rfl (spec_build (Rs := [Rp.val (.slice none 0 0), _, Rp.int .i64 0, Rp.int .i64 0]) rfl ti24 z24v Try.underlying24 pl24 (.cons (GetC.one (Get.cint rfl)) rfl rfl rfl .nil))) ?_
      refine L.box rfl rfl (GSpec.plain rfl (spec_alloc rfl ti24 z24)) (fun r4 => ?_)
      refine L.storeW (k := 0) rfl rfl rfl Try.sizeOf24 (Get.tmp rfl) (Get.tmp rfl) rfl rfl rfl ?_
      refine L.nil ?_
      refine N.thenW ?_
      refine W.seq ?_
      refine W.seq ?_
      refine W.region ?_
      refine L.op1 rfl rfl (GSpec.plain rfl (spec_assign rfl (Get.cint rfl))) ?_
      refine L.nil ?_
      refine N.thenW ?_
      refine W.nil 3 1 eI ?_
      refine W.block ?_
      refine W.loop (σ := Nat × Value) (fun z => [(0, Rp.int .i64 m), (2, Rp.ptr r2 0), (3, Rp.int .i64 0), (4, Rp.ptr r4 0), (5, Rp.int .i64 (z.1 : Nat))]) (fun z => [MF.osl z.2 3 1 eI (iota z.1), MF.box r4 24 [Rp.val z.2, Rp.int .i64 2, Rp.int .i64 0, Rp.int .i64 0], MF.box r2 24 (shrinkR ⟨[], 0, 0, 0⟩)]) (fun z => 0 ≤ m ∧ (z.1 : Int) ≤ m) (fun z => m.toNat - z.1) (0, .slice none 0 0) (by simp at *; omega) (.cons (t := 0) rfl (.cons (t := 2) rfl (.cons (t := 3) rfl (.cons (t := 4) rfl (.cons (t := 5) rfl .nil))))) .refl ?_
      intro ⟨i, v⟩ hI
      try dsimp only
      have hil := iota_length i
      refine W.seq ?_
      refine W.seq ?_
      refine W.region ?_
      refine L.op1 rfl rfl (GSpec.plain rfl (spec_move rfl (Get.tmp rfl))) ?_
      refine L.op1 rfl rfl (GSpec.plain rfl (spec_move rfl (Get.tmp rfl))) ?_
      refine L.op1 rfl rfl (GSpec.plain rfl (spec_lss rfl (Get.tmp rfl) (Get.tmp rfl))) ?_
      refine L.nil ?_
      refine N.thenW ?_
      refine W.cond (Get.tmp rfl) (fun h3 => ?_) (fun h3 => ?_)
      · have ph3 := h3; try simp only [decide_eq_true_eq, decide_eq_false_iff_not, Bool.and_eq_true, Bool.or_eq_true, Bool.and_eq_false_iff, Bool.or_eq_false_iff, Bool.not_eq_true', Bool.not_eq_false', Bool.not_true, Bool.not_false, Int.not_lt, Int.not_le] at ph3
        refine W.skip ?_
        refine N.thenW ?_
        refine W.seq ?_
        refine W.block ?_
        refine W.region ?_
        refine L.op1 rfl rfl (GSpec.plain rfl (spec_fieldAddr (off' := 0) rfl Try.underlying24 rfl Try.sizeOf22 (Get.tmp rfl) rfl)) ?_
        refine L.op1 rfl rfl (GSpec.plain rfl (spec_load1 (k := 1) rfl Try.isAgg22 (Get.tmp rfl) rfl rfl)) ?_
        refine L.op1 rfl rfl (GSpec.plain rfl (spec_move rfl (Get.tmp rfl))) ?_
        refine L.op1 rfl rfl (GSpec.plain rfl (spec_buildSlice1 (E := eI) rfl Try.underlying22 ti3 z3 (by decide) (GetC.one (Get.tmp rfl)) (fun _ => rfl))) ?_
        refine L.append (k := 0) (E := eI) rfl rfl rfl rfl Try.underlying22 ti3 rfl (by decide) (fun _ => rfl) (Get.tmp rfl) (Get.tmp rfl) rfl (by (first | omega | (simp; omega))) (by (first | omega | (simp; omega))) (fun v22 => ?_)
        refine L.op1 rfl rfl (GSpec.plain rfl (spec_fieldAddr (off' := 0) rfl Try.underlying24 rfl Try.sizeOf22 (Get.tmp rfl) rfl)) ?_
        refine L.factM 0 rfl osl_one fun hq => ?_
        haveI := One.val hq
        refine L.storeB (k := 1) rfl rfl rfl Try.sizeOf22 (Get.tmp rfl) (Get.tmp rfl) rfl rfl ?_
        refine L.nil ?_
        refine N.blockNormal ?_
        refine N.thenW ?_
        refine W.region ?_
        refine L.op1 rfl rfl (GSpec.plain rfl (spec_move rfl (Get.tmp rfl))) ?_
        first | refine L.op1 rfl rfl (GSpec.plain rfl (fit_i64 (by omega) (by omega) (spec_add rfl (Get.tmp rfl) (Get.cint rfl)))) ?_ | refine L.op1 rfl rfl (GSpec.plain rfl (spec_add rfl (Get.tmp rfl) (Get.cint rfl))) ?_
        refine L.op1 rfl rfl (GSpec.plain rfl (spec_assign rfl (Get.tmp rfl))) ?_
        refine L.nil ?_
        refine N.round (i + 1, v22) ?hI1 ?hmu1 ?hs1 ?hp1
        case hs1 => exact (.cons (t := 0) rfl (.cons (t := 2) rfl (.cons (t := 3) rfl (.cons (t := 4) rfl (.cons (t := 5) rfl .nil)))))
        case hp1 => (dsimp only; rw [iota_succ]); exact .refl
        all_goals (first | rfl | trivial | omega | (simp_all; done))
      · have ph3 := h3; try simp only [decide_eq_true_eq, decide_eq_false_iff_not, Bool.and_eq_true, Bool.or_eq_true, Bool.and_eq_false_iff, Bool.or_eq_false_iff, Bool.not_eq_true', Bool.not_eq_false', Bool.not_true, Bool.not_false, Int.not_lt, Int.not_le] at ph3
        refine W.exit ?_
        refine N.thenExit ?_
        refine N.thenExit ?_
        refine N.blockExit ?_
        refine N.thenW ?_
        refine W.pubBox (off := 0) 0 0 rfl rfl rfl (fun _ => rfl) ?_
        refine W.seq ?_
        refine W.seq ?_
        refine W.region ?_
        refine L.op1 rfl rfl (GSpec.plain rfl (spec_move rfl (Get.tmp rfl))) ?_
        refine L.op1 rfl rfl (GSpec.plain rfl (spec_lss rfl (Get.tmp rfl) (Get.cint rfl))) ?_
        refine L.nil ?_
        refine N.thenW ?_
        refine W.keep (.cons (t := 2) rfl (.cons (t := 3) rfl (.cons (t := 4) rfl (.cons (t := 25) rfl .nil)))) .refl ?_
        refine W.cond (Get.tmp rfl) (fun h4 => ?_) (fun h4 => ?_)
        · have ph4 := h4; try simp only [decide_eq_true_eq, decide_eq_false_iff_not, Bool.and_eq_true, Bool.or_eq_true, Bool.and_eq_false_iff, Bool.or_eq_false_iff, Bool.not_eq_true', Bool.not_eq_false', Bool.not_true, Bool.not_false, Int.not_lt, Int.not_le] at ph4
          refine W.region ?_
          refine L.op1 rfl rfl (GSpec.plain rfl (spec_fieldAddr (off' := 1) rfl Try.underlying24 rfl Try.sizeOf3 (Get.tmp rfl) rfl)) ?_
          refine L.storeB (k := 0) rfl rfl rfl Try.sizeOf3 (Get.tmp rfl) (Get.cint rfl) rfl rfl ?_
          refine L.nil ?_
          refine N.thenW ?_
          refine W.seq ?_
          refine W.region ?_
          refine L.op1 rfl rfl (GSpec.plain rfl (spec_loadW (k := 0) rfl Try.isAgg24 Try.sizeOf24 (Get.tmp rfl) rfl rfl)) ?_
          refine L.storeW (k := 1) rfl rfl rfl Try.sizeOf24 (Get.tmp rfl) (Get.tmp rfl) rfl rfl rfl ?_
          refine L.op1 rfl rfl (GSpec.plain rfl (spec_assign rfl (Get.cint rfl))) ?_
          refine L.nil ?_
          refine N.thenW ?_
          refine W.ret ?_
          refine N.ret () rfl (.cellA (k := 1) (Get.tmp (t := 2) rfl) rfl Try.isAgg24 Try.sizeOf24 rfl (.tmp (t := 3) (Get.tmp rfl) .nil)) (res2w (eqA ?_) (eqI ?_)) .nil (fun _ _ h => h)
          all_goals (have e : startD m = (⟨iota i, begun m, 0, 0⟩, 0) := by rw [show i = m.toNat by omega]; simp only [startD]; rw [if_neg (by omega), if_neg (by omega)]; try rfl)
          all_goals (rw [e]; try rfl)
          all_goals (simp only [begun]; rw [if_pos (by omega)]; rfl)
        · have ph4 := h4; try simp only [decide_eq_true_eq, decide_eq_false_iff_not, Bool.and_eq_true, Bool.or_eq_true, Bool.and_eq_false_iff, Bool.or_eq_false_iff, Bool.not_eq_true', Bool.not_eq_false', Bool.not_true, Bool.not_false, Int.not_lt, Int.not_le] at ph4
          refine W.skip ?_
          refine N.thenW ?_
          refine W.seq ?_
          refine W.region ?_
          refine L.op1 rfl rfl (GSpec.plain rfl (spec_loadW (k := 0) rfl Try.isAgg24 Try.sizeOf24 (Get.tmp rfl) rfl rfl)) ?_
          refine L.storeW (k := 1) rfl rfl rfl Try.sizeOf24 (Get.tmp rfl) (Get.tmp rfl) rfl rfl rfl ?_
          refine L.op1 rfl rfl (GSpec.plain rfl (spec_assign rfl (Get.cint rfl))) ?_
          refine L.nil ?_
          refine N.thenW ?_
          refine W.ret ?_
          refine N.ret () rfl (.cellA (k := 1) (Get.tmp (t := 2) rfl) rfl Try.isAgg24 Try.sizeOf24 rfl (.tmp (t := 3) (Get.tmp rfl) .nil)) (res2w (eqA ?_) (eqI ?_)) .nil (fun _ _ h => h)
          all_goals (have e : startD m = (⟨iota i, begun m, 0, 0⟩, 0) := by rw [show i = m.toNat by omega]; simp only [startD]; rw [if_neg (by omega), if_neg (by omega)]; try rfl)
          all_goals (rw [e]; try rfl)
          all_goals (simp only [begun]; rw [if_neg (by omega)]; rfl)

theorem same_ok (a b : Shrink) : CallT Try.prog 11 [Rp.agg (shrinkR a), Rp.agg (shrinkR b)] [] (.one (Rp.bool (sameB a b))) := by
  refine W.enter (fn := Try.f11) (n := 52) Try.func11 rfl Try.ntmps11 rfl (fun w₀ C₀ => ?_)
  simp only [argS]
  refine W.fact 0 rfl shrink_ok fun hs => ?_
  have hk := hs.kept
  refine W.fact 1 rfl shrink_ok fun hs2 => ?_
  have hk2 := hs2.kept
  refine W.seq ?_
  refine W.region ?_
  refine L.box rfl rfl (GSpec.plain rfl (spec_box rfl (GetC.agg (Get.tmp rfl)))) (fun r2 => ?_)
  refine L.box rfl rfl (GSpec.plain rfl (spec_box rfl (GetC.agg (Get.tmp rfl)))) (fun r3 => ?_)
  refine L.op1 rfl rfl (GSpec.plain rfl (spec_assign rfl Get.cbool)) ?_
  refine L.nil ?_
  refine N.thenW ?_
  refine W.keep (.cons (t := 2) rfl (.cons (t := 3) rfl (.cons (t := 4) rfl .nil))) .refl ?_
  refine W.seq ?_
  refine W.seq ?_
  refine W.region ?_
  refine L.op1 rfl rfl (GSpec.plain rfl (spec_fieldAddr (off' := 0) rfl Try.underlying24 rfl Try.sizeOf22 (Get.tmp rfl) rfl)) ?_
  refine L.op1 rfl rfl (GSpec.plain rfl (spec_load1 (k := 1) rfl Try.isAgg22 (Get.tmp rfl) rfl rfl)) ?_
  refine L.op1 rfl rfl (GSpec.plain rfl (spec_len rfl Try.underlying22 (Get.tmp rfl))) ?_
  refine L.op1 rfl rfl (GSpec.plain rfl (spec_fieldAddr (off' := 0) rfl Try.underlying24 rfl Try.sizeOf22 (Get.tmp rfl) rfl)) ?_
  refine L.op1 rfl rfl (GSpec.plain rfl (spec_load1 (k := 0) rfl Try.isAgg22 (Get.tmp rfl) rfl rfl)) ?_
  refine L.op1 rfl rfl (GSpec.plain rfl (spec_len rfl Try.underlying22 (Get.tmp rfl))) ?_
  refine L.op1 rfl rfl (GSpec.plain rfl (spec_neq rfl (Get.tmp rfl) (Get.tmp rfl))) ?_
  refine L.op1 rfl rfl (GSpec.plain rfl (spec_move rfl (Get.tmp rfl))) ?_
  refine L.op1 rfl rfl (GSpec.guard rfl rfl rfl fun hg => (spec_fieldAddr (off' := 1) rfl Try.underlying24 rfl Try.sizeOf3 (Get.tmp rfl) rfl)) ?_
  refine L.op1 rfl rfl (GSpec.guard rfl rfl rfl fun hg => (spec_load1 (k := 1) rfl Try.isAgg3 (Get.opt rfl hg) rfl rfl)) ?_
  refine L.op1 rfl rfl (GSpec.guard rfl rfl rfl fun hg => (spec_fieldAddr (off' := 1) rfl Try.underlying24 rfl Try.sizeOf3 (Get.tmp rfl) rfl)) ?_
  refine L.op1 rfl rfl (GSpec.guard rfl rfl rfl fun hg => (spec_load1 (k := 0) rfl Try.isAgg3 (Get.opt rfl hg) rfl rfl)) ?_
  refine L.op1 rfl rfl (GSpec.guard rfl rfl rfl fun hg => (spec_neq rfl (Get.opt rfl hg) (Get.opt rfl hg))) ?_
  refine L.op1 rfl rfl (GSpec.plain rfl (spec_or rfl (Get.tmp rfl) (fun hb => (Get.opt rfl hb)))) ?_
  refine L.op1 rfl rfl (GSpec.plain rfl (spec_move rfl (Get.tmp rfl))) ?_
  refine L.op1 rfl rfl (GSpec.guard rfl rfl rfl fun hg => (spec_fieldAddr (off' := 2) rfl Try.underlying24 rfl Try.sizeOf3 (Get.tmp rfl) rfl)) ?_
  refine L.op1 rfl rfl (GSpec.guard rfl rfl rfl fun hg => (spec_load1 (k := 1) rfl Try.isAgg3 (Get.opt rfl hg) rfl rfl)) ?_
  refine L.op1 rfl rfl (GSpec.guard rfl rfl rfl fun hg => (spec_fieldAddr (off' := 2) rfl Try.underlying24 rfl Try.sizeOf3 (Get.tmp rfl) rfl)) ?_
  refine L.op1 rfl rfl (GSpec.guard rfl rfl rfl fun hg => (spec_load1 (k := 0) rfl Try.isAgg3 (Get.opt rfl hg) rfl rfl)) ?_
  refine L.op1 rfl rfl (GSpec.guard rfl rfl rfl fun hg => (spec_neq rfl (Get.opt rfl hg) (Get.opt rfl hg))) ?_
  refine L.op1 rfl rfl (GSpec.plain rfl (spec_or rfl (Get.tmp rfl) (fun hb => (Get.opt rfl hb)))) ?_
  refine L.op1 rfl rfl (GSpec.plain rfl (spec_move rfl (Get.tmp rfl))) ?_
  refine L.op1 rfl rfl (GSpec.guard rfl rfl rfl fun hg => (spec_fieldAddr (off' := 3) rfl Try.underlying24 rfl Try.sizeOf3 (Get.tmp rfl) rfl)) ?_
  refine L.op1 rfl rfl (GSpec.guard rfl rfl rfl fun hg => (spec_load1 (k := 1) rfl Try.isAgg3 (Get.opt rfl hg) rfl rfl)) ?_
  refine L.op1 rfl rfl (GSpec.guard rfl rfl rfl fun hg => (spec_fieldAddr (off' := 3) rfl Try.underlying24 rfl Try.sizeOf3 (Get.tmp rfl) rfl)) ?_
  refine L.op1 rfl rfl (GSpec.guard rfl rfl rfl fun hg => (spec_load1 (k := 0) rfl Try.isAgg3 (Get.opt rfl hg) rfl rfl)) ?_
  refine L.op1 rfl rfl (GSpec.guard rfl rfl rfl fun hg => (spec_neq rfl (Get.opt rfl hg) (Get.opt rfl hg))) ?_
  refine L.op1 rfl rfl (GSpec.plain rfl (spec_or rfl (Get.tmp rfl) (fun hb => (Get.opt rfl hb)))) ?_
  refine L.nil ?_
  refine N.thenW ?_
  refine W.keep (.cons (t := 2) rfl (.cons (t := 3) rfl (.cons (t := 4) rfl (.cons (t := 33) rfl .nil)))) .refl ?_
  refine W.cond (Get.tmp rfl) (fun h1 => ?_) (fun h1 => ?_)
  · have ph1 := h1; try simp only [decide_eq_true_eq, decide_eq_false_iff_not, Bool.and_eq_true, Bool.or_eq_true, Bool.and_eq_false_iff, Bool.or_eq_false_iff, Bool.not_eq_true', Bool.not_eq_false', Bool.not_true, Bool.not_false, Int.not_lt, Int.not_le] at ph1
    refine W.seq ?_
    refine W.region ?_
    refine L.op1 rfl rfl (GSpec.plain rfl (spec_assign rfl Get.cbool)) ?_
    refine L.nil ?_
    refine N.thenW ?_
    refine W.ret ?_
    refine N.ret () rfl (.tmp (t := 4) (Get.tmp rfl) .nil) (res1 (eqB ?_)) .nil (fun _ _ h => h)
    simp only [sameB, eq_comm (a := false), decide_eq_false_iff_not]; intro e; subst e; simp at h1
  · simp only [Bool.or_eq_false_iff, Bool.not_eq_false', decide_eq_true_eq] at h1
    obtain ⟨⟨⟨q1, q2⟩, q3⟩, q4⟩ := h1
    have q1 : a.kept.length = b.kept.length := by omega
    refine W.skip ?_
    refine N.thenW ?_
    refine W.seq ?_
    refine W.seq ?_
    refine W.region ?_
    refine L.op1 rfl rfl (GSpec.plain rfl (spec_assign rfl (Get.cint rfl))) ?_
    refine L.nil ?_
    refine N.thenW ?_
    refine W.block ?_
    refine W.loop (σ := Nat) (fun z => [(2, Rp.ptr r2 0), (3, Rp.ptr r3 0), (4, Rp.bool false), (5, Rp.int .i64 (z : Nat))]) (fun z => [MF.box r3 24 (shrinkR b), MF.box r2 24 (shrinkR a)]) (fun z => z ≤ a.kept.length ∧ ∀ j : Nat, j < z → neAt a.kept b.kept j = false) (fun z => a.kept.length - z) 0 ⟨Nat.zero_le _, fun j hj => by omega⟩ (.cons (t := 2) rfl (.cons (t := 3) rfl (.cons (t := 4) rfl (.cons (t := 5) rfl .nil)))) .refl ?_
    intro i hI
    obtain ⟨hI1, hI2⟩ := hI
    try dsimp only
    refine W.seq ?_
    refine W.seq ?_
    refine W.region ?_
    refine L.op1 rfl rfl (GSpec.plain rfl (spec_move rfl (Get.tmp rfl))) ?_
    refine L.op1 rfl rfl (GSpec.plain rfl (spec_fieldAddr (off' := 0) rfl Try.underlying24 rfl Try.sizeOf22 (Get.tmp rfl) rfl)) ?_
    refine L.op1 rfl rfl (GSpec.plain rfl (spec_load1 (k := 1) rfl Try.isAgg22 (Get.tmp rfl) rfl rfl)) ?_
    refine L.op1 rfl rfl (GSpec.plain rfl (spec_len rfl Try.underlying22 (Get.tmp rfl))) ?_
    refine L.op1 rfl rfl (GSpec.plain rfl (spec_lss rfl (Get.tmp rfl) (Get.tmp rfl))) ?_
    refine L.nil ?_
    refine N.thenW ?_
    refine W.cond (Get.tmp rfl) (fun h2 => ?_) (fun h2 => ?_)
    · have ph2 := h2; try simp only [decide_eq_true_eq, decide_eq_false_iff_not, Bool.and_eq_true, Bool.or_eq_true, Bool.and_eq_false_iff, Bool.or_eq_false_iff, Bool.not_eq_true', Bool.not_eq_false', Bool.not_true, Bool.not_false, Int.not_lt, Int.not_le] at ph2
      refine W.skip ?_
      refine N.thenW ?_
      refine W.seq ?_
      refine W.block ?_
      refine W.seq ?_
      apply W.any 11 mixed (by kernel_rfl)
      · apply Head.one rfl rfl (GSpec.plain rfl (spec_fieldAddr (off' := 0) rfl Try.underlying24 rfl Try.sizeOf22 (Get.tmp rfl) rfl))
        apply Head.one rfl rfl (GSpec.plain rfl (spec_load1 (k := 1) rfl Try.isAgg22 (Get.tmp rfl) rfl rfl))
        apply Head.one rfl rfl (GSpec.plain rfl (spec_move rfl (Get.tmp rfl)))
        apply Head.one rfl rfl (GSpec.plain rfl (spec_indexAddrD (E := eI) rfl Try.underlying22 Try.sizeOf3 (fun _ => rfl) (Get.tmp rfl) (Get.tmp rfl) (by omega)))
        apply Head.one rfl rfl (GSpec.plain rfl (spec_loadP1 rfl Try.isAgg3 (Get.tmp rfl)))
        apply Head.one rfl rfl (GSpec.plain rfl (spec_fieldAddr (off' := 0) rfl Try.underlying24 rfl Try.sizeOf22 (Get.tmp rfl) rfl))
        apply Head.one rfl rfl (GSpec.plain rfl (spec_load1 (k := 0) rfl Try.isAgg22 (Get.tmp rfl) rfl rfl))
        apply Head.one rfl rfl (GSpec.plain rfl (spec_move rfl (Get.tmp rfl)))
        apply Head.one rfl rfl (GSpec.plain rfl (spec_indexAddrD (E := eI) rfl Try.underlying22 Try.sizeOf3 (fun _ => rfl) (Get.tmp rfl) (Get.tmp rfl) (by omega)))
        apply Head.one rfl rfl (GSpec.plain rfl (spec_loadP1 rfl Try.isAgg3 (Get.tmp rfl)))
        apply Head.one rfl rfl (GSpec.plain rfl (spec_neq rfl (Get.tmp rfl) (Get.tmp rfl)))
        exact Head.nil
      refine Fin.one ?_
      refine Fin.one ?_
      refine Fin.one ?_
      refine Fin.one ?_
      refine Fin.one ?_
      refine Fin.one ?_
      refine Fin.one ?_
      refine Fin.one ?_
      refine Fin.one ?_
      refine Fin.one ?_
      refine Fin.one ?_
      refine Fin.nil ?_
      refine L.nil ?_
      refine N.thenW ?_
      refine W.cond (Get.tmp rfl) (fun h3 => ?_) (fun h3 => ?_)
      · have ph3 := h3; try simp only [decide_eq_true_eq, decide_eq_false_iff_not, Bool.and_eq_true, Bool.or_eq_true, Bool.and_eq_false_iff, Bool.or_eq_false_iff, Bool.not_eq_true', Bool.not_eq_false', Bool.not_true, Bool.not_false, Int.not_lt, Int.not_le] at ph3
        refine W.seq ?_
        refine W.region ?_
        refine L.op1 rfl rfl (GSpec.plain rfl (spec_assign rfl Get.cbool)) ?_
        refine L.nil ?_
        refine N.thenW ?_
        refine W.ret ?_
        refine N.ret () rfl (.tmp (t := 4) (Get.tmp rfl) .nil) (res1 (eqB ?_)) .nil (fun _ _ h => h)
        have := ne_of_at h3
        simp only [sameB, eq_comm (a := false), decide_eq_false_iff_not]; intro e; exact this (by rw [e])
      · have ph3 := h3; try simp only [decide_eq_true_eq, decide_eq_false_iff_not, Bool.and_eq_true, Bool.or_eq_true, Bool.and_eq_false_iff, Bool.or_eq_false_iff, Bool.not_eq_true', Bool.not_eq_false', Bool.not_true, Bool.not_false, Int.not_lt, Int.not_le] at ph3
        refine W.skip ?_
        refine N.blockNormal ?_
        refine N.thenW ?_
        refine W.region ?_
        refine L.op1 rfl rfl (GSpec.plain rfl (spec_move rfl (Get.tmp rfl))) ?_
        first | refine L.op1 rfl rfl (GSpec.plain rfl (fit_i64 (by omega) (by omega) (spec_add rfl (Get.tmp rfl) (Get.cint rfl)))) ?_ | refine L.op1 rfl rfl (GSpec.plain rfl (spec_add rfl (Get.tmp rfl) (Get.cint rfl))) ?_
        refine L.op1 rfl rfl (GSpec.plain rfl (spec_assign rfl (Get.tmp rfl))) ?_
        refine L.nil ?_
        refine N.round (i + 1) ?hI2 ?hmu2 ?hs2 ?hp2
        case hs2 => exact (.cons (t := 2) rfl (.cons (t := 3) rfl (.cons (t := 4) rfl (.cons (t := 5) rfl .nil))))
        case hp2 => exact .refl
        case hI2 => exact ⟨by omega, upto hI2 h3⟩
        case hmu2 => omega
    · have ph2 := h2; try simp only [decide_eq_true_eq, decide_eq_false_iff_not, Bool.and_eq_true, Bool.or_eq_true, Bool.and_eq_false_iff, Bool.or_eq_false_iff, Bool.not_eq_true', Bool.not_eq_false', Bool.not_true, Bool.not_false, Int.not_lt, Int.not_le] at ph2
      refine W.exit ?_
      refine N.thenExit ?_
      refine N.thenExit ?_
      refine N.blockExit ?_
      refine N.thenW ?_
      refine W.keep (.cons (t := 4) rfl .nil) .refl ?_
      refine W.seq ?_
      refine W.region ?_
      refine L.op1 rfl rfl (GSpec.plain rfl (spec_assign rfl Get.cbool)) ?_
      refine L.nil ?_
      refine N.thenW ?_
      refine W.ret ?_
      refine N.ret () rfl (.tmp (t := 4) (Get.tmp rfl) .nil) (res1 (eqB ?_)) .nil (fun _ _ h => h)
      have := eq_of_at q1 fun j hj => hI2 j (by omega)
      simp only [sameB, eq_comm (a := true), decide_eq_true_eq]; cases a; cases b; simp_all

theorem rValid_ok (s : Shrink) : CallT Try.prog 18 [Rp.agg (shrinkR s)] [] (.one (Rp.bool (validB s))) := by
  refine W.enter (fn := Try.f18) (n := 93) Try.func18 rfl Try.ntmps18 rfl (fun w₀ C₀ => ?_)
  simp only [argS]
  refine W.fact 0 rfl shrink_ok fun hs => ?_
  have hk := hs.kept; have hp := hs.parts; have htr := hs.tries; have hte := hs.tests
  simp only [InR] at hp htr hte
  refine W.seq ?_
  refine W.region ?_
  refine L.box rfl rfl (GSpec.plain rfl (spec_box rfl (GetC.agg (Get.tmp rfl)))) (fun r1 => ?_)
  refine L.op1 rfl rfl (GSpec.plain rfl (spec_assign rfl Get.cbool)) ?_
  refine L.nil ?_
  refine N.thenW ?_
  refine W.seq ?_
  refine W.region ?_
  refine L.op1 rfl rfl (GSpec.plain rfl (spec_fieldAddr (off' := 0) rfl Try.underlying24 rfl Try.sizeOf22 (Get.tmp rfl) rfl)) ?_
  refine L.op1 rfl rfl (GSpec.plain rfl (spec_load1 (k := 0) rfl Try.isAgg22 (Get.tmp rfl) rfl rfl)) ?_
  refine L.op1 rfl rfl (GSpec.plain rfl (spec_len rfl Try.underlying22 (Get.tmp rfl))) ?_
  refine L.op1 rfl rfl (GSpec.plain rfl (spec_assign rfl (Get.tmp rfl))) ?_
  refine L.nil ?_
  refine N.thenW ?_
  refine W.seq ?_
  refine W.seq ?_
  refine W.region ?_
  refine L.op1 rfl rfl (GSpec.plain rfl (spec_move rfl (Get.tmp rfl))) ?_
  refine L.op1 rfl rfl (GSpec.plain rfl (spec_gtr rfl (Get.tmp rfl) (Get.cint rfl))) ?_
  refine L.op1 rfl rfl (GSpec.plain rfl (spec_move rfl (Get.tmp rfl))) ?_
  refine L.op1 rfl rfl (GSpec.guard rfl rfl rfl fun hg => (spec_fieldAddr (off' := 3) rfl Try.underlying24 rfl Try.sizeOf3 (Get.tmp rfl) rfl)) ?_
  refine L.op1 rfl rfl (GSpec.guard rfl rfl rfl fun hg => (spec_load1 (k := 0) rfl Try.isAgg3 (Get.opt rfl hg) rfl rfl)) ?_
  refine L.op1 rfl rfl (GSpec.guard rfl rfl rfl fun hg => (spec_lss rfl (Get.opt rfl hg) (Get.cint rfl))) ?_
  refine L.op1 rfl rfl (GSpec.plain rfl (spec_or rfl (Get.tmp rfl) (fun hb => (Get.opt rfl hb)))) ?_
  refine L.op1 rfl rfl (GSpec.plain rfl (spec_move rfl (Get.tmp rfl))) ?_
  refine L.op1 rfl rfl (GSpec.guard rfl rfl rfl fun hg => (spec_fieldAddr (off' := 3) rfl Try.underlying24 rfl Try.sizeOf3 (Get.tmp rfl) rfl)) ?_
  refine L.op1 rfl rfl (GSpec.guard rfl rfl rfl fun hg => (spec_load1 (k := 0) rfl Try.isAgg3 (Get.opt rfl hg) rfl rfl)) ?_
  refine L.op1 rfl rfl (GSpec.guard rfl rfl rfl fun hg => (spec_gtr rfl (Get.opt rfl hg) (Get.cint rfl))) ?_
  refine L.op1 rfl rfl (GSpec.plain rfl (spec_or rfl (Get.tmp rfl) (fun hb => (Get.opt rfl hb)))) ?_
  refine L.nil ?_
  refine N.thenW ?_
  refine W.keep (.cons (t := 1) rfl (.cons (t := 2) rfl (.cons (t := 3) rfl (.cons (t := 19) rfl .nil)))) .refl ?_
  refine W.cond (Get.tmp rfl) (fun h1 => ?_) (fun h1 => ?_)
  · have ph1 := h1; try simp only [decide_eq_true_eq, decide_eq_false_iff_not, Bool.and_eq_true, Bool.or_eq_true, Bool.and_eq_false_iff, Bool.or_eq_false_iff, Bool.not_eq_true', Bool.not_eq_false', Bool.not_true, Bool.not_false, Int.not_lt, Int.not_le] at ph1
    refine W.seq ?_
    refine W.region ?_
    refine L.op1 rfl rfl (GSpec.plain rfl (spec_assign rfl Get.cbool)) ?_
    refine L.nil ?_
    refine N.thenW ?_
    refine W.ret ?_
    refine N.ret () rfl (.tmp (t := 2) (Get.tmp rfl) .nil) (res1 (eqB ?_)) .nil (fun _ _ h => h)
    simp [validB, h1]
  · have ph1 := h1; try simp only [decide_eq_true_eq, decide_eq_false_iff_not, Bool.and_eq_true, Bool.or_eq_true, Bool.and_eq_false_iff, Bool.or_eq_false_iff, Bool.not_eq_true', Bool.not_eq_false', Bool.not_true, Bool.not_false, Int.not_lt, Int.not_le] at ph1
    refine W.skip ?_
    refine N.thenW ?_
    refine W.seq ?_
    refine W.seq ?_
    refine W.region ?_
    refine L.op1 rfl rfl (GSpec.plain rfl (spec_assign rfl (Get.cint rfl))) ?_
    refine L.nil ?_
    refine N.thenW ?_
    refine W.block ?_
    refine W.loop (σ := Nat) (fun z => [(1, Rp.ptr r1 0), (3, Rp.int .i64 s.kept.length), (4, Rp.int .i64 (z : Nat))]) (fun z => [MF.box r1 24 (shrinkR s)]) (fun z => z ≤ s.kept.length ∧ ∀ j : Nat, j < z → badAt s.kept j = false) (fun z => s.kept.length - z) 0 ⟨Nat.zero_le _, fun j hj => by omega⟩ (.cons (t := 1) rfl (.cons (t := 3) rfl (.cons (t := 4) rfl .nil))) .refl ?_
    intro i hI
    obtain ⟨hI1, hI2⟩ := hI
    try dsimp only
    refine W.seq ?_
    refine W.seq ?_
    refine W.region ?_
    refine L.op1 rfl rfl (GSpec.plain rfl (spec_move rfl (Get.tmp rfl))) ?_
    refine L.op1 rfl rfl (GSpec.plain rfl (spec_move rfl (Get.tmp rfl))) ?_
    refine L.op1 rfl rfl (GSpec.plain rfl (spec_lss rfl (Get.tmp rfl) (Get.tmp rfl))) ?_
    refine L.nil ?_
    refine N.thenW ?_
    refine W.cond (Get.tmp rfl) (fun h2 => ?_) (fun h2 => ?_)
    · have ph2 := h2; try simp only [decide_eq_true_eq, decide_eq_false_iff_not, Bool.and_eq_true, Bool.or_eq_true, Bool.and_eq_false_iff, Bool.or_eq_false_iff, Bool.not_eq_true', Bool.not_eq_false', Bool.not_true, Bool.not_false, Int.not_lt, Int.not_le] at ph2
      refine W.skip ?_
      refine N.thenW ?_
      refine W.seq ?_
      refine W.block ?_
      refine W.seq ?_
      apply W.any 24 mixed (by kernel_rfl)
      · apply Head.one rfl rfl (GSpec.plain rfl (spec_fieldAddr (off' := 0) rfl Try.underlying24 rfl Try.sizeOf22 (Get.tmp rfl) rfl))
        apply Head.one rfl rfl (GSpec.plain rfl (spec_load1 (k := 0) rfl Try.isAgg22 (Get.tmp rfl) rfl rfl))
        apply Head.one rfl rfl (GSpec.plain rfl (spec_move rfl (Get.tmp rfl)))
        apply Head.one rfl rfl (GSpec.plain rfl (spec_indexAddrD (E := eI) rfl Try.underlying22 Try.sizeOf3 (fun _ => rfl) (Get.tmp rfl) (Get.tmp rfl) (by omega)))
        apply Head.one rfl rfl (GSpec.plain rfl (spec_loadP1 rfl Try.isAgg3 (Get.tmp rfl)))
        apply Head.one rfl rfl (GSpec.plain rfl (spec_lss rfl (Get.tmp rfl) (Get.cint rfl)))
        apply Head.one rfl rfl (GSpec.plain rfl (spec_move rfl (Get.tmp rfl)))
        apply Head.one rfl rfl (GSpec.guard rfl rfl rfl fun hg => (spec_move rfl (Get.tmp rfl)))
        apply Head.one rfl rfl (GSpec.guard rfl rfl rfl fun hg => (spec_gtr rfl (Get.opt rfl hg) (Get.cint rfl)))
        apply Head.one rfl rfl (GSpec.guard rfl rfl rfl fun hg => (spec_move rfl (Get.opt rfl hg)))
        apply Head.one rfl rfl (GSpec.guardOpt rfl rfl rfl fun hg => (spec_fieldAddr (off' := 0) rfl Try.underlying24 rfl Try.sizeOf22 (Get.tmp rfl) rfl))
        apply Head.one rfl rfl (GSpec.guardOpt rfl rfl rfl fun hg => (spec_load1 (k := 0) rfl Try.isAgg22 (Get.opt rfl hg) rfl rfl))
        apply Head.one rfl rfl (GSpec.guardOpt rfl rfl rfl fun hg => (spec_move rfl (Get.tmp rfl)))
        apply Head.one rfl rfl (GSpec.guardOpt rfl rfl rfl fun hg => (spec_indexAddrD (E := eI) rfl Try.underlying22 Try.sizeOf3 (fun _ => rfl) (Get.opt rfl hg) (Get.opt rfl hg) (by (simp only [decide_eq_true_eq, decide_eq_false_iff_not, Bool.and_eq_true, Bool.or_eq_true, Bool.and_eq_false_iff, Bool.or_eq_false_iff, Bool.not_eq_true', Bool.not_eq_false', Bool.not_true, Bool.not_false, Int.not_lt, Int.not_le] at hg; omega))))
        apply Head.one rfl rfl (GSpec.guardOpt rfl rfl rfl fun hg => (spec_loadP1 rfl Try.isAgg3 (Get.opt rfl hg)))
        apply Head.one rfl rfl (GSpec.guardOpt rfl rfl rfl fun hg => (spec_fieldAddr (off' := 0) rfl Try.underlying24 rfl Try.sizeOf22 (Get.tmp rfl) rfl))
        apply Head.one rfl rfl (GSpec.guardOpt rfl rfl rfl fun hg => (spec_load1 (k := 0) rfl Try.isAgg22 (Get.opt rfl hg) rfl rfl))
        apply Head.one rfl rfl (GSpec.guardOpt rfl rfl rfl fun hg => (spec_move rfl (Get.tmp rfl)))
        first | apply Head.one rfl rfl (GSpec.guardOpt rfl rfl rfl fun hg => (fit_i64 (by (simp only [decide_eq_true_eq, decide_eq_false_iff_not, Bool.and_eq_true, Bool.or_eq_true, Bool.and_eq_false_iff, Bool.or_eq_false_iff, Bool.not_eq_true', Bool.not_eq_false', Bool.not_true, Bool.not_false, Int.not_lt, Int.not_le] at hg; omega)) (by (simp only [decide_eq_true_eq, decide_eq_false_iff_not, Bool.and_eq_true, Bool.or_eq_true, Bool.and_eq_false_iff, Bool.or_eq_false_iff, Bool.not_eq_true', Bool.not_eq_false', Bool.not_true, Bool.not_false, Int.not_lt, Int.not_le] at hg; omega)) (spec_sub rfl (Get.opt rfl hg) (Get.cint rfl)))) | apply Head.one rfl rfl (GSpec.guardOpt rfl rfl rfl fun hg => (spec_sub rfl (Get.opt rfl hg) (Get.cint rfl)))
        apply Head.one rfl rfl (GSpec.guardOpt rfl rfl rfl fun hg => (spec_indexAddrD (E := eI) rfl Try.underlying22 Try.sizeOf3 (fun _ => rfl) (Get.opt rfl hg) (Get.opt rfl hg) (by (simp only [decide_eq_true_eq, decide_eq_false_iff_not, Bool.and_eq_true, Bool.or_eq_true, Bool.and_eq_false_iff, Bool.or_eq_false_iff, Bool.not_eq_true', Bool.not_eq_false', Bool.not_true, Bool.not_false, Int.not_lt, Int.not_le] at hg; omega))))
        apply Head.one rfl rfl (GSpec.guardOpt rfl rfl rfl fun hg => (spec_loadP1 rfl Try.isAgg3 (Get.opt rfl hg)))
        apply Head.one rfl rfl (GSpec.guardOpt rfl rfl rfl fun hg => (spec_leq rfl (Get.opt rfl hg) (Get.opt rfl hg)))
        apply Head.one rfl rfl (GSpec.guard rfl rfl rfl fun hg => (spec_and rfl (Get.opt rfl hg) (fun hb => (Get.opt rfl ⟨hg, hb⟩))))
        apply Head.one rfl rfl (GSpec.plain rfl (spec_or rfl (Get.tmp rfl) (fun hb => (Get.opt rfl hb))))
        exact Head.nil
      refine Fin.one ?_
      refine Fin.one ?_
      refine Fin.one ?_
      refine Fin.one ?_
      refine Fin.one ?_
      refine Fin.one ?_
      refine Fin.one ?_
      refine Fin.one ?_
      refine Fin.one ?_
      refine Fin.one ?_
      refine Fin.one ?_
      refine Fin.one ?_
      refine Fin.one ?_
      refine Fin.one ?_
      refine Fin.one ?_
      refine Fin.one ?_
      refine Fin.one ?_
      refine Fin.one ?_
      refine Fin.one ?_
      refine Fin.one ?_
      refine Fin.one ?_
      refine Fin.one ?_
      refine Fin.one ?_
      refine Fin.one ?_
      refine Fin.nil ?_
      refine L.nil ?_
      refine N.thenW ?_
      refine W.cond (Get.tmp rfl) (fun h3 => ?_) (fun h3 => ?_)
      · have ph3 := h3; try simp only [decide_eq_true_eq, decide_eq_false_iff_not, Bool.and_eq_true, Bool.or_eq_true, Bool.and_eq_false_iff, Bool.or_eq_false_iff, Bool.not_eq_true', Bool.not_eq_false', Bool.not_true, Bool.not_false, Int.not_lt, Int.not_le] at ph3
        refine W.seq ?_
        refine W.region ?_
        refine L.op1 rfl rfl (GSpec.plain rfl (spec_assign rfl Get.cbool)) ?_
        refine L.nil ?_
        refine N.thenW ?_
        refine W.ret ?_
        refine N.ret () rfl (.tmp (t := 2) (Get.tmp rfl) .nil) (res1 (eqB ?_)) .nil (fun _ _ h => h)
        simp only [validB, h1, ascB_false (i := i) (by omega) h3]; rfl
      · have ph3 := h3; try simp only [decide_eq_true_eq, decide_eq_false_iff_not, Bool.and_eq_true, Bool.or_eq_true, Bool.and_eq_false_iff, Bool.or_eq_false_iff, Bool.not_eq_true', Bool.not_eq_false', Bool.not_true, Bool.not_false, Int.not_lt, Int.not_le] at ph3
        refine W.skip ?_
        refine N.blockNormal ?_
        refine N.thenW ?_
        refine W.region ?_
        refine L.op1 rfl rfl (GSpec.plain rfl (spec_move rfl (Get.tmp rfl))) ?_
        first | refine L.op1 rfl rfl (GSpec.plain rfl (fit_i64 (by omega) (by omega) (spec_add rfl (Get.tmp rfl) (Get.cint rfl)))) ?_ | refine L.op1 rfl rfl (GSpec.plain rfl (spec_add rfl (Get.tmp rfl) (Get.cint rfl))) ?_
        refine L.op1 rfl rfl (GSpec.plain rfl (spec_assign rfl (Get.tmp rfl))) ?_
        refine L.nil ?_
        refine N.round (i + 1) ?hI3 ?hmu3 ?hs3 ?hp3
        case hs3 => exact (.cons (t := 1) rfl (.cons (t := 3) rfl (.cons (t := 4) rfl .nil)))
        case hp3 => exact .refl
        case hI3 => exact ⟨by omega, upto hI2 h3⟩
        case hmu3 => omega
    · have ph2 := h2; try simp only [decide_eq_true_eq, decide_eq_false_iff_not, Bool.and_eq_true, Bool.or_eq_true, Bool.and_eq_false_iff, Bool.or_eq_false_iff, Bool.not_eq_true', Bool.not_eq_false', Bool.not_true, Bool.not_false, Int.not_lt, Int.not_le] at ph2
      refine W.exit ?_
      refine N.thenExit ?_
      refine N.thenExit ?_
      refine N.blockExit ?_
      refine N.thenW ?_
      refine W.seq ?_
      refine W.seq ?_
      refine W.region ?_
      refine L.op1 rfl rfl (GSpec.plain rfl (spec_move rfl (Get.tmp rfl))) ?_
      refine L.op1 rfl rfl (GSpec.plain rfl (spec_lss rfl (Get.tmp rfl) (Get.cint rfl))) ?_
      refine L.nil ?_
      refine N.thenW ?_
      refine W.cond (Get.tmp rfl) (fun h4 => ?_) (fun h4 => ?_)
      · have ph4 := h4; try simp only [decide_eq_true_eq, decide_eq_false_iff_not, Bool.and_eq_true, Bool.or_eq_true, Bool.and_eq_false_iff, Bool.or_eq_false_iff, Bool.not_eq_true', Bool.not_eq_false', Bool.not_true, Bool.not_false, Int.not_lt, Int.not_le] at ph4
        refine W.seq ?_
        refine W.region ?_
        refine L.op1 rfl rfl (GSpec.plain rfl (spec_fieldAddr (off' := 1) rfl Try.underlying24 rfl Try.sizeOf3 (Get.tmp rfl) rfl)) ?_
        refine L.op1 rfl rfl (GSpec.plain rfl (spec_load1 (k := 0) rfl Try.isAgg3 (Get.tmp rfl) rfl rfl)) ?_
        refine L.op1 rfl rfl (GSpec.plain rfl (spec_eql rfl (Get.tmp rfl) (Get.cint rfl))) ?_
        refine L.op1 rfl rfl (GSpec.plain rfl (spec_move rfl (Get.tmp rfl))) ?_
        refine L.op1 rfl rfl (GSpec.guard rfl rfl rfl fun hg => (spec_fieldAddr (off' := 2) rfl Try.underlying24 rfl Try.sizeOf3 (Get.tmp rfl) rfl)) ?_
        refine L.op1 rfl rfl (GSpec.guard rfl rfl rfl fun hg => (spec_load1 (k := 0) rfl Try.isAgg3 (Get.opt rfl hg) rfl rfl)) ?_
        refine L.op1 rfl rfl (GSpec.guard rfl rfl rfl fun hg => (spec_eql rfl (Get.opt rfl hg) (Get.cint rfl))) ?_
        refine L.op1 rfl rfl (GSpec.plain rfl (spec_and rfl (Get.tmp rfl) (fun hb => (Get.opt rfl hb)))) ?_
        refine L.op1 rfl rfl (GSpec.plain rfl (spec_assign rfl (Get.tmp rfl))) ?_
        refine L.nil ?_
        refine N.thenW ?_
        refine W.keep (.cons (t := 1) rfl (.cons (t := 2) rfl (.cons (t := 3) rfl .nil))) .refl ?_
        refine W.ret ?_
        refine N.ret () rfl (.tmp (t := 2) (Get.tmp rfl) .nil) (res1 (eqB ?_)) .nil (fun _ _ h => h)
        have hi : i = s.kept.length := by omega
        have ha := ascB_true (l := s.kept) fun j hj => hI2 j (by omega)
        simp only [validB, h1, ha, h4]; rfl
      · have ph4 := h4; try simp only [decide_eq_true_eq, decide_eq_false_iff_not, Bool.and_eq_true, Bool.or_eq_true, Bool.and_eq_false_iff, Bool.or_eq_false_iff, Bool.not_eq_true', Bool.not_eq_false', Bool.not_true, Bool.not_false, Int.not_lt, Int.not_le] at ph4
        refine W.skip ?_
        refine N.thenW ?_
        refine W.keep (.cons (t := 1) rfl (.cons (t := 3) rfl .nil)) .refl ?_
        refine W.seq ?_
        refine W.seq ?_
        refine W.region ?_
        refine L.op1 rfl rfl (GSpec.plain rfl (spec_fieldAddr (off' := 1) rfl Try.underlying24 rfl Try.sizeOf3 (Get.tmp rfl) rfl)) ?_
        refine L.op1 rfl rfl (GSpec.plain rfl (spec_load1 (k := 0) rfl Try.isAgg3 (Get.tmp rfl) rfl rfl)) ?_
        refine L.op1 rfl rfl (GSpec.plain rfl (spec_lss rfl (Get.tmp rfl) (Get.cint rfl))) ?_
        refine L.op1 rfl rfl (GSpec.plain rfl (spec_move rfl (Get.tmp rfl))) ?_
        refine L.op1 rfl rfl (GSpec.guard rfl rfl rfl fun hg => (spec_fieldAddr (off' := 1) rfl Try.underlying24 rfl Try.sizeOf3 (Get.tmp rfl) rfl)) ?_
        refine L.op1 rfl rfl (GSpec.guard rfl rfl rfl fun hg => (spec_load1 (k := 0) rfl Try.isAgg3 (Get.opt rfl hg) rfl rfl)) ?_
        refine L.op1 rfl rfl (GSpec.guard rfl rfl rfl fun hg => (spec_move rfl (Get.tmp rfl))) ?_
        refine L.op1 rfl rfl (GSpec.guard rfl rfl rfl fun hg => (spec_gtr rfl (Get.opt rfl hg) (Get.opt rfl hg))) ?_
        refine L.op1 rfl rfl (GSpec.plain rfl (spec_or rfl (Get.tmp rfl) (fun hb => (Get.opt rfl hb)))) ?_
        refine L.op1 rfl rfl (GSpec.plain rfl (spec_move rfl (Get.tmp rfl))) ?_
        refine L.op1 rfl rfl (GSpec.guard rfl rfl rfl fun hg => (spec_fieldAddr (off' := 2) rfl Try.underlying24 rfl Try.sizeOf3 (Get.tmp rfl) rfl)) ?_
        refine L.op1 rfl rfl (GSpec.guard rfl rfl rfl fun hg => (spec_load1 (k := 0) rfl Try.isAgg3 (Get.opt rfl hg) rfl rfl)) ?_
        refine L.op1 rfl rfl (GSpec.guard rfl rfl rfl fun hg => (spec_lss rfl (Get.opt rfl hg) (Get.cint rfl))) ?_
        refine L.op1 rfl rfl (GSpec.plain rfl (spec_or rfl (Get.tmp rfl) (fun hb => (Get.opt rfl hb)))) ?_
        refine L.op1 rfl rfl (GSpec.plain rfl (spec_move rfl (Get.tmp rfl))) ?_
        refine L.op1 rfl rfl (GSpec.guard rfl rfl rfl fun hg => (spec_fieldAddr (off' := 2) rfl Try.underlying24 rfl Try.sizeOf3 (Get.tmp rfl) rfl)) ?_
        refine L.op1 rfl rfl (GSpec.guard rfl rfl rfl fun hg => (spec_load1 (k := 0) rfl Try.isAgg3 (Get.opt rfl hg) rfl rfl)) ?_
        refine L.op1 rfl rfl (GSpec.guard rfl rfl rfl fun hg => (spec_fieldAddr (off' := 1) rfl Try.underlying24 rfl Try.sizeOf3 (Get.tmp rfl) rfl)) ?_
        refine L.op1 rfl rfl (GSpec.guard rfl rfl rfl fun hg => (spec_load1 (k := 0) rfl Try.isAgg3 (Get.opt rfl hg) rfl rfl)) ?_
        first | refine L.op1 rfl rfl (GSpec.guard rfl rfl rfl fun hg => (fit_i64 (by (simp at hg; omega)) (by (simp at hg; omega)) (spec_mul rfl (Get.cint rfl) (Get.opt rfl hg)))) ?_ | refine L.op1 rfl rfl (GSpec.guard rfl rfl rfl fun hg => (spec_mul rfl (Get.cint rfl) (Get.opt rfl hg))) ?_
        refine L.op1 rfl rfl (GSpec.guard rfl rfl rfl fun hg => (spec_gtr rfl (Get.opt rfl hg) (Get.opt rfl hg))) ?_
        refine L.op1 rfl rfl (GSpec.plain rfl (spec_or rfl (Get.tmp rfl) (fun hb => (Get.opt rfl hb)))) ?_
        refine L.nil ?_
        refine N.thenW ?_
        refine W.keep (.cons (t := 1) rfl (.cons (t := 3) rfl (.cons (t := 80) rfl .nil))) .refl ?_
        refine W.cond (Get.tmp rfl) (fun h5 => ?_) (fun h5 => ?_)
        · have ph5 := h5; try simp only [decide_eq_true_eq, decide_eq_false_iff_not, Bool.and_eq_true, Bool.or_eq_true, Bool.and_eq_false_iff, Bool.or_eq_false_iff, Bool.not_eq_true', Bool.not_eq_false', Bool.not_true, Bool.not_false, Int.not_lt, Int.not_le] at ph5
          refine W.seq ?_
          refine W.region ?_
          refine L.op1 rfl rfl (GSpec.plain rfl (spec_assign rfl Get.cbool)) ?_
          refine L.nil ?_
          refine N.thenW ?_
          refine W.ret ?_
          refine N.ret () rfl (.tmp (t := 2) (Get.tmp rfl) .nil) (res1 (eqB ?_)) .nil (fun _ _ h => h)
          have hi : i = s.kept.length := by omega
          have ha := ascB_true (l := s.kept) fun j hj => hI2 j (by omega)
          simp only [validB, h1, ha, h4]
          simp only [decide_eq_false_iff_not, Int.not_lt, Bool.or_eq_true, decide_eq_true_eq] at h5 h4
          rw [eq_comm]; simp; omega
        · have ph5 := h5; try simp only [decide_eq_true_eq, decide_eq_false_iff_not, Bool.and_eq_true, Bool.or_eq_true, Bool.and_eq_false_iff, Bool.or_eq_false_iff, Bool.not_eq_true', Bool.not_eq_false', Bool.not_true, Bool.not_false, Int.not_lt, Int.not_le] at ph5
          refine W.skip ?_
          refine N.thenW ?_
          refine W.seq ?_
          refine W.region ?_
          refine L.op1 rfl rfl (GSpec.plain rfl (spec_fieldAddr (off' := 2) rfl Try.underlying24 rfl Try.sizeOf3 (Get.tmp rfl) rfl)) ?_
          refine L.op1 rfl rfl (GSpec.plain rfl (spec_load1 (k := 0) rfl Try.isAgg3 (Get.tmp rfl) rfl rfl)) ?_
          refine L.op1 rfl rfl (GSpec.plain rfl (spec_fieldAddr (off' := 1) rfl Try.underlying24 rfl Try.sizeOf3 (Get.tmp rfl) rfl)) ?_
          refine L.op1 rfl rfl (GSpec.plain rfl (spec_load1 (k := 0) rfl Try.isAgg3 (Get.tmp rfl) rfl rfl)) ?_
          first | refine L.op1 rfl rfl (GSpec.plain rfl (fit_i64 (by (simp at h5; omega)) (by (simp at h5; omega)) (spec_mul rfl (Get.cint rfl) (Get.tmp rfl)))) ?_ | refine L.op1 rfl rfl (GSpec.plain rfl (spec_mul rfl (Get.cint rfl) (Get.tmp rfl))) ?_
          refine L.op1 rfl rfl (GSpec.plain rfl (spec_lss rfl (Get.tmp rfl) (Get.tmp rfl))) ?_
          refine L.op1 rfl rfl (GSpec.plain rfl (spec_move rfl (Get.tmp rfl))) ?_
          refine L.op1 rfl rfl (GSpec.guard rfl rfl rfl fun hg => (spec_fieldAddr (off' := 1) rfl Try.underlying24 rfl Try.sizeOf3 (Get.tmp rfl) rfl)) ?_
          refine L.op1 rfl rfl (GSpec.guard rfl rfl rfl fun hg => (spec_load1 (k := 0) rfl Try.isAgg3 (Get.opt rfl hg) rfl rfl)) ?_
          refine L.op1 rfl rfl (GSpec.guard rfl rfl rfl fun hg => (spec_move rfl (Get.tmp rfl))) ?_
          refine L.op1 rfl rfl (GSpec.guard rfl rfl rfl fun hg => (spec_eql rfl (Get.opt rfl hg) (Get.opt rfl hg))) ?_
          refine L.op1 rfl rfl (GSpec.plain rfl (spec_or rfl (Get.tmp rfl) (fun hb => (Get.opt rfl hb)))) ?_
          refine L.op1 rfl rfl (GSpec.plain rfl (spec_assign rfl (Get.tmp rfl))) ?_
          refine L.nil ?_
          refine N.thenW ?_
          refine W.keep (.cons (t := 2) rfl .nil) .refl ?_
          refine W.ret ?_
          refine N.ret () rfl (.tmp (t := 2) (Get.tmp rfl) .nil) (res1 (eqB ?_)) .nil (fun _ _ h => h)
          have hi : i = s.kept.length := by omega
          have ha := ascB_true (l := s.kept) fun j hj => hI2 j (by omega)
          simp only [validB, h1, ha, h4]; rw [Bool.eq_iff_iff]; simp; omega

end Go.Proofs.Ytlfnljpnoololaa
