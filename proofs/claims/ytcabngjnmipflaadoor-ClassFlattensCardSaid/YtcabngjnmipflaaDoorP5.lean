/- Lemmas for the claim, part 5: rules for walks, contracts of functions, the data they compute. No conditions. -/
import Derived.Test.YtcabngjnmipflaaDoorP4
import Derived.Test.YtcabngjnmipflaaDoorP3
import Derived.Test.YtcabngjnmipflaaDoorP2
import Derived.RangeFuncNested
import Derived.RangeFuncLeaves
set_option linter.unusedSimpArgs false
set_option maxRecDepth 8000
set_option linter.unusedVariables false
namespace Go.Proofs.YtcabngjnmipflaaDoor
open Go.Sim
theorem sameX_step (a b : Ex) (ih : ∀ x ∈ a.args, ∀ y, CallT Tryd.prog 80 [Rp.agg (eX x), Rp.agg (eX y)] [] (.one (Rp.bool (decide (x = y))))) : CallT Tryd.prog 80 [Rp.agg (eX a), Rp.agg (eX b)] [] (.one (Rp.bool (decide (a = b)))) := by
  refine W.enter (fn := Tryd.f80) (n := 53) Tryd.func80 rfl Tryd.ntmps80 rfl (fun w₀ C₀ => ?_)
  simp only [argS]
  refine W.fact 0 rfl ex_fact fun hal => ?_
  refine W.seq ?_
  refine W.region ?_
  refine L.box rfl rfl (GSpec.plain rfl (spec_box rfl (GetC.agg (Get.tmp rfl)))) (fun r2 => ?_)
  refine L.box rfl rfl (GSpec.plain rfl (spec_box rfl (GetC.agg (Get.tmp rfl)))) (fun r3 => ?_)
  refine L.op1 rfl rfl (GSpec.plain rfl (spec_assign rfl Get.cbool)) ?_
  refine L.nil ?_
  refine N.thenW ?_
  refine W.seq ?_
  refine W.seq ?_
  refine W.region ?_
  refine L.op1 rfl rfl (GSpec.plain rfl (spec_fieldAddr (f := 0) (off' := 0) rfl Tryd.underlying83 rfl Tryd.sizeOf3 (Get.tmp rfl) rfl)) ?_
  refine L.op1 rfl rfl (GSpec.plain rfl (spec_load1 (k := 1) rfl Tryd.isAgg3 (Get.tmp rfl) rfl rfl)) ?_
  refine L.op1 rfl rfl (GSpec.plain rfl (spec_fieldAddr (f := 0) (off' := 0) rfl Tryd.underlying83 rfl Tryd.sizeOf3 (Get.tmp rfl) rfl)) ?_
  refine L.op1 rfl rfl (GSpec.plain rfl (spec_load1 (k := 0) rfl Tryd.isAgg3 (Get.tmp rfl) rfl rfl)) ?_
  refine L.op1 rfl rfl (GSpec.plain rfl (spec_neq rfl (Get.tmp rfl) (Get.tmp rfl))) ?_
  refine L.op1 rfl rfl (GSpec.plain rfl (spec_move rfl (Get.tmp rfl))) ?_
  refine L.op1 rfl rfl (GSpec.guard rfl rfl rfl fun hg => (spec_fieldAddr (f := 1) (off' := 1) rfl Tryd.underlying83 rfl Tryd.sizeOf3 (Get.tmp rfl) rfl)) ?_
  refine L.op1 rfl rfl (GSpec.guard rfl rfl rfl fun hg => (spec_load1 (k := 1) rfl Tryd.isAgg3 (Get.opt rfl hg) rfl rfl)) ?_
  refine L.op1 rfl rfl (GSpec.guard rfl rfl rfl fun hg => (spec_fieldAddr (f := 1) (off' := 1) rfl Tryd.underlying83 rfl Tryd.sizeOf3 (Get.tmp rfl) rfl)) ?_
  refine L.op1 rfl rfl (GSpec.guard rfl rfl rfl fun hg => (spec_load1 (k := 0) rfl Tryd.isAgg3 (Get.opt rfl hg) rfl rfl)) ?_
  refine L.op1 rfl rfl (GSpec.guard rfl rfl rfl fun hg => (spec_neq rfl (Get.opt rfl hg) (Get.opt rfl hg))) ?_
  refine L.op1 rfl rfl (GSpec.plain rfl (spec_or rfl (Get.tmp rfl) (fun hb => (Get.opt rfl hb)))) ?_
  refine L.op1 rfl rfl (GSpec.plain rfl (spec_move rfl (Get.tmp rfl))) ?_
  refine L.op1 rfl rfl (GSpec.guard rfl rfl rfl fun hg => (spec_fieldAddr (f := 2) (off' := 2) rfl Tryd.underlying83 rfl Tryd.sizeOf9 (Get.tmp rfl) rfl)) ?_
  refine L.op1 rfl rfl (GSpec.guard rfl rfl rfl fun hg => (spec_load1 (k := 1) rfl Tryd.isAgg9 (Get.opt rfl hg) rfl rfl)) ?_
  refine L.op1 rfl rfl (GSpec.guard rfl rfl rfl fun hg => (spec_fieldAddr (f := 2) (off' := 2) rfl Tryd.underlying83 rfl Tryd.sizeOf9 (Get.tmp rfl) rfl)) ?_
  refine L.op1 rfl rfl (GSpec.guard rfl rfl rfl fun hg => (spec_load1 (k := 0) rfl Tryd.isAgg9 (Get.opt rfl hg) rfl rfl)) ?_
  refine L.op1 rfl rfl (GSpec.guard rfl rfl rfl fun hg => (spec_neqS rfl (Get.opt rfl hg) (Get.opt rfl hg))) ?_
  refine L.op1 rfl rfl (GSpec.plain rfl (spec_or rfl (Get.tmp rfl) (fun hb => (Get.opt rfl hb)))) ?_
  refine L.op1 rfl rfl (GSpec.plain rfl (spec_move rfl (Get.tmp rfl))) ?_
  refine L.op1 rfl rfl (GSpec.guard rfl rfl rfl fun hg => (spec_fieldAddr (f := 3) (off' := 3) rfl Tryd.underlying83 rfl Tryd.sizeOf81 (Get.tmp rfl) rfl)) ?_
  refine L.op1 rfl rfl (GSpec.guard rfl rfl rfl fun hg => (Spec.eq (exs_eq _) (spec_load1 (k := 1) rfl Tryd.isAgg81 (Get.opt rfl hg) rfl rfl))) ?_
  refine L.op1 rfl rfl (GSpec.guard rfl rfl rfl fun hg => (spec_len rfl Tryd.underlying81 (Get.opt rfl hg))) ?_
  refine L.op1 rfl rfl (GSpec.guard rfl rfl rfl fun hg => (spec_fieldAddr (f := 3) (off' := 3) rfl Tryd.underlying83 rfl Tryd.sizeOf81 (Get.tmp rfl) rfl)) ?_
  refine L.op1 rfl rfl (GSpec.guard rfl rfl rfl fun hg => (Spec.eq (exs_eq _) (spec_load1 (k := 0) rfl Tryd.isAgg81 (Get.opt rfl hg) rfl rfl))) ?_
  refine L.op1 rfl rfl (GSpec.guard rfl rfl rfl fun hg => (spec_len rfl Tryd.underlying81 (Get.opt rfl hg))) ?_
  refine L.op1 rfl rfl (GSpec.guard rfl rfl rfl fun hg => (spec_neq rfl (Get.opt rfl hg) (Get.opt rfl hg))) ?_
  refine L.op1 rfl rfl (GSpec.plain rfl (spec_or rfl (Get.tmp rfl) (fun hb => (Get.opt rfl hb)))) ?_
  refine L.nil ?_
  refine N.thenW ?_
  refine W.keep (.cons (t := 2) rfl (.cons (t := 3) rfl (.cons (t := 4) rfl (.cons (t := 33) rfl .nil)))) .refl ?_
  refine W.cond (Get.tmp rfl) (fun h1 => ?_) (fun h1 => ?_)
  · have ph1 := h1; try simp only [decide_eq_true_eq, decide_eq_false_iff_not, Bool.and_eq_true, Bool.or_eq_true, Bool.and_eq_false_iff, Bool.or_eq_false_iff, Bool.not_eq_true', Bool.not_eq_false', Bool.not_true, Bool.not_false, Int.not_lt, Int.not_le] at ph1
    refine W.seq ?_
    refine W.region ?_
    refine L.op1 rfl rfl (GSpec.plain rfl (spec_assign rfl Get.cbool)) ?_
    refine L.nil ?_
    refine N.thenW ?_
    refine W.ret ?_
    refine N.ret () rfl (.tmp (t := 4) (Get.tmp rfl) .nil) (res1 (eqB ?_)) .nil (fun _ _ h => h)
    symm; rw [decide_eq_false_iff_not]; intro e; subst e; simp at h1
  · have ph1 := h1; try simp only [decide_eq_true_eq, decide_eq_false_iff_not, Bool.and_eq_true, Bool.or_eq_true, Bool.and_eq_false_iff, Bool.or_eq_false_iff, Bool.not_eq_true', Bool.not_eq_false', Bool.not_true, Bool.not_false, Int.not_lt, Int.not_le] at ph1
    refine W.skip ?_
    refine N.thenW ?_
    refine W.seq ?_
    refine W.seq ?_
    refine W.region ?_
    refine L.op1 rfl rfl (GSpec.plain rfl (spec_assign rfl (Get.cint rfl))) ?_
    refine L.nil ?_
    refine N.thenW ?_
    refine W.block ?_
    -- assigned in the loop, not kept: [4]
    refine W.loopK (σ := Nat) (.cons (t := 2) rfl (.cons (t := 3) rfl .nil)) (fun z => [(5, Rp.int .i64 (z : Nat))]) (fun z => []) (fun z => z ≤ a.args.length ∧ ∀ j : Nat, j < z → a.args.getD j default = b.args.getD j default) (fun z => a.args.length - z) 0 ⟨Nat.zero_le _, fun j hj => by omega⟩ (.cons (t := 5) rfl .nil) (.cons 0 rfl (.cons 0 rfl .nil)) ?_
    intro i hI S' M' hS hM
    obtain ⟨hI1, hI2⟩ := hI
    try dsimp only at hS hM
    simp only [List.cons_append, List.nil_append] at hS hM
    subst hS hM
    try dsimp only
    have hle : a.args.length = b.args.length := by have := h1; simp only [decide_eq_true_eq, decide_eq_false_iff_not, Bool.and_eq_true, Bool.or_eq_true, Bool.and_eq_false_iff, Bool.or_eq_false_iff, Bool.not_eq_true', Bool.not_eq_false', Bool.not_true, Bool.not_false, Int.not_lt, Int.not_le] at this; omega
    refine W.seq ?_
    refine W.seq ?_
    refine W.region ?_
    refine L.op1 rfl rfl (GSpec.plain rfl (spec_move rfl (Get.tmp rfl))) ?_
    refine L.op1 rfl rfl (GSpec.plain rfl (spec_fieldAddr (f := 3) (off' := 3) rfl Tryd.underlying83 rfl Tryd.sizeOf81 (Get.tmp rfl) rfl)) ?_
    refine L.op1 rfl rfl (GSpec.plain rfl (Spec.eq (exs_eq _) (spec_load1 (k := 1) rfl Tryd.isAgg81 (Get.tmp rfl) rfl rfl))) ?_
    refine L.op1 rfl rfl (GSpec.plain rfl (spec_len rfl Tryd.underlying81 (Get.tmp rfl))) ?_
    refine L.op1 rfl rfl (GSpec.plain rfl (spec_lss rfl (Get.tmp rfl) (Get.tmp rfl))) ?_
    refine L.nil ?_
    refine N.thenW ?_
    refine W.cond (Get.tmp rfl) (fun h2 => ?_) (fun h2 => ?_)
    · have ph2 := h2; try simp only [decide_eq_true_eq, decide_eq_false_iff_not, Bool.and_eq_true, Bool.or_eq_true, Bool.and_eq_false_iff, Bool.or_eq_false_iff, Bool.not_eq_true', Bool.not_eq_false', Bool.not_true, Bool.not_false, Int.not_lt, Int.not_le] at ph2
      refine W.skip ?_
      refine N.thenW ?_
      refine W.seq ?_
      refine W.block ?_
      refine W.seq ?_
      apply W.any 12 mixed (by kernel_rfl)
      · apply Head.one rfl rfl (GSpec.plain rfl (spec_fieldAddr (f := 3) (off' := 3) rfl Tryd.underlying83 rfl Tryd.sizeOf81 (Get.tmp rfl) rfl))
        apply Head.one rfl rfl (GSpec.plain rfl (Spec.eq (exs_eq _) (spec_load1 (k := 1) rfl Tryd.isAgg81 (Get.tmp rfl) rfl rfl)))
        apply Head.one rfl rfl (GSpec.plain rfl (spec_move rfl (Get.tmp rfl)))
        apply Head.one rfl rfl (GSpec.plain rfl (spec_indexAddrD (E := eX) rfl Tryd.underlying81 Tryd.sizeOf83 (fun _ => rfl) (Get.tmp rfl) (Get.tmp rfl) (by omega)))
        apply Head.one rfl rfl (GSpec.plain rfl (spec_loadPA rfl Tryd.isAgg83 Tryd.sizeOf83 (Get.tmp rfl) rfl))
        apply Head.one rfl rfl (GSpec.plain rfl (spec_fieldAddr (f := 3) (off' := 3) rfl Tryd.underlying83 rfl Tryd.sizeOf81 (Get.tmp rfl) rfl))
        apply Head.one rfl rfl (GSpec.plain rfl (Spec.eq (exs_eq _) (spec_load1 (k := 0) rfl Tryd.isAgg81 (Get.tmp rfl) rfl rfl)))
        apply Head.one rfl rfl (GSpec.plain rfl (spec_move rfl (Get.tmp rfl)))
        apply Head.one rfl rfl (GSpec.plain rfl (spec_indexAddrD (E := eX) rfl Tryd.underlying81 Tryd.sizeOf83 (fun _ => rfl) (Get.tmp rfl) (Get.tmp rfl) (by omega)))
        apply Head.one rfl rfl (GSpec.plain rfl (spec_loadPA rfl Tryd.isAgg83 Tryd.sizeOf83 (Get.tmp rfl) rfl))
        apply Head.one rfl rfl (GSpec.plain rfl (spec_call rfl Tryd.call80 (ih _ (getD_mem' (by omega)) _) (.cons (Get.tmp rfl) (.cons (Get.tmp rfl) .nil))))
        apply Head.one rfl rfl (GSpec.plain rfl (spec_not rfl (Get.tmp rfl)))
        exact Head.nil
      refine Fin.one ?_
      refine Fin.one ?_
      refine Fin.one ?_
      refine Fin.one ?_
      refine Fin.one ?_
      refine Fin.one ?_
      refine Fin.one ?_
      refine Fin.one ?_
      refine Fin.one ?_
      refine Fin.one ?_
      refine Fin.one ?_
      refine Fin.one ?_
      refine Fin.nil ?_
      refine L.nil ?_
      refine N.thenW ?_
      refine W.cond (Get.tmp rfl) (fun h3 => ?_) (fun h3 => ?_)
      · have ph3 := h3; try simp only [decide_eq_true_eq, decide_eq_false_iff_not, Bool.and_eq_true, Bool.or_eq_true, Bool.and_eq_false_iff, Bool.or_eq_false_iff, Bool.not_eq_true', Bool.not_eq_false', Bool.not_true, Bool.not_false, Int.not_lt, Int.not_le] at ph3
        refine W.seq ?_
        refine W.region ?_
        refine L.op1 rfl rfl (GSpec.plain rfl (spec_assign rfl Get.cbool)) ?_
        refine L.nil ?_
        refine N.thenW ?_
        refine W.ret ?_
        refine N.ret () rfl (.tmp (t := 4) (Get.tmp rfl) .nil) (res1 (eqB ?_)) .nil (fun _ _ h => h)
        symm; rw [decide_eq_false_iff_not]; intro e; subst e; simp at h3
      · have ph3 := h3; try simp only [decide_eq_true_eq, decide_eq_false_iff_not, Bool.and_eq_true, Bool.or_eq_true, Bool.and_eq_false_iff, Bool.or_eq_false_iff, Bool.not_eq_true', Bool.not_eq_false', Bool.not_true, Bool.not_false, Int.not_lt, Int.not_le] at ph3
        refine W.skip ?_
        refine N.blockNormal ?_
        refine N.thenW ?_
        refine W.region ?_
        refine L.op1 rfl rfl (GSpec.plain rfl (spec_move rfl (Get.tmp rfl))) ?_
        first | refine L.op1 rfl rfl (GSpec.plain rfl (fit_i64 (by omega) (by omega) (spec_add rfl (Get.tmp rfl) (Get.cint rfl)))) ?_ | refine L.op1 rfl rfl (GSpec.plain rfl (spec_add rfl (Get.tmp rfl) (Get.cint rfl))) ?_
        refine L.op1 rfl rfl (GSpec.plain rfl (spec_assign rfl (Get.tmp rfl))) ?_
        refine L.nil ?_
        refine N.roundK (i + 1) ?hI1 ?hmu1 ?hs1 ?hk1 ?hp1
        case hs1 => exact (.cons (t := 5) rfl .nil)
        case hk1 => exact (.cons (t := 2) rfl (.cons (t := 3) rfl .nil))
        case hp1 => exact (.cons 0 rfl (.cons 0 rfl .nil))
        case hI1 => exact ⟨by omega, upto hI2 (by simpa using h3)⟩
        case hmu1 => omega
    · have ph2 := h2; try simp only [decide_eq_true_eq, decide_eq_false_iff_not, Bool.and_eq_true, Bool.or_eq_true, Bool.and_eq_false_iff, Bool.or_eq_false_iff, Bool.not_eq_true', Bool.not_eq_false', Bool.not_true, Bool.not_false, Int.not_lt, Int.not_le] at ph2
      refine W.exit ?_
      refine N.thenExit ?_
      refine N.thenExit ?_
      refine N.blockExit ?_
      refine N.thenW ?_
      refine W.keep .nil .refl ?_
      refine W.seq ?_
      refine W.region ?_
      refine L.op1 rfl rfl (GSpec.plain rfl (spec_assign rfl Get.cbool)) ?_
      refine L.nil ?_
      refine N.thenW ?_
      refine W.ret ?_
      refine N.ret () rfl (.tmp (t := 4) (Get.tmp rfl) .nil) (res1 (eqB ?_)) .nil (fun _ _ h => h)
      symm; rw [decide_eq_true_eq]
      have hb := h1
      simp only [decide_eq_true_eq, decide_eq_false_iff_not, Bool.and_eq_true, Bool.or_eq_true, Bool.and_eq_false_iff, Bool.or_eq_false_iff, Bool.not_eq_true', Bool.not_eq_false', Bool.not_true, Bool.not_false, Int.not_lt, Int.not_le, beq_iff_eq] at hb
      exact ex_ext hb.1.1.1 hb.1.1.2 (by simpa using hb.1.2) (ext_get (by omega) fun j hj => hI2 j (by omega))

theorem texts_ok (a b : List (List UInt8)) : CallT Tryd.prog 81 [Rp.slice eS a, Rp.slice eS b] [] (.one (Rp.bool (decide (a = b)))) := by
  refine W.enter (fn := Tryd.f81) (n := 26) Tryd.func81 rfl Tryd.ntmps81 rfl (fun w₀ C₀ => ?_)
  simp only [argS]
  refine W.fact 0 rfl slice_fact fun hal => ?_
  refine W.seq ?_
  refine W.region ?_
  refine L.op1 rfl rfl (GSpec.plain rfl (spec_assign rfl Get.cbool)) ?_
  refine L.nil ?_
  refine N.thenW ?_
  refine W.seq ?_
  refine W.seq ?_
  refine W.region ?_
  refine L.op1 rfl rfl (GSpec.plain rfl (spec_move rfl (Get.tmp rfl))) ?_
  refine L.op1 rfl rfl (GSpec.plain rfl (spec_len rfl Tryd.underlying40 (Get.tmp rfl))) ?_
  refine L.op1 rfl rfl (GSpec.plain rfl (spec_move rfl (Get.tmp rfl))) ?_
  refine L.op1 rfl rfl (GSpec.plain rfl (spec_len rfl Tryd.underlying40 (Get.tmp rfl))) ?_
  refine L.op1 rfl rfl (GSpec.plain rfl (spec_neq rfl (Get.tmp rfl) (Get.tmp rfl))) ?_
  refine L.nil ?_
  refine N.thenW ?_
  refine W.cond (Get.tmp rfl) (fun h1 => ?_) (fun h1 => ?_)
  · have ph1 := h1; try simp only [decide_eq_true_eq, decide_eq_false_iff_not, Bool.and_eq_true, Bool.or_eq_true, Bool.and_eq_false_iff, Bool.or_eq_false_iff, Bool.not_eq_true', Bool.not_eq_false', Bool.not_true, Bool.not_false, Int.not_lt, Int.not_le] at ph1
    refine W.seq ?_
    refine W.region ?_
    refine L.op1 rfl rfl (GSpec.plain rfl (spec_assign rfl Get.cbool)) ?_
    refine L.nil ?_
    refine N.thenW ?_
    refine W.ret ?_
    refine N.ret () rfl (.tmp (t := 4) (Get.tmp rfl) .nil) (res1 (eqB ?_)) .nil (fun _ _ h => h)
    symm; rw [decide_eq_false_iff_not]; intro e; subst e; simp at h1
  · have ph1 := h1; try simp only [decide_eq_true_eq, decide_eq_false_iff_not, Bool.and_eq_true, Bool.or_eq_true, Bool.and_eq_false_iff, Bool.or_eq_false_iff, Bool.not_eq_true', Bool.not_eq_false', Bool.not_true, Bool.not_false, Int.not_lt, Int.not_le] at ph1
    refine W.skip ?_
    refine N.thenW ?_
    refine W.seq ?_
    refine W.seq ?_
    refine W.region ?_
    refine L.op1 rfl rfl (GSpec.plain rfl (spec_assign rfl (Get.cint rfl))) ?_
    refine L.nil ?_
    refine N.thenW ?_
    refine W.block ?_
    -- assigned in the loop, not kept: [4]
    refine W.loopK (σ := Nat) (.cons (t := 0) rfl (.cons (t := 1) rfl .nil)) (fun z => [(5, Rp.int .i64 (z : Nat))]) (fun z => []) (fun z => z ≤ a.length ∧ ∀ j : Nat, j < z → a.getD j default = b.getD j default) (fun z => a.length - z) 0 ⟨Nat.zero_le _, fun j hj => by omega⟩ (.cons (t := 5) rfl .nil) .nil ?_
    intro i hI S' M' hS hM
    obtain ⟨hI1, hI2⟩ := hI
    try dsimp only at hS hM
    simp only [List.cons_append, List.nil_append] at hS hM
    subst hS hM
    try dsimp only
    refine W.seq ?_
    refine W.seq ?_
    refine W.region ?_
    refine L.op1 rfl rfl (GSpec.plain rfl (spec_move rfl (Get.tmp rfl))) ?_
    refine L.op1 rfl rfl (GSpec.plain rfl (spec_move rfl (Get.tmp rfl))) ?_
    refine L.op1 rfl rfl (GSpec.plain rfl (spec_len rfl Tryd.underlying40 (Get.tmp rfl))) ?_
    refine L.op1 rfl rfl (GSpec.plain rfl (spec_lss rfl (Get.tmp rfl) (Get.tmp rfl))) ?_
    refine L.nil ?_
    refine N.thenW ?_
    refine W.cond (Get.tmp rfl) (fun h2 => ?_) (fun h2 => ?_)
    · have ph2 := h2; try simp only [decide_eq_true_eq, decide_eq_false_iff_not, Bool.and_eq_true, Bool.or_eq_true, Bool.and_eq_false_iff, Bool.or_eq_false_iff, Bool.not_eq_true', Bool.not_eq_false', Bool.not_true, Bool.not_false, Int.not_lt, Int.not_le] at ph2
      refine W.skip ?_
      refine N.thenW ?_
      refine W.seq ?_
      refine W.block ?_
      refine W.seq ?_
      apply W.any 9 mixed (by kernel_rfl)
      · apply Head.one rfl rfl (GSpec.plain rfl (spec_move rfl (Get.tmp rfl)))
        apply Head.one rfl rfl (GSpec.plain rfl (spec_move rfl (Get.tmp rfl)))
        apply Head.one rfl rfl (GSpec.plain rfl (spec_indexAddrD (E := eS) rfl Tryd.underlying40 Tryd.sizeOf9 (fun _ => rfl) (Get.tmp rfl) (Get.tmp rfl) (by omega)))
        apply Head.one rfl rfl (GSpec.plain rfl (spec_loadP1 rfl Tryd.isAgg9 (Get.tmp rfl)))
        apply Head.one rfl rfl (GSpec.plain rfl (spec_move rfl (Get.tmp rfl)))
        apply Head.one rfl rfl (GSpec.plain rfl (spec_move rfl (Get.tmp rfl)))
        apply Head.one rfl rfl (GSpec.plain rfl (spec_indexAddrD (E := eS) rfl Tryd.underlying40 Tryd.sizeOf9 (fun _ => rfl) (Get.tmp rfl) (Get.tmp rfl) (by omega)))
        apply Head.one rfl rfl (GSpec.plain rfl (spec_loadP1 rfl Tryd.isAgg9 (Get.tmp rfl)))
        apply Head.one rfl rfl (GSpec.plain rfl (spec_neqS rfl (Get.tmp rfl) (Get.tmp rfl)))
        exact Head.nil
      refine Fin.one ?_
      refine Fin.one ?_
      refine Fin.one ?_
      refine Fin.one ?_
      refine Fin.one ?_
      refine Fin.one ?_
      refine Fin.one ?_
      refine Fin.one ?_
      refine Fin.one ?_
      refine Fin.nil ?_
      refine L.nil ?_
      refine N.thenW ?_
      refine W.cond (Get.tmp rfl) (fun h3 => ?_) (fun h3 => ?_)
      · have ph3 := h3; try simp only [decide_eq_true_eq, decide_eq_false_iff_not, Bool.and_eq_true, Bool.or_eq_true, Bool.and_eq_false_iff, Bool.or_eq_false_iff, Bool.not_eq_true', Bool.not_eq_false', Bool.not_true, Bool.not_false, Int.not_lt, Int.not_le] at ph3
        refine W.seq ?_
        refine W.region ?_
        refine L.op1 rfl rfl (GSpec.plain rfl (spec_assign rfl Get.cbool)) ?_
        refine L.nil ?_
        refine N.thenW ?_
        refine W.ret ?_
        refine N.ret () rfl (.tmp (t := 4) (Get.tmp rfl) .nil) (res1 (eqB ?_)) .nil (fun _ _ h => h)
        symm; rw [decide_eq_false_iff_not]; intro e; subst e; simp at h3
      · have ph3 := h3; try simp only [decide_eq_true_eq, decide_eq_false_iff_not, Bool.and_eq_true, Bool.or_eq_true, Bool.and_eq_false_iff, Bool.or_eq_false_iff, Bool.not_eq_true', Bool.not_eq_false', Bool.not_true, Bool.not_false, Int.not_lt, Int.not_le] at ph3
        refine W.skip ?_
        refine N.blockNormal ?_
        refine N.thenW ?_
        refine W.region ?_
        refine L.op1 rfl rfl (GSpec.plain rfl (spec_move rfl (Get.tmp rfl))) ?_
        first | refine L.op1 rfl rfl (GSpec.plain rfl (fit_i64 (by omega) (by omega) (spec_add rfl (Get.tmp rfl) (Get.cint rfl)))) ?_ | refine L.op1 rfl rfl (GSpec.plain rfl (spec_add rfl (Get.tmp rfl) (Get.cint rfl))) ?_
        refine L.op1 rfl rfl (GSpec.plain rfl (spec_assign rfl (Get.tmp rfl))) ?_
        refine L.nil ?_
        refine N.roundK (i + 1) ?hI2 ?hmu2 ?hs2 ?hk2 ?hp2
        case hs2 => exact (.cons (t := 5) rfl .nil)
        case hk2 => exact (.cons (t := 0) rfl (.cons (t := 1) rfl .nil))
        case hp2 => exact .nil
        case hI2 => exact ⟨by omega, upto hI2 (by simpa using h3)⟩
        case hmu2 => omega
    · have ph2 := h2; try simp only [decide_eq_true_eq, decide_eq_false_iff_not, Bool.and_eq_true, Bool.or_eq_true, Bool.and_eq_false_iff, Bool.or_eq_false_iff, Bool.not_eq_true', Bool.not_eq_false', Bool.not_true, Bool.not_false, Int.not_lt, Int.not_le] at ph2
      refine W.exit ?_
      refine N.thenExit ?_
      refine N.thenExit ?_
      refine N.blockExit ?_
      refine N.thenW ?_
      refine W.keep .nil .refl ?_
      refine W.seq ?_
      refine W.region ?_
      refine L.op1 rfl rfl (GSpec.plain rfl (spec_assign rfl Get.cbool)) ?_
      refine L.nil ?_
      refine N.thenW ?_
      refine W.ret ?_
      refine N.ret () rfl (.tmp (t := 4) (Get.tmp rfl) .nil) (res1 (eqB ?_)) .nil (fun _ _ h => h)
      symm; rw [decide_eq_true_eq]; exact ext_get (by have := h1; simp at this; omega) fun j hj => hI2 j (by omega)

end Go.Proofs.YtcabngjnmipflaaDoor
/- Equality of expressions. -/
namespace Go.Proofs.YtcabngjnmipflaaDoor
open Go.Sim
theorem sameX_ok : ∀ a b : Ex, CallT Tryd.prog 80 [Rp.agg (eX a), Rp.agg (eX b)] [] (.one (Rp.bool (decide (a = b)))) := Ex.ind fun a ih b => sameX_step a b ih
end Go.Proofs.YtcabngjnmipflaaDoor
set_option linter.unusedSimpArgs false
set_option maxRecDepth 8000
set_option linter.unusedVariables false
namespace Go.Proofs.YtcabngjnmipflaaDoor
open Go.Sim
theorem sameI_step (a b : It) (ih1 : ∀ k, CallT Tryd.prog 47 [Rp.slice eIt a.items, Rp.slice eIt k] [] (.one (Rp.bool (decide (a.items = k))))) (ih2 : ∀ k, CallT Tryd.prog 47 [Rp.slice eIt a.els, Rp.slice eIt k] [] (.one (Rp.bool (decide (a.els = k))))) : CallT Tryd.prog 64 [Rp.agg (eIt a), Rp.agg (eIt b)] [] (.one (Rp.bool (decide (a = b)))) := by
  refine W.enter (fn := Tryd.f64) (n := 86) Tryd.func64 rfl Tryd.ntmps64 rfl (fun w₀ C₀ => ?_)
  simp only [argS]
  refine W.fact 0 rfl it_fact fun hal => ?_
  refine W.seq ?_
  refine W.region ?_
  refine L.box rfl rfl (GSpec.plain rfl (spec_box rfl (GetC.agg (Get.tmp rfl)))) (fun r2 => ?_)
  refine L.box rfl rfl (GSpec.plain rfl (spec_box rfl (GetC.agg (Get.tmp rfl)))) (fun r3 => ?_)
  refine L.op1 rfl rfl (GSpec.plain rfl (spec_assign rfl Get.cbool)) ?_
  refine L.nil ?_
  refine N.thenW ?_
  refine W.seq ?_
  refine W.seq ?_
  refine W.region ?_
  refine L.op1 rfl rfl (GSpec.plain rfl (spec_fieldAddr (f := 0) (off' := 0) rfl Tryd.underlying86 rfl Tryd.sizeOf3 (Get.tmp rfl) rfl)) ?_
  refine L.op1 rfl rfl (GSpec.plain rfl (spec_load1 (k := 1) rfl Tryd.isAgg3 (Get.tmp rfl) rfl rfl)) ?_
  refine L.op1 rfl rfl (GSpec.plain rfl (spec_fieldAddr (f := 0) (off' := 0) rfl Tryd.underlying86 rfl Tryd.sizeOf3 (Get.tmp rfl) rfl)) ?_
  refine L.op1 rfl rfl (GSpec.plain rfl (spec_load1 (k := 0) rfl Tryd.isAgg3 (Get.tmp rfl) rfl rfl)) ?_
  refine L.op1 rfl rfl (GSpec.plain rfl (spec_neq rfl (Get.tmp rfl) (Get.tmp rfl))) ?_
  refine L.op1 rfl rfl (GSpec.plain rfl (spec_move rfl (Get.tmp rfl))) ?_
  refine L.op1 rfl rfl (GSpec.guard rfl rfl rfl fun hg => (spec_fieldAddr (f := 1) (off' := 1) rfl Tryd.underlying86 rfl Tryd.sizeOf83 (Get.tmp rfl) rfl)) ?_
  refine L.op1 rfl rfl (GSpec.guard rfl rfl rfl fun hg => (spec_loadA (k := 1) rfl Tryd.isAgg83 Tryd.sizeOf83 (Get.opt rfl hg) rfl rfl)) ?_
  refine L.op1 rfl rfl (GSpec.guard rfl rfl rfl fun hg => (spec_fieldAddr (f := 1) (off' := 1) rfl Tryd.underlying86 rfl Tryd.sizeOf83 (Get.tmp rfl) rfl)) ?_
  refine L.op1 rfl rfl (GSpec.guard rfl rfl rfl fun hg => (spec_loadA (k := 0) rfl Tryd.isAgg83 Tryd.sizeOf83 (Get.opt rfl hg) rfl rfl)) ?_
  refine L.op1 rfl rfl (GSpec.guard rfl rfl rfl fun hg => (spec_call rfl Tryd.call80 (sameX_ok _ _) (.cons (Get.opt rfl hg) (.cons (Get.opt rfl hg) .nil)))) ?_
  refine L.op1 rfl rfl (GSpec.guard rfl rfl rfl fun hg => (spec_not rfl (Get.opt rfl hg))) ?_
  refine L.op1 rfl rfl (GSpec.plain rfl (spec_or rfl (Get.tmp rfl) (fun hb => (Get.opt rfl hb)))) ?_
  refine L.op1 rfl rfl (GSpec.plain rfl (spec_move rfl (Get.tmp rfl))) ?_
  refine L.op1 rfl rfl (GSpec.guard rfl rfl rfl fun hg => (spec_fieldAddr (f := 2) (off' := 5) rfl Tryd.underlying86 rfl Tryd.sizeOf9 (Get.tmp rfl) rfl)) ?_
  refine L.op1 rfl rfl (GSpec.guard rfl rfl rfl fun hg => (spec_load1 (k := 1) rfl Tryd.isAgg9 (Get.opt rfl hg) rfl rfl)) ?_
  refine L.op1 rfl rfl (GSpec.guard rfl rfl rfl fun hg => (spec_fieldAddr (f := 2) (off' := 5) rfl Tryd.underlying86 rfl Tryd.sizeOf9 (Get.tmp rfl) rfl)) ?_
  refine L.op1 rfl rfl (GSpec.guard rfl rfl rfl fun hg => (spec_load1 (k := 0) rfl Tryd.isAgg9 (Get.opt rfl hg) rfl rfl)) ?_
  refine L.op1 rfl rfl (GSpec.guard rfl rfl rfl fun hg => (spec_neqS rfl (Get.opt rfl hg) (Get.opt rfl hg))) ?_
  refine L.op1 rfl rfl (GSpec.plain rfl (spec_or rfl (Get.tmp rfl) (fun hb => (Get.opt rfl hb)))) ?_
  refine L.op1 rfl rfl (GSpec.plain rfl (spec_move rfl (Get.tmp rfl))) ?_
  refine L.op1 rfl rfl (GSpec.guard rfl rfl rfl fun hg => (spec_fieldAddr (f := 3) (off' := 6) rfl Tryd.underlying86 rfl Tryd.sizeOf9 (Get.tmp rfl) rfl)) ?_
  refine L.op1 rfl rfl (GSpec.guard rfl rfl rfl fun hg => (spec_load1 (k := 1) rfl Tryd.isAgg9 (Get.opt rfl hg) rfl rfl)) ?_
  refine L.op1 rfl rfl (GSpec.guard rfl rfl rfl fun hg => (spec_fieldAddr (f := 3) (off' := 6) rfl Tryd.underlying86 rfl Tryd.sizeOf9 (Get.tmp rfl) rfl)) ?_
  refine L.op1 rfl rfl (GSpec.guard rfl rfl rfl fun hg => (spec_load1 (k := 0) rfl Tryd.isAgg9 (Get.opt rfl hg) rfl rfl)) ?_
  refine L.op1 rfl rfl (GSpec.guard rfl rfl rfl fun hg => (spec_neqS rfl (Get.opt rfl hg) (Get.opt rfl hg))) ?_
  refine L.op1 rfl rfl (GSpec.plain rfl (spec_or rfl (Get.tmp rfl) (fun hb => (Get.opt rfl hb)))) ?_
  refine L.op1 rfl rfl (GSpec.plain rfl (spec_move rfl (Get.tmp rfl))) ?_
  refine L.op1 rfl rfl (GSpec.guard rfl rfl rfl fun hg => (spec_fieldAddr (f := 4) (off' := 7) rfl Tryd.underlying86 rfl Tryd.sizeOf84 (Get.tmp rfl) rfl)) ?_
  refine L.op1 rfl rfl (GSpec.guard rfl rfl rfl fun hg => (spec_load1 (k := 1) rfl Tryd.isAgg84 (Get.opt rfl hg) rfl rfl)) ?_
  refine L.op1 rfl rfl (GSpec.guard rfl rfl rfl fun hg => (spec_len rfl Tryd.underlying84 (Get.opt rfl hg))) ?_
  refine L.op1 rfl rfl (GSpec.guard rfl rfl rfl fun hg => (spec_fieldAddr (f := 4) (off' := 7) rfl Tryd.underlying86 rfl Tryd.sizeOf84 (Get.tmp rfl) rfl)) ?_
  refine L.op1 rfl rfl (GSpec.guard rfl rfl rfl fun hg => (spec_load1 (k := 0) rfl Tryd.isAgg84 (Get.opt rfl hg) rfl rfl)) ?_
  refine L.op1 rfl rfl (GSpec.guard rfl rfl rfl fun hg => (spec_len rfl Tryd.underlying84 (Get.opt rfl hg))) ?_
  refine L.op1 rfl rfl (GSpec.guard rfl rfl rfl fun hg => (spec_neq rfl (Get.opt rfl hg) (Get.opt rfl hg))) ?_
  refine L.op1 rfl rfl (GSpec.plain rfl (spec_or rfl (Get.tmp rfl) (fun hb => (Get.opt rfl hb)))) ?_
  refine L.nil ?_
  refine N.thenW ?_
  refine W.keep (.cons (t := 2) rfl (.cons (t := 3) rfl (.cons (t := 4) rfl (.cons (t := 41) rfl .nil)))) .refl ?_
  refine W.cond (Get.tmp rfl) (fun h1 => ?_) (fun h1 => ?_)
  · have ph1 := h1; try simp only [decide_eq_true_eq, decide_eq_false_iff_not, Bool.and_eq_true, Bool.or_eq_true, Bool.and_eq_false_iff, Bool.or_eq_false_iff, Bool.not_eq_true', Bool.not_eq_false', Bool.not_true, Bool.not_false, Int.not_lt, Int.not_le] at ph1
    refine W.seq ?_
    refine W.region ?_
    refine L.op1 rfl rfl (GSpec.plain rfl (spec_assign rfl Get.cbool)) ?_
    refine L.nil ?_
    refine N.thenW ?_
    refine W.ret ?_
    refine N.ret () rfl (.tmp (t := 4) (Get.tmp rfl) .nil) (res1 (eqB ?_)) .nil (fun _ _ h => h)
    symm; rw [decide_eq_false_iff_not]; intro e; subst e; simp at h1
  · have ph1 := h1; try simp only [decide_eq_true_eq, decide_eq_false_iff_not, Bool.and_eq_true, Bool.or_eq_true, Bool.and_eq_false_iff, Bool.or_eq_false_iff, Bool.not_eq_true', Bool.not_eq_false', Bool.not_true, Bool.not_false, Int.not_lt, Int.not_le] at ph1
    refine W.skip ?_
    refine N.thenW ?_
    refine W.seq ?_
    refine W.seq ?_
    refine W.region ?_
    refine L.op1 rfl rfl (GSpec.plain rfl (spec_assign rfl (Get.cint rfl))) ?_
    refine L.nil ?_
    refine N.thenW ?_
    refine W.block ?_
    -- assigned in the loop, not kept: [4]
    refine W.loopK (σ := Nat) (.cons (t := 2) rfl (.cons (t := 3) rfl .nil)) (fun z => [(5, Rp.int .i64 (z : Nat))]) (fun z => []) (fun z => z ≤ a.weights.length ∧ ∀ j : Nat, j < z → a.weights.getD j default = b.weights.getD j default) (fun z => a.weights.length - z) 0 ⟨Nat.zero_le _, fun j hj => by omega⟩ (.cons (t := 5) rfl .nil) (.cons 0 rfl (.cons 0 rfl .nil)) ?_
    intro i hI S' M' hS hM
    obtain ⟨hI1, hI2⟩ := hI
    try dsimp only at hS hM
    simp only [List.cons_append, List.nil_append] at hS hM
    subst hS hM
    try dsimp only
    have hle : a.weights.length = b.weights.length := by have := h1; simp only [decide_eq_true_eq, decide_eq_false_iff_not, Bool.and_eq_true, Bool.or_eq_true, Bool.and_eq_false_iff, Bool.or_eq_false_iff, Bool.not_eq_true', Bool.not_eq_false', Bool.not_true, Bool.not_false, Int.not_lt, Int.not_le] at this; omega
    refine W.seq ?_
    refine W.seq ?_
    refine W.region ?_
    refine L.op1 rfl rfl (GSpec.plain rfl (spec_move rfl (Get.tmp rfl))) ?_
    refine L.op1 rfl rfl (GSpec.plain rfl (spec_fieldAddr (f := 4) (off' := 7) rfl Tryd.underlying86 rfl Tryd.sizeOf84 (Get.tmp rfl) rfl)) ?_
    refine L.op1 rfl rfl (GSpec.plain rfl (spec_load1 (k := 1) rfl Tryd.isAgg84 (Get.tmp rfl) rfl rfl)) ?_
    refine L.op1 rfl rfl (GSpec.plain rfl (spec_len rfl Tryd.underlying84 (Get.tmp rfl))) ?_
    refine L.op1 rfl rfl (GSpec.plain rfl (spec_lss rfl (Get.tmp rfl) (Get.tmp rfl))) ?_
    refine L.nil ?_
    refine N.thenW ?_
    refine W.cond (Get.tmp rfl) (fun h2 => ?_) (fun h2 => ?_)
    · have ph2 := h2; try simp only [decide_eq_true_eq, decide_eq_false_iff_not, Bool.and_eq_true, Bool.or_eq_true, Bool.and_eq_false_iff, Bool.or_eq_false_iff, Bool.not_eq_true', Bool.not_eq_false', Bool.not_true, Bool.not_false, Int.not_lt, Int.not_le] at ph2
      refine W.skip ?_
      refine N.thenW ?_
      refine W.seq ?_
      refine W.block ?_
      refine W.seq ?_
      apply W.any 11 mixed (by kernel_rfl)
      · apply Head.one rfl rfl (GSpec.plain rfl (spec_fieldAddr (f := 4) (off' := 7) rfl Tryd.underlying86 rfl Tryd.sizeOf84 (Get.tmp rfl) rfl))
        apply Head.one rfl rfl (GSpec.plain rfl (spec_load1 (k := 1) rfl Tryd.isAgg84 (Get.tmp rfl) rfl rfl))
        apply Head.one rfl rfl (GSpec.plain rfl (spec_move rfl (Get.tmp rfl)))
        apply Head.one rfl rfl (GSpec.plain rfl (spec_indexAddrD (E := eW) rfl Tryd.underlying84 Tryd.sizeOf109 (fun _ => rfl) (Get.tmp rfl) (Get.tmp rfl) (by omega)))
        apply Head.one rfl rfl (GSpec.plain rfl (spec_loadPA rfl Tryd.isAgg109 Tryd.sizeOf109 (Get.tmp rfl) rfl))
        apply Head.one rfl rfl (GSpec.plain rfl (spec_fieldAddr (f := 4) (off' := 7) rfl Tryd.underlying86 rfl Tryd.sizeOf84 (Get.tmp rfl) rfl))
        apply Head.one rfl rfl (GSpec.plain rfl (spec_load1 (k := 0) rfl Tryd.isAgg84 (Get.tmp rfl) rfl rfl))
        apply Head.one rfl rfl (GSpec.plain rfl (spec_move rfl (Get.tmp rfl)))
        apply Head.one rfl rfl (GSpec.plain rfl (spec_indexAddrD (E := eW) rfl Tryd.underlying84 Tryd.sizeOf109 (fun _ => rfl) (Get.tmp rfl) (Get.tmp rfl) (by omega)))
        apply Head.one rfl rfl (GSpec.plain rfl (spec_loadPA rfl Tryd.isAgg109 Tryd.sizeOf109 (Get.tmp rfl) rfl))
        apply Head.one rfl rfl (GSpec.plain rfl (neq109 rfl (Get.tmp rfl) (Get.tmp rfl)))
        exact Head.nil
      refine Fin.one ?_
      refine Fin.one ?_
      refine Fin.one ?_
      refine Fin.one ?_
      refine Fin.one ?_
      refine Fin.one ?_
      refine Fin.one ?_
      refine Fin.one ?_
      refine Fin.one ?_
      refine Fin.one ?_
      refine Fin.one ?_
      refine Fin.nil ?_
      refine L.nil ?_
      refine N.thenW ?_
      refine W.cond (Get.tmp rfl) (fun h3 => ?_) (fun h3 => ?_)
      · have ph3 := h3; try simp only [decide_eq_true_eq, decide_eq_false_iff_not, Bool.and_eq_true, Bool.or_eq_true, Bool.and_eq_false_iff, Bool.or_eq_false_iff, Bool.not_eq_true', Bool.not_eq_false', Bool.not_true, Bool.not_false, Int.not_lt, Int.not_le] at ph3
        refine W.seq ?_
        refine W.region ?_
        refine L.op1 rfl rfl (GSpec.plain rfl (spec_assign rfl Get.cbool)) ?_
        refine L.nil ?_
        refine N.thenW ?_
        refine W.ret ?_
        refine N.ret () rfl (.tmp (t := 4) (Get.tmp rfl) .nil) (res1 (eqB ?_)) .nil (fun _ _ h => h)
        symm; rw [decide_eq_false_iff_not]; intro e; subst e; simp at h3
      · have ph3 := h3; try simp only [decide_eq_true_eq, decide_eq_false_iff_not, Bool.and_eq_true, Bool.or_eq_true, Bool.and_eq_false_iff, Bool.or_eq_false_iff, Bool.not_eq_true', Bool.not_eq_false', Bool.not_true, Bool.not_false, Int.not_lt, Int.not_le] at ph3
        refine W.skip ?_
        refine N.blockNormal ?_
        refine N.thenW ?_
        refine W.region ?_
        refine L.op1 rfl rfl (GSpec.plain rfl (spec_move rfl (Get.tmp rfl))) ?_
        first | refine L.op1 rfl rfl (GSpec.plain rfl (fit_i64 (by omega) (by omega) (spec_add rfl (Get.tmp rfl) (Get.cint rfl)))) ?_ | refine L.op1 rfl rfl (GSpec.plain rfl (spec_add rfl (Get.tmp rfl) (Get.cint rfl))) ?_
        refine L.op1 rfl rfl (GSpec.plain rfl (spec_assign rfl (Get.tmp rfl))) ?_
        refine L.nil ?_
        refine N.roundK (i + 1) ?hI1 ?hmu1 ?hs1 ?hk1 ?hp1
        case hs1 => exact (.cons (t := 5) rfl .nil)
        case hk1 => exact (.cons (t := 2) rfl (.cons (t := 3) rfl .nil))
        case hp1 => exact (.cons 0 rfl (.cons 0 rfl .nil))
        case hI1 => exact ⟨by omega, upto hI2 (by simpa using h3)⟩
        case hmu1 => omega
    · have ph2 := h2; try simp only [decide_eq_true_eq, decide_eq_false_iff_not, Bool.and_eq_true, Bool.or_eq_true, Bool.and_eq_false_iff, Bool.or_eq_false_iff, Bool.not_eq_true', Bool.not_eq_false', Bool.not_true, Bool.not_false, Int.not_lt, Int.not_le] at ph2
      refine W.exit ?_
      refine N.thenExit ?_
      refine N.thenExit ?_
      refine N.blockExit ?_
      refine N.thenW ?_
      refine W.keep (.cons (t := 2) rfl (.cons (t := 3) rfl .nil)) .refl ?_
      refine W.seq ?_
      refine W.region ?_
      refine L.op1 rfl rfl (GSpec.plain rfl (spec_fieldAddr (f := 5) (off' := 8) rfl Tryd.underlying86 rfl Tryd.sizeOf52 (Get.tmp rfl) rfl)) ?_
      refine L.op1 rfl rfl (GSpec.plain rfl (Spec.eq (its_eq _) (spec_load1 (k := 1) rfl Tryd.isAgg52 (Get.tmp rfl) rfl rfl))) ?_
      refine L.op1 rfl rfl (GSpec.plain rfl (spec_fieldAddr (f := 5) (off' := 8) rfl Tryd.underlying86 rfl Tryd.sizeOf52 (Get.tmp rfl) rfl)) ?_
      refine L.op1 rfl rfl (GSpec.plain rfl (Spec.eq (its_eq _) (spec_load1 (k := 0) rfl Tryd.isAgg52 (Get.tmp rfl) rfl rfl))) ?_
      refine L.op1 rfl rfl (GSpec.plain rfl (spec_call rfl Tryd.call47 (ih1 _) (.cons (Get.tmp rfl) (.cons (Get.tmp rfl) .nil)))) ?_
      refine L.op1 rfl rfl (GSpec.plain rfl (spec_move rfl (Get.tmp rfl))) ?_
      refine L.op1 rfl rfl (GSpec.guard rfl rfl rfl fun hg => (spec_fieldAddr (f := 6) (off' := 9) rfl Tryd.underlying86 rfl Tryd.sizeOf52 (Get.tmp rfl) rfl)) ?_
      refine L.op1 rfl rfl (GSpec.guard rfl rfl rfl fun hg => (Spec.eq (its_eq _) (spec_load1 (k := 1) rfl Tryd.isAgg52 (Get.opt rfl hg) rfl rfl))) ?_
      refine L.op1 rfl rfl (GSpec.guard rfl rfl rfl fun hg => (spec_fieldAddr (f := 6) (off' := 9) rfl Tryd.underlying86 rfl Tryd.sizeOf52 (Get.tmp rfl) rfl)) ?_
      refine L.op1 rfl rfl (GSpec.guard rfl rfl rfl fun hg => (Spec.eq (its_eq _) (spec_load1 (k := 0) rfl Tryd.isAgg52 (Get.opt rfl hg) rfl rfl))) ?_
      refine L.op1 rfl rfl (GSpec.guard rfl rfl rfl fun hg => (spec_call rfl Tryd.call47 (ih2 _) (.cons (Get.opt rfl hg) (.cons (Get.opt rfl hg) .nil)))) ?_
      refine L.op1 rfl rfl (GSpec.plain rfl (spec_and rfl (Get.tmp rfl) (fun hb => (Get.opt rfl hb)))) ?_
      refine L.op1 rfl rfl (GSpec.plain rfl (spec_move rfl (Get.tmp rfl))) ?_
      refine L.op1 rfl rfl (GSpec.guard rfl rfl rfl fun hg => (spec_fieldAddr (f := 7) (off' := 10) rfl Tryd.underlying86 rfl Tryd.sizeOf40 (Get.tmp rfl) rfl)) ?_
      refine L.op1 rfl rfl (GSpec.guard rfl rfl rfl fun hg => (spec_load1 (k := 1) rfl Tryd.isAgg40 (Get.opt rfl hg) rfl rfl)) ?_
      refine L.op1 rfl rfl (GSpec.guard rfl rfl rfl fun hg => (spec_fieldAddr (f := 7) (off' := 10) rfl Tryd.underlying86 rfl Tryd.sizeOf40 (Get.tmp rfl) rfl)) ?_
      refine L.op1 rfl rfl (GSpec.guard rfl rfl rfl fun hg => (spec_load1 (k := 0) rfl Tryd.isAgg40 (Get.opt rfl hg) rfl rfl)) ?_
      refine L.op1 rfl rfl (GSpec.guard rfl rfl rfl fun hg => (spec_call rfl Tryd.call81 (texts_ok _ _) (.cons (Get.opt rfl hg) (.cons (Get.opt rfl hg) .nil)))) ?_
      refine L.op1 rfl rfl (GSpec.plain rfl (spec_and rfl (Get.tmp rfl) (fun hb => (Get.opt rfl hb)))) ?_
      refine L.op1 rfl rfl (GSpec.plain rfl (spec_move rfl (Get.tmp rfl))) ?_
      refine L.op1 rfl rfl (GSpec.guard rfl rfl rfl fun hg => (spec_fieldAddr (f := 8) (off' := 11) rfl Tryd.underlying86 rfl Tryd.sizeOf40 (Get.tmp rfl) rfl)) ?_
      refine L.op1 rfl rfl (GSpec.guard rfl rfl rfl fun hg => (spec_load1 (k := 1) rfl Tryd.isAgg40 (Get.opt rfl hg) rfl rfl)) ?_
      refine L.op1 rfl rfl (GSpec.guard rfl rfl rfl fun hg => (spec_fieldAddr (f := 8) (off' := 11) rfl Tryd.underlying86 rfl Tryd.sizeOf40 (Get.tmp rfl) rfl)) ?_
      refine L.op1 rfl rfl (GSpec.guard rfl rfl rfl fun hg => (spec_load1 (k := 0) rfl Tryd.isAgg40 (Get.opt rfl hg) rfl rfl)) ?_
      refine L.op1 rfl rfl (GSpec.guard rfl rfl rfl fun hg => (spec_call rfl Tryd.call81 (texts_ok _ _) (.cons (Get.opt rfl hg) (.cons (Get.opt rfl hg) .nil)))) ?_
      refine L.op1 rfl rfl (GSpec.plain rfl (spec_and rfl (Get.tmp rfl) (fun hb => (Get.opt rfl hb)))) ?_
      refine L.op1 rfl rfl (GSpec.plain rfl (spec_assign rfl (Get.tmp rfl))) ?_
      refine L.nil ?_
      refine N.thenW ?_
      refine W.keep (.cons (t := 4) rfl .nil) .refl ?_
      refine W.ret ?_
      refine N.ret () rfl (.tmp (t := 4) (Get.tmp rfl) .nil) (res1 (eqB ?_)) .nil (fun _ _ h => h)
      have hb := h1
      simp only [decide_eq_true_eq, decide_eq_false_iff_not, Bool.and_eq_true, Bool.or_eq_true, Bool.and_eq_false_iff, Bool.or_eq_false_iff, Bool.not_eq_true', Bool.not_eq_false', Bool.not_true, Bool.not_false, Int.not_lt, Int.not_le, beq_iff_eq] at hb
      have hw : a.weights = b.weights := ext_get (by omega) fun j hj => hI2 j (by omega)
      rw [Bool.eq_iff_iff]
      simp only [Bool.and_eq_true, decide_eq_true_eq]
      constructor
      · rintro ⟨⟨⟨q1, q2⟩, q3⟩, q4⟩
        exact it_ext hb.1.1.1.1 (by simpa using hb.1.1.1.2) (by simpa using hb.1.1.2) (by simpa using hb.1.2) hw q1 q2 q3 q4
      · rintro e
        subst e
        exact ⟨⟨⟨rfl, rfl⟩, rfl⟩, rfl⟩

theorem sameL_step (a b : List It) (ih : ∀ x ∈ a, ∀ y, CallT Tryd.prog 64 [Rp.agg (eIt x), Rp.agg (eIt y)] [] (.one (Rp.bool (decide (x = y))))) : CallT Tryd.prog 47 [Rp.slice eIt a, Rp.slice eIt b] [] (.one (Rp.bool (decide (a = b)))) := by
  refine W.enter (fn := Tryd.f47) (n := 27) Tryd.func47 rfl Tryd.ntmps47 rfl (fun w₀ C₀ => ?_)
  simp only [argS]
  refine W.fact 0 rfl slice_fact fun hal => ?_
  refine W.seq ?_
  refine W.region ?_
  refine L.op1 rfl rfl (GSpec.plain rfl (spec_assign rfl Get.cbool)) ?_
  refine L.nil ?_
  refine N.thenW ?_
  refine W.seq ?_
  refine W.seq ?_
  refine W.region ?_
  refine L.op1 rfl rfl (GSpec.plain rfl (spec_move rfl (Get.tmp rfl))) ?_
  refine L.op1 rfl rfl (GSpec.plain rfl (spec_len rfl Tryd.underlying52 (Get.tmp rfl))) ?_
  refine L.op1 rfl rfl (GSpec.plain rfl (spec_move rfl (Get.tmp rfl))) ?_
  refine L.op1 rfl rfl (GSpec.plain rfl (spec_len rfl Tryd.underlying52 (Get.tmp rfl))) ?_
  refine L.op1 rfl rfl (GSpec.plain rfl (spec_neq rfl (Get.tmp rfl) (Get.tmp rfl))) ?_
  refine L.nil ?_
  refine N.thenW ?_
  refine W.cond (Get.tmp rfl) (fun h1 => ?_) (fun h1 => ?_)
  · have ph1 := h1; try simp only [decide_eq_true_eq, decide_eq_false_iff_not, Bool.and_eq_true, Bool.or_eq_true, Bool.and_eq_false_iff, Bool.or_eq_false_iff, Bool.not_eq_true', Bool.not_eq_false', Bool.not_true, Bool.not_false, Int.not_lt, Int.not_le] at ph1
    refine W.seq ?_
    refine W.region ?_
    refine L.op1 rfl rfl (GSpec.plain rfl (spec_assign rfl Get.cbool)) ?_
    refine L.nil ?_
    refine N.thenW ?_
    refine W.ret ?_
    refine N.ret () rfl (.tmp (t := 4) (Get.tmp rfl) .nil) (res1 (eqB ?_)) .nil (fun _ _ h => h)
    symm; rw [decide_eq_false_iff_not]; intro e; subst e; simp at h1
  · have ph1 := h1; try simp only [decide_eq_true_eq, decide_eq_false_iff_not, Bool.and_eq_true, Bool.or_eq_true, Bool.and_eq_false_iff, Bool.or_eq_false_iff, Bool.not_eq_true', Bool.not_eq_false', Bool.not_true, Bool.not_false, Int.not_lt, Int.not_le] at ph1
    refine W.skip ?_
    refine N.thenW ?_
    refine W.seq ?_
    refine W.seq ?_
    refine W.region ?_
    refine L.op1 rfl rfl (GSpec.plain rfl (spec_assign rfl (Get.cint rfl))) ?_
    refine L.nil ?_
    refine N.thenW ?_
    refine W.block ?_
    -- assigned in the loop, not kept: [4]
    refine W.loopK (σ := Nat) (.cons (t := 0) rfl (.cons (t := 1) rfl .nil)) (fun z => [(5, Rp.int .i64 (z : Nat))]) (fun z => []) (fun z => z ≤ a.length ∧ ∀ j : Nat, j < z → a.getD j default = b.getD j default) (fun z => a.length - z) 0 ⟨Nat.zero_le _, fun j hj => by omega⟩ (.cons (t := 5) rfl .nil) .nil ?_
    intro i hI S' M' hS hM
    obtain ⟨hI1, hI2⟩ := hI
    try dsimp only at hS hM
    simp only [List.cons_append, List.nil_append] at hS hM
    subst hS hM
    try dsimp only
    have hle : a.length = b.length := by have := h1; simp only [decide_eq_true_eq, decide_eq_false_iff_not, Bool.and_eq_true, Bool.or_eq_true, Bool.and_eq_false_iff, Bool.or_eq_false_iff, Bool.not_eq_true', Bool.not_eq_false', Bool.not_true, Bool.not_false, Int.not_lt, Int.not_le] at this; omega
    refine W.seq ?_
    refine W.seq ?_
    refine W.region ?_
    refine L.op1 rfl rfl (GSpec.plain rfl (spec_move rfl (Get.tmp rfl))) ?_
    refine L.op1 rfl rfl (GSpec.plain rfl (spec_move rfl (Get.tmp rfl))) ?_
    refine L.op1 rfl rfl (GSpec.plain rfl (spec_len rfl Tryd.underlying52 (Get.tmp rfl))) ?_
    refine L.op1 rfl rfl (GSpec.plain rfl (spec_lss rfl (Get.tmp rfl) (Get.tmp rfl))) ?_
    refine L.nil ?_
    refine N.thenW ?_
    refine W.cond (Get.tmp rfl) (fun h2 => ?_) (fun h2 => ?_)
    · have ph2 := h2; try simp only [decide_eq_true_eq, decide_eq_false_iff_not, Bool.and_eq_true, Bool.or_eq_true, Bool.and_eq_false_iff, Bool.or_eq_false_iff, Bool.not_eq_true', Bool.not_eq_false', Bool.not_true, Bool.not_false, Int.not_lt, Int.not_le] at ph2
      refine W.skip ?_
      refine N.thenW ?_
      refine W.seq ?_
      refine W.block ?_
      refine W.seq ?_
      apply W.any 10 mixed (by kernel_rfl)
      · apply Head.one rfl rfl (GSpec.plain rfl (spec_move rfl (Get.tmp rfl)))
        apply Head.one rfl rfl (GSpec.plain rfl (spec_move rfl (Get.tmp rfl)))
        apply Head.one rfl rfl (GSpec.plain rfl (spec_indexAddrD (E := eIt) rfl Tryd.underlying52 Tryd.sizeOf86 (fun _ => rfl) (Get.tmp rfl) (Get.tmp rfl) (by omega)))
        apply Head.one rfl rfl (GSpec.plain rfl (spec_loadPA rfl Tryd.isAgg86 Tryd.sizeOf86 (Get.tmp rfl) rfl))
        apply Head.one rfl rfl (GSpec.plain rfl (spec_move rfl (Get.tmp rfl)))
        apply Head.one rfl rfl (GSpec.plain rfl (spec_move rfl (Get.tmp rfl)))
        apply Head.one rfl rfl (GSpec.plain rfl (spec_indexAddrD (E := eIt) rfl Tryd.underlying52 Tryd.sizeOf86 (fun _ => rfl) (Get.tmp rfl) (Get.tmp rfl) (by omega)))
        apply Head.one rfl rfl (GSpec.plain rfl (spec_loadPA rfl Tryd.isAgg86 Tryd.sizeOf86 (Get.tmp rfl) rfl))
        apply Head.one rfl rfl (GSpec.plain rfl (spec_call rfl Tryd.call64 (ih _ (getD_mem' (by omega)) _) (.cons (Get.tmp rfl) (.cons (Get.tmp rfl) .nil))))
        apply Head.one rfl rfl (GSpec.plain rfl (spec_not rfl (Get.tmp rfl)))
        exact Head.nil
      refine Fin.one ?_
      refine Fin.one ?_
      refine Fin.one ?_
      refine Fin.one ?_
      refine Fin.one ?_
      refine Fin.one ?_
      refine Fin.one ?_
      refine Fin.one ?_
      refine Fin.one ?_
      refine Fin.one ?_
      refine Fin.nil ?_
      refine L.nil ?_
      refine N.thenW ?_
      refine W.cond (Get.tmp rfl) (fun h3 => ?_) (fun h3 => ?_)
      · have ph3 := h3; try simp only [decide_eq_true_eq, decide_eq_false_iff_not, Bool.and_eq_true, Bool.or_eq_true, Bool.and_eq_false_iff, Bool.or_eq_false_iff, Bool.not_eq_true', Bool.not_eq_false', Bool.not_true, Bool.not_false, Int.not_lt, Int.not_le] at ph3
        refine W.seq ?_
        refine W.region ?_
        refine L.op1 rfl rfl (GSpec.plain rfl (spec_assign rfl Get.cbool)) ?_
        refine L.nil ?_
        refine N.thenW ?_
        refine W.ret ?_
        refine N.ret () rfl (.tmp (t := 4) (Get.tmp rfl) .nil) (res1 (eqB ?_)) .nil (fun _ _ h => h)
        symm; rw [decide_eq_false_iff_not]; intro e; subst e; simp at h3
      · have ph3 := h3; try simp only [decide_eq_true_eq, decide_eq_false_iff_not, Bool.and_eq_true, Bool.or_eq_true, Bool.and_eq_false_iff, Bool.or_eq_false_iff, Bool.not_eq_true', Bool.not_eq_false', Bool.not_true, Bool.not_false, Int.not_lt, Int.not_le] at ph3
        refine W.skip ?_
        refine N.blockNormal ?_
        refine N.thenW ?_
        refine W.region ?_
        refine L.op1 rfl rfl (GSpec.plain rfl (spec_move rfl (Get.tmp rfl))) ?_
        first | refine L.op1 rfl rfl (GSpec.plain rfl (fit_i64 (by omega) (by omega) (spec_add rfl (Get.tmp rfl) (Get.cint rfl)))) ?_ | refine L.op1 rfl rfl (GSpec.plain rfl (spec_add rfl (Get.tmp rfl) (Get.cint rfl))) ?_
        refine L.op1 rfl rfl (GSpec.plain rfl (spec_assign rfl (Get.tmp rfl))) ?_
        refine L.nil ?_
        refine N.roundK (i + 1) ?hI2 ?hmu2 ?hs2 ?hk2 ?hp2
        case hs2 => exact (.cons (t := 5) rfl .nil)
        case hk2 => exact (.cons (t := 0) rfl (.cons (t := 1) rfl .nil))
        case hp2 => exact .nil
        case hI2 => exact ⟨by omega, upto hI2 (by simpa using h3)⟩
        case hmu2 => omega
    · have ph2 := h2; try simp only [decide_eq_true_eq, decide_eq_false_iff_not, Bool.and_eq_true, Bool.or_eq_true, Bool.and_eq_false_iff, Bool.or_eq_false_iff, Bool.not_eq_true', Bool.not_eq_false', Bool.not_true, Bool.not_false, Int.not_lt, Int.not_le] at ph2
      refine W.exit ?_
      refine N.thenExit ?_
      refine N.thenExit ?_
      refine N.blockExit ?_
      refine N.thenW ?_
      refine W.keep .nil .refl ?_
      refine W.seq ?_
      refine W.region ?_
      refine L.op1 rfl rfl (GSpec.plain rfl (spec_assign rfl Get.cbool)) ?_
      refine L.nil ?_
      refine N.thenW ?_
      refine W.ret ?_
      refine N.ret () rfl (.tmp (t := 4) (Get.tmp rfl) .nil) (res1 (eqB ?_)) .nil (fun _ _ h => h)
      symm; rw [decide_eq_true_eq]; exact ext_get (by have := h1; simp at this; omega) fun j hj => hI2 j (by omega)

theorem count_step (l : List It) (ih : ∀ x ∈ l, CallT Tryd.prog 29 [Rp.slice eIt x.items] [] (.one (Rp.int .i64 (cntL x.items 0))) ∧ CallT Tryd.prog 29 [Rp.slice eIt x.els] [] (.one (Rp.int .i64 (cntL x.els 0)))) : CallT Tryd.prog 29 [Rp.slice eIt l] [] (.one (Rp.int .i64 (cntL l 0))) := by
  refine W.enter (fn := Tryd.f29) (n := 32) Tryd.func29 rfl Tryd.ntmps29 rfl (fun w₀ C₀ => ?_)
  simp only [argS]
  refine W.fact 0 rfl slice_fact fun hl => ?_
  refine W.seq ?_
  refine W.region ?_
  refine L.op1 rfl rfl (GSpec.plain rfl (spec_assign rfl (Get.cint rfl))) ?_
  refine L.nil ?_
  refine N.thenW ?_
  refine W.seq ?_
  refine W.region ?_
  refine L.op1 rfl rfl (GSpec.plain rfl (spec_assign rfl (Get.cint rfl))) ?_
  refine L.nil ?_
  refine N.thenW ?_
  refine W.seq ?_
  refine W.seq ?_
  refine W.region ?_
  refine L.op1 rfl rfl (GSpec.plain rfl (spec_assign rfl (Get.cint rfl))) ?_
  refine L.nil ?_
  refine N.thenW ?_
  refine W.block ?_
  refine W.loopK (σ := Nat × Int) (.cons (t := 0) rfl (.cons (t := 2) rfl .nil)) (fun z => [(4, Rp.int .i64 (z.1 : Nat)), (3, Rp.int .i64 z.2)]) (fun z => []) (fun z => z.1 ≤ l.length ∧ cntL (l.drop z.1) z.2 = cntL l 0) (fun z => l.length - z.1) (0, 0) ⟨Nat.zero_le _, rfl⟩ (.cons (t := 4) rfl (.cons (t := 3) rfl .nil)) .nil ?_
  intro ⟨i, n⟩ hI S' M' hS hM
  obtain ⟨hI1, hI2⟩ := hI
  try dsimp only at hS hM
  simp only [List.cons_append, List.nil_append] at hS hM
  subst hS hM
  try dsimp only
  try dsimp only at hI1 hI2
  refine W.seq ?_
  refine W.seq ?_
  refine W.region ?_
  refine L.op1 rfl rfl (GSpec.plain rfl (spec_move rfl (Get.tmp rfl))) ?_
  refine L.op1 rfl rfl (GSpec.plain rfl (spec_move rfl (Get.tmp rfl))) ?_
  refine L.op1 rfl rfl (GSpec.plain rfl (spec_len rfl Tryd.underlying52 (Get.tmp rfl))) ?_
  refine L.op1 rfl rfl (GSpec.plain rfl (spec_lss rfl (Get.tmp rfl) (Get.tmp rfl))) ?_
  refine L.op1 rfl rfl (GSpec.plain rfl (spec_move rfl (Get.tmp rfl))) ?_
  refine L.op1 rfl rfl (GSpec.guard rfl rfl rfl fun hg => (spec_move rfl (Get.tmp rfl))) ?_
  refine L.op1 rfl rfl (GSpec.guard rfl rfl rfl fun hg => (spec_lss rfl (Get.opt rfl hg) (Get.cint rfl))) ?_
  refine L.op1 rfl rfl (GSpec.plain rfl (spec_and rfl (Get.tmp rfl) (fun hb => (Get.opt rfl hb)))) ?_
  refine L.nil ?_
  refine N.thenW ?_
  refine W.cond (Get.tmp rfl) (fun h1 => ?_) (fun h1 => ?_)
  · have ph1 := h1; simp only [decide_eq_true_eq, decide_eq_false_iff_not, Bool.and_eq_true, Bool.or_eq_true, Bool.and_eq_false_iff, Bool.or_eq_false_iff, Bool.not_eq_true', Bool.not_eq_false', Bool.not_true, Bool.not_false, Int.not_lt, Int.not_le] at ph1
    refine W.skip ?_
    refine N.thenW ?_
    refine W.seq ?_
    refine W.block ?_
    apply W.any 17 mixed (by kernel_rfl)
    · apply Head.one rfl rfl (GSpec.plain rfl (spec_move rfl (Get.tmp rfl)))
      apply Head.one rfl rfl (GSpec.plain rfl (spec_move rfl (Get.tmp rfl)))
      apply Head.one rfl rfl (GSpec.plain rfl (spec_move rfl (Get.tmp rfl)))
      apply Head.one rfl rfl (GSpec.plain rfl (spec_indexAddrD (E := eIt) rfl Tryd.underlying52 Tryd.sizeOf86 (fun _ => rfl) (Get.tmp rfl) (Get.tmp rfl) (by omega)))
      apply Head.one rfl rfl (GSpec.plain rfl (spec_fieldAddrP (f := 5) rfl Tryd.underlying86 rfl Tryd.sizeOf52 (Get.tmp rfl) rfl rfl))
      apply Head.one rfl rfl (GSpec.plain rfl (Spec.eq (its_eq _) (spec_loadP1 rfl Tryd.isAgg52 (Get.tmp rfl))))
      apply Head.one rfl rfl (GSpec.plain rfl (spec_call rfl Tryd.call29 (ih _ (getD_mem' (by omega))).1 (.cons (Get.tmp rfl) .nil)))
      apply Head.one rfl rfl (GSpec.plain rfl (spec_add rfl (Get.cint rfl) (Get.tmp rfl)))
      apply Head.one rfl rfl (GSpec.plain rfl (spec_move rfl (Get.tmp rfl)))
      apply Head.one rfl rfl (GSpec.plain rfl (spec_move rfl (Get.tmp rfl)))
      apply Head.one rfl rfl (GSpec.plain rfl (spec_indexAddrD (E := eIt) rfl Tryd.underlying52 Tryd.sizeOf86 (fun _ => rfl) (Get.tmp rfl) (Get.tmp rfl) (by omega)))
      apply Head.one rfl rfl (GSpec.plain rfl (spec_fieldAddrP (f := 6) rfl Tryd.underlying86 rfl Tryd.sizeOf52 (Get.tmp rfl) rfl rfl))
      apply Head.one rfl rfl (GSpec.plain rfl (Spec.eq (its_eq _) (spec_loadP1 rfl Tryd.isAgg52 (Get.tmp rfl))))
      apply Head.one rfl rfl (GSpec.plain rfl (spec_call rfl Tryd.call29 (ih _ (getD_mem' (by omega))).2 (.cons (Get.tmp rfl) .nil)))
      apply Head.one rfl rfl (GSpec.plain rfl (spec_add rfl (Get.tmp rfl) (Get.tmp rfl)))
      apply Head.one rfl rfl (GSpec.plain rfl (spec_add rfl (Get.tmp rfl) (Get.tmp rfl)))
      apply Head.one rfl rfl (GSpec.plain rfl (spec_assign rfl (Get.tmp rfl)))
      exact Head.nil
    refine Fin.one ?_
    refine Fin.one ?_
    refine Fin.one ?_
    refine Fin.one ?_
    refine Fin.one ?_
    refine Fin.one ?_
    refine Fin.one ?_
    refine Fin.one ?_
    refine Fin.one ?_
    refine Fin.one ?_
    refine Fin.one ?_
    refine Fin.one ?_
    refine Fin.one ?_
    refine Fin.one ?_
    refine Fin.one ?_
    refine Fin.one ?_
    refine Fin.one ?_
    refine Fin.nil ?_
    refine L.nil ?_
    refine N.blockNormal ?_
    refine N.thenW ?_
    refine W.region ?_
    refine L.op1 rfl rfl (GSpec.plain rfl (spec_move rfl (Get.tmp rfl))) ?_
    first | refine L.op1 rfl rfl (GSpec.plain rfl (fit_i64 (by omega) (by omega) (spec_add rfl (Get.tmp rfl) (Get.cint rfl)))) ?_ | refine L.op1 rfl rfl (GSpec.plain rfl (spec_add rfl (Get.tmp rfl) (Get.cint rfl))) ?_
    refine L.op1 rfl rfl (GSpec.plain rfl (spec_assign rfl (Get.tmp rfl))) ?_
    refine L.nil ?_
    refine N.roundK (i + 1, IntKind.i64.wrap (n + IntKind.i64.wrap (IntKind.i64.wrap (1 + cntL (l.getD i default).items 0) + cntL (l.getD i default).els 0))) ?hI3 ?hmu3 ?hs3 ?hk3 ?hp3
    case hs3 => exact (.cons (t := 4) rfl (.cons (t := 3) rfl .nil))
    case hk3 => exact (.cons (t := 0) rfl (.cons (t := 2) rfl .nil))
    case hp3 => exact .nil
    case hI3 => exact ⟨by dsimp only; omega, cnt_next (by omega) (by omega) hI2⟩
    case hmu3 => dsimp only; omega
  · have ph1 := h1; simp only [decide_eq_true_eq, decide_eq_false_iff_not, Bool.and_eq_true, Bool.or_eq_true, Bool.and_eq_false_iff, Bool.or_eq_false_iff, Bool.not_eq_true', Bool.not_eq_false', Bool.not_true, Bool.not_false, Int.not_lt, Int.not_le] at ph1
    refine W.exit ?_
    refine N.thenExit ?_
    refine N.thenExit ?_
    refine N.blockExit ?_
    refine N.thenW ?_
    refine W.keep (.cons (t := 2) rfl (.cons (t := 3) rfl .nil)) .refl ?_
    refine W.seq ?_
    refine W.region ?_
    refine L.op1 rfl rfl (GSpec.plain rfl (spec_move rfl (Get.tmp rfl))) ?_
    refine L.op1 rfl rfl (GSpec.plain rfl (spec_assign rfl (Get.tmp rfl))) ?_
    refine L.nil ?_
    refine N.thenW ?_
    refine W.ret ?_
    refine N.ret () rfl (.tmp (t := 2) (Get.tmp rfl) .nil) (res1 (eqI ?_)) .nil (fun _ _ h => h)
    exact cnt_end hI2 (by omega)

end Go.Proofs.YtcabngjnmipflaaDoor
/- Equality of constraints; counting them. -/
namespace Go.Proofs.YtcabngjnmipflaaDoor
open Go.Sim
def SameL (l : List It) : Prop := ∀ k, CallT Tryd.prog 47 [Rp.slice eIt l, Rp.slice eIt k] [] (.one (Rp.bool (decide (l = k))))
theorem same_all : ∀ x : It, SameL x.items ∧ SameL x.els :=
  It.ind fun _ h1 h2 => ⟨fun k => sameL_step _ k fun x hx y => sameI_step x y (h1 x hx).1 (h1 x hx).2, fun k => sameL_step _ k fun x hx y => sameI_step x y (h2 x hx).1 (h2 x hx).2⟩
theorem sameI_ok (a b : It) : CallT Tryd.prog 64 [Rp.agg (eIt a), Rp.agg (eIt b)] [] (.one (Rp.bool (decide (a = b)))) := sameI_step a b (same_all a).1 (same_all a).2
theorem sameL_ok (l k : List It) : CallT Tryd.prog 47 [Rp.slice eIt l, Rp.slice eIt k] [] (.one (Rp.bool (decide (l = k)))) := sameL_step l k fun x _ y => sameI_ok x y
def CountI (l : List It) : Prop := CallT Tryd.prog 29 [Rp.slice eIt l] [] (.one (Rp.int .i64 (cntL l 0)))
theorem count_all : ∀ x : It, CountI x.items ∧ CountI x.els := It.ind fun _ h1 h2 => ⟨count_step _ h1, count_step _ h2⟩
theorem count_ok (l : List It) : CallT Tryd.prog 29 [Rp.slice eIt l] [] (.one (Rp.int .i64 (cntL l 0))) := count_step l fun x _ => count_all x
end Go.Proofs.YtcabngjnmipflaaDoor
set_option linter.unusedSimpArgs false
set_option maxRecDepth 8000
set_option linter.unusedVariables false
namespace Go.Proofs.YtcabngjnmipflaaDoor
open Go.Sim
theorem smallC_ok (c : Cl) : CallT Tryd.prog 9 [Rp.agg (eC c)] [] (anyB) := by
  refine W.enter (fn := Tryd.f9) (n := 29) Tryd.func9 rfl Tryd.ntmps9 rfl (fun w₀ C₀ => ?_)
  simp only [argS]
  refine W.fact 0 rfl cl_fact fun hcl => ?_
  refine W.seq ?_
  refine W.region ?_
  refine L.box rfl rfl (GSpec.plain rfl (spec_box rfl (GetC.agg (Get.tmp rfl)))) (fun r1 => ?_)
  refine L.op1 rfl rfl (GSpec.plain rfl (spec_assign rfl Get.cbool)) ?_
  refine L.nil ?_
  refine N.thenW ?_
  refine W.seq ?_
  refine W.seq ?_
  refine W.region ?_
  refine L.op1 rfl rfl (GSpec.plain rfl (spec_fieldAddr (f := 2) (off' := 2) rfl Tryd.underlying25 rfl Tryd.sizeOf22 (Get.tmp rfl) rfl)) ?_
  refine L.op1 rfl rfl (GSpec.plain rfl (spec_load1 (k := 0) rfl Tryd.isAgg22 (Get.tmp rfl) rfl rfl)) ?_
  refine L.op1 rfl rfl (GSpec.plain rfl (spec_len rfl Tryd.underlying22 (Get.tmp rfl))) ?_
  refine L.op1 rfl rfl (GSpec.plain rfl (spec_gtr rfl (Get.tmp rfl) (Get.cint rfl))) ?_
  refine L.op1 rfl rfl (GSpec.plain rfl (spec_move rfl (Get.tmp rfl))) ?_
  refine L.op1 rfl rfl (GSpec.guard rfl rfl rfl fun hg => (spec_fieldAddr (f := 3) (off' := 3) rfl Tryd.underlying25 rfl Tryd.sizeOf23 (Get.tmp rfl) rfl)) ?_
  refine L.op1 rfl rfl (GSpec.guard rfl rfl rfl fun hg => (spec_load1 (k := 0) rfl Tryd.isAgg23 (Get.opt rfl hg) rfl rfl)) ?_
  refine L.op1 rfl rfl (GSpec.guard rfl rfl rfl fun hg => (spec_len rfl Tryd.underlying23 (Get.opt rfl hg))) ?_
  refine L.op1 rfl rfl (GSpec.guard rfl rfl rfl fun hg => (spec_gtr rfl (Get.opt rfl hg) (Get.cint rfl))) ?_
  refine L.op1 rfl rfl (GSpec.plain rfl (spec_or rfl (Get.tmp rfl) (fun hb => (Get.opt rfl hb)))) ?_
  refine L.nil ?_
  refine N.thenW ?_
  refine W.keep (.cons (t := 1) rfl (.cons (t := 2) rfl (.cons (t := 13) rfl .nil))) .refl ?_
  refine W.cond (Get.tmp rfl) (fun h1 => ?_) (fun h1 => ?_)
  · have ph1 := h1; try simp only [decide_eq_true_eq, decide_eq_false_iff_not, Bool.and_eq_true, Bool.or_eq_true, Bool.and_eq_false_iff, Bool.or_eq_false_iff, Bool.not_eq_true', Bool.not_eq_false', Bool.not_true, Bool.not_false, Int.not_lt, Int.not_le] at ph1
    refine W.seq ?_
    refine W.region ?_
    refine L.op1 rfl rfl (GSpec.plain rfl (spec_assign rfl Get.cbool)) ?_
    refine L.nil ?_
    refine N.thenW ?_
    refine W.ret ?_
    refine N.ret (X := (anyB)) false rfl (.tmp (t := 2) (Get.tmp rfl) .nil) (res1 (eqB ?_)) .nil (fun _ _ h => h)
    rfl
  · have ph1 := h1; try simp only [decide_eq_true_eq, decide_eq_false_iff_not, Bool.and_eq_true, Bool.or_eq_true, Bool.and_eq_false_iff, Bool.or_eq_false_iff, Bool.not_eq_true', Bool.not_eq_false', Bool.not_true, Bool.not_false, Int.not_lt, Int.not_le] at ph1
    refine W.skip ?_
    refine N.thenW ?_
    refine W.seq ?_
    refine W.seq ?_
    refine W.region ?_
    refine L.op1 rfl rfl (GSpec.plain rfl (spec_assign rfl (Get.cint rfl))) ?_
    refine L.nil ?_
    refine N.thenW ?_
    refine W.block ?_
    -- assigned in the loop, not kept: [2]
    refine W.loopK (σ := Nat) (.cons (t := 1) rfl .nil) (fun z => [(3, Rp.int .i64 (z : Nat))]) (fun z => []) (fun z => z ≤ c.blocks.length) (fun z => c.blocks.length - z) 0 (Nat.zero_le _) (.cons (t := 3) rfl .nil) (.cons 0 rfl .nil) ?_
    intro i hI S' M' hS hM
    try dsimp only at hS hM
    simp only [List.cons_append, List.nil_append] at hS hM
    subst hS hM
    try dsimp only
    refine W.seq ?_
    refine W.seq ?_
    refine W.region ?_
    refine L.op1 rfl rfl (GSpec.plain rfl (spec_move rfl (Get.tmp rfl))) ?_
    refine L.op1 rfl rfl (GSpec.plain rfl (spec_fieldAddr (f := 3) (off' := 3) rfl Tryd.underlying25 rfl Tryd.sizeOf23 (Get.tmp rfl) rfl)) ?_
    refine L.op1 rfl rfl (GSpec.plain rfl (spec_load1 (k := 0) rfl Tryd.isAgg23 (Get.tmp rfl) rfl rfl)) ?_
    refine L.op1 rfl rfl (GSpec.plain rfl (spec_len rfl Tryd.underlying23 (Get.tmp rfl))) ?_
    refine L.op1 rfl rfl (GSpec.plain rfl (spec_lss rfl (Get.tmp rfl) (Get.tmp rfl))) ?_
    refine L.nil ?_
    refine N.thenW ?_
    refine W.cond (Get.tmp rfl) (fun h2 => ?_) (fun h2 => ?_)
    · have ph2 := h2; try simp only [decide_eq_true_eq, decide_eq_false_iff_not, Bool.and_eq_true, Bool.or_eq_true, Bool.and_eq_false_iff, Bool.or_eq_false_iff, Bool.not_eq_true', Bool.not_eq_false', Bool.not_true, Bool.not_false, Int.not_lt, Int.not_le] at ph2
      refine W.skip ?_
      refine N.thenW ?_
      refine W.seq ?_
      refine W.block ?_
      refine W.seq ?_
      refine W.region ?_
      refine L.op1 rfl rfl (GSpec.plain rfl (spec_fieldAddr (f := 3) (off' := 3) rfl Tryd.underlying25 rfl Tryd.sizeOf23 (Get.tmp rfl) rfl)) ?_
      refine L.op1 rfl rfl (GSpec.plain rfl (spec_load1 (k := 0) rfl Tryd.isAgg23 (Get.tmp rfl) rfl rfl)) ?_
      refine L.op1 rfl rfl (GSpec.plain rfl (spec_move rfl (Get.tmp rfl))) ?_
      refine L.op1 rfl rfl (GSpec.plain rfl (spec_indexAddrD (E := eBk) rfl Tryd.underlying23 Tryd.sizeOf54 (fun _ => rfl) (Get.tmp rfl) (Get.tmp rfl) (by omega))) ?_
      refine L.op1 rfl rfl (GSpec.plain rfl (spec_fieldAddrP (f := 1) rfl Tryd.underlying54 rfl Tryd.sizeOf52 (Get.tmp rfl) rfl rfl)) ?_
      refine L.op1 rfl rfl (GSpec.plain rfl (Spec.eq (its_eq _) (spec_loadP1 rfl Tryd.isAgg52 (Get.tmp rfl)))) ?_
      refine L.op1 rfl rfl (GSpec.plain rfl (spec_call rfl Tryd.call29 (count_ok _) (.cons (Get.tmp rfl) .nil))) ?_
      refine L.op1 rfl rfl (GSpec.plain rfl (spec_gtr rfl (Get.tmp rfl) (Get.cint rfl))) ?_
      refine L.nil ?_
      refine N.thenW ?_
      refine W.cond (Get.tmp rfl) (fun h3 => ?_) (fun h3 => ?_)
      · have ph3 := h3; try simp only [decide_eq_true_eq, decide_eq_false_iff_not, Bool.and_eq_true, Bool.or_eq_true, Bool.and_eq_false_iff, Bool.or_eq_false_iff, Bool.not_eq_true', Bool.not_eq_false', Bool.not_true, Bool.not_false, Int.not_lt, Int.not_le] at ph3
        refine W.seq ?_
        refine W.region ?_
        refine L.op1 rfl rfl (GSpec.plain rfl (spec_assign rfl Get.cbool)) ?_
        refine L.nil ?_
        refine N.thenW ?_
        refine W.ret ?_
        refine N.ret (X := (anyB)) false rfl (.tmp (t := 2) (Get.tmp rfl) .nil) (res1 (eqB ?_)) .nil (fun _ _ h => h)
        rfl
      · have ph3 := h3; try simp only [decide_eq_true_eq, decide_eq_false_iff_not, Bool.and_eq_true, Bool.or_eq_true, Bool.and_eq_false_iff, Bool.or_eq_false_iff, Bool.not_eq_true', Bool.not_eq_false', Bool.not_true, Bool.not_false, Int.not_lt, Int.not_le] at ph3
        refine W.skip ?_
        refine N.blockNormal ?_
        refine N.thenW ?_
        refine W.region ?_
        refine L.op1 rfl rfl (GSpec.plain rfl (spec_move rfl (Get.tmp rfl))) ?_
        first | refine L.op1 rfl rfl (GSpec.plain rfl (fit_i64 (by omega) (by omega) (spec_add rfl (Get.tmp rfl) (Get.cint rfl)))) ?_ | refine L.op1 rfl rfl (GSpec.plain rfl (spec_add rfl (Get.tmp rfl) (Get.cint rfl))) ?_
        refine L.op1 rfl rfl (GSpec.plain rfl (spec_assign rfl (Get.tmp rfl))) ?_
        refine L.nil ?_
        refine N.roundK (i + 1) ?hI1 ?hmu1 ?hs1 ?hk1 ?hp1
        case hs1 => exact (.cons (t := 3) rfl .nil)
        case hk1 => exact (.cons (t := 1) rfl .nil)
        case hp1 => exact (.cons 0 rfl .nil)
        all_goals (first | rfl | trivial | omega | (simp_all; done))
    · have ph2 := h2; try simp only [decide_eq_true_eq, decide_eq_false_iff_not, Bool.and_eq_true, Bool.or_eq_true, Bool.and_eq_false_iff, Bool.or_eq_false_iff, Bool.not_eq_true', Bool.not_eq_false', Bool.not_true, Bool.not_false, Int.not_lt, Int.not_le] at ph2
      refine W.exit ?_
      refine N.thenExit ?_
      refine N.thenExit ?_
      refine N.blockExit ?_
      refine N.thenW ?_
      refine W.keep .nil .refl ?_
      refine W.seq ?_
      refine W.region ?_
      refine L.op1 rfl rfl (GSpec.plain rfl (spec_assign rfl Get.cbool)) ?_
      refine L.nil ?_
      refine N.thenW ?_
      refine W.ret ?_
      refine N.ret (X := (anyB)) true rfl (.tmp (t := 2) (Get.tmp rfl) .nil) (res1 (eqB ?_)) .nil (fun _ _ h => h)
      rfl

theorem few_ok (src : List Cl) : CallT Tryd.prog 17 [Rp.slice eC src] [] (fewX src) := by
  refine W.enter (fn := Tryd.f17) (n := 23) Tryd.func17 rfl Tryd.ntmps17 rfl (fun w₀ C₀ => ?_)
  simp only [argS]
  refine W.fact 0 rfl slice_fact fun hl => ?_
  refine W.seq ?_
  refine W.region ?_
  refine L.op1 rfl rfl (GSpec.plain rfl (spec_assign rfl Get.cbool)) ?_
  refine L.nil ?_
  refine N.thenW ?_
  refine W.seq ?_
  refine W.seq ?_
  refine W.region ?_
  refine L.op1 rfl rfl (GSpec.plain rfl (spec_assign rfl (Get.cint rfl))) ?_
  refine L.nil ?_
  refine N.thenW ?_
  refine W.block ?_
  -- assigned in the loop, not kept: [2]
  refine W.loopK (σ := Nat) (.cons (t := 0) rfl .nil) (fun z => [(3, Rp.int .i64 (z : Nat))]) (fun z => []) (fun z => z ≤ src.length) (fun z => src.length - z) 0 (Nat.zero_le _) (.cons (t := 3) rfl .nil) .nil ?_
  intro i hI S' M' hS hM
  try dsimp only at hS hM
  simp only [List.cons_append, List.nil_append] at hS hM
  subst hS hM
  try dsimp only
  refine W.seq ?_
  refine W.seq ?_
  refine W.region ?_
  refine L.op1 rfl rfl (GSpec.plain rfl (spec_move rfl (Get.tmp rfl))) ?_
  refine L.op1 rfl rfl (GSpec.plain rfl (spec_move rfl (Get.tmp rfl))) ?_
  refine L.op1 rfl rfl (GSpec.plain rfl (spec_len rfl Tryd.underlying38 (Get.tmp rfl))) ?_
  refine L.op1 rfl rfl (GSpec.plain rfl (spec_lss rfl (Get.tmp rfl) (Get.tmp rfl))) ?_
  refine L.op1 rfl rfl (GSpec.plain rfl (spec_move rfl (Get.tmp rfl))) ?_
  refine L.op1 rfl rfl (GSpec.guard rfl rfl rfl fun hg => (spec_move rfl (Get.tmp rfl))) ?_
  refine L.op1 rfl rfl (GSpec.guard rfl rfl rfl fun hg => (spec_lss rfl (Get.opt rfl hg) (Get.cint rfl))) ?_
  refine L.op1 rfl rfl (GSpec.plain rfl (spec_and rfl (Get.tmp rfl) (fun hb => (Get.opt rfl hb)))) ?_
  refine L.nil ?_
  refine N.thenW ?_
  refine W.cond (Get.tmp rfl) (fun h1 => ?_) (fun h1 => ?_)
  · have ph1 := h1; simp only [decide_eq_true_eq, decide_eq_false_iff_not, Bool.and_eq_true, Bool.or_eq_true, Bool.and_eq_false_iff, Bool.or_eq_false_iff, Bool.not_eq_true', Bool.not_eq_false', Bool.not_true, Bool.not_false, Int.not_lt, Int.not_le] at ph1
    refine W.skip ?_
    refine N.thenW ?_
    refine W.seq ?_
    refine W.block ?_
    refine W.seq ?_
    refine W.region ?_
    refine L.op1 rfl rfl (GSpec.plain rfl (spec_move rfl (Get.tmp rfl))) ?_
    refine L.op1 rfl rfl (GSpec.plain rfl (spec_move rfl (Get.tmp rfl))) ?_
    refine L.op1 rfl rfl (GSpec.plain rfl (spec_indexAddrD (E := eC) rfl Tryd.underlying38 Tryd.sizeOf25 (fun _ => rfl) (Get.tmp rfl) (Get.tmp rfl) (by omega))) ?_
    refine L.op1 rfl rfl (GSpec.plain rfl (spec_loadPA rfl Tryd.isAgg25 Tryd.sizeOf25 (Get.tmp rfl) rfl)) ?_
    refine L.op rfl rfl (GSpec.plain rfl (spec_call rfl Tryd.call9 (smallC_ok _) (.cons (Get.tmp rfl) .nil))) (fun b18 => ?_)
    try dsimp only
    refine L.op1 rfl rfl (GSpec.plain rfl (spec_not rfl (Get.tmp rfl))) ?_
    refine L.nil ?_
    refine N.thenW ?_
    refine W.cond (Get.tmp rfl) (fun h2 => ?_) (fun h2 => ?_)
    · have ph2 := h2; try simp only [decide_eq_true_eq, decide_eq_false_iff_not, Bool.and_eq_true, Bool.or_eq_true, Bool.and_eq_false_iff, Bool.or_eq_false_iff, Bool.not_eq_true', Bool.not_eq_false', Bool.not_true, Bool.not_false, Int.not_lt, Int.not_le] at ph2
      refine W.seq ?_
      refine W.region ?_
      refine L.op1 rfl rfl (GSpec.plain rfl (spec_assign rfl Get.cbool)) ?_
      refine L.nil ?_
      refine N.thenW ?_
      refine W.ret ?_
      refine N.ret (X := (fewX _)) ⟨false, fun h => by cases h⟩ rfl (.tmp (t := 2) (Get.tmp rfl) .nil) (res1 (eqB ?_)) .nil (fun _ _ h => h)
      rfl
    · have ph2 := h2; try simp only [decide_eq_true_eq, decide_eq_false_iff_not, Bool.and_eq_true, Bool.or_eq_true, Bool.and_eq_false_iff, Bool.or_eq_false_iff, Bool.not_eq_true', Bool.not_eq_false', Bool.not_true, Bool.not_false, Int.not_lt, Int.not_le] at ph2
      refine W.skip ?_
      refine N.blockNormal ?_
      refine N.thenW ?_
      refine W.region ?_
      refine L.op1 rfl rfl (GSpec.plain rfl (spec_move rfl (Get.tmp rfl))) ?_
      first | refine L.op1 rfl rfl (GSpec.plain rfl (fit_i64 (by omega) (by omega) (spec_add rfl (Get.tmp rfl) (Get.cint rfl)))) ?_ | refine L.op1 rfl rfl (GSpec.plain rfl (spec_add rfl (Get.tmp rfl) (Get.cint rfl))) ?_
      refine L.op1 rfl rfl (GSpec.plain rfl (spec_assign rfl (Get.tmp rfl))) ?_
      refine L.nil ?_
      refine N.roundK (i + 1) ?hI2 ?hmu2 ?hs2 ?hk2 ?hp2
      case hs2 => exact (.cons (t := 3) rfl .nil)
      case hk2 => exact (.cons (t := 0) rfl .nil)
      case hp2 => exact .nil
      all_goals (first | rfl | trivial | omega | (simp_all; done))
  · have ph1 := h1; simp only [decide_eq_true_eq, decide_eq_false_iff_not, Bool.and_eq_true, Bool.or_eq_true, Bool.and_eq_false_iff, Bool.or_eq_false_iff, Bool.not_eq_true', Bool.not_eq_false', Bool.not_true, Bool.not_false, Int.not_lt, Int.not_le] at ph1
    refine W.exit ?_
    refine N.thenExit ?_
    refine N.thenExit ?_
    refine N.blockExit ?_
    refine N.thenW ?_
    refine W.keep (.cons (t := 0) rfl .nil) .refl ?_
    refine W.seq ?_
    refine W.region ?_
    refine L.op1 rfl rfl (GSpec.plain rfl (spec_move rfl (Get.tmp rfl))) ?_
    refine L.op1 rfl rfl (GSpec.plain rfl (spec_len rfl Tryd.underlying38 (Get.tmp rfl))) ?_
    refine L.op1 rfl rfl (GSpec.plain rfl (spec_leq rfl (Get.tmp rfl) (Get.cint rfl))) ?_
    refine L.op1 rfl rfl (GSpec.plain rfl (spec_assign rfl (Get.tmp rfl))) ?_
    refine L.nil ?_
    refine N.thenW ?_
    refine W.ret ?_
    refine N.ret (X := (fewX _)) ⟨decide ((src.length : Int) ≤ 40), fun h => by rw [decide_eq_true_eq] at h; omega⟩ rfl (.tmp (t := 2) (Get.tmp rfl) .nil) (res1 (eqB ?_)) .nil (fun _ _ h => h)
    rfl

end Go.Proofs.YtcabngjnmipflaaDoor
set_option linter.unusedSimpArgs false
set_option maxRecDepth 8000
set_option linter.unusedVariables false
namespace Go.Proofs.YtcabngjnmipflaaDoor
open Go.Sim
theorem find_ok (src : List Cl) (s : List UInt8) : CallT Tryd.prog 48 [Rp.slice eC src, Rp.str s] [] (.one (Rp.tuple [Rp.agg (eC (findC src s).1), Rp.bool (findC src s).2])) := by
  refine W.enter (fn := Tryd.f48) (n := 21) Tryd.func48 rfl Tryd.ntmps48 rfl (fun w₀ C₀ => ?_)
  simp only [argS]
  refine W.fact 0 rfl slice_fact fun hl => ?_
  refine W.seq ?_
  refine W.region ?_
  refine L.box rfl rfl (GSpec.plain rfl (spec_alloc rfl ti25 z25)) (fun r4 => ?_)
  refine L.op1 rfl rfl (GSpec.plain rfl (spec_assign rfl Get.cbool)) ?_
  refine L.nil ?_
  refine N.thenW ?_
  refine W.seq ?_
  refine W.seq ?_
  refine W.region ?_
  refine L.op1 rfl rfl (GSpec.plain rfl (spec_move rfl (Get.tmp rfl))) ?_
  refine L.op1 rfl rfl (GSpec.plain rfl (spec_len rfl Tryd.underlying38 (Get.tmp rfl))) ?_
  refine L.op1 rfl rfl (GSpec.plain rfl (spec_move rfl (Get.cint rfl))) ?_
  refine L.nil ?_
  refine N.thenW ?_
  refine W.block ?_
  -- assigned in the loop, not kept: [5]
  refine W.loopK (σ := Nat) (.cons (t := 1) rfl (.cons (t := 4) rfl (.cons (t := 8) rfl (.cons (t := 9) rfl .nil)))) (fun z => [(10, Rp.int .i64 (z : Nat))]) (fun z => []) (fun z => z ≤ src.length ∧ ∀ j : Nat, j < z → (src.getD j default).name ≠ s) (fun z => src.length - z) 0 ⟨Nat.zero_le _, fun j hj => by omega⟩ (.cons (t := 10) rfl .nil) (.cons 0 rfl .nil) ?_
  intro i hI S' M' hS hM
  obtain ⟨hI1, hI2⟩ := hI
  try dsimp only at hS hM
  simp only [List.cons_append, List.nil_append] at hS hM
  subst hS hM
  try dsimp only
  refine W.seq ?_
  refine W.region ?_
  refine L.op1 rfl rfl (GSpec.plain rfl (spec_lss rfl (Get.tmp rfl) (Get.tmp rfl))) ?_
  refine L.nil ?_
  refine N.thenW ?_
  refine W.seq ?_
  refine W.cond (Get.tmp rfl) (fun h1 => ?_) (fun h1 => ?_)
  · have ph1 := h1; try simp only [decide_eq_true_eq, decide_eq_false_iff_not, Bool.and_eq_true, Bool.or_eq_true, Bool.and_eq_false_iff, Bool.or_eq_false_iff, Bool.not_eq_true', Bool.not_eq_false', Bool.not_true, Bool.not_false, Int.not_lt, Int.not_le] at ph1
    refine W.skip ?_
    refine N.thenW ?_
    refine W.seq ?_
    refine W.block ?_
    refine W.seq ?_
    refine W.region ?_
    refine L.op1 rfl rfl (GSpec.plain rfl (spec_indexAddrD (E := eC) rfl Tryd.underlying38 Tryd.sizeOf25 (fun _ => rfl) (Get.tmp rfl) (Get.tmp rfl) (by omega))) ?_
    refine L.op1 rfl rfl (GSpec.plain rfl (spec_loadPA rfl Tryd.isAgg25 Tryd.sizeOf25 (Get.tmp rfl) rfl)) ?_
    refine L.box rfl rfl (GSpec.plain rfl (spec_alloc rfl ti25 z25)) (fun r7 => ?_)
    refine L.storeW (k := 0) rfl rfl rfl Tryd.sizeOf25 (Get.tmp rfl) (Get.tmp rfl) rfl rfl rfl ?_
    refine L.nil ?_
    refine N.thenW ?_
    refine W.seq ?_
    refine W.region ?_
    refine L.op1 rfl rfl (GSpec.plain rfl (spec_fieldAddr (f := 0) (off' := 0) rfl Tryd.underlying25 rfl Tryd.sizeOf9 (Get.tmp rfl) rfl)) ?_
    refine L.op1 rfl rfl (GSpec.plain rfl (spec_load1 (k := 0) rfl Tryd.isAgg9 (Get.tmp rfl) rfl rfl)) ?_
    refine L.op1 rfl rfl (GSpec.plain rfl (spec_move rfl (Get.tmp rfl))) ?_
    refine L.op1 rfl rfl (GSpec.plain rfl (spec_eqlS rfl (Get.tmp rfl) (Get.tmp rfl))) ?_
    refine L.nil ?_
    refine N.thenW ?_
    refine W.cond (Get.tmp rfl) (fun h2 => ?_) (fun h2 => ?_)
    · have ph2 := h2; try simp only [decide_eq_true_eq, decide_eq_false_iff_not, Bool.and_eq_true, Bool.or_eq_true, Bool.and_eq_false_iff, Bool.or_eq_false_iff, Bool.not_eq_true', Bool.not_eq_false', Bool.not_true, Bool.not_false, Int.not_lt, Int.not_le] at ph2
      refine W.seq ?_
      refine W.region ?_
      refine L.op1 rfl rfl (GSpec.plain rfl (spec_loadW (k := 0) rfl Tryd.isAgg25 Tryd.sizeOf25 (Get.tmp rfl) rfl rfl)) ?_
      refine L.storeW (k := 1) rfl rfl rfl Tryd.sizeOf25 (Get.tmp rfl) (Get.tmp rfl) rfl rfl rfl ?_
      refine L.op1 rfl rfl (GSpec.plain rfl (spec_assign rfl Get.cbool)) ?_
      refine L.nil ?_
      refine N.thenW ?_
      refine W.ret ?_
      refine N.ret () rfl (.cellA (k := 1) (Get.tmp (t := 4) rfl) rfl Tryd.isAgg25 Tryd.sizeOf25 rfl (.tmp (t := 5) (Get.tmp rfl) .nil)) (res2w (eqA ?_) (eqB ?_)) .nil (fun _ _ h => h)
      all_goals rw [find_yes (by omega) (by simpa using h2) hI2]
      all_goals rfl
    · have ph2 := h2; try simp only [decide_eq_true_eq, decide_eq_false_iff_not, Bool.and_eq_true, Bool.or_eq_true, Bool.and_eq_false_iff, Bool.or_eq_false_iff, Bool.not_eq_true', Bool.not_eq_false', Bool.not_true, Bool.not_false, Int.not_lt, Int.not_le] at ph2
      refine W.skip ?_
      refine N.blockNormal ?_
      refine N.thenW ?_
      refine W.region ?_
      first | refine L.op1 rfl rfl (GSpec.plain rfl (fit_i64 (by omega) (by omega) (spec_add rfl (Get.tmp rfl) (Get.cint rfl)))) ?_ | refine L.op1 rfl rfl (GSpec.plain rfl (spec_add rfl (Get.tmp rfl) (Get.cint rfl))) ?_
      refine L.op1 rfl rfl (GSpec.plain rfl (spec_move rfl (Get.tmp rfl))) ?_
      refine L.nil ?_
      refine N.roundK (i + 1) ?hI1 ?hmu1 ?hs1 ?hk1 ?hp1
      case hs1 => exact (.cons (t := 10) rfl .nil)
      case hk1 => exact (.cons (t := 1) rfl (.cons (t := 4) rfl (.cons (t := 8) rfl (.cons (t := 9) rfl .nil))))
      case hp1 => exact (.cons 1 rfl .nil)
      case hI1 => exact ⟨by omega, upto hI2 (by simpa using h2)⟩
      case hmu1 => omega
  · have ph1 := h1; try simp only [decide_eq_true_eq, decide_eq_false_iff_not, Bool.and_eq_true, Bool.or_eq_true, Bool.and_eq_false_iff, Bool.or_eq_false_iff, Bool.not_eq_true', Bool.not_eq_false', Bool.not_true, Bool.not_false, Int.not_lt, Int.not_le] at ph1
    refine W.exit ?_
    refine N.thenExit ?_
    refine N.thenExit ?_
    refine N.blockExit ?_
    refine N.thenW ?_
    refine W.seq ?_
    refine W.region ?_
    refine L.op1 rfl rfl (GSpec.plain rfl (spec_build (Rs := [Rp.str [], Rp.str [], Rp.slice eF [], Rp.slice eBk []]) rfl ti25 z25 Tryd.underlying25 pl25 .nil)) ?_
    refine L.storeW (k := 0) rfl rfl rfl Tryd.sizeOf25 (Get.tmp rfl) (Get.tmp rfl) rfl rfl rfl ?_
    refine L.op1 rfl rfl (GSpec.plain rfl (spec_assign rfl Get.cbool)) ?_
    refine L.nil ?_
    refine N.thenW ?_
    refine W.keep (.cons (t := 4) rfl (.cons (t := 5) rfl .nil)) .refl ?_
    refine W.ret ?_
    refine N.ret () rfl (.cellA (k := 0) (Get.tmp (t := 4) rfl) rfl Tryd.isAgg25 Tryd.sizeOf25 rfl (.tmp (t := 5) (Get.tmp rfl) .nil)) (res2w (eqA ?_) (eqB ?_)) .nil (fun _ _ h => h)
    all_goals rw [find_no fun j hj => hI2 j (by omega)]
    all_goals rfl

theorem rfind_ok (src : List Cl) (s : List UInt8) : CallT Tryd.prog 24 [Rp.slice eC src, Rp.str s] [] (.one (Rp.tuple [Rp.agg (eC (findC src s).1), Rp.bool (findC src s).2])) := by
  refine W.enter (fn := Tryd.f24) (n := 25) Tryd.func24 rfl Tryd.ntmps24 rfl (fun w₀ C₀ => ?_)
  simp only [argS]
  refine W.fact 0 rfl slice_fact fun hl => ?_
  refine W.seq ?_
  refine W.region ?_
  refine L.box rfl rfl (GSpec.plain rfl (spec_alloc rfl ti25 z25)) (fun r4 => ?_)
  refine L.op1 rfl rfl (GSpec.plain rfl (spec_assign rfl Get.cbool)) ?_
  refine L.nil ?_
  refine N.thenW ?_
  refine W.seq ?_
  refine W.seq ?_
  refine W.region ?_
  refine L.op1 rfl rfl (GSpec.plain rfl (spec_assign rfl (Get.cint rfl))) ?_
  refine L.nil ?_
  refine N.thenW ?_
  refine W.block ?_
  -- assigned in the loop, not kept: [5]
  refine W.loopK (σ := Nat) (.cons (t := 0) rfl (.cons (t := 1) rfl (.cons (t := 4) rfl .nil))) (fun z => [(6, Rp.int .i64 (z : Nat))]) (fun z => []) (fun z => z ≤ src.length ∧ ∀ j : Nat, j < z → (src.getD j default).name ≠ s) (fun z => src.length - z) 0 ⟨Nat.zero_le _, fun j hj => by omega⟩ (.cons (t := 6) rfl .nil) (.cons 0 rfl .nil) ?_
  intro i hI S' M' hS hM
  obtain ⟨hI1, hI2⟩ := hI
  try dsimp only at hS hM
  simp only [List.cons_append, List.nil_append] at hS hM
  subst hS hM
  try dsimp only
  refine W.seq ?_
  refine W.seq ?_
  refine W.region ?_
  refine L.op1 rfl rfl (GSpec.plain rfl (spec_move rfl (Get.tmp rfl))) ?_
  refine L.op1 rfl rfl (GSpec.plain rfl (spec_move rfl (Get.tmp rfl))) ?_
  refine L.op1 rfl rfl (GSpec.plain rfl (spec_len rfl Tryd.underlying38 (Get.tmp rfl))) ?_
  refine L.op1 rfl rfl (GSpec.plain rfl (spec_lss rfl (Get.tmp rfl) (Get.tmp rfl))) ?_
  refine L.nil ?_
  refine N.thenW ?_
  refine W.cond (Get.tmp rfl) (fun h1 => ?_) (fun h1 => ?_)
  · have ph1 := h1; try simp only [decide_eq_true_eq, decide_eq_false_iff_not, Bool.and_eq_true, Bool.or_eq_true, Bool.and_eq_false_iff, Bool.or_eq_false_iff, Bool.not_eq_true', Bool.not_eq_false', Bool.not_true, Bool.not_false, Int.not_lt, Int.not_le] at ph1
    refine W.skip ?_
    refine N.thenW ?_
    refine W.seq ?_
    refine W.block ?_
    refine W.seq ?_
    refine W.region ?_
    refine L.op1 rfl rfl (GSpec.plain rfl (spec_move rfl (Get.tmp rfl))) ?_
    refine L.op1 rfl rfl (GSpec.plain rfl (spec_move rfl (Get.tmp rfl))) ?_
    refine L.op1 rfl rfl (GSpec.plain rfl (spec_indexAddrD (E := eC) rfl Tryd.underlying38 Tryd.sizeOf25 (fun _ => rfl) (Get.tmp rfl) (Get.tmp rfl) (by omega))) ?_
    refine L.op1 rfl rfl (GSpec.plain rfl (spec_fieldAddrP (f := 0) rfl Tryd.underlying25 rfl Tryd.sizeOf9 (Get.tmp rfl) rfl rfl)) ?_
    refine L.op1 rfl rfl (GSpec.plain rfl (spec_loadP1 rfl Tryd.isAgg9 (Get.tmp rfl))) ?_
    refine L.op1 rfl rfl (GSpec.plain rfl (spec_move rfl (Get.tmp rfl))) ?_
    refine L.op1 rfl rfl (GSpec.plain rfl (spec_eqlS rfl (Get.tmp rfl) (Get.tmp rfl))) ?_
    refine L.nil ?_
    refine N.thenW ?_
    refine W.cond (Get.tmp rfl) (fun h2 => ?_) (fun h2 => ?_)
    · have ph2 := h2; try simp only [decide_eq_true_eq, decide_eq_false_iff_not, Bool.and_eq_true, Bool.or_eq_true, Bool.and_eq_false_iff, Bool.or_eq_false_iff, Bool.not_eq_true', Bool.not_eq_false', Bool.not_true, Bool.not_false, Int.not_lt, Int.not_le] at ph2
      refine W.seq ?_
      refine W.region ?_
      refine L.op1 rfl rfl (GSpec.plain rfl (spec_move rfl (Get.tmp rfl))) ?_
      refine L.op1 rfl rfl (GSpec.plain rfl (spec_move rfl (Get.tmp rfl))) ?_
      refine L.op1 rfl rfl (GSpec.plain rfl (spec_indexAddrD (E := eC) rfl Tryd.underlying38 Tryd.sizeOf25 (fun _ => rfl) (Get.tmp rfl) (Get.tmp rfl) (by omega))) ?_
      refine L.op1 rfl rfl (GSpec.plain rfl (spec_loadPA rfl Tryd.isAgg25 Tryd.sizeOf25 (Get.tmp rfl) rfl)) ?_
      refine L.storeW (k := 0) rfl rfl rfl Tryd.sizeOf25 (Get.tmp rfl) (Get.tmp rfl) rfl rfl rfl ?_
      refine L.op1 rfl rfl (GSpec.plain rfl (spec_assign rfl Get.cbool)) ?_
      refine L.nil ?_
      refine N.thenW ?_
      refine W.ret ?_
      refine N.ret () rfl (.cellA (k := 0) (Get.tmp (t := 4) rfl) rfl Tryd.isAgg25 Tryd.sizeOf25 rfl (.tmp (t := 5) (Get.tmp rfl) .nil)) (res2w (eqA ?_) (eqB ?_)) .nil (fun _ _ h => h)
      all_goals rw [find_yes (by omega) (by simpa using h2) hI2]
      all_goals rfl
    · have ph2 := h2; try simp only [decide_eq_true_eq, decide_eq_false_iff_not, Bool.and_eq_true, Bool.or_eq_true, Bool.and_eq_false_iff, Bool.or_eq_false_iff, Bool.not_eq_true', Bool.not_eq_false', Bool.not_true, Bool.not_false, Int.not_lt, Int.not_le] at ph2
      refine W.skip ?_
      refine N.blockNormal ?_
      refine N.thenW ?_
      refine W.region ?_
      refine L.op1 rfl rfl (GSpec.plain rfl (spec_move rfl (Get.tmp rfl))) ?_
      first | refine L.op1 rfl rfl (GSpec.plain rfl (fit_i64 (by omega) (by omega) (spec_add rfl (Get.tmp rfl) (Get.cint rfl)))) ?_ | refine L.op1 rfl rfl (GSpec.plain rfl (spec_add rfl (Get.tmp rfl) (Get.cint rfl))) ?_
      refine L.op1 rfl rfl (GSpec.plain rfl (spec_assign rfl (Get.tmp rfl))) ?_
      refine L.nil ?_
      refine N.roundK (i + 1) ?hI2 ?hmu2 ?hs2 ?hk2 ?hp2
      case hs2 => exact (.cons (t := 6) rfl .nil)
      case hk2 => exact (.cons (t := 0) rfl (.cons (t := 1) rfl (.cons (t := 4) rfl .nil)))
      case hp2 => exact (.cons 0 rfl .nil)
      case hI2 => exact ⟨by omega, upto hI2 (by simpa using h2)⟩
      case hmu2 => omega
  · have ph1 := h1; try simp only [decide_eq_true_eq, decide_eq_false_iff_not, Bool.and_eq_true, Bool.or_eq_true, Bool.and_eq_false_iff, Bool.or_eq_false_iff, Bool.not_eq_true', Bool.not_eq_false', Bool.not_true, Bool.not_false, Int.not_lt, Int.not_le] at ph1
    refine W.exit ?_
    refine N.thenExit ?_
    refine N.thenExit ?_
    refine N.blockExit ?_
    refine N.thenW ?_
    refine W.keep (.cons (t := 4) rfl .nil) .refl ?_
    refine W.seq ?_
    refine W.region ?_
    refine L.op1 rfl rfl (GSpec.plain rfl (spec_build (Rs := [Rp.str [], Rp.str [], Rp.slice eF [], Rp.slice eBk []]) rfl ti25 z25 Tryd.underlying25 pl25 .nil)) ?_
    refine L.storeW (k := 0) rfl rfl rfl Tryd.sizeOf25 (Get.tmp rfl) (Get.tmp rfl) rfl rfl rfl ?_
    refine L.op1 rfl rfl (GSpec.plain rfl (spec_assign rfl Get.cbool)) ?_
    refine L.nil ?_
    refine N.thenW ?_
    refine W.ret ?_
    refine N.ret () rfl (.cellA (k := 0) (Get.tmp (t := 4) rfl) rfl Tryd.isAgg25 Tryd.sizeOf25 rfl (.tmp (t := 5) (Get.tmp rfl) .nil)) (res2w (eqA ?_) (eqB ?_)) .nil (fun _ _ h => h)
    all_goals rw [find_no fun j hj => hI2 j (by omega)]
    all_goals rfl

end Go.Proofs.YtcabngjnmipflaaDoor
/- Lines of ancestors as data. -/
namespace Go.Proofs.YtcabngjnmipflaaDoor
open Go.Sim
theorem clOk_default : ClOk default := ⟨Nat.zero_le _, Nat.zero_le _, fun b hb => by cases hb⟩
theorem find_ok_ {src : List Cl} (h : ∀ c ∈ src, ClOk c) (s : List UInt8) : ClOk (findC src s).1 := by
  rcases find_cases src s with ⟨i, h1, _, _, h4⟩ | ⟨_, h4⟩
  · rw [h4]; exact h _ (getD_mem' h1)
  · rw [h4]; exact clOk_default
/-- A class, its parent, and so on: at most n steps. -/
def chn (src : List Cl) : Nat → Cl → List Cl
  | 0, c => [c]
  | n + 1, c => if c.parent = [] then [c] else c :: chn src n (findC src c.parent).1
def rootB (l : List Cl) : Bool := match l.getLast? with | some c => c.parent == [] | none => false
def ancE (src : List Cl) (c : Cl) : List Cl × Bool := if rootB (chn src src.length c) = true then (chn src src.length c, true) else ([], false)
theorem root_app {p : List Cl} {c : Cl} : rootB (p ++ [c]) = (c.parent == []) := by simp [rootB]
/-- Between two rounds: what has been listed, and where it goes on. -/
def AncI (src : List Cl) (c0 : Cl) (p : List Cl) (c : Cl) : Prop := p.length ≤ src.length ∧ chn src src.length c0 = p ++ chn src (src.length - p.length) c
theorem anc_0 (src : List Cl) (c : Cl) : AncI src c [] c := ⟨Nat.zero_le _, by simp⟩
theorem anc_root {src : List Cl} {c0 c : Cl} {p : List Cl} (h : AncI src c0 p c) (hr : c.parent = []) : ancE src c0 = (p ++ [c], true) := by
  have e : chn src (src.length - p.length) c = [c] := by
    cases src.length - p.length with
    | zero => rfl
    | succ n => rw [chn, if_pos hr]
  unfold ancE
  rw [h.2, e, root_app, hr]; simp
theorem anc_deep {src : List Cl} {c0 c : Cl} {p : List Cl} (h : AncI src c0 p c) (hr : c.parent ≠ []) (hl : src.length < p.length + 1) : ancE src c0 = ([], false) := by
  have e : src.length - p.length = 0 := by omega
  unfold ancE
  rw [h.2, e, chn, root_app, if_neg (by simpa using hr)]
theorem anc_next {src : List Cl} {c0 c : Cl} {p : List Cl} (h : AncI src c0 p c) (hr : c.parent ≠ []) (hl : p.length + 1 ≤ src.length) : AncI src c0 (p ++ [c]) (findC src c.parent).1 := by
  refine ⟨by simp; omega, ?_⟩
  obtain ⟨n, hn⟩ : ∃ n, src.length - p.length = n + 1 := ⟨src.length - p.length - 1, by omega⟩
  rw [h.2, hn, chn, if_neg hr, show src.length - (p ++ [c]).length = n by simp; omega]; simp
/-- The document's: it stops at a parent that is not there. -/
def upN (src : List Cl) : Nat → Cl → List Cl
  | 0, c => [c]
  | n + 1, c => if c.parent = [] ∨ (findC src c.parent).2 = false then [c] else c :: upN src n (findC src c.parent).1
def upE (src : List Cl) (c : Cl) : List Cl := upN src 32 c
def UpI (src : List Cl) (c0 : Cl) (p : List Cl) (c : Cl) : Prop := p.length ≤ 32 ∧ upE src c0 = p ++ upN src (32 - p.length) c
theorem up_0 (src : List Cl) (c : Cl) : UpI src c [] c := ⟨Nat.zero_le _, by simp [upE]⟩
theorem up_end {src : List Cl} {c0 c : Cl} {p : List Cl} (h : UpI src c0 p c) (hr : c.parent = [] ∨ (findC src c.parent).2 = false ∨ 32 < p.length + 1) : upE src c0 = p ++ [c] := by
  rw [h.2]
  cases hn : 32 - p.length with
  | zero => rfl
  | succ n => rw [upN, if_pos (by rcases hr with h | h | h; exact .inl h; exact .inr h; omega)]
theorem up_next {src : List Cl} {c0 c : Cl} {p : List Cl} (h : UpI src c0 p c) (hr : c.parent ≠ []) (hf : (findC src c.parent).2 = true) (hl : p.length + 1 ≤ 32) : UpI src c0 (p ++ [c]) (findC src c.parent).1 := by
  refine ⟨by simp; omega, ?_⟩
  obtain ⟨n, hn⟩ : ∃ n, 32 - p.length = n + 1 := ⟨32 - p.length - 1, by omega⟩
  rw [h.2, hn, upN, if_neg (by rw [hf]; simp [hr]), show 32 - (p ++ [c]).length = n by simp; omega]; simp
/-- The first error of the names of classes and parents. -/
def lostB (src : List Cl) (c : Cl) : Bool := decide (c.parent ≠ []) && !(findC src c.parent).2
def namesE (src : List Cl) : Int := if repB Cl.name src = true then 8 else if (src.any (lostB src)) = true then 7 else 0
def inhB (l : List Cl) : Bool := (l.drop 1).any fun c => (l.getD 0 default).fields.any fun f => hasF c.fields f.name
theorem inh_yes {l : List Cl} {i k : Nat} (h1 : 1 ≤ i) (hi : i < l.length) (hk : k < (l.getD 0 default).fields.length) (h : hasF (l.getD i default).fields ((l.getD 0 default).fields.getD k default).name = true) : inhB l = true := by
  unfold inhB
  rw [List.any_eq_true]
  refine ⟨l.getD i default, ?_, List.any_eq_true.2 ⟨_, getD_mem' hk, h⟩⟩
  have e : (l.drop 1).getD (i - 1) default = l.getD i default := by simp [List.getD, show i - 1 + 1 = i by omega]
  rw [← e]; exact getD_mem' (by simp; omega)
theorem inh_no {l : List Cl} (h : ∀ i, i < l.length → 1 ≤ i → ∀ k, k < (l.getD 0 default).fields.length → hasF (l.getD i default).fields ((l.getD 0 default).fields.getD k default).name = false) : inhB l = false := by
  unfold inhB
  rw [List.any_eq_false]
  intro c hc
  obtain ⟨i, hi, rfl⟩ := mem_getD hc
  simp at hi
  rw [Bool.not_eq_true, List.any_eq_false]
  intro f hf
  obtain ⟨k, hk, rfl⟩ := mem_getD hf
  have e : (l.drop 1).getD i default = l.getD (i + 1) default := by simp [List.getD]
  rw [e, Bool.not_eq_true]
  exact h (i + 1) (by omega) (by omega) k hk
end Go.Proofs.YtcabngjnmipflaaDoor
set_option linter.unusedSimpArgs false
set_option maxRecDepth 8000
set_option linter.unusedVariables false
namespace Go.Proofs.YtcabngjnmipflaaDoor
open Go.Sim
theorem copied_ok (c : Cl) (hok : ClOk c) : CallT Tryd.prog 49 [Rp.agg (eC c)] [] (.one (Rp.agg (eC c))) := by
  refine W.enter (fn := Tryd.f49) (n := 30) Tryd.func49 rfl Tryd.ntmps49 rfl (fun w₀ C₀ => ?_)
  simp only [argS]
  obtain ⟨o1, o2, o3⟩ := hok
  refine W.seq ?_
  refine W.region ?_
  refine L.box rfl rfl (GSpec.plain rfl (spec_box rfl (GetC.agg (Get.tmp rfl)))) (fun r1 => ?_)
  refine L.box rfl rfl (GSpec.plain rfl (spec_alloc rfl ti25 z25)) (fun r2 => ?_)
  refine L.nil ?_
  refine N.thenW ?_
  refine W.seq ?_
  refine W.region ?_
  refine L.op1 rfl rfl (GSpec.plain rfl (spec_fieldAddr (f := 2) (off' := 2) rfl Tryd.underlying25 rfl Tryd.sizeOf22 (Get.tmp rfl) rfl)) ?_
  refine L.op1 rfl rfl (GSpec.plain rfl (spec_load1 (k := 1) rfl Tryd.isAgg22 (Get.tmp rfl) rfl rfl)) ?_
  refine L.op1 rfl rfl (GSpec.plain rfl (spec_call rfl Tryd.call65 (cloneF_ok _ o1) (.cons (Get.tmp rfl) .nil))) ?_
  refine L.op1 rfl rfl (GSpec.plain rfl (spec_fieldAddr (f := 2) (off' := 2) rfl Tryd.underlying25 rfl Tryd.sizeOf22 (Get.tmp rfl) rfl)) ?_
  refine L.storeB (k := 1) rfl rfl rfl Tryd.sizeOf22 (Get.tmp rfl) (Get.tmp rfl) rfl rfl ?_
  refine L.nil ?_
  refine N.thenW ?_
  refine W.seq ?_
  refine W.region ?_
  refine L.op1 rfl rfl (GSpec.plain rfl (spec_assign rfl Get.cval)) ?_
  refine L.nil ?_
  refine N.thenW ?_
  refine W.seq ?_
  refine W.seq ?_
  refine W.region ?_
  refine L.op1 rfl rfl (GSpec.plain rfl (spec_fieldAddr (f := 3) (off' := 3) rfl Tryd.underlying25 rfl Tryd.sizeOf23 (Get.tmp rfl) rfl)) ?_
  refine L.op1 rfl rfl (GSpec.plain rfl (spec_load1 (k := 1) rfl Tryd.isAgg23 (Get.tmp rfl) rfl rfl)) ?_
  refine L.op1 rfl rfl (GSpec.plain rfl (spec_len rfl Tryd.underlying23 (Get.tmp rfl))) ?_
  refine L.op1 rfl rfl (GSpec.plain rfl (spec_move rfl (Get.cint rfl))) ?_
  refine L.nil ?_
  refine N.thenW ?_
  refine W.nil 54 2 eBk ?_
  refine W.block ?_
  refine W.loopK (σ := Nat × Value) (.cons (t := 1) rfl (.cons (t := 2) rfl (.cons (t := 11) rfl (.cons (t := 12) rfl .nil)))) (fun z => [(13, Rp.int .i64 (z.1 : Nat)), (3, Rp.val z.2)]) (fun z => [MF.osl z.2 54 2 eBk (c.blocks.take z.1)]) (fun z => z.1 ≤ c.blocks.length) (fun z => c.blocks.length - z.1) (0, .slice none 0 0) (Nat.zero_le _) (.cons (t := 13) rfl (.cons (t := 3) rfl .nil)) (.cons 0 rfl (.cons 0 rfl (.cons 0 rfl .nil))) ?_
  intro ⟨i, vo⟩ hI S' M' hS hM
  try dsimp only at hS hM
  simp only [List.cons_append, List.nil_append] at hS hM
  subst hS hM
  try dsimp only
  try dsimp only at hI
  refine W.seq ?_
  refine W.region ?_
  refine L.op1 rfl rfl (GSpec.plain rfl (spec_lss rfl (Get.tmp rfl) (Get.tmp rfl))) ?_
  refine L.nil ?_
  refine N.thenW ?_
  refine W.seq ?_
  refine W.cond (Get.tmp rfl) (fun h1 => ?_) (fun h1 => ?_)
  · have ph1 := h1; try simp only [decide_eq_true_eq, decide_eq_false_iff_not, Bool.and_eq_true, Bool.or_eq_true, Bool.and_eq_false_iff, Bool.or_eq_false_iff, Bool.not_eq_true', Bool.not_eq_false', Bool.not_true, Bool.not_false, Int.not_lt, Int.not_le] at ph1
    refine W.skip ?_
    refine N.thenW ?_
    refine W.seq ?_
    refine W.block ?_
    refine W.seq ?_
    refine W.region ?_
    refine L.op1 rfl rfl (GSpec.plain rfl (spec_indexAddrD (E := eBk) rfl Tryd.underlying23 Tryd.sizeOf54 (fun _ => rfl) (Get.tmp rfl) (Get.tmp rfl) (by omega))) ?_
    refine L.op1 rfl rfl (GSpec.plain rfl (spec_loadPA rfl Tryd.isAgg54 Tryd.sizeOf54 (Get.tmp rfl) rfl)) ?_
    refine L.box rfl rfl (GSpec.plain rfl (spec_alloc rfl ti54 z54)) (fun r5 => ?_)
    refine L.storeW (k := 0) rfl rfl rfl Tryd.sizeOf54 (Get.tmp rfl) (Get.tmp rfl) rfl rfl rfl ?_
    refine L.nil ?_
    refine N.thenW ?_
    apply W.any 8 mixed (by kernel_rfl)
    · apply Head.one rfl rfl (GSpec.plain rfl (spec_move rfl (Get.tmp rfl)))
      apply Head.one rfl rfl (GSpec.plain rfl (spec_fieldAddr (f := 0) (off' := 0) rfl Tryd.underlying54 rfl Tryd.sizeOf9 (Get.tmp rfl) rfl))
      apply Head.one rfl rfl (GSpec.plain rfl (spec_load1 (k := 0) rfl Tryd.isAgg9 (Get.tmp rfl) rfl rfl))
      apply Head.one rfl rfl (GSpec.plain rfl (spec_fieldAddr (f := 1) (off' := 1) rfl Tryd.underlying54 rfl Tryd.sizeOf52 (Get.tmp rfl) rfl))
      apply Head.one rfl rfl (GSpec.plain rfl (Spec.eq (its_eq _) (spec_load1 (k := 0) rfl Tryd.isAgg52 (Get.tmp rfl) rfl rfl)))
      apply Head.one rfl rfl (GSpec.plain rfl (spec_call rfl Tryd.call66 (items_ok _ (o3 _ (getD_mem' (by omega)))) (.cons (Get.tmp rfl) .nil)))
      apply Head.one rfl rfl (GSpec.plain rfl (spec_build (Rs := [_, _]) rfl ti54 z54 Tryd.underlying54 pl54 (.cons (GetC.one (Get.tmp rfl)) rfl rfl rfl (.cons (GetC.one (Get.eq (its_eq _).symm (Get.tmp rfl))) rfl rfl rfl .nil))))
      apply Head.one rfl rfl (GSpec.plain rfl (spec_buildSlice1 (y := c.blocks.getD i default) (E := eBk) rfl Tryd.underlying23 ti54 z54 (by decide) (GetC.agg (Get.tmp rfl)) (fun _ => rfl)))
      exact Head.nil
    refine Fin.one ?_
    refine Fin.one ?_
    refine Fin.one ?_
    refine Fin.one ?_
    refine Fin.one ?_
    refine Fin.one ?_
    refine Fin.one ?_
    refine Fin.one ?_
    refine Fin.nil ?_
    refine L.append (k := 1) (E := eBk) rfl rfl rfl rfl Tryd.underlying23 ti54 rfl (by decide) (fun _ => rfl) (Get.tmp rfl) (Get.tmp rfl) rfl (by (simp only [List.length_take, List.length_cons, List.length_nil]; omega)) (by (simp only [List.length_take, List.length_cons, List.length_nil]; omega)) (fun v25 => ?_)
    refine L.op1 rfl rfl (GSpec.plain rfl (spec_assign rfl (Get.tmp rfl))) ?_
    refine L.nil ?_
    refine N.blockNormal ?_
    refine N.thenW ?_
    refine W.region ?_
    first | refine L.op1 rfl rfl (GSpec.plain rfl (fit_i64 (by omega) (by omega) (spec_add rfl (Get.tmp rfl) (Get.cint rfl)))) ?_ | refine L.op1 rfl rfl (GSpec.plain rfl (spec_add rfl (Get.tmp rfl) (Get.cint rfl))) ?_
    refine L.op1 rfl rfl (GSpec.plain rfl (spec_move rfl (Get.tmp rfl))) ?_
    refine L.nil ?_
    refine N.roundK (i + 1, v25) ?hI1 ?hmu1 ?hs1 ?hk1 ?hp1
    case hs1 => exact (.cons (t := 13) rfl (.cons (t := 3) rfl .nil))
    case hk1 => exact (.cons (t := 1) rfl (.cons (t := 2) rfl (.cons (t := 11) rfl (.cons (t := 12) rfl .nil))))
    case hp1 => dsimp only; rw [take_succ (show i < c.blocks.length by omega)]; exact (.cons 1 rfl (.cons 1 rfl (.cons 1 rfl .nil)))
    case hI1 => dsimp only; omega
    case hmu1 => dsimp only; omega
  · have ph1 := h1; try simp only [decide_eq_true_eq, decide_eq_false_iff_not, Bool.and_eq_true, Bool.or_eq_true, Bool.and_eq_false_iff, Bool.or_eq_false_iff, Bool.not_eq_true', Bool.not_eq_false', Bool.not_true, Bool.not_false, Int.not_lt, Int.not_le] at ph1
    refine W.exit ?_
    refine N.thenExit ?_
    refine N.thenExit ?_
    refine N.blockExit ?_
    refine N.thenW ?_
    refine W.pub (t := 3) (k := 0) rfl rfl (fun _ => rfl) ?_
    refine W.seq ?_
    refine W.region ?_
    refine L.op1 rfl rfl (GSpec.plain rfl (spec_move rfl (Get.tmp rfl))) ?_
    refine L.op1 rfl rfl (GSpec.plain rfl (spec_fieldAddr (f := 3) (off' := 3) rfl Tryd.underlying25 rfl Tryd.sizeOf23 (Get.tmp rfl) rfl)) ?_
    refine L.storeB (k := 1) rfl rfl rfl Tryd.sizeOf23 (Get.tmp rfl) (Get.tmp rfl) rfl rfl ?_
    refine L.nil ?_
    refine N.thenW ?_
    refine W.keep (.cons (t := 1) rfl (.cons (t := 2) rfl .nil)) .refl ?_
    refine W.seq ?_
    refine W.region ?_
    refine L.op1 rfl rfl (GSpec.plain rfl (spec_loadW (k := 1) rfl Tryd.isAgg25 Tryd.sizeOf25 (Get.tmp rfl) rfl rfl)) ?_
    refine L.storeW (k := 0) rfl rfl rfl Tryd.sizeOf25 (Get.tmp rfl) (Get.tmp rfl) rfl rfl rfl ?_
    refine L.nil ?_
    refine N.thenW ?_
    refine W.ret ?_
    refine N.ret () rfl (.cellA (k := 0) (Get.tmp (t := 2) rfl) rfl Tryd.isAgg25 Tryd.sizeOf25 rfl .nil) (res1 (eqA ?_)) .nil (fun _ _ h => h)
    rw [show i = c.blocks.length by omega, List.take_length]; rfl

theorem findX_ok (src : List Cl) (s : List UInt8) (hok : ∀ c ∈ src, ClOk c) : CallT Tryd.prog 23 [Rp.slice eC src, Rp.str s] [] (.one (Rp.tuple [Rp.agg (eC (findC src s).1), Rp.bool (findC src s).2])) := by
  refine W.enter (fn := Tryd.f23) (n := 17) Tryd.func23 rfl Tryd.ntmps23 rfl (fun w₀ C₀ => ?_)
  simp only [argS]
  refine W.seq ?_
  refine W.region ?_
  refine L.box rfl rfl (GSpec.plain rfl (spec_alloc rfl ti25 z25)) (fun r4 => ?_)
  refine L.op1 rfl rfl (GSpec.plain rfl (spec_assign rfl Get.cbool)) ?_
  refine L.nil ?_
  refine N.thenW ?_
  refine W.seq ?_
  refine W.region ?_
  refine L.op1 rfl rfl (GSpec.plain rfl (spec_move rfl (Get.tmp rfl))) ?_
  refine L.op1 rfl rfl (GSpec.plain rfl (spec_move rfl (Get.tmp rfl))) ?_
  refine L.op1 rfl rfl (GSpec.plain rfl (spec_call rfl Tryd.call48 (find_ok _ _) (.cons (Get.tmp rfl) (.cons (Get.tmp rfl) .nil)))) ?_
  refine L.op1 rfl rfl (GSpec.plain rfl (spec_move rfl (Get.tmp rfl))) ?_
  refine L.op1 rfl rfl (GSpec.plain rfl (spec_extract rfl (Get.tmp rfl) rfl)) ?_
  refine L.op1 rfl rfl (GSpec.plain rfl (spec_extract rfl (Get.tmp rfl) rfl)) ?_
  refine L.box rfl rfl (GSpec.plain rfl (spec_alloc rfl ti25 z25)) (fun r6 => ?_)
  refine L.storeW (k := 0) rfl rfl rfl Tryd.sizeOf25 (Get.tmp rfl) (Get.tmp rfl) rfl rfl rfl ?_
  refine L.op1 rfl rfl (GSpec.plain rfl (spec_assign rfl (Get.tmp rfl))) ?_
  refine L.nil ?_
  refine N.thenW ?_
  refine W.keep (.cons (t := 4) rfl (.cons (t := 5) rfl (.cons (t := 6) rfl (.cons (t := 7) rfl .nil)))) .refl ?_
  refine W.seq ?_
  refine W.region ?_
  refine L.op1 rfl rfl (GSpec.plain rfl (spec_loadW (k := 0) rfl Tryd.isAgg25 Tryd.sizeOf25 (Get.tmp rfl) rfl rfl)) ?_
  refine L.op1 rfl rfl (GSpec.plain rfl (spec_call rfl Tryd.call49 (copied_ok _ (find_ok_ hok s)) (.cons (Get.tmp rfl) .nil))) ?_
  refine L.op1 rfl rfl (GSpec.plain rfl (spec_move rfl (Get.tmp rfl))) ?_
  refine L.storeW (k := 1) rfl rfl rfl Tryd.sizeOf25 (Get.tmp rfl) (Get.tmp rfl) rfl rfl rfl ?_
  refine L.op1 rfl rfl (GSpec.plain rfl (spec_assign rfl (Get.tmp rfl))) ?_
  refine L.nil ?_
  refine N.thenW ?_
  refine W.keep (.cons (t := 4) rfl (.cons (t := 5) rfl .nil)) .refl ?_
  refine W.ret ?_
  refine N.ret () rfl (.cellA (k := 1) (Get.tmp (t := 4) rfl) rfl Tryd.isAgg25 Tryd.sizeOf25 rfl (.tmp (t := 5) (Get.tmp rfl) .nil)) (res2w (eqA ?_) (eqB ?_)) .nil (fun _ _ h => h)
  all_goals rfl

end Go.Proofs.YtcabngjnmipflaaDoor
set_option linter.unusedSimpArgs false
set_option maxRecDepth 8000
set_option linter.unusedVariables false
namespace Go.Proofs.YtcabngjnmipflaaDoor
open Go.Sim
theorem names_ok (src : List Cl) : CallT Tryd.prog 50 [Rp.slice eC src] [] (.one (Rp.int .i64 (namesE src))) := by
  refine W.enter (fn := Tryd.f50) (n := 30) Tryd.func50 rfl Tryd.ntmps50 rfl (fun w₀ C₀ => ?_)
  simp only [argS]
  refine W.fact 0 rfl slice_fact fun hl => ?_
  refine W.seq ?_
  refine W.region ?_
  refine L.op1 rfl rfl (GSpec.plain rfl (spec_assign rfl (Get.cint rfl))) ?_
  refine L.nil ?_
  refine N.thenW ?_
  refine W.seq ?_
  refine W.seq ?_
  refine W.region ?_
  refine L.op1 rfl rfl (GSpec.plain rfl (spec_move rfl (Get.tmp rfl))) ?_
  refine L.op1 rfl rfl (GSpec.plain rfl (spec_call rfl Tryd.call67 (repC_ok _) (.cons (Get.tmp rfl) (.cons (Get.weak Get.clo (fn_of_clo Tryd.call68 (fun i => cname_ok i))) .nil)))) ?_
  refine L.nil ?_
  refine N.thenW ?_
  refine W.cond (Get.tmp rfl) (fun h1 => ?_) (fun h1 => ?_)
  · refine W.seq ?_
    refine W.region ?_
    refine L.op1 rfl rfl (GSpec.plain rfl (spec_assign rfl (Get.cint rfl))) ?_
    refine L.nil ?_
    refine N.thenW ?_
    refine W.ret ?_
    refine N.ret () rfl (.tmp (t := 2) (Get.tmp rfl) .nil) (res1 (eqI ?_)) .nil (fun _ _ h => h)
    unfold namesE; rw [if_pos h1]
  · have hrp : repB Cl.name src = false := by have h := h1; simpa using h
    refine W.skip ?_
    refine N.thenW ?_
    refine W.seq ?_
    refine W.seq ?_
    refine W.region ?_
    refine L.op1 rfl rfl (GSpec.plain rfl (spec_move rfl (Get.tmp rfl))) ?_
    refine L.op1 rfl rfl (GSpec.plain rfl (spec_len rfl Tryd.underlying38 (Get.tmp rfl))) ?_
    refine L.op1 rfl rfl (GSpec.plain rfl (spec_move rfl (Get.cint rfl))) ?_
    refine L.nil ?_
    refine N.thenW ?_
    refine W.block ?_
    -- assigned in the loop, not kept: [2]
    refine W.loopK (σ := Nat) (.cons (t := 0) rfl (.cons (t := 9) rfl (.cons (t := 10) rfl .nil))) (fun z => [(11, Rp.int .i64 (z : Nat))]) (fun z => []) (fun z => z ≤ src.length ∧ ∀ j : Nat, j < z → lostB src (src.getD j default) = false) (fun z => src.length - z) 0 ⟨Nat.zero_le _, fun j hj => by omega⟩ (.cons (t := 11) rfl .nil) .nil ?_
    intro i hI S' M' hS hM
    obtain ⟨hI1, hI2⟩ := hI
    try dsimp only at hS hM
    simp only [List.cons_append, List.nil_append] at hS hM
    subst hS hM
    try dsimp only
    refine W.seq ?_
    refine W.region ?_
    refine L.op1 rfl rfl (GSpec.plain rfl (spec_lss rfl (Get.tmp rfl) (Get.tmp rfl))) ?_
    refine L.nil ?_
    refine N.thenW ?_
    refine W.seq ?_
    refine W.cond (Get.tmp rfl) (fun h2 => ?_) (fun h2 => ?_)
    · have ph2 := h2; try simp only [decide_eq_true_eq, decide_eq_false_iff_not, Bool.and_eq_true, Bool.or_eq_true, Bool.and_eq_false_iff, Bool.or_eq_false_iff, Bool.not_eq_true', Bool.not_eq_false', Bool.not_true, Bool.not_false, Int.not_lt, Int.not_le] at ph2
      refine W.skip ?_
      refine N.thenW ?_
      refine W.seq ?_
      refine W.block ?_
      refine W.seq ?_
      refine W.region ?_
      refine L.op1 rfl rfl (GSpec.plain rfl (spec_indexAddrD (E := eC) rfl Tryd.underlying38 Tryd.sizeOf25 (fun _ => rfl) (Get.tmp rfl) (Get.tmp rfl) (by omega))) ?_
      refine L.op1 rfl rfl (GSpec.plain rfl (spec_loadPA rfl Tryd.isAgg25 Tryd.sizeOf25 (Get.tmp rfl) rfl)) ?_
      refine L.box rfl rfl (GSpec.plain rfl (spec_alloc rfl ti25 z25)) (fun r4 => ?_)
      refine L.storeW (k := 0) rfl rfl rfl Tryd.sizeOf25 (Get.tmp rfl) (Get.tmp rfl) rfl rfl rfl ?_
      refine L.nil ?_
      refine N.thenW ?_
      refine W.seq ?_
      refine W.region ?_
      refine L.op1 rfl rfl (GSpec.plain rfl (spec_move rfl (Get.tmp rfl))) ?_
      refine L.op1 rfl rfl (GSpec.plain rfl (spec_fieldAddr (f := 1) (off' := 1) rfl Tryd.underlying25 rfl Tryd.sizeOf9 (Get.tmp rfl) rfl)) ?_
      refine L.op1 rfl rfl (GSpec.plain rfl (spec_load1 (k := 0) rfl Tryd.isAgg9 (Get.tmp rfl) rfl rfl)) ?_
      refine L.op1 rfl rfl (GSpec.plain rfl (spec_call rfl Tryd.call48 (find_ok _ _) (.cons (Get.tmp rfl) (.cons (Get.tmp rfl) .nil)))) ?_
      refine L.op1 rfl rfl (GSpec.plain rfl (spec_move rfl (Get.tmp rfl))) ?_
      refine L.op1 rfl rfl (GSpec.plain rfl (spec_extract rfl (Get.tmp rfl) rfl)) ?_
      refine L.op1 rfl rfl (GSpec.plain rfl (spec_extract rfl (Get.tmp rfl) rfl)) ?_
      refine L.box rfl rfl (GSpec.plain rfl (spec_alloc rfl ti25 z25)) (fun r5 => ?_)
      refine L.storeW (k := 0) rfl rfl rfl Tryd.sizeOf25 (Get.tmp rfl) (Get.tmp rfl) rfl rfl rfl ?_
      refine L.op1 rfl rfl (GSpec.plain rfl (spec_assign rfl (Get.tmp rfl))) ?_
      refine L.nil ?_
      refine N.thenW ?_
      refine W.seq ?_
      refine W.region ?_
      refine L.op1 rfl rfl (GSpec.plain rfl (spec_fieldAddr (f := 1) (off' := 1) rfl Tryd.underlying25 rfl Tryd.sizeOf9 (Get.tmp rfl) rfl)) ?_
      refine L.op1 rfl rfl (GSpec.plain rfl (spec_load1 (k := 1) rfl Tryd.isAgg9 (Get.tmp rfl) rfl rfl)) ?_
      refine L.op1 rfl rfl (GSpec.plain rfl (spec_neqS rfl (Get.tmp rfl) (Get.cstr (l := []) rfl rfl))) ?_
      refine L.op1 rfl rfl (GSpec.plain rfl (spec_move rfl (Get.tmp rfl))) ?_
      refine L.op1 rfl rfl (GSpec.guard rfl rfl rfl fun hg => (spec_move rfl (Get.tmp rfl))) ?_
      refine L.op1 rfl rfl (GSpec.guard rfl rfl rfl fun hg => (spec_not rfl (Get.opt rfl hg))) ?_
      refine L.op1 rfl rfl (GSpec.plain rfl (spec_and rfl (Get.tmp rfl) (fun hb => (Get.opt rfl hb)))) ?_
      refine L.nil ?_
      refine N.thenW ?_
      refine W.cond (Get.tmp rfl) (fun h3 => ?_) (fun h3 => ?_)
      · have hb : lostB src (src.getD i default) = true := by have h := h3; unfold lostB; simp only [decide_eq_true_eq, decide_eq_false_iff_not, Bool.and_eq_true, Bool.or_eq_true, Bool.and_eq_false_iff, Bool.or_eq_false_iff, Bool.not_eq_true', Bool.not_eq_false', Bool.not_true, Bool.not_false, Int.not_lt, Int.not_le, beq_eq_false_iff_ne, Int.toNat_natCast, ne_eq] at h ⊢; exact h
        refine W.seq ?_
        refine W.region ?_
        refine L.op1 rfl rfl (GSpec.plain rfl (spec_assign rfl (Get.cint rfl))) ?_
        refine L.nil ?_
        refine N.thenW ?_
        refine W.ret ?_
        refine N.ret () rfl (.tmp (t := 2) (Get.tmp rfl) .nil) (res1 (eqI ?_)) .nil (fun _ _ h => h)
        unfold namesE; rw [if_neg (by rw [hrp]; simp), if_pos (any_yes (p := lostB src) (i := i) (by omega) hb)]
      · have hb : lostB src (src.getD i default) = false := by have h := h3; unfold lostB; simp only [decide_eq_true_eq, decide_eq_false_iff_not, Bool.and_eq_true, Bool.or_eq_true, Bool.and_eq_false_iff, Bool.or_eq_false_iff, Bool.not_eq_true', Bool.not_eq_false', Bool.not_true, Bool.not_false, Int.not_lt, Int.not_le, beq_iff_eq, Int.toNat_natCast, ne_eq, Classical.not_not] at h ⊢; exact h
        refine W.skip ?_
        refine N.blockNormal ?_
        refine N.thenW ?_
        refine W.region ?_
        first | refine L.op1 rfl rfl (GSpec.plain rfl (fit_i64 (by omega) (by omega) (spec_add rfl (Get.tmp rfl) (Get.cint rfl)))) ?_ | refine L.op1 rfl rfl (GSpec.plain rfl (spec_add rfl (Get.tmp rfl) (Get.cint rfl))) ?_
        refine L.op1 rfl rfl (GSpec.plain rfl (spec_move rfl (Get.tmp rfl))) ?_
        refine L.nil ?_
        refine N.roundK (i + 1) ?hI1 ?hmu1 ?hs1 ?hk1 ?hp1
        case hs1 => exact (.cons (t := 11) rfl .nil)
        case hk1 => exact (.cons (t := 0) rfl (.cons (t := 9) rfl (.cons (t := 10) rfl .nil)))
        case hp1 => exact .nil
        case hI1 => exact ⟨by omega, upto hI2 hb⟩
        case hmu1 => omega
    · have ph2 := h2; try simp only [decide_eq_true_eq, decide_eq_false_iff_not, Bool.and_eq_true, Bool.or_eq_true, Bool.and_eq_false_iff, Bool.or_eq_false_iff, Bool.not_eq_true', Bool.not_eq_false', Bool.not_true, Bool.not_false, Int.not_lt, Int.not_le] at ph2
      refine W.exit ?_
      refine N.thenExit ?_
      refine N.thenExit ?_
      refine N.blockExit ?_
      refine N.thenW ?_
      refine W.seq ?_
      refine W.region ?_
      refine L.op1 rfl rfl (GSpec.plain rfl (spec_assign rfl (Get.cint rfl))) ?_
      refine L.nil ?_
      refine N.thenW ?_
      refine W.ret ?_
      refine N.ret () rfl (.tmp (t := 2) (Get.tmp rfl) .nil) (res1 (eqI ?_)) .nil (fun _ _ h => h)
      unfold namesE; rw [if_neg (by rw [hrp]; simp), any_no (p := lostB src) fun j hj => hI2 j (by omega)]; rfl

theorem inh_ok (l : List Cl) : CallT Tryd.prog 53 [Rp.slice eC l] [] (.one (Rp.bool (inhB l))) := by
  refine W.enter (fn := Tryd.f53) (n := 34) Tryd.func53 rfl Tryd.ntmps53 rfl (fun w₀ C₀ => ?_)
  simp only [argS]
  refine W.fact 0 rfl slice_fact fun hl => ?_
  refine W.seq ?_
  refine W.region ?_
  refine L.op1 rfl rfl (GSpec.plain rfl (spec_assign rfl Get.cbool)) ?_
  refine L.nil ?_
  refine N.thenW ?_
  refine W.seq ?_
  refine W.seq ?_
  refine W.region ?_
  refine L.op1 rfl rfl (GSpec.plain rfl (spec_assign rfl (Get.cint rfl))) ?_
  refine L.nil ?_
  refine N.thenW ?_
  refine W.block ?_
  -- assigned in the loop, not kept: [2]
  refine W.loopK (σ := Nat) (.cons (t := 0) rfl .nil) (fun z => [(3, Rp.int .i64 ((z + 1 : Nat) : Int))]) (fun z => []) (fun z => z ≤ l.length ∧ ∀ a, a < l.length → 1 ≤ a → a < z + 1 → ∀ k, k < (l.getD 0 default).fields.length → hasF (l.getD a default).fields ((l.getD 0 default).fields.getD k default).name = false) (fun z => l.length - z) 0 ⟨Nat.zero_le _, fun a _ h1 h2 => by omega⟩ (.weak (t := 3) rfl (eqI (by omega)) .nil) .nil ?_
  intro i hI S' M' hS hM
  obtain ⟨hI1, hI2⟩ := hI
  try dsimp only at hS hM
  simp only [List.cons_append, List.nil_append] at hS hM
  subst hS hM
  try dsimp only
  refine W.seq ?_
  refine W.seq ?_
  refine W.region ?_
  refine L.op1 rfl rfl (GSpec.plain rfl (spec_move rfl (Get.tmp rfl))) ?_
  refine L.op1 rfl rfl (GSpec.plain rfl (spec_move rfl (Get.tmp rfl))) ?_
  refine L.op1 rfl rfl (GSpec.plain rfl (spec_len rfl Tryd.underlying38 (Get.tmp rfl))) ?_
  refine L.op1 rfl rfl (GSpec.plain rfl (spec_lss rfl (Get.tmp rfl) (Get.tmp rfl))) ?_
  refine L.nil ?_
  refine N.thenW ?_
  refine W.cond (Get.tmp rfl) (fun h1 => ?_) (fun h1 => ?_)
  · have ph1 := h1; try simp only [decide_eq_true_eq, decide_eq_false_iff_not, Bool.and_eq_true, Bool.or_eq_true, Bool.and_eq_false_iff, Bool.or_eq_false_iff, Bool.not_eq_true', Bool.not_eq_false', Bool.not_true, Bool.not_false, Int.not_lt, Int.not_le] at ph1
    refine W.skip ?_
    refine N.thenW ?_
    refine W.fact 0 rfl (cls_fact (l := l) (i := 0) (by omega)) fun hcf => ?_
    refine W.seq ?_
    refine W.block ?_
    refine W.seq ?_
    refine W.region ?_
    refine L.op1 rfl rfl (GSpec.plain rfl (spec_assign rfl (Get.cint rfl))) ?_
    refine L.nil ?_
    refine N.thenW ?_
    refine W.block ?_
    refine W.loopK (σ := Nat) (.cons (t := 0) rfl (.cons (t := 3) rfl (.cons (t := 5) rfl (.cons (t := 6) rfl (.cons (t := 7) rfl (.cons (t := 8) rfl .nil)))))) (fun z => [(4, Rp.int .i64 (z : Nat))]) (fun z => []) (fun z => z ≤ (l.getD 0 default).fields.length ∧ ∀ j, j < z → hasF (l.getD (i + 1) default).fields ((l.getD 0 default).fields.getD j default).name = false) (fun z => (l.getD 0 default).fields.length - z) 0 ⟨Nat.zero_le _, fun j hj => by omega⟩ (.cons (t := 4) rfl .nil) .nil ?_
    intro k hI S' M' hS hM
    obtain ⟨hK1, hK2⟩ := hI
    try dsimp only at hS hM
    simp only [List.cons_append, List.nil_append] at hS hM
    subst hS hM
    try dsimp only
    refine W.seq ?_
    refine W.seq ?_
    refine W.region ?_
    refine L.op1 rfl rfl (GSpec.plain rfl (spec_move rfl (Get.tmp rfl))) ?_
    refine L.op1 rfl rfl (GSpec.plain rfl (spec_move rfl (Get.tmp rfl))) ?_
    refine L.op1 rfl rfl (GSpec.plain rfl (spec_indexAddrD (E := eC) rfl Tryd.underlying38 Tryd.sizeOf25 (fun _ => rfl) (Get.tmp rfl) (Get.cint rfl) (by (first | omega | (simp only [Int.toNat_natCast]; omega) | (show _ ∧ _; constructor; omega; exact of_decide_eq_true (by assumption)))))) ?_
    refine L.op1 rfl rfl (GSpec.plain rfl (spec_fieldAddrP (f := 2) rfl Tryd.underlying25 rfl Tryd.sizeOf22 (Get.tmp rfl) rfl rfl)) ?_
    refine L.op1 rfl rfl (GSpec.plain rfl (spec_loadP1 rfl Tryd.isAgg22 (Get.tmp rfl))) ?_
    refine L.op1 rfl rfl (GSpec.plain rfl (spec_len rfl Tryd.underlying22 (Get.tmp rfl))) ?_
    refine L.op1 rfl rfl (GSpec.plain rfl (spec_lss rfl (Get.tmp rfl) (Get.tmp rfl))) ?_
    refine L.nil ?_
    refine N.thenW ?_
    refine W.cond (Get.tmp rfl) (fun h2 => ?_) (fun h2 => ?_)
    · have ph2 := h2; simp only [decide_eq_true_eq, decide_eq_false_iff_not, Bool.and_eq_true, Bool.or_eq_true, Bool.and_eq_false_iff, Bool.or_eq_false_iff, Bool.not_eq_true', Bool.not_eq_false', Bool.not_true, Bool.not_false, Int.not_lt, Int.not_le] at ph2
      have hkf : k < (l.getD 0 default).fields.length := by have h := of_decide_eq_true h2; exact Int.ofNat_lt.1 h
      refine W.skip ?_
      refine N.thenW ?_
      refine W.seq ?_
      refine W.block ?_
      refine W.seq ?_
      apply W.any 14 mixed (by kernel_rfl)
      · apply Head.one rfl rfl (GSpec.plain rfl (spec_move rfl (Get.tmp rfl)))
        apply Head.one rfl rfl (GSpec.plain rfl (spec_move rfl (Get.tmp rfl)))
        apply Head.one rfl rfl (GSpec.plain rfl (spec_indexAddrD (E := eC) rfl Tryd.underlying38 Tryd.sizeOf25 (fun _ => rfl) (Get.tmp rfl) (Get.tmp rfl) (by (first | omega | (simp only [Int.toNat_natCast]; omega) | (show _ ∧ _; constructor; omega; exact of_decide_eq_true (by assumption))))))
        apply Head.one rfl rfl (GSpec.plain rfl (spec_fieldAddrP (f := 2) rfl Tryd.underlying25 rfl Tryd.sizeOf22 (Get.tmp rfl) rfl rfl))
        apply Head.one rfl rfl (GSpec.plain rfl (spec_loadP1 rfl Tryd.isAgg22 (Get.tmp rfl)))
        apply Head.one rfl rfl (GSpec.plain rfl (spec_move rfl (Get.tmp rfl)))
        apply Head.one rfl rfl (GSpec.plain rfl (spec_indexAddrD (E := eC) rfl Tryd.underlying38 Tryd.sizeOf25 (fun _ => rfl) (Get.tmp rfl) (Get.cint rfl) (by (first | omega | (simp only [Int.toNat_natCast]; omega) | (show _ ∧ _; constructor; omega; exact of_decide_eq_true (by assumption))))))
        apply Head.one rfl rfl (GSpec.plain rfl (spec_fieldAddrP (f := 2) rfl Tryd.underlying25 rfl Tryd.sizeOf22 (Get.tmp rfl) rfl rfl))
        apply Head.one rfl rfl (GSpec.plain rfl (spec_loadP1 rfl Tryd.isAgg22 (Get.tmp rfl)))
        apply Head.one rfl rfl (GSpec.plain rfl (spec_move rfl (Get.tmp rfl)))
        apply Head.one rfl rfl (GSpec.plain rfl (spec_indexAddrD (E := eF) rfl Tryd.underlying22 Tryd.sizeOf27 (fun _ => rfl) (Get.tmp rfl) (Get.tmp rfl) (by (first | omega | (simp only [Int.toNat_natCast]; omega) | (show _ ∧ _; constructor; omega; exact of_decide_eq_true (by assumption))))))
        apply Head.one rfl rfl (GSpec.plain rfl (spec_fieldAddrP (f := 0) rfl Tryd.underlying27 rfl Tryd.sizeOf9 (Get.tmp rfl) rfl rfl))
        apply Head.one rfl rfl (GSpec.plain rfl (spec_loadP1 rfl Tryd.isAgg9 (Get.tmp rfl)))
        apply Head.one rfl rfl (GSpec.plain rfl (spec_call rfl Tryd.call41 (field_ok _ _) (.cons (Get.tmp rfl) (.cons (Get.tmp rfl) .nil))))
        exact Head.nil
      refine Fin.one ?_
      refine Fin.one ?_
      refine Fin.one ?_
      refine Fin.one ?_
      refine Fin.one ?_
      refine Fin.one ?_
      refine Fin.one ?_
      refine Fin.one ?_
      refine Fin.one ?_
      refine Fin.one ?_
      refine Fin.one ?_
      refine Fin.one ?_
      refine Fin.one ?_
      refine Fin.one ?_
      refine Fin.nil ?_
      refine L.nil ?_
      refine N.thenW ?_
      refine W.cond (Get.tmp rfl) (fun h3 => ?_) (fun h3 => ?_)
      · have ph3 := h3; try simp only [decide_eq_true_eq, decide_eq_false_iff_not, Bool.and_eq_true, Bool.or_eq_true, Bool.and_eq_false_iff, Bool.or_eq_false_iff, Bool.not_eq_true', Bool.not_eq_false', Bool.not_true, Bool.not_false, Int.not_lt, Int.not_le] at ph3
        refine W.seq ?_
        refine W.region ?_
        refine L.op1 rfl rfl (GSpec.plain rfl (spec_assign rfl Get.cbool)) ?_
        refine L.nil ?_
        refine N.thenW ?_
        refine W.ret ?_
        refine N.ret () rfl (.tmp (t := 2) (Get.tmp rfl) .nil) (res1 (eqB ?_)) .nil (fun _ _ h => h)
        exact (inh_yes (l := l) (i := i + 1) (k := k) (by omega) (by omega) hkf h3).symm
      · have ph3 := h3; try simp only [decide_eq_true_eq, decide_eq_false_iff_not, Bool.and_eq_true, Bool.or_eq_true, Bool.and_eq_false_iff, Bool.or_eq_false_iff, Bool.not_eq_true', Bool.not_eq_false', Bool.not_true, Bool.not_false, Int.not_lt, Int.not_le] at ph3
        refine W.skip ?_
        refine N.blockNormal ?_
        refine N.thenW ?_
        refine W.region ?_
        refine L.op1 rfl rfl (GSpec.plain rfl (spec_move rfl (Get.tmp rfl))) ?_
        first | refine L.op1 rfl rfl (GSpec.plain rfl (fit_i64 (by (first | omega | (simp only [Int.toNat_natCast]; omega) | (show _ ∧ _; constructor; omega; exact of_decide_eq_true (by assumption)))) (by (first | omega | (simp only [Int.toNat_natCast]; omega) | (show _ ∧ _; constructor; omega; exact of_decide_eq_true (by assumption)))) (spec_add rfl (Get.tmp rfl) (Get.cint rfl)))) ?_ | refine L.op1 rfl rfl (GSpec.plain rfl (spec_add rfl (Get.tmp rfl) (Get.cint rfl))) ?_
        refine L.op1 rfl rfl (GSpec.plain rfl (spec_assign rfl (Get.tmp rfl))) ?_
        refine L.nil ?_
        refine N.roundK (k + 1) ?hI2 ?hmu2 ?hs2 ?hk2 ?hp2
        case hs2 => exact (.cons (t := 4) rfl .nil)
        case hk2 => exact (.cons (t := 0) rfl (.cons (t := 3) rfl (.cons (t := 5) rfl (.cons (t := 6) rfl (.cons (t := 7) rfl (.cons (t := 8) rfl .nil))))))
        case hp2 => exact .nil
        case hI2 => exact ⟨by omega, upto hK2 h3⟩
        case hmu2 => omega
    · have ph2 := h2; simp only [decide_eq_true_eq, decide_eq_false_iff_not, Bool.and_eq_true, Bool.or_eq_true, Bool.and_eq_false_iff, Bool.or_eq_false_iff, Bool.not_eq_true', Bool.not_eq_false', Bool.not_true, Bool.not_false, Int.not_lt, Int.not_le] at ph2
      have hkf : ¬ k < (l.getD 0 default).fields.length := fun q => by have h := of_decide_eq_false h2; exact h (Int.ofNat_lt.2 q)
      refine W.exit ?_
      refine N.thenExit ?_
      refine N.thenExit ?_
      refine N.blockExit ?_
      refine N.blockNormal ?_
      refine N.thenW ?_
      refine W.region ?_
      refine L.op1 rfl rfl (GSpec.plain rfl (spec_move rfl (Get.tmp rfl))) ?_
      first | refine L.op1 rfl rfl (GSpec.plain rfl (fit_i64 (by (first | omega | (simp only [Int.toNat_natCast]; omega) | (show _ ∧ _; constructor; omega; exact of_decide_eq_true (by assumption)))) (by (first | omega | (simp only [Int.toNat_natCast]; omega) | (show _ ∧ _; constructor; omega; exact of_decide_eq_true (by assumption)))) (spec_add rfl (Get.tmp rfl) (Get.cint rfl)))) ?_ | refine L.op1 rfl rfl (GSpec.plain rfl (spec_add rfl (Get.tmp rfl) (Get.cint rfl))) ?_
      refine L.op1 rfl rfl (GSpec.plain rfl (spec_assign rfl (Get.tmp rfl))) ?_
      refine L.nil ?_
      refine N.roundK (i + 1) ?hI3 ?hmu3 ?hs3 ?hk3 ?hp3
      case hs3 => exact (.weak (t := 3) rfl (eqI (by omega)) .nil)
      case hk3 => exact (.cons (t := 0) rfl .nil)
      case hp3 => exact .nil
      case hI3 => exact ⟨by omega, fun a ha h1 h2 k hk => by by_cases e : a = i + 1; (subst e; exact hK2 k (by omega)); exact hI2 a ha h1 (by omega) k hk⟩
      case hmu3 => omega
  · have ph1 := h1; try simp only [decide_eq_true_eq, decide_eq_false_iff_not, Bool.and_eq_true, Bool.or_eq_true, Bool.and_eq_false_iff, Bool.or_eq_false_iff, Bool.not_eq_true', Bool.not_eq_false', Bool.not_true, Bool.not_false, Int.not_lt, Int.not_le] at ph1
    refine W.exit ?_
    refine N.thenExit ?_
    refine N.thenExit ?_
    refine N.blockExit ?_
    refine N.thenW ?_
    refine W.keep .nil .refl ?_
    refine W.seq ?_
    refine W.region ?_
    refine L.op1 rfl rfl (GSpec.plain rfl (spec_assign rfl Get.cbool)) ?_
    refine L.nil ?_
    refine N.thenW ?_
    refine W.ret ?_
    refine N.ret () rfl (.tmp (t := 2) (Get.tmp rfl) .nil) (res1 (eqB ?_)) .nil (fun _ _ h => h)
    exact (inh_no fun a ha h1 k hk => hI2 a ha h1 (by omega) k hk).symm

end Go.Proofs.YtcabngjnmipflaaDoor
/- Flat classes as data. -/
namespace Go.Proofs.YtcabngjnmipflaaDoor
open Go.Sim
/-- A block goes into a list: at the place of the one of its name, or at the end. -/
def extB (bs : List Bk) (b : Bk) : List Bk := if 0 ≤ blkI bs b.name then bs.set (blkI bs b.name).toNat b else bs ++ [b]
def extA (bs : List Bk) (l : List Bk) : List Bk := l.foldl extB bs
theorem blk_lt (bs : List Bk) (s : List UInt8) : blkI bs s < bs.length := by
  rcases idx_cases (fun b : Bk => b.name == s) bs with ⟨i, h1, _, _, h4⟩ | ⟨_, h4⟩
  · unfold blkI; rw [h4]; omega
  · unfold blkI; rw [h4]; omega
theorem extB_len (bs : List Bk) (b : Bk) : (extB bs b).length ≤ bs.length + 1 := by
  unfold extB; split <;> simp
theorem extA_len (l : List Bk) : ∀ bs, (extA bs l).length ≤ bs.length + l.length := by
  induction l with
  | nil => intro bs; simp [extA]
  | cons b l ih =>
    intro bs
    have h1 := ih (extB bs b)
    have h2 := extB_len bs b
    have e : extA bs (b :: l) = extA (extB bs b) l := rfl
    rw [e, List.length_cons]; omega
theorem extA_take {bs l : List Bk} {k : Nat} (hk : k < l.length) : extA bs (l.take (k + 1)) = extB (extA bs (l.take k)) (l.getD k default) := by
  unfold extA; rw [fold_take _ _ hk]
/-- Fields and blocks of a line, from its last one on. -/
def flF (l : List Cl) : List Fd := l.reverse.flatMap Cl.fields
def flB (l : List Cl) : List Bk := l.reverse.foldl (fun bs c => extA bs c.blocks) []
def flatC (l : List Cl) : Cl := ⟨(l.getD 0 default).name, [], flF l, flB l⟩
theorem flF_cons (c : Cl) (l : List Cl) : flF (c :: l) = flF l ++ c.fields := by simp [flF]
theorem flB_cons (c : Cl) (l : List Cl) : flB (c :: l) = extA (flB l) c.blocks := by simp [flB, List.foldl_append]
theorem drop_cons'' {l : List Cl} {i : Nat} (h : i < l.length) : l.drop i = l.getD i default :: l.drop (i + 1) := by
  rw [List.drop_eq_getElem_cons h]; simp [List.getD, h]
/-- Few fields and blocks in each class, and few classes. -/
def Few (l : List Cl) : Prop := l.length ≤ 1000 ∧ ∀ c ∈ l, c.fields.length ≤ 16 ∧ c.blocks.length ≤ 16
theorem flF_len {l : List Cl} (h : ∀ c ∈ l, c.fields.length ≤ 16 ∧ c.blocks.length ≤ 16) : (flF l).length ≤ 16 * l.length ∧ (flB l).length ≤ 16 * l.length := by
  induction l with
  | nil => simp [flF, flB]
  | cons c l ih =>
    obtain ⟨i1, i2⟩ := ih fun x hx => h x (List.mem_cons_of_mem _ hx)
    have hc := h c List.mem_cons_self
    have := extA_len c.blocks (flB l)
    rw [flF_cons, flB_cons, List.length_append, List.length_cons]
    omega
theorem few_drop {l : List Cl} (h : Few l) (i : Nat) : (flF (l.drop i)).length ≤ 16000 ∧ (flB (l.drop i)).length ≤ 16000 := by
  have h1 := flF_len (l := l.drop i) fun c hc => h.2 c (List.mem_of_mem_drop hc)
  have h2 := h.1
  have h3 : (l.drop i).length ≤ l.length := by simp
  omega
theorem extB_yes {bs : List Bk} {b : Bk} (h : 0 ≤ blkI bs b.name) : bs.set (blkI bs b.name).toNat b = extB bs b := by unfold extB; rw [if_pos h]
theorem extB_no {bs : List Bk} {b : Bk} (h : ¬ 0 ≤ blkI bs b.name) : bs ++ [b] = extB bs b := by unfold extB; rw [if_neg h]
theorem flF_drop {l : List Cl} {m : Nat} (h : m < l.length) : flF (l.drop m) = flF (l.drop (m + 1)) ++ (l.getD m default).fields := by rw [drop_cons'' h, flF_cons]
theorem flB_drop {l : List Cl} {m : Nat} (h : m < l.length) : flB (l.drop m) = extA (flB (l.drop (m + 1))) (l.getD m default).blocks := by rw [drop_cons'' h, flB_cons]
/-- A field has the name of one of others. -/
def clashB (fs l : List Fd) : Bool := l.any fun x => hasF fs x.name
theorem clash_next {fs l : List Fd} {cl : Bool} {i : Nat} (h : i < l.length) : (cl || clashB fs (l.take (i + 1))) = ((cl || clashB fs (l.take i)) || hasF fs (l.getD i default).name) := by
  unfold clashB; rw [take_succ h, List.any_append]; simp [Bool.or_assoc]
def rowX (nm : List UInt8) (va vb : Value) (b : Bool) : List Rp := [Rp.str nm, Rp.str [], Rp.val va, Rp.val vb, Rp.bool b]
/-- What the next class on the way down leaves of a flat one. -/
def extX (r : Nat) (c : Cl) (fs : List Fd) (bs : List Bk) (cl : Bool) : RA := ⟨Value × Value, fun _ => Rp.tuple [], fun z => [MF.box r 72 (rowX c.name z.1 z.2 (cl || clashB fs c.fields)), MF.osl z.1 27 5 eF (fs ++ c.fields), MF.osl z.2 54 2 eBk (extA bs c.blocks)]⟩
end Go.Proofs.YtcabngjnmipflaaDoor
set_option linter.unusedSimpArgs false
set_option maxRecDepth 8000
set_option linter.unusedVariables false
namespace Go.Proofs.YtcabngjnmipflaaDoor
open Go.Sim
theorem eqnF_ok (x y : Fd) : CallT Tryd.prog 78 [Rp.agg (eF y), Rp.at (eF x)] [] (.one (Rp.bool (y.name == x.name))) := by
  refine W.enter (fn := Tryd.f78) (n := 9) Tryd.func78 rfl Tryd.ntmps78 rfl (fun w₀ C₀ => ?_)
  simp only [argS]
  refine W.seq ?_
  refine W.region ?_
  refine L.box rfl rfl (GSpec.plain rfl (spec_box rfl (GetC.agg (Get.tmp rfl)))) (fun r2 => ?_)
  refine L.op1 rfl rfl (GSpec.plain rfl (spec_assign rfl Get.cbool)) ?_
  refine L.nil ?_
  refine N.thenW ?_
  refine W.seq ?_
  refine W.region ?_
  refine L.op1 rfl rfl (GSpec.plain rfl (spec_fieldAddr (f := 0) (off' := 0) rfl Tryd.underlying27 rfl Tryd.sizeOf9 (Get.tmp rfl) rfl)) ?_
  refine L.op1 rfl rfl (GSpec.plain rfl (spec_load1 (k := 0) rfl Tryd.isAgg9 (Get.tmp rfl) rfl rfl)) ?_
  refine L.op1 rfl rfl (GSpec.plain rfl (spec_fieldAddrP (f := 0) rfl Tryd.underlying27 rfl Tryd.sizeOf9 (Get.tmp rfl) rfl rfl)) ?_
  refine L.op1 rfl rfl (GSpec.plain rfl (spec_loadP1 rfl Tryd.isAgg9 (Get.tmp rfl))) ?_
  refine L.op1 rfl rfl (GSpec.plain rfl (spec_eqlS rfl (Get.tmp rfl) (Get.tmp rfl))) ?_
  refine L.op1 rfl rfl (GSpec.plain rfl (spec_assign rfl (Get.tmp rfl))) ?_
  refine L.nil ?_
  refine N.thenW ?_
  refine W.keep (.cons (t := 3) rfl .nil) .refl ?_
  refine W.ret ?_
  refine N.ret () rfl (.tmp (t := 3) (Get.tmp rfl) .nil) (res1 (eqB ?_)) .nil (fun _ _ h => h)
  rfl

theorem eqnB_ok (x y : Bk) : CallT Tryd.prog 79 [Rp.agg (eBk y), Rp.at (eBk x)] [] (.one (Rp.bool (y.name == x.name))) := by
  refine W.enter (fn := Tryd.f79) (n := 9) Tryd.func79 rfl Tryd.ntmps79 rfl (fun w₀ C₀ => ?_)
  simp only [argS]
  refine W.seq ?_
  refine W.region ?_
  refine L.box rfl rfl (GSpec.plain rfl (spec_box rfl (GetC.agg (Get.tmp rfl)))) (fun r2 => ?_)
  refine L.op1 rfl rfl (GSpec.plain rfl (spec_assign rfl Get.cbool)) ?_
  refine L.nil ?_
  refine N.thenW ?_
  refine W.seq ?_
  refine W.region ?_
  refine L.op1 rfl rfl (GSpec.plain rfl (spec_fieldAddr (f := 0) (off' := 0) rfl Tryd.underlying54 rfl Tryd.sizeOf9 (Get.tmp rfl) rfl)) ?_
  refine L.op1 rfl rfl (GSpec.plain rfl (spec_load1 (k := 0) rfl Tryd.isAgg9 (Get.tmp rfl) rfl rfl)) ?_
  refine L.op1 rfl rfl (GSpec.plain rfl (spec_fieldAddrP (f := 0) rfl Tryd.underlying54 rfl Tryd.sizeOf9 (Get.tmp rfl) rfl rfl)) ?_
  refine L.op1 rfl rfl (GSpec.plain rfl (spec_loadP1 rfl Tryd.isAgg9 (Get.tmp rfl))) ?_
  refine L.op1 rfl rfl (GSpec.plain rfl (spec_eqlS rfl (Get.tmp rfl) (Get.tmp rfl))) ?_
  refine L.op1 rfl rfl (GSpec.plain rfl (spec_assign rfl (Get.tmp rfl))) ?_
  refine L.nil ?_
  refine N.thenW ?_
  refine W.keep (.cons (t := 3) rfl .nil) .refl ?_
  refine W.ret ?_
  refine N.ret () rfl (.tmp (t := 3) (Get.tmp rfl) .nil) (res1 (eqB ?_)) .nil (fun _ _ h => h)
  rfl

theorem idxF_ok (l : List Fd) (p : Fd → Bool) : CallT Tryd.prog 91 [Rp.slice eF l, Rp.fn Tryd.prog (fun b : Fd => [Rp.agg (eF b)]) (fun b => .one (Rp.bool (p b)))] [] (.one (Rp.int .i64 (idxI p l))) := by
  refine W.enter (fn := Tryd.f91) (n := 19) Tryd.func91 rfl Tryd.ntmps91 rfl (fun w₀ C₀ => ?_)
  simp only [argS]
  refine W.fact 0 rfl slice_fact fun hl => ?_
  refine W.seq ?_
  refine W.region ?_
  refine L.op1 rfl rfl (GSpec.plain rfl (spec_assign rfl (Get.cint rfl))) ?_
  refine L.nil ?_
  refine N.thenW ?_
  refine W.seq ?_
  refine W.seq ?_
  refine W.region ?_
  refine L.op1 rfl rfl (GSpec.plain rfl (spec_move rfl (Get.tmp rfl))) ?_
  refine L.op1 rfl rfl (GSpec.plain rfl (spec_len rfl Tryd.underlying22 (Get.tmp rfl))) ?_
  refine L.op1 rfl rfl (GSpec.plain rfl (spec_move rfl (Get.cint rfl))) ?_
  refine L.nil ?_
  refine N.thenW ?_
  refine W.block ?_
  -- assigned in the loop, not kept: [4]
  refine W.loopK (σ := Nat) (.cons (t := 0) rfl (.cons (t := 1) rfl (.cons (t := 7) rfl .nil))) (fun z => [(8, Rp.int .i64 (z : Nat))]) (fun z => []) (fun z => z ≤ l.length ∧ ∀ j : Nat, j < z → p (l.getD j default) = false) (fun z => l.length - z) 0 ⟨Nat.zero_le _, fun j hj => by omega⟩ (.cons (t := 8) rfl .nil) .nil ?_
  intro i hI S' M' hS hM
  obtain ⟨hI1, hI2⟩ := hI
  try dsimp only at hS hM
  simp only [List.cons_append, List.nil_append] at hS hM
  subst hS hM
  try dsimp only
  refine W.seq ?_
  refine W.region ?_
  refine L.op1 rfl rfl (GSpec.plain rfl (spec_lss rfl (Get.tmp rfl) (Get.tmp rfl))) ?_
  refine L.nil ?_
  refine N.thenW ?_
  refine W.seq ?_
  refine W.cond (Get.tmp rfl) (fun h1 => ?_) (fun h1 => ?_)
  · have ph1 := h1; try simp only [decide_eq_true_eq, decide_eq_false_iff_not, Bool.and_eq_true, Bool.or_eq_true, Bool.and_eq_false_iff, Bool.or_eq_false_iff, Bool.not_eq_true', Bool.not_eq_false', Bool.not_true, Bool.not_false, Int.not_lt, Int.not_le] at ph1
    refine W.skip ?_
    refine N.thenW ?_
    refine W.seq ?_
    refine W.block ?_
    refine W.seq ?_
    refine W.region ?_
    refine L.op1 rfl rfl (GSpec.plain rfl (spec_move rfl (Get.tmp rfl))) ?_
    refine L.op1 rfl rfl (GSpec.plain rfl (spec_assign rfl (Get.tmp rfl))) ?_
    refine L.nil ?_
    refine N.thenW ?_
    refine W.seq ?_
    refine W.region ?_
    refine L.op1 rfl rfl (GSpec.plain rfl (spec_move rfl (Get.tmp rfl))) ?_
    refine L.op1 rfl rfl (GSpec.plain rfl (spec_move rfl (Get.tmp rfl))) ?_
    refine L.op1 rfl rfl (GSpec.plain rfl (spec_move rfl (Get.tmp rfl))) ?_
    refine L.op1 rfl rfl (GSpec.plain rfl (spec_indexAddrD (E := eF) rfl Tryd.underlying22 Tryd.sizeOf27 (fun _ => rfl) (Get.tmp rfl) (Get.tmp rfl) (by omega))) ?_
    refine L.op1 rfl rfl (GSpec.plain rfl (spec_loadPA rfl Tryd.isAgg27 Tryd.sizeOf27 (Get.tmp rfl) rfl)) ?_
    refine L.op1 rfl rfl (GSpec.plain rfl (spec_callF (A := fun b : Fd => [Rp.agg (eF b)]) (X := fun b : Fd => .one (Rp.bool (p b))) (l.getD i default) rfl (Get.tmp rfl) (.cons (Get.tmp rfl) .nil))) ?_
    refine L.nil ?_
    refine N.thenW ?_
    refine W.cond (Get.tmp rfl) (fun h2 => ?_) (fun h2 => ?_)
    · have ph2 := h2; try simp only [decide_eq_true_eq, decide_eq_false_iff_not, Bool.and_eq_true, Bool.or_eq_true, Bool.and_eq_false_iff, Bool.or_eq_false_iff, Bool.not_eq_true', Bool.not_eq_false', Bool.not_true, Bool.not_false, Int.not_lt, Int.not_le] at ph2
      refine W.seq ?_
      refine W.region ?_
      refine L.op1 rfl rfl (GSpec.plain rfl (spec_move rfl (Get.tmp rfl))) ?_
      refine L.op1 rfl rfl (GSpec.plain rfl (spec_assign rfl (Get.tmp rfl))) ?_
      refine L.nil ?_
      refine N.thenW ?_
      refine W.ret ?_
      refine N.ret () rfl (.tmp (t := 4) (Get.tmp rfl) .nil) (res1 (eqI ?_)) .nil (fun _ _ h => h)
      exact (idx_yes (by omega) h2 hI2).symm
    · have ph2 := h2; try simp only [decide_eq_true_eq, decide_eq_false_iff_not, Bool.and_eq_true, Bool.or_eq_true, Bool.and_eq_false_iff, Bool.or_eq_false_iff, Bool.not_eq_true', Bool.not_eq_false', Bool.not_true, Bool.not_false, Int.not_lt, Int.not_le] at ph2
      refine W.skip ?_
      refine N.blockNormal ?_
      refine N.thenW ?_
      refine W.region ?_
      first | refine L.op1 rfl rfl (GSpec.plain rfl (fit_i64 (by omega) (by omega) (spec_add rfl (Get.tmp rfl) (Get.cint rfl)))) ?_ | refine L.op1 rfl rfl (GSpec.plain rfl (spec_add rfl (Get.tmp rfl) (Get.cint rfl))) ?_
      refine L.op1 rfl rfl (GSpec.plain rfl (spec_move rfl (Get.tmp rfl))) ?_
      refine L.nil ?_
      refine N.roundK (i + 1) ?hI1 ?hmu1 ?hs1 ?hk1 ?hp1
      case hs1 => exact (.cons (t := 8) rfl .nil)
      case hk1 => exact (.cons (t := 0) rfl (.cons (t := 1) rfl (.cons (t := 7) rfl .nil)))
      case hp1 => exact .nil
      case hI1 => exact ⟨by omega, upto hI2 h2⟩
      case hmu1 => omega
  · have ph1 := h1; try simp only [decide_eq_true_eq, decide_eq_false_iff_not, Bool.and_eq_true, Bool.or_eq_true, Bool.and_eq_false_iff, Bool.or_eq_false_iff, Bool.not_eq_true', Bool.not_eq_false', Bool.not_true, Bool.not_false, Int.not_lt, Int.not_le] at ph1
    refine W.exit ?_
    refine N.thenExit ?_
    refine N.thenExit ?_
    refine N.blockExit ?_
    refine N.thenW ?_
    refine W.seq ?_
    refine W.region ?_
    refine L.op1 rfl rfl (GSpec.plain rfl (spec_assign rfl (Get.cint rfl))) ?_
    refine L.nil ?_
    refine N.thenW ?_
    refine W.ret ?_
    refine N.ret () rfl (.tmp (t := 4) (Get.tmp rfl) .nil) (res1 (eqI ?_)) .nil (fun _ _ h => h)
    exact (idx_no fun j hj => hI2 j (by omega)).symm

theorem contF_ok (l : List Fd) (p : Fd → Bool) : CallT Tryd.prog 77 [Rp.slice eF l, Rp.fn Tryd.prog (fun b : Fd => [Rp.agg (eF b)]) (fun b => .one (Rp.bool (p b)))] [] (.one (Rp.bool (l.any p))) := by
  refine W.enter (fn := Tryd.f77) (n := 9) Tryd.func77 rfl Tryd.ntmps77 rfl (fun w₀ C₀ => ?_)
  simp only [argS]
  refine W.seq ?_
  refine W.region ?_
  refine L.op1 rfl rfl (GSpec.plain rfl (spec_assign rfl Get.cbool)) ?_
  refine L.nil ?_
  refine N.thenW ?_
  refine W.seq ?_
  refine W.region ?_
  refine L.op1 rfl rfl (GSpec.plain rfl (spec_move rfl (Get.tmp rfl))) ?_
  refine L.op1 rfl rfl (GSpec.plain rfl (spec_move rfl (Get.tmp rfl))) ?_
  refine L.op1 rfl rfl (GSpec.plain rfl (spec_call rfl Tryd.call91 (idxF_ok l p) (.cons (Get.tmp rfl) (.cons (Get.tmp rfl) .nil)))) ?_
  refine L.op1 rfl rfl (GSpec.plain rfl (spec_geq rfl (Get.tmp rfl) (Get.cint rfl))) ?_
  refine L.op1 rfl rfl (GSpec.plain rfl (spec_assign rfl (Get.tmp rfl))) ?_
  refine L.nil ?_
  refine N.thenW ?_
  refine W.keep (.cons (t := 4) rfl .nil) .refl ?_
  refine W.ret ?_
  refine N.ret () rfl (.tmp (t := 4) (Get.tmp rfl) .nil) (res1 (eqB ?_)) .nil (fun _ _ h => h)
  exact idx_any _ _

theorem idxB2_ok (l : List Bk) (p : Bk → Bool) : CallT Tryd.prog 61 [Rp.slice eBk l, Rp.fn Tryd.prog (fun b : Bk => [Rp.agg (eBk b)]) (fun b => .one (Rp.bool (p b)))] [] (.one (Rp.int .i64 (idxI p l))) := by
  refine W.enter (fn := Tryd.f61) (n := 19) Tryd.func61 rfl Tryd.ntmps61 rfl (fun w₀ C₀ => ?_)
  simp only [argS]
  refine W.fact 0 rfl slice_fact fun hl => ?_
  refine W.seq ?_
  refine W.region ?_
  refine L.op1 rfl rfl (GSpec.plain rfl (spec_assign rfl (Get.cint rfl))) ?_
  refine L.nil ?_
  refine N.thenW ?_
  refine W.seq ?_
  refine W.seq ?_
  refine W.region ?_
  refine L.op1 rfl rfl (GSpec.plain rfl (spec_move rfl (Get.tmp rfl))) ?_
  refine L.op1 rfl rfl (GSpec.plain rfl (spec_len rfl Tryd.underlying23 (Get.tmp rfl))) ?_
  refine L.op1 rfl rfl (GSpec.plain rfl (spec_move rfl (Get.cint rfl))) ?_
  refine L.nil ?_
  refine N.thenW ?_
  refine W.block ?_
  -- assigned in the loop, not kept: [4]
  refine W.loopK (σ := Nat) (.cons (t := 0) rfl (.cons (t := 1) rfl (.cons (t := 7) rfl .nil))) (fun z => [(8, Rp.int .i64 (z : Nat))]) (fun z => []) (fun z => z ≤ l.length ∧ ∀ j : Nat, j < z → p (l.getD j default) = false) (fun z => l.length - z) 0 ⟨Nat.zero_le _, fun j hj => by omega⟩ (.cons (t := 8) rfl .nil) .nil ?_
  intro i hI S' M' hS hM
  obtain ⟨hI1, hI2⟩ := hI
  try dsimp only at hS hM
  simp only [List.cons_append, List.nil_append] at hS hM
  subst hS hM
  try dsimp only
  refine W.seq ?_
  refine W.region ?_
  refine L.op1 rfl rfl (GSpec.plain rfl (spec_lss rfl (Get.tmp rfl) (Get.tmp rfl))) ?_
  refine L.nil ?_
  refine N.thenW ?_
  refine W.seq ?_
  refine W.cond (Get.tmp rfl) (fun h1 => ?_) (fun h1 => ?_)
  · have ph1 := h1; try simp only [decide_eq_true_eq, decide_eq_false_iff_not, Bool.and_eq_true, Bool.or_eq_true, Bool.and_eq_false_iff, Bool.or_eq_false_iff, Bool.not_eq_true', Bool.not_eq_false', Bool.not_true, Bool.not_false, Int.not_lt, Int.not_le] at ph1
    refine W.skip ?_
    refine N.thenW ?_
    refine W.seq ?_
    refine W.block ?_
    refine W.seq ?_
    refine W.region ?_
    refine L.op1 rfl rfl (GSpec.plain rfl (spec_move rfl (Get.tmp rfl))) ?_
    refine L.op1 rfl rfl (GSpec.plain rfl (spec_assign rfl (Get.tmp rfl))) ?_
    refine L.nil ?_
    refine N.thenW ?_
    refine W.seq ?_
    refine W.region ?_
    refine L.op1 rfl rfl (GSpec.plain rfl (spec_move rfl (Get.tmp rfl))) ?_
    refine L.op1 rfl rfl (GSpec.plain rfl (spec_move rfl (Get.tmp rfl))) ?_
    refine L.op1 rfl rfl (GSpec.plain rfl (spec_move rfl (Get.tmp rfl))) ?_
    refine L.op1 rfl rfl (GSpec.plain rfl (spec_indexAddrD (E := eBk) rfl Tryd.underlying23 Tryd.sizeOf54 (fun _ => rfl) (Get.tmp rfl) (Get.tmp rfl) (by omega))) ?_
    refine L.op1 rfl rfl (GSpec.plain rfl (spec_loadPA rfl Tryd.isAgg54 Tryd.sizeOf54 (Get.tmp rfl) rfl)) ?_
    refine L.op1 rfl rfl (GSpec.plain rfl (spec_callF (A := fun b : Bk => [Rp.agg (eBk b)]) (X := fun b : Bk => .one (Rp.bool (p b))) (l.getD i default) rfl (Get.tmp rfl) (.cons (Get.tmp rfl) .nil))) ?_
    refine L.nil ?_
    refine N.thenW ?_
    refine W.cond (Get.tmp rfl) (fun h2 => ?_) (fun h2 => ?_)
    · have ph2 := h2; try simp only [decide_eq_true_eq, decide_eq_false_iff_not, Bool.and_eq_true, Bool.or_eq_true, Bool.and_eq_false_iff, Bool.or_eq_false_iff, Bool.not_eq_true', Bool.not_eq_false', Bool.not_true, Bool.not_false, Int.not_lt, Int.not_le] at ph2
      refine W.seq ?_
      refine W.region ?_
      refine L.op1 rfl rfl (GSpec.plain rfl (spec_move rfl (Get.tmp rfl))) ?_
      refine L.op1 rfl rfl (GSpec.plain rfl (spec_assign rfl (Get.tmp rfl))) ?_
      refine L.nil ?_
      refine N.thenW ?_
      refine W.ret ?_
      refine N.ret () rfl (.tmp (t := 4) (Get.tmp rfl) .nil) (res1 (eqI ?_)) .nil (fun _ _ h => h)
      exact (idx_yes (by omega) h2 hI2).symm
    · have ph2 := h2; try simp only [decide_eq_true_eq, decide_eq_false_iff_not, Bool.and_eq_true, Bool.or_eq_true, Bool.and_eq_false_iff, Bool.or_eq_false_iff, Bool.not_eq_true', Bool.not_eq_false', Bool.not_true, Bool.not_false, Int.not_lt, Int.not_le] at ph2
      refine W.skip ?_
      refine N.blockNormal ?_
      refine N.thenW ?_
      refine W.region ?_
      first | refine L.op1 rfl rfl (GSpec.plain rfl (fit_i64 (by omega) (by omega) (spec_add rfl (Get.tmp rfl) (Get.cint rfl)))) ?_ | refine L.op1 rfl rfl (GSpec.plain rfl (spec_add rfl (Get.tmp rfl) (Get.cint rfl))) ?_
      refine L.op1 rfl rfl (GSpec.plain rfl (spec_move rfl (Get.tmp rfl))) ?_
      refine L.nil ?_
      refine N.roundK (i + 1) ?hI2 ?hmu2 ?hs2 ?hk2 ?hp2
      case hs2 => exact (.cons (t := 8) rfl .nil)
      case hk2 => exact (.cons (t := 0) rfl (.cons (t := 1) rfl (.cons (t := 7) rfl .nil)))
      case hp2 => exact .nil
      case hI2 => exact ⟨by omega, upto hI2 h2⟩
      case hmu2 => omega
  · have ph1 := h1; try simp only [decide_eq_true_eq, decide_eq_false_iff_not, Bool.and_eq_true, Bool.or_eq_true, Bool.and_eq_false_iff, Bool.or_eq_false_iff, Bool.not_eq_true', Bool.not_eq_false', Bool.not_true, Bool.not_false, Int.not_lt, Int.not_le] at ph1
    refine W.exit ?_
    refine N.thenExit ?_
    refine N.thenExit ?_
    refine N.blockExit ?_
    refine N.thenW ?_
    refine W.seq ?_
    refine W.region ?_
    refine L.op1 rfl rfl (GSpec.plain rfl (spec_assign rfl (Get.cint rfl))) ?_
    refine L.nil ?_
    refine N.thenW ?_
    refine W.ret ?_
    refine N.ret () rfl (.tmp (t := 4) (Get.tmp rfl) .nil) (res1 (eqI ?_)) .nil (fun _ _ h => h)
    exact (idx_no fun j hj => hI2 j (by omega)).symm

end Go.Proofs.YtcabngjnmipflaaDoor
/- The place of a block by its name, as a call. -/
namespace Go.Proofs.YtcabngjnmipflaaDoor
open Go.Sim
theorem blkF_ok (l : List Bk) (s : List UInt8) : CallT Tryd.prog 61 [Rp.slice eBk l, Rp.fn Tryd.prog (fun b : Bk => [Rp.agg (eBk b)]) (fun b => .one (Rp.bool (b.name == s)))] [] (.one (Rp.int .i64 (blkI l s))) := idxB2_ok l fun y => y.name == s
end Go.Proofs.YtcabngjnmipflaaDoor
set_option linter.unusedSimpArgs false
set_option maxRecDepth 8000
set_option linter.unusedVariables false
namespace Go.Proofs.YtcabngjnmipflaaDoor
open Go.Sim
theorem extend_ok (r : Nat) (nm : List UInt8) (va vb : Value) (c : Cl) (fs : List Fd) (bs : List Bk) (cl : Bool) (hok : ClOk c) (h1 : c.fields.length ≤ 16) (h2 : c.blocks.length ≤ 16) (hf : fs.length ≤ 16000) (hb : bs.length ≤ 16000) : CallT Tryd.prog 63 [Rp.ptr r 0, Rp.agg (eC c)] [MF.box r 72 (rowX nm va vb cl), MF.osl va 27 5 eF fs, MF.osl vb 54 2 eBk bs] (extX r c fs bs cl) := by
  refine W.enter (fn := Tryd.f63) (n := 92) Tryd.func63 rfl Tryd.ntmps63 rfl (fun w₀ C₀ => ?_)
  simp only [argS]
  obtain ⟨o1, o2, o3⟩ := hok
  refine W.seq ?_
  refine W.region ?_
  refine L.box rfl rfl (GSpec.plain rfl (spec_box rfl (GetC.agg (Get.tmp rfl)))) (fun r3 => ?_)
  refine L.nil ?_
  refine N.thenW ?_
  refine W.seq ?_
  refine W.region ?_
  refine L.op1 rfl rfl (GSpec.plain rfl (spec_move rfl (Get.tmp rfl))) ?_
  refine L.op1 rfl rfl (GSpec.plain rfl (spec_fieldAddr (f := 0) (off' := 0) rfl Tryd.underlying25 rfl Tryd.sizeOf9 (Get.tmp rfl) rfl)) ?_
  refine L.op1 rfl rfl (GSpec.plain rfl (spec_load1 (k := 0) rfl Tryd.isAgg9 (Get.tmp rfl) rfl rfl)) ?_
  refine L.op1 rfl rfl (GSpec.plain rfl (spec_nilCheck rfl (Get.tmp rfl))) ?_
  refine L.op1 rfl rfl (GSpec.plain rfl (spec_fieldAddr (f := 0) (off' := 0) rfl Tryd.underlying72 rfl Tryd.sizeOf25 (Get.tmp rfl) rfl)) ?_
  refine L.op1 rfl rfl (GSpec.plain rfl (spec_fieldAddr (f := 0) (off' := 0) rfl Tryd.underlying25 rfl Tryd.sizeOf9 (Get.tmp rfl) rfl)) ?_
  refine L.storeB (k := 1) rfl rfl rfl Tryd.sizeOf9 (Get.tmp rfl) (Get.tmp rfl) rfl rfl ?_
  refine L.nil ?_
  refine N.thenW ?_
  refine W.seq ?_
  refine W.seq ?_
  refine W.region ?_
  refine L.op1 rfl rfl (GSpec.plain rfl (spec_fieldAddr (f := 2) (off' := 2) rfl Tryd.underlying25 rfl Tryd.sizeOf22 (Get.tmp rfl) rfl)) ?_
  refine L.op1 rfl rfl (GSpec.plain rfl (spec_load1 (k := 0) rfl Tryd.isAgg22 (Get.tmp rfl) rfl rfl)) ?_
  refine L.op1 rfl rfl (GSpec.plain rfl (spec_len rfl Tryd.underlying22 (Get.tmp rfl))) ?_
  refine L.op1 rfl rfl (GSpec.plain rfl (spec_move rfl (Get.cint rfl))) ?_
  refine L.nil ?_
  refine N.thenW ?_
  refine W.keep (.cons (t := 0) rfl (.cons (t := 3) rfl (.cons (t := 16) rfl (.cons (t := 17) rfl (.cons (t := 18) rfl .nil))))) .refl ?_
  refine W.block ?_
  refine W.loopK (σ := Nat) (.cons (t := 0) rfl (.cons (t := 3) rfl (.cons (t := 16) rfl (.cons (t := 17) rfl .nil)))) (fun z => [(18, Rp.int .i64 (z : Nat))]) (fun z => [MF.box r 72 (rowX c.name va vb (cl || clashB fs (c.fields.take z)))]) (fun z => z ≤ c.fields.length) (fun z => c.fields.length - z) 0 (Nat.zero_le _) (.cons (t := 18) rfl .nil) (by rw [show (cl || clashB fs (c.fields.take 0)) = cl by simp [clashB]]; exact (.cons 1 rfl (.cons 0 rfl (.cons 0 rfl (.cons 0 rfl .nil))))) ?_
  intro i hI S' M' hS hM
  try dsimp only at hS hM
  simp only [List.cons_append, List.nil_append] at hS hM
  subst hS hM
  try dsimp only
  refine W.seq ?_
  refine W.region ?_
  refine L.op1 rfl rfl (GSpec.plain rfl (spec_lss rfl (Get.tmp rfl) (Get.tmp rfl))) ?_
  refine L.nil ?_
  refine N.thenW ?_
  refine W.seq ?_
  refine W.cond (Get.tmp rfl) (fun h1 => ?_) (fun h1 => ?_)
  · have ph1 := h1; try simp only [decide_eq_true_eq, decide_eq_false_iff_not, Bool.and_eq_true, Bool.or_eq_true, Bool.and_eq_false_iff, Bool.or_eq_false_iff, Bool.not_eq_true', Bool.not_eq_false', Bool.not_true, Bool.not_false, Int.not_lt, Int.not_le] at ph1
    refine W.skip ?_
    refine N.thenW ?_
    refine W.seq ?_
    refine W.block ?_
    refine W.seq ?_
    refine W.region ?_
    refine L.op1 rfl rfl (GSpec.plain rfl (spec_indexAddrD (E := eF) rfl Tryd.underlying22 Tryd.sizeOf27 (fun _ => rfl) (Get.tmp rfl) (Get.tmp rfl) (by (first | omega | (simp only [Int.toNat_natCast]; omega))))) ?_
    refine L.op1 rfl rfl (GSpec.plain rfl (spec_loadPA rfl Tryd.isAgg27 Tryd.sizeOf27 (Get.tmp rfl) rfl)) ?_
    refine L.box rfl rfl (GSpec.plain rfl (spec_alloc rfl ti27 z27)) (fun r5 => ?_)
    refine L.storeW (k := 0) rfl rfl rfl Tryd.sizeOf27 (Get.tmp rfl) (Get.tmp rfl) rfl rfl rfl ?_
    refine L.nil ?_
    refine N.thenW ?_
    refine W.pubB 5 0 rfl rfl ?_
    refine W.region ?_
    refine L.op1 rfl rfl (GSpec.plain rfl (spec_move rfl (Get.tmp rfl))) ?_
    refine L.op1 rfl rfl (GSpec.plain rfl (spec_move rfl (Get.tmp rfl))) ?_
    refine L.op1 rfl rfl (GSpec.plain rfl (spec_nilCheck rfl (Get.tmp rfl))) ?_
    refine L.op1 rfl rfl (GSpec.plain rfl (spec_fieldAddr (f := 1) (off' := 4) rfl Tryd.underlying72 rfl Tryd.sizeOf4 (Get.tmp rfl) rfl)) ?_
    refine L.op1 rfl rfl (GSpec.plain rfl (spec_load1 (k := 0) rfl Tryd.isAgg4 (Get.tmp rfl) rfl rfl)) ?_
    refine L.op1 rfl rfl (GSpec.plain rfl (spec_move rfl (Get.tmp rfl))) ?_
    refine L.op1 rfl rfl (GSpec.guard rfl rfl rfl fun hg => (spec_move rfl (Get.tmp rfl))) ?_
    refine L.op1 rfl rfl (GSpec.guard rfl rfl rfl fun hg => (spec_nilCheck rfl (Get.opt rfl hg))) ?_
    refine L.op1 rfl rfl (GSpec.guard rfl rfl rfl fun hg => (spec_fieldAddr (f := 0) (off' := 0) rfl Tryd.underlying72 rfl Tryd.sizeOf25 (Get.opt rfl hg) rfl)) ?_
    refine L.op1 rfl rfl (GSpec.guard rfl rfl rfl fun hg => (spec_fieldAddr (f := 2) (off' := 2) rfl Tryd.underlying25 rfl Tryd.sizeOf22 (Get.opt rfl hg) rfl)) ?_
    refine L.op1 rfl rfl (GSpec.guard rfl rfl rfl fun hg => (spec_load1 (k := 0) rfl Tryd.isAgg22 (Get.opt rfl hg) rfl rfl)) ?_
    refine L.op1 rfl rfl (GSpec.guard rfl rfl rfl fun hg => (spec_makeFunc rfl (.cons (Get.tmp rfl) .nil))) ?_
    refine L.op1 rfl rfl (GSpec.guard rfl rfl rfl fun hg => (spec_callB rfl Tryd.call77 (contF_ok fs fun y => y.name == (c.fields.getD i default).name) (.cons (Get.opt rfl hg) (.cons (Get.weak (Get.opt rfl hg) (fn_of_clo Tryd.call78 (fun i => eqnF_ok _ i))) .nil)) (.cons (.slice 2 rfl (fun _ => rfl)) (.cons .same .nil)))) ?_
    refine L.op1 rfl rfl (GSpec.plain rfl (spec_or rfl (Get.tmp rfl) (fun hb => (Get.opt rfl hb)))) ?_
    refine L.op1 rfl rfl (GSpec.plain rfl (spec_nilCheck rfl (Get.tmp rfl))) ?_
    refine L.op1 rfl rfl (GSpec.plain rfl (spec_fieldAddr (f := 1) (off' := 4) rfl Tryd.underlying72 rfl Tryd.sizeOf4 (Get.tmp rfl) rfl)) ?_
    refine L.storeB (k := 0) rfl rfl rfl Tryd.sizeOf4 (Get.tmp rfl) (Get.tmp rfl) rfl rfl ?_
    refine L.nil ?_
    refine N.blockNormal ?_
    refine N.thenW ?_
    refine W.region ?_
    first | refine L.op1 rfl rfl (GSpec.plain rfl (fit_i64 (by (first | omega | (simp only [Int.toNat_natCast]; omega))) (by (first | omega | (simp only [Int.toNat_natCast]; omega))) (spec_add rfl (Get.tmp rfl) (Get.cint rfl)))) ?_ | refine L.op1 rfl rfl (GSpec.plain rfl (spec_add rfl (Get.tmp rfl) (Get.cint rfl))) ?_
    refine L.op1 rfl rfl (GSpec.plain rfl (spec_move rfl (Get.tmp rfl))) ?_
    refine L.nil ?_
    refine N.roundK (i + 1) ?hI1 ?hmu1 ?hs1 ?hk1 ?hp1
    case hs1 => exact (.cons (t := 18) rfl .nil)
    case hk1 => exact (.cons (t := 0) rfl (.cons (t := 3) rfl (.cons (t := 16) rfl (.cons (t := 17) rfl .nil))))
    case hp1 => rw [clash_next (show i < c.fields.length by omega)]; exact (.cons 0 rfl (.cons 0 rfl (.cons 0 rfl (.cons 0 rfl .nil))))
    all_goals (first | rfl | trivial | omega | (simp_all; done))
  · have ph1 := h1; try simp only [decide_eq_true_eq, decide_eq_false_iff_not, Bool.and_eq_true, Bool.or_eq_true, Bool.and_eq_false_iff, Bool.or_eq_false_iff, Bool.not_eq_true', Bool.not_eq_false', Bool.not_true, Bool.not_false, Int.not_lt, Int.not_le] at ph1
    refine W.exit ?_
    refine N.thenExit ?_
    refine N.thenExit ?_
    refine N.blockExit ?_
    refine N.thenW ?_
    have hi : i = c.fields.length := by omega
    subst hi
    rw [List.take_length]
    refine W.seq ?_
    apply W.any1 (bs := [true, false, false, false, false, false, false, false]) (Mf := []) 8 mixed (by kernel_rfl) (by kernel_rfl) rfl .nil
    · apply Head1.flo rfl rfl (GSpec.plain rfl (spec_move rfl (Get.tmp rfl)))
      apply Head1.one rfl rfl (GSpec.plain rfl (spec_move rfl (Get.tmp rfl)))
      apply Head1.one rfl rfl (GSpec.plain rfl (spec_nilCheck rfl (Get.tmp rfl)))
      apply Head1.one rfl rfl (GSpec.plain rfl (spec_fieldAddr (f := 0) (off' := 0) rfl Tryd.underlying72 rfl Tryd.sizeOf25 (Get.tmp rfl) rfl))
      apply Head1.one rfl rfl (GSpec.plain rfl (spec_fieldAddr (f := 2) (off' := 2) rfl Tryd.underlying25 rfl Tryd.sizeOf22 (Get.tmp rfl) rfl))
      apply Head1.one rfl rfl (GSpec.plain rfl (spec_load1 (k := 0) rfl Tryd.isAgg22 (Get.tmp rfl) rfl rfl))
      apply Head1.one rfl rfl (GSpec.plain rfl (spec_fieldAddr (f := 2) (off' := 2) rfl Tryd.underlying25 rfl Tryd.sizeOf22 (Get.tmp rfl) rfl))
      apply Head1.one rfl rfl (GSpec.plain rfl (spec_load1 (k := 1) rfl Tryd.isAgg22 (Get.tmp rfl) rfl rfl))
      exact Head1.nil
    · rfl
    refine Fin1.flo ?_
    refine Fin1.one ?_
    refine Fin1.one ?_
    refine Fin1.one ?_
    refine Fin1.one ?_
    refine Fin1.one ?_
    refine Fin1.one ?_
    refine Fin1.one ?_
    refine Fin1.nil (fun X => ?_)
    refine L.append (k := 2) (E := eF) rfl rfl rfl rfl Tryd.underlying22 ti27 rfl (by decide) (fun _ => rfl) (Get.tmp rfl) (Get.tmp rfl) rfl (by (first | omega | (simp; omega))) (by (first | omega | (simp; omega))) (fun v47 => ?_)
    refine L.nil ?_
    refine Aft.next ((47, _) :: _) (Sub.push rfl) .nil rfl ?_
    refine L.op1 rfl rfl (GSpec.plain rfl (spec_nilCheck rfl (Get.tmp rfl))) ?_
    refine L.op1 rfl rfl (GSpec.plain rfl (spec_fieldAddr (f := 0) (off' := 0) rfl Tryd.underlying72 rfl Tryd.sizeOf25 (Get.tmp rfl) rfl)) ?_
    refine L.op1 rfl rfl (GSpec.plain rfl (spec_fieldAddr (f := 2) (off' := 2) rfl Tryd.underlying25 rfl Tryd.sizeOf22 (Get.tmp rfl) rfl)) ?_
    refine L.factM 2 rfl osl_one fun hq => ?_
    haveI := One.val hq
    refine L.storeB (k := 0) (R := Rp.val v47) rfl rfl rfl Tryd.sizeOf22 (Get.tmp rfl) (Get.tmp rfl) rfl rfl ?_
    refine L.nil ?_
    refine N.thenW ?_
    refine W.keep (.cons (t := 0) rfl (.cons (t := 3) rfl .nil)) .refl ?_
    refine W.seq ?_
    refine W.region ?_
    refine L.op1 rfl rfl (GSpec.plain rfl (spec_fieldAddr (f := 3) (off' := 3) rfl Tryd.underlying25 rfl Tryd.sizeOf23 (Get.tmp rfl) rfl)) ?_
    refine L.op1 rfl rfl (GSpec.plain rfl (spec_load1 (k := 1) rfl Tryd.isAgg23 (Get.tmp rfl) rfl rfl)) ?_
    refine L.op1 rfl rfl (GSpec.plain rfl (spec_len rfl Tryd.underlying23 (Get.tmp rfl))) ?_
    refine L.op1 rfl rfl (GSpec.plain rfl (spec_move rfl (Get.cint rfl))) ?_
    refine L.nil ?_
    refine N.thenW ?_
    refine W.block ?_
    refine W.loopK (σ := Nat × Value) (.cons (t := 0) rfl (.cons (t := 52) rfl (.cons (t := 53) rfl .nil))) (fun z => [(54, Rp.int .i64 (z.1 : Nat))]) (fun z => [MF.box r 72 (rowX c.name v47 z.2 (cl || clashB fs c.fields)), MF.osl z.2 54 2 eBk (extA bs (c.blocks.take z.1))]) (fun z => z.1 ≤ c.blocks.length) (fun z => c.blocks.length - z.1) (0, vb) (Nat.zero_le _) (.cons (t := 54) rfl .nil) (.cons 0 rfl (.cons 2 rfl (.cons 0 rfl (.cons 0 rfl .nil)))) ?_
    intro ⟨j, vc⟩ hI S' M' hS hM
    try dsimp only at hS hM
    simp only [List.cons_append, List.nil_append] at hS hM
    subst hS hM
    try dsimp only
    try dsimp only at hI
    have hxl := extA_len (c.blocks.take j) bs
    have htl : (c.blocks.take j).length ≤ j := by simp; omega
    have hbl := blk_lt (extA bs (c.blocks.take j)) (c.blocks.getD j default).name
    refine W.seq ?_
    refine W.region ?_
    refine L.op1 rfl rfl (GSpec.plain rfl (spec_lss rfl (Get.tmp rfl) (Get.tmp rfl))) ?_
    refine L.nil ?_
    refine N.thenW ?_
    refine W.seq ?_
    refine W.cond (Get.tmp rfl) (fun h2 => ?_) (fun h2 => ?_)
    · have ph2 := h2; try simp only [decide_eq_true_eq, decide_eq_false_iff_not, Bool.and_eq_true, Bool.or_eq_true, Bool.and_eq_false_iff, Bool.or_eq_false_iff, Bool.not_eq_true', Bool.not_eq_false', Bool.not_true, Bool.not_false, Int.not_lt, Int.not_le] at ph2
      refine W.skip ?_
      refine N.thenW ?_
      refine W.seq ?_
      refine W.block ?_
      refine W.seq ?_
      refine W.region ?_
      refine L.op1 rfl rfl (GSpec.plain rfl (spec_indexAddrD (E := eBk) rfl Tryd.underlying23 Tryd.sizeOf54 (fun _ => rfl) (Get.tmp rfl) (Get.tmp rfl) (by (first | omega | (simp only [Int.toNat_natCast]; omega))))) ?_
      refine L.op1 rfl rfl (GSpec.plain rfl (spec_loadPA rfl Tryd.isAgg54 Tryd.sizeOf54 (Get.tmp rfl) rfl)) ?_
      refine L.box rfl rfl (GSpec.plain rfl (spec_alloc rfl ti54 z54)) (fun r7 => ?_)
      refine L.storeW (k := 0) rfl rfl rfl Tryd.sizeOf54 (Get.tmp rfl) (Get.tmp rfl) rfl rfl rfl ?_
      refine L.nil ?_
      refine N.thenW ?_
      refine W.seq ?_
      refine W.region ?_
      refine L.op1 rfl rfl (GSpec.plain rfl (spec_fieldAddr (f := 1) (off' := 1) rfl Tryd.underlying54 rfl Tryd.sizeOf52 (Get.tmp rfl) rfl)) ?_
      refine L.op1 rfl rfl (GSpec.plain rfl (Spec.eq (its_eq _) (spec_load1 (k := 0) rfl Tryd.isAgg52 (Get.tmp rfl) rfl rfl))) ?_
      refine L.op1 rfl rfl (GSpec.plain rfl (spec_call rfl Tryd.call66 (items_ok _ (o3 _ (getD_mem' (by omega)))) (.cons (Get.tmp rfl) .nil))) ?_
      refine L.op1 rfl rfl (GSpec.plain rfl (spec_fieldAddr (f := 1) (off' := 1) rfl Tryd.underlying54 rfl Tryd.sizeOf52 (Get.tmp rfl) rfl)) ?_
      refine L.storeB (k := 0) rfl rfl rfl Tryd.sizeOf52 (Get.tmp rfl) (Get.tmp rfl) rfl rfl ?_
      refine L.nil ?_
      refine N.thenW ?_
      rw [show (eBk (c.blocks.getD ((j : Nat) : Int).toNat default)).set 1 (Rp.slice eIt (c.blocks.getD ((j : Nat) : Int).toNat default).items) = eBk (c.blocks.getD j default) from by rw [← its_eq]; rfl]
      refine W.pubB 7 0 rfl rfl ?_
      refine W.seq ?_
      refine W.region ?_
      refine L.op1 rfl rfl (GSpec.plain rfl (spec_move rfl (Get.tmp rfl))) ?_
      refine L.op1 rfl rfl (GSpec.plain rfl (spec_nilCheck rfl (Get.tmp rfl))) ?_
      refine L.op1 rfl rfl (GSpec.plain rfl (spec_fieldAddr (f := 0) (off' := 0) rfl Tryd.underlying72 rfl Tryd.sizeOf25 (Get.tmp rfl) rfl)) ?_
      refine L.op1 rfl rfl (GSpec.plain rfl (spec_fieldAddr (f := 3) (off' := 3) rfl Tryd.underlying25 rfl Tryd.sizeOf23 (Get.tmp rfl) rfl)) ?_
      refine L.op1 rfl rfl (GSpec.plain rfl (spec_load1 (k := 0) rfl Tryd.isAgg23 (Get.tmp rfl) rfl rfl)) ?_
      refine L.op1 rfl rfl (GSpec.plain rfl (spec_makeFunc rfl (.cons (Get.tmp rfl) .nil))) ?_
      refine L.op1 rfl rfl (GSpec.plain rfl (spec_callB rfl Tryd.call61 (blkF_ok (extA bs (c.blocks.take j)) (c.blocks.getD j default).name) (.cons (Get.tmp rfl) (.cons (Get.weak (Get.tmp rfl) (fn_of_clo Tryd.call79 (fun i => eqnB_ok _ i))) .nil)) (.cons (.slice 1 rfl (fun _ => rfl)) (.cons .same .nil)))) ?_
      refine L.op1 rfl rfl (GSpec.plain rfl (spec_assign rfl (Get.tmp rfl))) ?_
      refine L.nil ?_
      refine N.thenW ?_
      refine W.seq ?_
      refine W.region ?_
      refine L.op1 rfl rfl (GSpec.plain rfl (spec_move rfl (Get.tmp rfl))) ?_
      refine L.op1 rfl rfl (GSpec.plain rfl (spec_geq rfl (Get.tmp rfl) (Get.cint rfl))) ?_
      refine L.nil ?_
      refine N.thenW ?_
      refine W.cond (Get.tmp rfl) (fun h3 => ?_) (fun h3 => ?_)
      · have hge := of_decide_eq_true h3
        try simp only [Int.toNat_natCast] at hge
        apply W.any 8 mixed (by kernel_rfl)
        · apply Head.one rfl rfl (GSpec.plain rfl (spec_move rfl (Get.tmp rfl)))
          apply Head.one rfl rfl (GSpec.plain rfl (spec_nilCheck rfl (Get.tmp rfl)))
          apply Head.one rfl rfl (GSpec.plain rfl (spec_fieldAddr (f := 0) (off' := 0) rfl Tryd.underlying72 rfl Tryd.sizeOf25 (Get.tmp rfl) rfl))
          apply Head.one rfl rfl (GSpec.plain rfl (spec_fieldAddr (f := 3) (off' := 3) rfl Tryd.underlying25 rfl Tryd.sizeOf23 (Get.tmp rfl) rfl))
          apply Head.one rfl rfl (GSpec.plain rfl (spec_load1 (k := 0) rfl Tryd.isAgg23 (Get.tmp rfl) rfl rfl))
          apply Head.one rfl rfl (GSpec.plain rfl (spec_move rfl (Get.tmp rfl)))
          apply Head.one rfl rfl (GSpec.plain rfl (spec_loadPA rfl Tryd.isAgg54 Tryd.sizeOf54 (Get.tmp rfl) rfl))
          apply Head.one rfl rfl (GSpec.plain rfl (spec_indexAddrO (k := 1) (E := eBk) rfl Tryd.underlying23 Tryd.sizeOf54 (Get.tmp rfl) (Get.tmp rfl) rfl (by (first | omega | (simp only [Int.toNat_natCast]; omega)))))
          exact Head.nil
        refine Fin.one ?_
        refine Fin.one ?_
        refine Fin.one ?_
        refine Fin.one ?_
        refine Fin.one ?_
        refine Fin.one ?_
        refine Fin.one ?_
        refine Fin.one ?_
        refine Fin.nil ?_
        refine L.storeOA (k := 1) (E := eBk) rfl rfl rfl Tryd.sizeOf54 (fun _ => rfl) (Get.tmp rfl) (Get.tmp rfl) rfl rfl (by (first | omega | (simp only [Int.toNat_natCast]; omega))) ?_
        refine L.nil ?_
        refine N.blockNormal ?_
        refine N.thenW ?_
        refine W.region ?_
        first | refine L.op1 rfl rfl (GSpec.plain rfl (fit_i64 (by (first | omega | (simp only [Int.toNat_natCast]; omega))) (by (first | omega | (simp only [Int.toNat_natCast]; omega))) (spec_add rfl (Get.tmp rfl) (Get.cint rfl)))) ?_ | refine L.op1 rfl rfl (GSpec.plain rfl (spec_add rfl (Get.tmp rfl) (Get.cint rfl))) ?_
        refine L.op1 rfl rfl (GSpec.plain rfl (spec_move rfl (Get.tmp rfl))) ?_
        refine L.nil ?_
        refine N.roundK (j + 1, vc) ?hI2 ?hmu2 ?hs2 ?hk2 ?hp2
        case hs2 => exact (.cons (t := 54) rfl .nil)
        case hk2 => exact (.cons (t := 0) rfl (.cons (t := 52) rfl (.cons (t := 53) rfl .nil)))
        case hp2 => dsimp only; rw [extA_take (show j < c.blocks.length by omega), ← extB_yes hge]; exact (.cons 0 rfl (.cons 0 rfl (.cons 0 rfl (.cons 0 rfl .nil))))
        case hI2 => dsimp only; omega
        case hmu2 => dsimp only; omega
      · have hge := of_decide_eq_false h3
        try simp only [Int.toNat_natCast] at hge
        apply W.any1 (bs := [true, false, false, false, false, false, false, false]) (Mf := []) 8 mixed (by kernel_rfl) (by kernel_rfl) rfl .nil
        · apply Head1.flo rfl rfl (GSpec.plain rfl (spec_move rfl (Get.tmp rfl)))
          apply Head1.one rfl rfl (GSpec.plain rfl (spec_move rfl (Get.tmp rfl)))
          apply Head1.one rfl rfl (GSpec.plain rfl (spec_nilCheck rfl (Get.tmp rfl)))
          apply Head1.one rfl rfl (GSpec.plain rfl (spec_fieldAddr (f := 0) (off' := 0) rfl Tryd.underlying72 rfl Tryd.sizeOf25 (Get.tmp rfl) rfl))
          apply Head1.one rfl rfl (GSpec.plain rfl (spec_fieldAddr (f := 3) (off' := 3) rfl Tryd.underlying25 rfl Tryd.sizeOf23 (Get.tmp rfl) rfl))
          apply Head1.one rfl rfl (GSpec.plain rfl (spec_load1 (k := 0) rfl Tryd.isAgg23 (Get.tmp rfl) rfl rfl))
          apply Head1.one rfl rfl (GSpec.plain rfl (spec_loadPA rfl Tryd.isAgg54 Tryd.sizeOf54 (Get.tmp rfl) rfl))
          apply Head1.one rfl rfl (GSpec.plain rfl (spec_buildSlice1 (y := (c.blocks.getD j default)) (E := eBk) rfl Tryd.underlying23 ti54 z54 (by decide) (GetC.agg (Get.tmp rfl)) (fun _ => rfl)))
          exact Head1.nil
        · rfl
        refine Fin1.flo ?_
        refine Fin1.one ?_
        refine Fin1.one ?_
        refine Fin1.one ?_
        refine Fin1.one ?_
        refine Fin1.one ?_
        refine Fin1.one ?_
        refine Fin1.one ?_
        refine Fin1.nil (fun X => ?_)
        refine L.append (k := 1) (E := eBk) rfl rfl rfl rfl Tryd.underlying23 ti54 rfl (by decide) (fun _ => rfl) (Get.tmp rfl) (Get.tmp rfl) rfl (by (simp only [List.length_cons, List.length_nil]; omega)) (by (simp only [List.length_cons, List.length_nil]; omega)) (fun v87 => ?_)
        refine L.nil ?_
        refine Aft.next ((87, _) :: _) (Sub.push rfl) .nil rfl ?_
        refine L.op1 rfl rfl (GSpec.plain rfl (spec_nilCheck rfl (Get.tmp rfl))) ?_
        refine L.op1 rfl rfl (GSpec.plain rfl (spec_fieldAddr (f := 0) (off' := 0) rfl Tryd.underlying72 rfl Tryd.sizeOf25 (Get.tmp rfl) rfl)) ?_
        refine L.op1 rfl rfl (GSpec.plain rfl (spec_fieldAddr (f := 3) (off' := 3) rfl Tryd.underlying25 rfl Tryd.sizeOf23 (Get.tmp rfl) rfl)) ?_
        refine L.factM 1 rfl osl_one fun hq => ?_
        haveI := One.val hq
        refine L.storeB (k := 0) (R := Rp.val v87) rfl rfl rfl Tryd.sizeOf23 (Get.tmp rfl) (Get.tmp rfl) rfl rfl ?_
        refine L.nil ?_
        refine N.blockNormal ?_
        refine N.thenW ?_
        refine W.region ?_
        first | refine L.op1 rfl rfl (GSpec.plain rfl (fit_i64 (by (first | omega | (simp only [Int.toNat_natCast]; omega))) (by (first | omega | (simp only [Int.toNat_natCast]; omega))) (spec_add rfl (Get.tmp rfl) (Get.cint rfl)))) ?_ | refine L.op1 rfl rfl (GSpec.plain rfl (spec_add rfl (Get.tmp rfl) (Get.cint rfl))) ?_
        refine L.op1 rfl rfl (GSpec.plain rfl (spec_move rfl (Get.tmp rfl))) ?_
        refine L.nil ?_
        refine N.roundK (j + 1, v87) ?hI3 ?hmu3 ?hs3 ?hk3 ?hp3
        case hs3 => exact (.cons (t := 54) rfl .nil)
        case hk3 => exact (.cons (t := 0) rfl (.cons (t := 52) rfl (.cons (t := 53) rfl .nil)))
        case hp3 => dsimp only; rw [extA_take (show j < c.blocks.length by omega), ← extB_no hge]; exact (.cons 0 rfl (.cons 0 rfl (.cons 0 rfl (.cons 0 rfl .nil))))
        case hI3 => dsimp only; omega
        case hmu3 => dsimp only; omega
    · have ph2 := h2; try simp only [decide_eq_true_eq, decide_eq_false_iff_not, Bool.and_eq_true, Bool.or_eq_true, Bool.and_eq_false_iff, Bool.or_eq_false_iff, Bool.not_eq_true', Bool.not_eq_false', Bool.not_true, Bool.not_false, Int.not_lt, Int.not_le] at ph2
      refine W.exit ?_
      refine N.thenExit ?_
      refine N.thenExit ?_
      refine N.blockExit ?_
      have hj : j = c.blocks.length := by omega
      subst hj
      rw [List.take_length]
      refine N.ret (X := (extX _ _ _ _ _)) (v47, vc) rfl .nil res0 (.cons 0 rfl (.cons 2 rfl (.cons 0 rfl .nil))) (fun _ _ h => h)
      skip

end Go.Proofs.YtcabngjnmipflaaDoor
/- A range over a function whose iterator only reads: the loop's records as owned memory, the round as an ordinary walk. -/
set_option linter.unusedSimpArgs false
set_option linter.unusedVariables false
namespace Go.Sim

/-- A block of the call that is no cells: it lies as it lay. -/
def MF.blk (b : Nat) (o : Obj) : MF where
  foot := [b]
  p w _ := w.heap[b]? = some o
  loc _ hf h := (hf b (by simp)).trans h

/-- The wide fence, in a round or not. -/
def Fr (ro : Option Nat) : Fence := { Fence.wide with round := ro }
theorem fr_none : Fr none = Fence.wide := rfl
theorem fr_some (l : Nat) : Fence.wide.inRound l = Fr (some l) := rfl

section
variable {P : Program} {ro : Option Nat} {m : Nat} {ops : Array Oper} {Q : Exit → Act → World → Prop} {a : Act} {w : World} {rest : List Oper} {o : Oper}

theorem calls_fr {f : FuncId} {args : Array Value} {R : Ending → World → Prop} (h : Calls P f args w R) : CallsIn (Fr ro) m P f args w R :=
  (callsIn_wide (n := m)).2 h

theorem oper_in {K K' : Act → World → Prop} (ho : ∀ c, o.op ≠ .defer c) (h : o.wp P a w K Q) (hK : ∀ a w, K a w → K' a w) : o.wpIn (Fr ro) m P a w K' Q := by
  refine ⟨fun _ _ => trivial, ?_⟩
  rw [Oper.semAt_eq _ _ _ ho]
  unfold Oper.wp at h
  revert h
  generalize (execOp a.eval o).run P w = r
  intro h
  match r, h with
  | .ok (.value v) w', h => exact hK _ _ h
  | .ok .skip w', h => exact hK _ _ h
  | .ok (.defer d) w', h => exact hK _ _ h
  | .ok (.enter f args) w', h =>
    refine ⟨fun h => by simp [Fr, Fence.wide] at h, ?_⟩
    refine calls_fr (Calls.mono (show Calls P f args w' _ from h) ?_)
    intro e w'' he
    match e, he with
    | .returned v, he => exact hK _ _ he
    | .panicked ch, he => exact he
    | .outgrown, he => exact he
  | .ok (.row row args) w', h =>
    refine ⟨fun h => by simp [Fr, Fence.wide] at h, fun c cs _ => ?_⟩
    obtain ⟨v, w2, hr, hs⟩ := (show Rows P row args w' _ from h) c cs
    exact ⟨v, w2, hK _ _ hr, stepsIn_wide.2 hs⟩
  | .halt (.panic v) w', h => exact h

theorem wpList_in (hO : ∀ a w, ¬ Q .outgrown a w) : ∀ {rest : List Oper} {a : Act} {w : World}, (∀ o ∈ rest, ∀ c, o.op ≠ .defer c) → wpList P ops Q rest a w → wpListIn (Fr ro) m P ops Q rest a w
  | [], a, w, _, h => h
  | o :: rest, a, w, hops, h => by
    have ih : ∀ a w, wpList P ops Q rest a w → wpListIn (Fr ro) m P ops Q rest a w := fun a w h => wpList_in hO (fun o ho => hops o (List.mem_cons_of_mem _ ho)) h
    unfold wpListIn
    unfold wpList at h
    split
    · rename_i hw
      rw [if_pos hw] at h
      rcases h with h | ⟨_, a', w', h⟩
      · exact oper_in (hops o List.mem_cons_self) h ih
      · exact absurd h (hO _ _)
    · rename_i hw
      rw [if_neg hw] at h
      exact ⟨fun _ _ => trivial, ih _ _ h⟩
end

section
variable {P : Program} {B : Base} {n : Nat} {S S' : List (Nat × Rp)} {M M' : List MF} {Q Q' : Exit → Act → World → Prop} {ops : Array Oper} {rest : List Oper} {ro : Option Nat}

/-- The judgements in a round. -/
def WR (ro : Option Nat) (P : Program) (B : Base) (n : Nat) (S : List (Nat × Rp)) (M : List MF) (c : Code) (Q : Exit → Act → World → Prop) : Prop :=
  ∀ a w C, St B n S M a w C → c.wpIn (Fr ro) 0 P Q a w
def LR (ro : Option Nat) (P : Program) (B : Base) (n : Nat) (S : List (Nat × Rp)) (M : List MF) (ops : Array Oper) (rest : List Oper) (Q : Exit → Act → World → Prop) : Prop :=
  ∀ a w C, St B n S M a w C → wpListIn (Fr ro) 0 P ops Q rest a w

theorem WR.region {id : Nat} {l : List Oper} (hO : ∀ a w, ¬ Q .outgrown a w) (hops : ∀ o ∈ l, ∀ c, o.op ≠ .defer c) (h : L P B n S M l.toArray l Q) : WR ro P B n S M (.region id l.toArray false) Q :=
  fun a w C st => wpIn_region_lit (wpList_in hO hops (h a w C st))
theorem WR.block {id : Nat} {c : Code} (h : WR ro P B n S M c (Exit.inBlock id Q)) : WR ro P B n S M (.block id c) Q :=
  fun a w C st => wpIn_block (h a w C st)
theorem W.regionI {id : Nat} {l : List Oper} (h : LR none P B n S M l.toArray l Q) : W P B n S M (.region id l.toArray false) Q :=
  fun a w C st => (wpIn_wide (n := 0)).1 (wpIn_region_lit (h a w C st))
theorem LR.nil (h : N B n S M .normal Q) : LR ro P B n S M ops [] Q := fun a w C st => h a w C st
theorem LR.op1 {o : Oper} {R : Rp} {d : Nat} (hd : o.dst = some d) (hlt : Nat.blt d n = true) (hg : o.guard = none) (hdf : ∀ c, o.op ≠ .defer c) (hs : Spec P (look · S) M o (.one R))
    (h : LR ro P B n ((d, R) :: S) M ops rest Q) : LR ro P B n S M ops (o :: rest) Q := by
  intro a w C st
  have hlt' : d < n := by simpa [Nat.blt_eq] using hlt
  refine wpListIn_plain hg fun K hK => oper_in hdf ?_ hK
  refine hs a w C _ Q st.slots st.mem fun i v w' C' he hwf hv hn => ?_
  have := st.step (dst := o.dst) (fun d' hd' => by rw [hd] at hd'; cases hd'; exact hlt') he hwf hv hn
  rw [hd] at this ⊢
  exact h _ _ C' this

/-! The state at an entry, at another base. -/
theorem St.enter {w : World} {C : Nat → Prop} {A : List Rp} {args : Array Value} (hA : AllP A w C args.toList) (hM : MOk M w C) (hl : Nat.ble A.length n = true) :
    St ⟨w, C, feet M⟩ n (argS 0 A) M { tmps := args ++ Array.replicate (n - args.size) undef, defers := [] } w C := by
  have hlen := hA.length
  have hl' : A.length ≤ n := by simpa using hl
  have hsz : args.size = A.length := by rw [← Array.length_toList]; exact hlen
  refine ⟨?_, rfl, fun t R ht => ?_, hM, Eff.refl _ _ _, fun b hb => .inl hb⟩
  · simp only [Array.size_append, Array.size_replicate]; omega
  · obtain ⟨v, _, hv, hR⟩ := argS_look 0 hA ht
    have hlt : t < args.size := by
      rw [← Array.length_toList]
      exact (List.getElem?_eq_some_iff.1 hv).1
    have h2 : (args ++ Array.replicate (n - args.size) undef).getD t undef = v := by
      have h3 : args.toList[t]? = some v := by simpa using hv
      rw [Array.getElem?_toList] at h3
      simp [Array.getElem?_append_left hlt, h3]
    rw [h2]; exact hR
theorem St.here {a : Act} {w : World} {C : Nat → Prop} (st : St B n S M a w C) : St ⟨w, C, feet M⟩ n S M a w C :=
  ⟨st.size, st.defers, st.slots, st.mem, Eff.refl _ _ _, fun b hb => .inl hb⟩
theorem St.back {a a₂ : Act} {w w₂ : World} {C C₂ : Nat → Prop} {S₂ : List (Nat × Rp)} {M₂ : List MF} (st : St B n S M a w C) (h : St ⟨w, C, feet M⟩ n S₂ M₂ a₂ w₂ C₂) :
    Pub w C w₂ C₂ ∧ Eff B.U B.w B.C w₂ C₂ ∧ ∀ b ∈ feet M₂, b ∈ B.U ∨ B.w.heap.size ≤ b := by
  refine ⟨h.eff.pub st.mem.wf (fun b hb => (st.mem.own b hb).2), st.eff.trans h.eff (fun b hb => st.since b hb), fun b hb => ?_⟩
  rcases h.since b hb with h1 | h1
  · exact st.since b h1
  · exact .inr (Nat.le_trans st.eff.size h1)
theorem St.slots' {a a₂ : Act} {w w₂ : World} {C C₂ : Nat → Prop} {S₂ : List (Nat × Rp)} {M₂ : List MF} (st : St B n S M a w C) (h : St ⟨w, C, feet M⟩ n S₂ M₂ a₂ w₂ C₂) : St B n S M₂ a w₂ C₂ :=
  let ⟨h1, h2, h3⟩ := st.back h
  ⟨st.size, st.defers, fun t R ht => R.mono h1 (st.slots t R ht), h.mem, h2, h3⟩
/-- Nothing that was there has changed. -/
theorem St.quiet {a : Act} {w w' : World} {C C' : Nat → Prop} (st : St B n S M a w C) (he : Eff [] w C w' C') (hwf : ∀ b, C' b → b < w'.heap.size) : St B n S M a w' C' := by
  have := st.step (dst := none) (R := Rp.bool true) (v := .bool true) (F := []) (fun d h => by cases h) he hwf rfl MNew.nil
  simpa [putS, Act.put] using this
/-- An own block that is no cells is turned. -/
theorem St.turn {a : Act} {w : World} {C : Nat → Prop} {b k : Nat} {o : Obj} (o' : Obj) (st : St B n S M a w C) (hk : M[k]? = some (MF.blk b o)) : St B n S (M.set k (MF.blk b o')) a (w.putObj b o') C := by
  have hF : MF.blk b o ∈ M := List.mem_of_getElem? hk
  have hb : w.heap[b]? = some o := st.mem.facts _ hF
  have hlt : b < w.heap.size := (Array.getElem?_eq_some_iff.1 hb).1
  have hbm : b ∈ feet M := mem_feet.2 ⟨_, hF, by simp [MF.blk]⟩
  have he : Eff [b] w C (w.putObj b o') C := ⟨by simp [World.putObj], fun c _ hc => World.putObj_heap_other (by simpa using hc), fun _ _ _ => Iff.rfl, rfl, rfl, rfl⟩
  have := st.upd (dst := none) (R := Rp.bool true) (v := .bool true) (F' := MF.blk b o') (fun d h => by cases h) hk he
    (fun c hc => by have := st.mem.wf c hc; simpa [World.putObj] using this) rfl (World.putObj_heap_same hlt) (by simp [MF.blk])
    (fun c hc => .inl ⟨by simpa [MF.blk] using hc, by simp only [MF.blk, List.mem_singleton] at hc; subst hc; exact (st.mem.own _ hbm).2⟩)
  simpa [putS, Act.put] using this

theorem St.tail {a : Act} {w : World} {C : Nat → Prop} {F : MF} (st : St B n S (F :: M) a w C) : St B n S M a w C :=
  ⟨st.size, st.defers, st.slots, (st.mem.perm (M' := M ++ [F]) (List.perm_append_singleton F M).symm).left, st.eff, fun b hb => st.since b (by simp only [feet, List.flatMap_cons, List.mem_append]; exact .inr hb)⟩

/-- An iterator that yields N rounds, the k-th of the values enc k, and only reads. -/
def IterT (P : Program) (gf : FuncId) (Rs : List Rp) (enc : Nat → List Rp) (N : Nat) : Prop :=
  ∀ (l : Nat) (J : Nat → World → (Nat → Prop) → Prop),
    (∀ k w C w' C', J k w C → Eff [] w C w' C' → (∀ b, C' b → b < w'.heap.size) → J k w' C') →
    (∀ k w C, J k w C → ∀ b, C b → b < w.heap.size) →
    (∀ k, k < N → ∀ w C (vs : Array Value), J k w C → AllP (enc k) w C vs.toList → YieldAt Fence.wide 0 P l vs w fun e w' => e = .returned (.bool true) ∧ ∃ C', Pub w C w' C' ∧ J (k + 1) w' C') →
    ∀ w C (lb : Array Value), J 0 w C → AllP Rs w C lb.toList → Calls P gf (#[.func (.yield l) #[] #[]] ++ lb) w fun e w' => (∃ v, e = .returned v) ∧ ∃ C', Pub w C w' C' ∧ J N w' C'

/-- A range over such an iterator, two loop variables; no round leaves the loop. -/
theorem wpIn_range {σ : Type} {τ : Type} {g : Operand} {gf : FuncId} {Rs : List Rp} {enc : Nat → List Rp} {N : Nat} {p1 p2 : Tmp} {R1 R2 : Nat → Rp} {assign body : Code} {a : Act} {w : World} {C : Nat → Prop}
    (st : St B n S M a w C) (hg : Get (look · S) g (Rp.clo gf Rs)) (hc : ∀ args w, (callFunc gf args).run P w = .ok (.enter gf args) w)
    (henc : enc = fun k => [R1 k, R2 k]) (hit : IterT P gf Rs enc N) (hp1 : p1 < n) (hp2 : p2 < n)
    (Mz : σ → List MF) (I : Nat → σ → Prop) (z0 : σ) (hI0 : I 0 z0) (hM0 : M = Mz z0)
    (Sa : Nat → σ → τ → List (Nat × Rp)) (Ma : Nat → σ → τ → List MF)
    (hassign : ∀ l B k z o1 b2 o2, k < N → I k z → WR (some l) P B n ((p2, R2 k) :: (p1, R1 k) :: S) (MF.blk l o1 :: MF.blk b2 o2 :: Mz z) assign
      (Exit.then (Mid B n (fun t => Sa k z t) (fun t => MF.blk l o1 :: MF.blk b2 o2 :: Ma k z t)) (fun _ _ _ => False)))
    (hbody : ∀ l B k z t o1 b2 o2, k < N → I k z → WR (some l) P B n (Sa k z t) (MF.blk l o1 :: MF.blk b2 o2 :: Ma k z t) body
      (fun e a w => e = .normal ∧ ∃ z', I (k + 1) z' ∧ ∃ C, St B n [] (MF.blk l o1 :: MF.blk b2 o2 :: Mz z') a w C))
    (hdone : ∀ D z w' C', I N z → St B n S (MF.blk D (.deferred (some [])) :: Mz z) a w' C' → Q .normal { a with defers := [{ target := .collected D, args := #[] }] } w') :
    (Code.rangeFunc g #[p1, p2] assign body).wpIn Fence.wide 0 P Q a w := by
  refine wpIn_rangeFunc ?_
  intro fn hfn
  obtain ⟨caps, hgv, hcap⟩ := hg a w C st.slots
  obtain ⟨rec, hrec⟩ : ∃ rec : LoopState → Option Code → Loop, rec = fun s pe => { state := s, pending := pe, fn, tmps := a.tmps, params := #[p1, p2], assign, body, defers := w.heap.size } := ⟨_, rfl⟩
  obtain ⟨W1, hW1⟩ : ∃ W1, (w.alloc (.deferred (some []))).alloc (.loop (rec .ready none)) = W1 := ⟨_, rfl⟩
  have hsz1 : W1.heap.size = w.heap.size + 2 := by rw [← hW1]; simp
  have hL1 : W1.heap[w.heap.size + 1]? = some (.loop (rec .ready none)) := by
    rw [← hW1]; have := World.alloc_heap_new (w.alloc (.deferred (some []))) (.loop (rec .ready none)); rwa [World.size_alloc] at this
  have hK1 : W1.heap[w.heap.size]? = some (.deferred (some [])) := by
    rw [← hW1]; exact (heap_alloc_old _ _ (by simp)).trans (World.alloc_heap_new w _)
  have he1 : Eff [] w C W1 C := by rw [← hW1]; exact (new_eff w C _).trans (new_eff _ C _) (by simp)
  have hwf1 : ∀ b, C b → b < W1.heap.size := fun b hb => by have := st.mem.wf b hb; omega
  have st1 : St B n S (MF.blk (w.heap.size + 1) (.loop (rec .ready none)) :: MF.blk w.heap.size (.deferred (some [])) :: Mz z0) a W1 C := by
    have := st.step (dst := none) (R := Rp.bool true) (v := .bool true) (F := [MF.blk (w.heap.size + 1) (.loop (rec .ready none)), MF.blk w.heap.size (.deferred (some []))]) (fun d h => by cases h) he1 hwf1 rfl
      ⟨by
        intro G hG
        simp only [List.mem_cons, List.not_mem_nil, or_false] at hG
        exact hG.elim (fun e => e ▸ hL1) (fun e => e ▸ hK1), by simp [feet, MF.blk], by
        intro b hb
        simp only [feet, MF.blk, List.flatMap_cons, List.flatMap_nil, List.append_nil, List.singleton_append, List.mem_cons, List.not_mem_nil, or_false] at hb
        rcases hb with rfl | rfl
        · exact ⟨by omega, by omega, fun hc => by have := st.mem.wf _ hc; omega⟩
        · exact ⟨by omega, by omega, fun hc => by have := st.mem.wf _ hc; omega⟩⟩
    rw [← hM0]
    simpa [putS, Act.put] using this
  refine ⟨w.heap.size + 1, [{ target := .collected w.heap.size, args := #[] }], W1, { target := .fn (.func gf) caps.toArray, args := #[.func (.yield (w.heap.size + 1)) #[] #[]] }, W1, gf,
    #[.func (.yield (w.heap.size + 1)) #[] #[]] ++ caps.toArray, W1, ?_, ?_, fun _ _ => trivial, ?_, fun h => by simp [Fence.wide] at h, ?_⟩
  · rw [← hW1, hrec]; exact run_enterLoop_outer _ _ _ _ _
  · simp only [resolve, hgv]
    simp [go_sem]
  · simp [invoke, go_sem, hc]
  · have hcap1 : AllP Rs W1 C caps.toArray.toList := by simpa using hcap.mono (he1.pub st.mem.wf (by simp))
    have hJ1 : ∀ k w' C', (∃ z, I k z ∧ St B n S (MF.blk (w.heap.size + 1) (.loop (rec .ready none)) :: MF.blk w.heap.size (.deferred (some [])) :: Mz z) a w' C') → w'.heap[w.heap.size + 1]? = some (.loop (rec .ready none)) :=
      fun k w' C' ⟨z, _, s⟩ => s.mem.facts (MF.blk _ _) List.mem_cons_self
    refine callsIn_wide.2 ((hit (w.heap.size + 1) (fun k w' C' => ∃ z, I k z ∧ St B n S (MF.blk (w.heap.size + 1) (.loop (rec .ready none)) :: MF.blk w.heap.size (.deferred (some [])) :: Mz z) a w' C')
      (fun k w1 C1 w2 C2 ⟨z, hi, s⟩ he hwf => ⟨z, hi, s.quiet he hwf⟩) (fun k w1 C1 ⟨z, hi, s⟩ => s.mem.wf) ?_ W1 C caps.toArray ⟨z0, hI0, st1⟩ hcap1).mono ?_)
    · -- one round
      rintro k hk w1 C1 vs ⟨z, hi, s⟩ hvs
      have hl := hJ1 k w1 C1 ⟨z, hi, s⟩
      rw [henc] at hvs
      obtain ⟨v1, v2, hvse, hv1, hv2⟩ : ∃ v1 v2, vs.toList = [v1, v2] ∧ (R1 k).p w1 C1 v1 ∧ (R2 k).p w1 C1 v2 := by
        match hl2 : vs.toList, hvs with
        | [v1, v2], h => exact ⟨v1, v2, rfl, h.1, h.2.1⟩
        | [], h => exact h.elim
        | [_], h => exact h.2.elim
        | _ :: _ :: _ :: _, h => exact h.2.2.elim
      obtain rfl : vs = #[v1, v2] := by rw [← Array.toList_inj]; simpa using hvse
      have hy := run_yield (P := P) (args := #[v1, v2]) hl (by rw [hrec]; rfl)
      rw [hrec] at hy
      refine ⟨fn, _, assign, body, hy, roundIn_of_wpIn (n := 0) trivial ?_⟩
      have s0 := s.here
      have s1 := s0.step (dst := some p1) (R := R1 k) (v := v1) (F := []) (fun d h => by cases h; exact hp1) (Eff.refl _ _ _) s.mem.wf hv1 MNew.nil
      have s2 := s1.step (dst := some p2) (R := R2 k) (v := v2) (F := []) (fun d h => by cases h; exact hp2) (Eff.refl _ _ _) s.mem.wf hv2 MNew.nil
      have hact : ((a.put (some p1) v1).put (some p2) v2) = { tmps := (#[p1, p2].zip #[v1, v2]).foldl (fun t (x : Tmp × Value) => t.setIfInBounds x.1 x.2) a.tmps, defers := [] } := by
        have hd := st.defers
        cases a
        simp only at hd
        subst hd
        simp [Act.put]
      simp only [putS, List.nil_append] at s2
      rw [hact] at s2
      refine wpIn_mono (hassign (w.heap.size + 1) _ k z _ _ _ hk hi _ _ _ s2) ?_
      intro e a3 w3 h3
      match e, h3 with
      | .normal, ⟨t, C3, s3⟩ =>
        have hl3 : w3.heap[w.heap.size + 1]? = some (.loop (rec .ready none)) := s3.mem.facts (MF.blk _ _) List.mem_cons_self
        refine ⟨_, run_beginRound hl3 (by rw [hrec]), ?_⟩
        have s4 := s3.turn (k := 0) (.loop { rec .ready none with state := .busy }) rfl
        refine wpIn_mono (hbody (w.heap.size + 1) _ k z t _ _ _ hk hi _ _ _ s4) ?_
        rintro e a5 w5 ⟨rfl, z', hi', C5, s5⟩
        have hl5 : w5.heap[w.heap.size + 1]? = some (.loop { rec .ready none with state := .busy }) := s5.mem.facts (MF.blk _ _) List.mem_cons_self
        have s6 := s5.turn (k := 0) (.loop (rec .ready none)) rfl
        refine ⟨.bool true, w5.putObj (w.heap.size + 1) (.loop (rec .ready none)), ?_, rfl, C5, (s.back s6).1, z', hi', s.slots' s6⟩
        have := run_endRound (P := P) none hl5
        rw [hrec] at this ⊢
        exact this
    · rintro e w2 ⟨⟨v, rfl⟩, C2, hp, z, hi, s⟩
      have hl := hJ1 N w2 C2 ⟨z, hi, s⟩
      have s3 := s.turn (k := 0) (.loop { rec .ready none with state := .exhausted }) rfl
      have hend := run_endLoop (P := P) hl (by rw [hrec]; simp)
      have hend' : (Instr.endLoop (w.heap.size + 1)).run P w2 = .ok none (w2.putObj (w.heap.size + 1) (.loop { rec .ready none with state := .exhausted })) := by
        rw [hend]; rw [hrec]
      refine ⟨none, _, hend', ?_⟩
      have s4 : St B n S (MF.blk w.heap.size (.deferred (some [])) :: Mz z) a _ C2 := s3.tail
      have := hdone _ _ _ _ hi s4
      rw [show [({ target := .collected w.heap.size, args := #[] } : Deferred)] ++ a.defers = [({ target := .collected w.heap.size, args := #[] } : Deferred)] by rw [st.defers]; rfl]
      exact this

/-! Behind the loop: the mark lies on the list of deferred calls. -/
def LD (D : Nat) (P : Program) (B : Base) (n : Nat) (S : List (Nat × Rp)) (M : List MF) (ops : Array Oper) (rest : List Oper) (Q : Exit → Act → World → Prop) : Prop :=
  ∀ a w C, St B n S M a w C → wpList P ops Q rest { a with defers := [{ target := .collected D, args := #[] }] } w
theorem LD.op1 {D : Nat} {o : Oper} {R : Rp} {d : Nat} (hd : o.dst = some d) (hlt : Nat.blt d n = true) (hs : GSpec P ops (look · S) M o (.one R))
    (h : LD D P B n ((d, R) :: S) M ops rest Q) : LD D P B n S M ops (o :: rest) Q := by
  intro a w C st
  have hlt' : d < n := by simpa [Nat.blt_eq] using hlt
  refine wpList_step fun K hK => ?_
  refine hs { a with defers := [{ target := .collected D, args := #[] }] } w C K Q st.slots st.mem fun i v w' C' he hwf hv hn => hK _ _ ?_
  have := st.step (dst := o.dst) (fun d' hd' => by rw [hd] at hd'; cases hd'; exact hlt') he hwf hv hn
  rw [hd] at this ⊢
  exact h _ _ C' this
/-- The mark, a region, the return. -/
theorem tail_mark {D : Nat} {id : Nat} {l : List Oper} {fn : Func} {R : Ending → World → Prop} {a : Act} {w : World} {C : Nat → Prop}
    (st : St B n S (MF.blk D (.deferred (some [])) :: M) a w C)
    (h : LD D P B n S (MF.blk D (.deferred (some [])) :: M) l.toArray l (fun e a w => e = .normal ∧ ∃ a', a = { a' with defers := [{ target := .collected D, args := #[] }] } ∧ ∃ S' M' C', St B n S' (MF.blk D (.deferred (some [])) :: M') a' w C' ∧ N B n S' M' .ret (bodyPost P fn R))) :
    (Code.seq (.region id l.toArray false) .ret).wp P (bodyPostM Fence.wide 0 P fn R) { a with defers := [{ target := .collected D, args := #[] }] } w := by
  refine wp_seq (wp_mono (wp_region_lit (h a w C st)) ?_)
  rintro e a2 w2 ⟨rfl, a', rfl, S', M', C', st', hN⟩
  refine wp_ret ?_
  have hK : w2.heap[D]? = some (.deferred (some [])) := st'.mem.facts (MF.blk _ _) List.mem_cons_self
  refine ⟨by simp, .inl ⟨D, _, rfl, run_takeDeferred hK, ?_⟩⟩
  exact (hN a' _ C' ((st'.turn (k := 0) (.deferred none) rfl).tail)).2
theorem LD.nil {D : Nat} {fn : Func} {R : Ending → World → Prop} (hM : ∃ M', M = MF.blk D (.deferred (some [])) :: M' ∧ N B n S M' .ret (bodyPost P fn R)) :
    LD D P B n S M ops [] (fun e a w => e = .normal ∧ ∃ a', a = { a' with defers := [{ target := .collected D, args := #[] }] } ∧ ∃ S' M' C', St B n S' (MF.blk D (.deferred (some [])) :: M') a' w C' ∧ N B n S' M' .ret (bodyPost P fn R)) := by
  intro a w C st
  obtain ⟨M', rfl, h⟩ := hM
  exact wpList_nil ⟨rfl, a, rfl, S, M', C, st, h⟩
theorem N.pubBox {α : Type} {e : Exit} {v : Value} {T sz r T' off : Nat} {E : α → List Rp} {xs : List α} {Rs : List Rp} (k j : Nat) (hk : M[k]? = some (MF.osl v T sz E xs)) (hj : (M.eraseIdx k)[j]? = some (MF.box r T' Rs)) (hoff : Rs[off]? = some (Rp.val v)) (hE : ∀ x, (E x).length = sz)
    (h : N B n S ((M.eraseIdx k).set j (MF.box r T' (Rs.set off (Rp.slice E xs)))) e Q) : N B n S M e Q := by
  intro a w C st
  obtain ⟨C', st', hv⟩ := st.pubV hk hE
  have h' : N B n S ((M.eraseIdx k).set j (MF.row r T' Rs.length (Rs.set off (Rp.slice E xs)))) e Q := by
    unfold MF.box at h; rw [List.length_set] at h; exact h
  exact h' a w C' (st'.swap hj rfl (row_better hoff fun u hu => by rw [show u = v from hu]; exact hv))
end
end Go.Sim
