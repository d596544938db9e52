/- Lemmas for the claim, part 7: rules for walks, contracts of functions, the data they compute. No conditions. -/
import Derived.Test.YtcabngjnmipflaaDoorP6
import Derived.Test.YtcabngjnmipflaaDoorP5
set_option linter.unusedSimpArgs false
set_option maxRecDepth 8000
set_option linter.unusedVariables false
namespace Go.Proofs.YtcabngjnmipflaaDoor
open Go.Sim
theorem sameC_ok (a b : Cl) : CallT Tryd.prog 22 [Rp.agg (eC a), Rp.agg (eC b)] [] (.one (Rp.bool (decide (a = b)))) := by
  refine W.enter (fn := Tryd.f22) (n := 91) Tryd.func22 rfl Tryd.ntmps22 rfl (fun w₀ C₀ => ?_)
  simp only [argS]
  refine W.fact 0 rfl cl_fact fun hal => ?_
  refine W.seq ?_
  refine W.region ?_
  refine L.box rfl rfl (GSpec.plain rfl (spec_box rfl (GetC.agg (Get.tmp rfl)))) (fun r2 => ?_)
  refine L.box rfl rfl (GSpec.plain rfl (spec_box rfl (GetC.agg (Get.tmp rfl)))) (fun r3 => ?_)
  refine L.op1 rfl rfl (GSpec.plain rfl (spec_assign rfl Get.cbool)) ?_
  refine L.nil ?_
  refine N.thenW ?_
  refine W.seq ?_
  refine W.seq ?_
  refine W.region ?_
  refine L.op1 rfl rfl (GSpec.plain rfl (spec_fieldAddr (f := 0) (off' := 0) rfl Tryd.underlying25 rfl Tryd.sizeOf9 (Get.tmp rfl) rfl)) ?_
  refine L.op1 rfl rfl (GSpec.plain rfl (spec_load1 (k := 1) rfl Tryd.isAgg9 (Get.tmp rfl) rfl rfl)) ?_
  refine L.op1 rfl rfl (GSpec.plain rfl (spec_fieldAddr (f := 0) (off' := 0) rfl Tryd.underlying25 rfl Tryd.sizeOf9 (Get.tmp rfl) rfl)) ?_
  refine L.op1 rfl rfl (GSpec.plain rfl (spec_load1 (k := 0) rfl Tryd.isAgg9 (Get.tmp rfl) rfl rfl)) ?_
  refine L.op1 rfl rfl (GSpec.plain rfl (spec_neqS rfl (Get.tmp rfl) (Get.tmp rfl))) ?_
  refine L.op1 rfl rfl (GSpec.plain rfl (spec_move rfl (Get.tmp rfl))) ?_
  refine L.op1 rfl rfl (GSpec.guard rfl rfl rfl fun hg => (spec_fieldAddr (f := 1) (off' := 1) rfl Tryd.underlying25 rfl Tryd.sizeOf9 (Get.tmp rfl) rfl)) ?_
  refine L.op1 rfl rfl (GSpec.guard rfl rfl rfl fun hg => (spec_load1 (k := 1) rfl Tryd.isAgg9 (Get.opt rfl hg) rfl rfl)) ?_
  refine L.op1 rfl rfl (GSpec.guard rfl rfl rfl fun hg => (spec_fieldAddr (f := 1) (off' := 1) rfl Tryd.underlying25 rfl Tryd.sizeOf9 (Get.tmp rfl) rfl)) ?_
  refine L.op1 rfl rfl (GSpec.guard rfl rfl rfl fun hg => (spec_load1 (k := 0) rfl Tryd.isAgg9 (Get.opt rfl hg) rfl rfl)) ?_
  refine L.op1 rfl rfl (GSpec.guard rfl rfl rfl fun hg => (spec_neqS rfl (Get.opt rfl hg) (Get.opt rfl hg))) ?_
  refine L.op1 rfl rfl (GSpec.plain rfl (spec_or rfl (Get.tmp rfl) (fun hb => (Get.opt rfl hb)))) ?_
  refine L.op1 rfl rfl (GSpec.plain rfl (spec_move rfl (Get.tmp rfl))) ?_
  refine L.op1 rfl rfl (GSpec.guard rfl rfl rfl fun hg => (spec_fieldAddr (f := 2) (off' := 2) rfl Tryd.underlying25 rfl Tryd.sizeOf22 (Get.tmp rfl) rfl)) ?_
  refine L.op1 rfl rfl (GSpec.guard rfl rfl rfl fun hg => (spec_load1 (k := 1) rfl Tryd.isAgg22 (Get.opt rfl hg) rfl rfl)) ?_
  refine L.op1 rfl rfl (GSpec.guard rfl rfl rfl fun hg => (spec_len rfl Tryd.underlying22 (Get.opt rfl hg))) ?_
  refine L.op1 rfl rfl (GSpec.guard rfl rfl rfl fun hg => (spec_fieldAddr (f := 2) (off' := 2) rfl Tryd.underlying25 rfl Tryd.sizeOf22 (Get.tmp rfl) rfl)) ?_
  refine L.op1 rfl rfl (GSpec.guard rfl rfl rfl fun hg => (spec_load1 (k := 0) rfl Tryd.isAgg22 (Get.opt rfl hg) rfl rfl)) ?_
  refine L.op1 rfl rfl (GSpec.guard rfl rfl rfl fun hg => (spec_len rfl Tryd.underlying22 (Get.opt rfl hg))) ?_
  refine L.op1 rfl rfl (GSpec.guard rfl rfl rfl fun hg => (spec_neq rfl (Get.opt rfl hg) (Get.opt rfl hg))) ?_
  refine L.op1 rfl rfl (GSpec.plain rfl (spec_or rfl (Get.tmp rfl) (fun hb => (Get.opt rfl hb)))) ?_
  refine L.op1 rfl rfl (GSpec.plain rfl (spec_move rfl (Get.tmp rfl))) ?_
  refine L.op1 rfl rfl (GSpec.guard rfl rfl rfl fun hg => (spec_fieldAddr (f := 3) (off' := 3) rfl Tryd.underlying25 rfl Tryd.sizeOf23 (Get.tmp rfl) rfl)) ?_
  refine L.op1 rfl rfl (GSpec.guard rfl rfl rfl fun hg => (spec_load1 (k := 1) rfl Tryd.isAgg23 (Get.opt rfl hg) rfl rfl)) ?_
  refine L.op1 rfl rfl (GSpec.guard rfl rfl rfl fun hg => (spec_len rfl Tryd.underlying23 (Get.opt rfl hg))) ?_
  refine L.op1 rfl rfl (GSpec.guard rfl rfl rfl fun hg => (spec_fieldAddr (f := 3) (off' := 3) rfl Tryd.underlying25 rfl Tryd.sizeOf23 (Get.tmp rfl) rfl)) ?_
  refine L.op1 rfl rfl (GSpec.guard rfl rfl rfl fun hg => (spec_load1 (k := 0) rfl Tryd.isAgg23 (Get.opt rfl hg) rfl rfl)) ?_
  refine L.op1 rfl rfl (GSpec.guard rfl rfl rfl fun hg => (spec_len rfl Tryd.underlying23 (Get.opt rfl hg))) ?_
  refine L.op1 rfl rfl (GSpec.guard rfl rfl rfl fun hg => (spec_neq rfl (Get.opt rfl hg) (Get.opt rfl hg))) ?_
  refine L.op1 rfl rfl (GSpec.plain rfl (spec_or rfl (Get.tmp rfl) (fun hb => (Get.opt rfl hb)))) ?_
  refine L.nil ?_
  refine N.thenW ?_
  refine W.keep (.cons (t := 2) rfl (.cons (t := 3) rfl (.cons (t := 4) rfl (.cons (t := 36) rfl .nil)))) .refl ?_
  refine W.cond (Get.tmp rfl) (fun h1 => ?_) (fun h1 => ?_)
  · have ph1 := h1; try simp only [decide_eq_true_eq, decide_eq_false_iff_not, Bool.and_eq_true, Bool.or_eq_true, Bool.and_eq_false_iff, Bool.or_eq_false_iff, Bool.not_eq_true', Bool.not_eq_false', Bool.not_true, Bool.not_false, Int.not_lt, Int.not_le] at ph1
    refine W.seq ?_
    refine W.region ?_
    refine L.op1 rfl rfl (GSpec.plain rfl (spec_assign rfl Get.cbool)) ?_
    refine L.nil ?_
    refine N.thenW ?_
    refine W.ret ?_
    refine N.ret () rfl (.tmp (t := 4) (Get.tmp rfl) .nil) (res1 (eqB ?_)) .nil (fun _ _ h => h)
    symm; rw [decide_eq_false_iff_not]; intro e; subst e; simp at h1
  · have ph1 := h1; try simp only [decide_eq_true_eq, decide_eq_false_iff_not, Bool.and_eq_true, Bool.or_eq_true, Bool.and_eq_false_iff, Bool.or_eq_false_iff, Bool.not_eq_true', Bool.not_eq_false', Bool.not_true, Bool.not_false, Int.not_lt, Int.not_le] at ph1
    refine W.skip ?_
    refine N.thenW ?_
    have hle : a.fields.length = b.fields.length ∧ a.blocks.length = b.blocks.length ∧ a.name = b.name ∧ a.parent = b.parent := by have := h1; simp only [decide_eq_true_eq, decide_eq_false_iff_not, Bool.and_eq_true, Bool.or_eq_true, Bool.and_eq_false_iff, Bool.or_eq_false_iff, Bool.not_eq_true', Bool.not_eq_false', Bool.not_true, Bool.not_false, Int.not_lt, Int.not_le, beq_iff_eq] at this; refine ⟨by omega, by omega, by simp_all, by simp_all⟩
    refine W.seq ?_
    refine W.seq ?_
    refine W.region ?_
    refine L.op1 rfl rfl (GSpec.plain rfl (spec_assign rfl (Get.cint rfl))) ?_
    refine L.nil ?_
    refine N.thenW ?_
    refine W.block ?_
    -- assigned in the loop, not kept: [4]
    refine W.loopK (σ := Nat) (.cons (t := 2) rfl (.cons (t := 3) rfl .nil)) (fun z => [(5, Rp.int .i64 (z : Nat))]) (fun z => []) (fun z => z ≤ a.fields.length ∧ ∀ j : Nat, j < z → a.fields.getD j default = b.fields.getD j default) (fun z => a.fields.length - z) 0 ⟨Nat.zero_le _, fun j hj => by omega⟩ (.cons (t := 5) rfl .nil) (.cons 0 rfl (.cons 0 rfl .nil)) ?_
    intro i hI S' M' hS hM
    obtain ⟨hI1, hI2⟩ := hI
    try dsimp only at hS hM
    simp only [List.cons_append, List.nil_append] at hS hM
    subst hS hM
    try dsimp only
    refine W.seq ?_
    refine W.seq ?_
    refine W.region ?_
    refine L.op1 rfl rfl (GSpec.plain rfl (spec_move rfl (Get.tmp rfl))) ?_
    refine L.op1 rfl rfl (GSpec.plain rfl (spec_fieldAddr (f := 2) (off' := 2) rfl Tryd.underlying25 rfl Tryd.sizeOf22 (Get.tmp rfl) rfl)) ?_
    refine L.op1 rfl rfl (GSpec.plain rfl (spec_load1 (k := 1) rfl Tryd.isAgg22 (Get.tmp rfl) rfl rfl)) ?_
    refine L.op1 rfl rfl (GSpec.plain rfl (spec_len rfl Tryd.underlying22 (Get.tmp rfl))) ?_
    refine L.op1 rfl rfl (GSpec.plain rfl (spec_lss rfl (Get.tmp rfl) (Get.tmp rfl))) ?_
    refine L.nil ?_
    refine N.thenW ?_
    refine W.cond (Get.tmp rfl) (fun h2 => ?_) (fun h2 => ?_)
    · have ph2 := h2; try simp only [decide_eq_true_eq, decide_eq_false_iff_not, Bool.and_eq_true, Bool.or_eq_true, Bool.and_eq_false_iff, Bool.or_eq_false_iff, Bool.not_eq_true', Bool.not_eq_false', Bool.not_true, Bool.not_false, Int.not_lt, Int.not_le] at ph2
      refine W.skip ?_
      refine N.thenW ?_
      refine W.seq ?_
      refine W.block ?_
      refine W.seq ?_
      apply W.any 11 mixed (by kernel_rfl)
      · apply Head.one rfl rfl (GSpec.plain rfl (spec_fieldAddr (f := 2) (off' := 2) rfl Tryd.underlying25 rfl Tryd.sizeOf22 (Get.tmp rfl) rfl))
        apply Head.one rfl rfl (GSpec.plain rfl (spec_load1 (k := 1) rfl Tryd.isAgg22 (Get.tmp rfl) rfl rfl))
        apply Head.one rfl rfl (GSpec.plain rfl (spec_move rfl (Get.tmp rfl)))
        apply Head.one rfl rfl (GSpec.plain rfl (spec_indexAddrD (E := eF) rfl Tryd.underlying22 Tryd.sizeOf27 (fun _ => rfl) (Get.tmp rfl) (Get.tmp rfl) (by (first | omega | (simp only [Int.toNat_natCast]; omega)))))
        apply Head.one rfl rfl (GSpec.plain rfl (spec_loadPA rfl Tryd.isAgg27 Tryd.sizeOf27 (Get.tmp rfl) rfl))
        apply Head.one rfl rfl (GSpec.plain rfl (spec_fieldAddr (f := 2) (off' := 2) rfl Tryd.underlying25 rfl Tryd.sizeOf22 (Get.tmp rfl) rfl))
        apply Head.one rfl rfl (GSpec.plain rfl (spec_load1 (k := 0) rfl Tryd.isAgg22 (Get.tmp rfl) rfl rfl))
        apply Head.one rfl rfl (GSpec.plain rfl (spec_move rfl (Get.tmp rfl)))
        apply Head.one rfl rfl (GSpec.plain rfl (spec_indexAddrD (E := eF) rfl Tryd.underlying22 Tryd.sizeOf27 (fun _ => rfl) (Get.tmp rfl) (Get.tmp rfl) (by (first | omega | (simp only [Int.toNat_natCast]; omega)))))
        apply Head.one rfl rfl (GSpec.plain rfl (spec_loadPA rfl Tryd.isAgg27 Tryd.sizeOf27 (Get.tmp rfl) rfl))
        apply Head.one rfl rfl (GSpec.plain rfl (neq27 rfl (Get.tmp rfl) (Get.tmp rfl)))
        exact Head.nil
      refine Fin.one ?_
      refine Fin.one ?_
      refine Fin.one ?_
      refine Fin.one ?_
      refine Fin.one ?_
      refine Fin.one ?_
      refine Fin.one ?_
      refine Fin.one ?_
      refine Fin.one ?_
      refine Fin.one ?_
      refine Fin.one ?_
      refine Fin.nil ?_
      refine L.nil ?_
      refine N.thenW ?_
      refine W.cond (Get.tmp rfl) (fun h3 => ?_) (fun h3 => ?_)
      · have ph3 := h3; try simp only [decide_eq_true_eq, decide_eq_false_iff_not, Bool.and_eq_true, Bool.or_eq_true, Bool.and_eq_false_iff, Bool.or_eq_false_iff, Bool.not_eq_true', Bool.not_eq_false', Bool.not_true, Bool.not_false, Int.not_lt, Int.not_le] at ph3
        refine W.seq ?_
        refine W.region ?_
        refine L.op1 rfl rfl (GSpec.plain rfl (spec_assign rfl Get.cbool)) ?_
        refine L.nil ?_
        refine N.thenW ?_
        refine W.ret ?_
        refine N.ret () rfl (.tmp (t := 4) (Get.tmp rfl) .nil) (res1 (eqB ?_)) .nil (fun _ _ h => h)
        symm; rw [decide_eq_false_iff_not]; intro e; subst e; simp at h3
      · have ph3 := h3; try simp only [decide_eq_true_eq, decide_eq_false_iff_not, Bool.and_eq_true, Bool.or_eq_true, Bool.and_eq_false_iff, Bool.or_eq_false_iff, Bool.not_eq_true', Bool.not_eq_false', Bool.not_true, Bool.not_false, Int.not_lt, Int.not_le] at ph3
        refine W.skip ?_
        refine N.blockNormal ?_
        refine N.thenW ?_
        refine W.region ?_
        refine L.op1 rfl rfl (GSpec.plain rfl (spec_move rfl (Get.tmp rfl))) ?_
        first | refine L.op1 rfl rfl (GSpec.plain rfl (fit_i64 (by (first | omega | (simp only [Int.toNat_natCast]; omega))) (by (first | omega | (simp only [Int.toNat_natCast]; omega))) (spec_add rfl (Get.tmp rfl) (Get.cint rfl)))) ?_ | refine L.op1 rfl rfl (GSpec.plain rfl (spec_add rfl (Get.tmp rfl) (Get.cint rfl))) ?_
        refine L.op1 rfl rfl (GSpec.plain rfl (spec_assign rfl (Get.tmp rfl))) ?_
        refine L.nil ?_
        refine N.roundK (i + 1) ?hI1 ?hmu1 ?hs1 ?hk1 ?hp1
        case hs1 => exact (.cons (t := 5) rfl .nil)
        case hk1 => exact (.cons (t := 2) rfl (.cons (t := 3) rfl .nil))
        case hp1 => exact (.cons 0 rfl (.cons 0 rfl .nil))
        case hI1 => exact ⟨by omega, upto hI2 (by simpa using h3)⟩
        case hmu1 => omega
    · have ph2 := h2; try simp only [decide_eq_true_eq, decide_eq_false_iff_not, Bool.and_eq_true, Bool.or_eq_true, Bool.and_eq_false_iff, Bool.or_eq_false_iff, Bool.not_eq_true', Bool.not_eq_false', Bool.not_true, Bool.not_false, Int.not_lt, Int.not_le] at ph2
      refine W.exit ?_
      refine N.thenExit ?_
      refine N.thenExit ?_
      refine N.blockExit ?_
      refine N.thenW ?_
      have hfe : ∀ j, j < a.fields.length → a.fields.getD j default = b.fields.getD j default := fun j hj => hI2 j (by omega)
      refine W.keep (.cons (t := 2) rfl (.cons (t := 3) rfl .nil)) .refl ?_
      refine W.seq ?_
      refine W.seq ?_
      refine W.region ?_
      refine L.op1 rfl rfl (GSpec.plain rfl (spec_assign rfl (Get.cint rfl))) ?_
      refine L.nil ?_
      refine N.thenW ?_
      refine W.block ?_
      refine W.loopK (σ := Nat) (.cons (t := 2) rfl (.cons (t := 3) rfl .nil)) (fun z => [(6, Rp.int .i64 (z : Nat))]) (fun z => []) (fun z => z ≤ a.blocks.length ∧ ∀ j : Nat, j < z → a.blocks.getD j default = b.blocks.getD j default) (fun z => a.blocks.length - z) 0 ⟨Nat.zero_le _, fun j hj => by omega⟩ (.cons (t := 6) rfl .nil) (.cons 0 rfl (.cons 0 rfl .nil)) ?_
      intro i hI S' M' hS hM
      obtain ⟨hI1, hI2⟩ := hI
      try dsimp only at hS hM
      simp only [List.cons_append, List.nil_append] at hS hM
      subst hS hM
      try dsimp only
      refine W.seq ?_
      refine W.seq ?_
      refine W.region ?_
      refine L.op1 rfl rfl (GSpec.plain rfl (spec_move rfl (Get.tmp rfl))) ?_
      refine L.op1 rfl rfl (GSpec.plain rfl (spec_fieldAddr (f := 3) (off' := 3) rfl Tryd.underlying25 rfl Tryd.sizeOf23 (Get.tmp rfl) rfl)) ?_
      refine L.op1 rfl rfl (GSpec.plain rfl (spec_load1 (k := 1) rfl Tryd.isAgg23 (Get.tmp rfl) rfl rfl)) ?_
      refine L.op1 rfl rfl (GSpec.plain rfl (spec_len rfl Tryd.underlying23 (Get.tmp rfl))) ?_
      refine L.op1 rfl rfl (GSpec.plain rfl (spec_lss rfl (Get.tmp rfl) (Get.tmp rfl))) ?_
      refine L.nil ?_
      refine N.thenW ?_
      refine W.cond (Get.tmp rfl) (fun h4 => ?_) (fun h4 => ?_)
      · have ph4 := h4; try simp only [decide_eq_true_eq, decide_eq_false_iff_not, Bool.and_eq_true, Bool.or_eq_true, Bool.and_eq_false_iff, Bool.or_eq_false_iff, Bool.not_eq_true', Bool.not_eq_false', Bool.not_true, Bool.not_false, Int.not_lt, Int.not_le] at ph4
        refine W.skip ?_
        refine N.thenW ?_
        refine W.seq ?_
        refine W.block ?_
        refine W.seq ?_
        apply W.any 29 mixed (by kernel_rfl)
        · apply Head.one rfl rfl (GSpec.plain rfl (spec_fieldAddr (f := 3) (off' := 3) rfl Tryd.underlying25 rfl Tryd.sizeOf23 (Get.tmp rfl) rfl))
          apply Head.one rfl rfl (GSpec.plain rfl (spec_load1 (k := 1) rfl Tryd.isAgg23 (Get.tmp rfl) rfl rfl))
          apply Head.one rfl rfl (GSpec.plain rfl (spec_move rfl (Get.tmp rfl)))
          apply Head.one rfl rfl (GSpec.plain rfl (spec_indexAddrD (E := eBk) rfl Tryd.underlying23 Tryd.sizeOf54 (fun _ => rfl) (Get.tmp rfl) (Get.tmp rfl) (by (first | omega | (simp only [Int.toNat_natCast]; omega)))))
          apply Head.one rfl rfl (GSpec.plain rfl (spec_fieldAddrP (f := 0) rfl Tryd.underlying54 rfl Tryd.sizeOf9 (Get.tmp rfl) rfl rfl))
          apply Head.one rfl rfl (GSpec.plain rfl (spec_loadP1 rfl Tryd.isAgg9 (Get.tmp rfl)))
          apply Head.one rfl rfl (GSpec.plain rfl (spec_fieldAddr (f := 3) (off' := 3) rfl Tryd.underlying25 rfl Tryd.sizeOf23 (Get.tmp rfl) rfl))
          apply Head.one rfl rfl (GSpec.plain rfl (spec_load1 (k := 0) rfl Tryd.isAgg23 (Get.tmp rfl) rfl rfl))
          apply Head.one rfl rfl (GSpec.plain rfl (spec_move rfl (Get.tmp rfl)))
          apply Head.one rfl rfl (GSpec.plain rfl (spec_indexAddrD (E := eBk) rfl Tryd.underlying23 Tryd.sizeOf54 (fun _ => rfl) (Get.tmp rfl) (Get.tmp rfl) (by (first | omega | (simp only [Int.toNat_natCast]; omega)))))
          apply Head.one rfl rfl (GSpec.plain rfl (spec_fieldAddrP (f := 0) rfl Tryd.underlying54 rfl Tryd.sizeOf9 (Get.tmp rfl) rfl rfl))
          apply Head.one rfl rfl (GSpec.plain rfl (spec_loadP1 rfl Tryd.isAgg9 (Get.tmp rfl)))
          apply Head.one rfl rfl (GSpec.plain rfl (spec_neqS rfl (Get.tmp rfl) (Get.tmp rfl)))
          apply Head.one rfl rfl (GSpec.plain rfl (spec_move rfl (Get.tmp rfl)))
          apply Head.one rfl rfl (GSpec.guard rfl rfl rfl fun hg => (spec_fieldAddr (f := 3) (off' := 3) rfl Tryd.underlying25 rfl Tryd.sizeOf23 (Get.tmp rfl) rfl))
          apply Head.one rfl rfl (GSpec.guard rfl rfl rfl fun hg => (spec_load1 (k := 1) rfl Tryd.isAgg23 (Get.opt rfl hg) rfl rfl))
          apply Head.one rfl rfl (GSpec.guard rfl rfl rfl fun hg => (spec_move rfl (Get.tmp rfl)))
          apply Head.one rfl rfl (GSpec.guard rfl rfl rfl fun hg => (spec_indexAddrD (E := eBk) rfl Tryd.underlying23 Tryd.sizeOf54 (fun _ => rfl) (Get.opt rfl hg) (Get.opt rfl hg) (by (first | omega | (simp only [decide_eq_true_eq, decide_eq_false_iff_not, Bool.and_eq_true, Bool.or_eq_true, Bool.and_eq_false_iff, Bool.or_eq_false_iff, Bool.not_eq_true', Bool.not_eq_false', Bool.not_true, Bool.not_false, Int.not_lt, Int.not_le] at hg; omega)))))
          apply Head.one rfl rfl (GSpec.guard rfl rfl rfl fun hg => (spec_fieldAddrP (f := 1) rfl Tryd.underlying54 rfl Tryd.sizeOf52 (Get.opt rfl hg) rfl rfl))
          apply Head.one rfl rfl (GSpec.guard rfl rfl rfl fun hg => (Spec.eq (its_eq _) (spec_loadP1 rfl Tryd.isAgg52 (Get.opt rfl hg))))
          apply Head.one rfl rfl (GSpec.guard rfl rfl rfl fun hg => (spec_fieldAddr (f := 3) (off' := 3) rfl Tryd.underlying25 rfl Tryd.sizeOf23 (Get.tmp rfl) rfl))
          apply Head.one rfl rfl (GSpec.guard rfl rfl rfl fun hg => (spec_load1 (k := 0) rfl Tryd.isAgg23 (Get.opt rfl hg) rfl rfl))
          apply Head.one rfl rfl (GSpec.guard rfl rfl rfl fun hg => (spec_move rfl (Get.tmp rfl)))
          apply Head.one rfl rfl (GSpec.guard rfl rfl rfl fun hg => (spec_indexAddrD (E := eBk) rfl Tryd.underlying23 Tryd.sizeOf54 (fun _ => rfl) (Get.opt rfl hg) (Get.opt rfl hg) (by (first | omega | (simp only [decide_eq_true_eq, decide_eq_false_iff_not, Bool.and_eq_true, Bool.or_eq_true, Bool.and_eq_false_iff, Bool.or_eq_false_iff, Bool.not_eq_true', Bool.not_eq_false', Bool.not_true, Bool.not_false, Int.not_lt, Int.not_le] at hg; omega)))))
          apply Head.one rfl rfl (GSpec.guard rfl rfl rfl fun hg => (spec_fieldAddrP (f := 1) rfl Tryd.underlying54 rfl Tryd.sizeOf52 (Get.opt rfl hg) rfl rfl))
          apply Head.one rfl rfl (GSpec.guard rfl rfl rfl fun hg => (Spec.eq (its_eq _) (spec_loadP1 rfl Tryd.isAgg52 (Get.opt rfl hg))))
          apply Head.one rfl rfl (GSpec.guard rfl rfl rfl fun hg => (spec_call rfl Tryd.call47 (sameL_ok _ _) (.cons (Get.opt rfl hg) (.cons (Get.opt rfl hg) .nil))))
          apply Head.one rfl rfl (GSpec.guard rfl rfl rfl fun hg => (spec_not rfl (Get.opt rfl hg)))
          apply Head.one rfl rfl (GSpec.plain rfl (spec_or rfl (Get.tmp rfl) (fun hb => (Get.opt rfl hb))))
          exact Head.nil
        refine Fin.one ?_
        refine Fin.one ?_
        refine Fin.one ?_
        refine Fin.one ?_
        refine Fin.one ?_
        refine Fin.one ?_
        refine Fin.one ?_
        refine Fin.one ?_
        refine Fin.one ?_
        refine Fin.one ?_
        refine Fin.one ?_
        refine Fin.one ?_
        refine Fin.one ?_
        refine Fin.one ?_
        refine Fin.one ?_
        refine Fin.one ?_
        refine Fin.one ?_
        refine Fin.one ?_
        refine Fin.one ?_
        refine Fin.one ?_
        refine Fin.one ?_
        refine Fin.one ?_
        refine Fin.one ?_
        refine Fin.one ?_
        refine Fin.one ?_
        refine Fin.one ?_
        refine Fin.one ?_
        refine Fin.one ?_
        refine Fin.one ?_
        refine Fin.nil ?_
        refine L.nil ?_
        refine N.thenW ?_
        refine W.cond (Get.tmp rfl) (fun h5 => ?_) (fun h5 => ?_)
        · have hb : a.blocks.getD i default ≠ b.blocks.getD i default := fun e => by have h := h5; simp only [Int.toNat_natCast] at h; have e1 := congrArg Bk.name e; have e2 := congrArg Bk.items e; simp only [e1, e2] at h; simp at h
          refine W.seq ?_
          refine W.region ?_
          refine L.op1 rfl rfl (GSpec.plain rfl (spec_assign rfl Get.cbool)) ?_
          refine L.nil ?_
          refine N.thenW ?_
          refine W.ret ?_
          refine N.ret () rfl (.tmp (t := 4) (Get.tmp rfl) .nil) (res1 (eqB ?_)) .nil (fun _ _ h => h)
          symm; rw [decide_eq_false_iff_not]; intro e; subst e; exact hb rfl
        · have hb : a.blocks.getD i default = b.blocks.getD i default := by have h := h5; simp only [Int.toNat_natCast, decide_eq_true_eq, decide_eq_false_iff_not, Bool.and_eq_true, Bool.or_eq_true, Bool.and_eq_false_iff, Bool.or_eq_false_iff, Bool.not_eq_true', Bool.not_eq_false', Bool.not_true, Bool.not_false, Int.not_lt, Int.not_le, beq_iff_eq] at h; exact bk_ext (by simpa using h.1) (by simpa using h.2)
          refine W.skip ?_
          refine N.blockNormal ?_
          refine N.thenW ?_
          refine W.region ?_
          refine L.op1 rfl rfl (GSpec.plain rfl (spec_move rfl (Get.tmp rfl))) ?_
          first | refine L.op1 rfl rfl (GSpec.plain rfl (fit_i64 (by (first | omega | (simp only [Int.toNat_natCast]; omega))) (by (first | omega | (simp only [Int.toNat_natCast]; omega))) (spec_add rfl (Get.tmp rfl) (Get.cint rfl)))) ?_ | refine L.op1 rfl rfl (GSpec.plain rfl (spec_add rfl (Get.tmp rfl) (Get.cint rfl))) ?_
          refine L.op1 rfl rfl (GSpec.plain rfl (spec_assign rfl (Get.tmp rfl))) ?_
          refine L.nil ?_
          refine N.roundK (i + 1) ?hI2 ?hmu2 ?hs2 ?hk2 ?hp2
          case hs2 => exact (.cons (t := 6) rfl .nil)
          case hk2 => exact (.cons (t := 2) rfl (.cons (t := 3) rfl .nil))
          case hp2 => exact (.cons 0 rfl (.cons 0 rfl .nil))
          case hI2 => exact ⟨by omega, upto hI2 hb⟩
          case hmu2 => omega
      · have ph4 := h4; try simp only [decide_eq_true_eq, decide_eq_false_iff_not, Bool.and_eq_true, Bool.or_eq_true, Bool.and_eq_false_iff, Bool.or_eq_false_iff, Bool.not_eq_true', Bool.not_eq_false', Bool.not_true, Bool.not_false, Int.not_lt, Int.not_le] at ph4
        refine W.exit ?_
        refine N.thenExit ?_
        refine N.thenExit ?_
        refine N.blockExit ?_
        refine N.thenW ?_
        refine W.keep .nil .refl ?_
        refine W.seq ?_
        refine W.region ?_
        refine L.op1 rfl rfl (GSpec.plain rfl (spec_assign rfl Get.cbool)) ?_
        refine L.nil ?_
        refine N.thenW ?_
        refine W.ret ?_
        refine N.ret () rfl (.tmp (t := 4) (Get.tmp rfl) .nil) (res1 (eqB ?_)) .nil (fun _ _ h => h)
        symm; rw [decide_eq_true_eq]; exact cl_ext hle.2.2.1 hle.2.2.2 (ext_get (by omega) hfe) (ext_get (by omega) fun j hj => hI2 j (by omega))

end Go.Proofs.YtcabngjnmipflaaDoor
set_option linter.unusedSimpArgs false
set_option maxRecDepth 8000
set_option linter.unusedVariables false
namespace Go.Proofs.YtcabngjnmipflaaDoor
open Go.Sim
theorem up_ok (src : List Cl) (c0 : Cl) : CallT Tryd.prog 52 [Rp.slice eC src, Rp.agg (eC c0)] [] (.one (Rp.slice eC (upE src c0))) := by
  refine W.enter (fn := Tryd.f52) (n := 33) Tryd.func52 rfl Tryd.ntmps52 rfl (fun w₀ C₀ => ?_)
  simp only [argS]
  refine W.seq ?_
  refine W.region ?_
  refine L.box rfl rfl (GSpec.plain rfl (spec_box rfl (GetC.agg (Get.tmp rfl)))) (fun r3 => ?_)
  refine L.op1 rfl rfl (GSpec.plain rfl (spec_assign rfl (Get.cnil (E := eC)))) ?_
  refine L.nil ?_
  refine N.thenW ?_
  refine W.seq ?_
  refine W.region ?_
  refine L.op1 rfl rfl (GSpec.plain rfl (spec_loadW (k := 0) rfl Tryd.isAgg25 Tryd.sizeOf25 (Get.tmp rfl) rfl rfl)) ?_
  refine L.op rfl rfl (GSpec.plain rfl (spec_buildSlice1O (y := c0) (E := eC) rfl Tryd.underlying38 ti25 z25 (by decide) (GetC.agg (Get.tmp rfl)) (fun _ => rfl))) (fun v9 => ?_)
  refine L.op1 rfl rfl (GSpec.plain rfl (spec_assign rfl (Get.tmp rfl))) ?_
  refine L.nil ?_
  refine N.thenW ?_
  refine W.seq ?_
  refine W.block ?_
  refine W.loopK (σ := List Cl × Cl × Value) (.cons (t := 0) rfl (.cons (t := 3) rfl (.cons (t := 4) rfl .nil))) (fun z => [(5, Rp.val z.2.2)]) (fun z => [MF.box r3 25 (eC z.2.1), MF.osl z.2.2 25 4 eC (z.1 ++ [z.2.1])]) (fun z => UpI src c0 z.1 z.2.1 ∧ True) (fun z => 32 - z.1.length) ([], c0, v9) ⟨up_0 src c0, trivial⟩ (.cons (t := 5) rfl .nil) (.cons 1 rfl (.cons 0 rfl .nil)) ?_
  intro ⟨p, c, vo⟩ hI S' M' hS hM
  obtain ⟨hI1, _⟩ := hI
  try dsimp only at hS hM
  simp only [List.cons_append, List.nil_append] at hS hM
  subst hS hM
  try dsimp only
  try dsimp only at hI1
  have hpl := hI1.1
  refine W.seq ?_
  refine W.seq ?_
  refine W.region ?_
  refine L.op1 rfl rfl (GSpec.plain rfl (spec_fieldAddr (f := 1) (off' := 1) rfl Tryd.underlying25 rfl Tryd.sizeOf9 (Get.tmp rfl) rfl)) ?_
  refine L.op1 rfl rfl (GSpec.plain rfl (spec_load1 (k := 0) rfl Tryd.isAgg9 (Get.tmp rfl) rfl rfl)) ?_
  refine L.op1 rfl rfl (GSpec.plain rfl (spec_neqS rfl (Get.tmp rfl) (Get.cstr (l := []) rfl rfl))) ?_
  refine L.op1 rfl rfl (GSpec.plain rfl (spec_move rfl (Get.tmp rfl))) ?_
  refine L.op1 rfl rfl (GSpec.guard rfl rfl rfl fun hg => (spec_move rfl (Get.tmp rfl))) ?_
  refine L.op1 rfl rfl (GSpec.guard rfl rfl rfl fun hg => (spec_lenO (k := 1) rfl Tryd.underlying38 (Get.opt rfl hg) rfl)) ?_
  refine L.op1 rfl rfl (GSpec.guard rfl rfl rfl fun hg => (spec_leq rfl (Get.opt rfl hg) (Get.cint rfl))) ?_
  refine L.op1 rfl rfl (GSpec.plain rfl (spec_and rfl (Get.tmp rfl) (fun hb => (Get.opt rfl hb)))) ?_
  refine L.nil ?_
  refine N.thenW ?_
  refine W.cond (Get.tmp rfl) (fun h1 => ?_) (fun h1 => ?_)
  · have hp := h1
    simp only [decide_eq_true_eq, decide_eq_false_iff_not, Bool.and_eq_true, Bool.or_eq_true, Bool.and_eq_false_iff, Bool.or_eq_false_iff, Bool.not_eq_true', Bool.not_eq_false', Bool.not_true, Bool.not_false, Int.not_lt, Int.not_le, beq_eq_false_iff_ne, List.length_append, List.length_cons, List.length_nil] at hp
    refine W.skip ?_
    refine N.thenW ?_
    refine W.block ?_
    refine W.seq ?_
    refine W.region ?_
    refine L.op1 rfl rfl (GSpec.plain rfl (spec_move rfl (Get.tmp rfl))) ?_
    refine L.op1 rfl rfl (GSpec.plain rfl (spec_fieldAddr (f := 1) (off' := 1) rfl Tryd.underlying25 rfl Tryd.sizeOf9 (Get.tmp rfl) rfl)) ?_
    refine L.op1 rfl rfl (GSpec.plain rfl (spec_load1 (k := 0) rfl Tryd.isAgg9 (Get.tmp rfl) rfl rfl)) ?_
    refine L.op1 rfl rfl (GSpec.plain rfl (spec_call rfl Tryd.call24 (rfind_ok _ _) (.cons (Get.tmp rfl) (.cons (Get.tmp rfl) .nil)))) ?_
    refine L.op1 rfl rfl (GSpec.plain rfl (spec_move rfl (Get.tmp rfl))) ?_
    refine L.op1 rfl rfl (GSpec.plain rfl (spec_extract rfl (Get.tmp rfl) rfl)) ?_
    refine L.op1 rfl rfl (GSpec.plain rfl (spec_extract rfl (Get.tmp rfl) rfl)) ?_
    refine L.box rfl rfl (GSpec.plain rfl (spec_alloc rfl ti25 z25)) (fun r6 => ?_)
    refine L.storeW (k := 0) rfl rfl rfl Tryd.sizeOf25 (Get.tmp rfl) (Get.tmp rfl) rfl rfl rfl ?_
    refine L.op1 rfl rfl (GSpec.plain rfl (spec_assign rfl (Get.tmp rfl))) ?_
    refine L.nil ?_
    refine N.thenW ?_
    refine W.seq ?_
    refine W.seq ?_
    refine W.region ?_
    refine L.op1 rfl rfl (GSpec.plain rfl (spec_move rfl (Get.tmp rfl))) ?_
    refine L.op1 rfl rfl (GSpec.plain rfl (spec_not rfl (Get.tmp rfl))) ?_
    refine L.nil ?_
    refine N.thenW ?_
    refine W.cond (Get.tmp rfl) (fun h2 => ?_) (fun h2 => ?_)
    · have he : c.parent = [] ∨ (findC src c.parent).2 = false ∨ 32 < p.length + 1 := by have h := h2; exact .inr (.inl (by simpa using h))
      rw [show p ++ [c] = upE src c0 from (up_end hI1 he).symm]
      refine W.exit ?_
      refine N.thenExit ?_
      refine N.blockMiss rfl ?_
      refine N.thenExit ?_
      refine N.blockExit ?_
      refine N.thenW ?_
      refine W.pub (t := 5) (k := 2) rfl rfl (fun _ => rfl) ?_
      refine W.keep (.cons (t := 4) rfl (.cons (t := 5) rfl .nil)) .refl ?_
      refine W.seq ?_
      refine W.region ?_
      refine L.op1 rfl rfl (GSpec.plain rfl (spec_move rfl (Get.tmp rfl))) ?_
      refine L.op1 rfl rfl (GSpec.plain rfl (spec_assign rfl (Get.tmp rfl))) ?_
      refine L.nil ?_
      refine N.thenW ?_
      refine W.ret ?_
      refine N.ret () rfl (.tmp (t := 4) (Get.tmp rfl) .nil) (res1 (eqSl ?_)) .nil (fun _ _ h => h)
      rfl
    · have hf : (findC src c.parent).2 = true := by have h := h2; simpa using h
      refine W.skip ?_
      refine N.thenW ?_
      refine W.seq ?_
      refine W.region ?_
      refine L.op1 rfl rfl (GSpec.plain rfl (spec_loadW (k := 0) rfl Tryd.isAgg25 Tryd.sizeOf25 (Get.tmp rfl) rfl rfl)) ?_
      refine L.storeW (k := 1) rfl rfl rfl Tryd.sizeOf25 (Get.tmp rfl) (Get.tmp rfl) rfl rfl rfl ?_
      refine L.nil ?_
      refine N.thenW ?_
      refine W.region ?_
      refine L.op1 rfl rfl (GSpec.plain rfl (spec_move rfl (Get.tmp rfl))) ?_
      refine L.op1 rfl rfl (GSpec.plain rfl (spec_loadW (k := 1) rfl Tryd.isAgg25 Tryd.sizeOf25 (Get.tmp rfl) rfl rfl)) ?_
      refine L.op1 rfl rfl (GSpec.plain rfl (spec_buildSlice1 (y := (findC src c.parent).1) (E := eC) rfl Tryd.underlying38 ti25 z25 (by decide) (GetC.agg (Get.tmp rfl)) (fun _ => rfl))) ?_
      refine L.append (k := 2) (E := eC) rfl rfl rfl rfl Tryd.underlying38 ti25 rfl (by decide) (fun _ => rfl) (Get.tmp rfl) (Get.tmp rfl) rfl (by (simp only [List.length_append, List.length_cons, List.length_nil]; omega)) (by (simp only [List.length_append, List.length_cons, List.length_nil]; omega)) (fun v31 => ?_)
      refine L.op1 rfl rfl (GSpec.plain rfl (spec_assign rfl (Get.tmp rfl))) ?_
      refine L.nil ?_
      refine N.blockNormal ?_
      refine N.roundK (p ++ [c], (findC src c.parent).1, v31) ?hI1 ?hmu1 ?hs1 ?hk1 ?hp1
      case hs1 => exact (.cons (t := 5) rfl .nil)
      case hk1 => exact (.cons (t := 0) rfl (.cons (t := 3) rfl (.cons (t := 4) rfl .nil)))
      case hp1 => exact (.cons 1 rfl (.cons 1 rfl .nil))
      case hI1 => exact ⟨up_next hI1 hp.1 hf (by omega), trivial⟩
      case hmu1 => simp; omega
  · have he : c.parent = [] ∨ (findC src c.parent).2 = false ∨ 32 < p.length + 1 := by have h := h1; simp only [decide_eq_true_eq, decide_eq_false_iff_not, Bool.and_eq_true, Bool.or_eq_true, Bool.and_eq_false_iff, Bool.or_eq_false_iff, Bool.not_eq_true', Bool.not_eq_false', Bool.not_true, Bool.not_false, Int.not_lt, Int.not_le, beq_iff_eq, List.length_append, List.length_cons, List.length_nil] at h; rcases h with h | h; (exact .inl h); (right; right; omega)
    rw [show p ++ [c] = upE src c0 from (up_end hI1 he).symm]
    refine W.exit ?_
    refine N.thenExit ?_
    refine N.thenExit ?_
    refine N.blockExit ?_
    refine N.thenW ?_
    refine W.pub (t := 5) (k := 1) rfl rfl (fun _ => rfl) ?_
    refine W.keep (.cons (t := 4) rfl (.cons (t := 5) rfl .nil)) .refl ?_
    refine W.seq ?_
    refine W.region ?_
    refine L.op1 rfl rfl (GSpec.plain rfl (spec_move rfl (Get.tmp rfl))) ?_
    refine L.op1 rfl rfl (GSpec.plain rfl (spec_assign rfl (Get.tmp rfl))) ?_
    refine L.nil ?_
    refine N.thenW ?_
    refine W.ret ?_
    refine N.ret () rfl (.tmp (t := 4) (Get.tmp rfl) .nil) (res1 (eqSl ?_)) .nil (fun _ _ h => h)
    rfl

end Go.Proofs.YtcabngjnmipflaaDoor
set_option linter.unusedSimpArgs false
set_option maxRecDepth 8000
set_option linter.unusedVariables false
namespace Go.Proofs.YtcabngjnmipflaaDoor
open Go.Sim
theorem rflat_ok (l : List Cl) (hne : 1 ≤ l.length) (hf : Few l) : CallT Tryd.prog 46 [Rp.slice eC l] [] (.one (Rp.agg (eC (flatC l)))) := by
  refine W.enter (fn := Tryd.f46) (n := 66) Tryd.func46 rfl Tryd.ntmps46 rfl (fun w₀ C₀ => ?_)
  simp only [argS]
  have hlen := hf.1
  refine W.seq ?_
  refine W.region ?_
  refine L.box rfl rfl (GSpec.plain rfl (spec_alloc rfl ti25 z25)) (fun r2 => ?_)
  refine L.nil ?_
  refine N.thenW ?_
  refine W.seq ?_
  refine W.region ?_
  refine L.op1 rfl rfl (GSpec.plain rfl (spec_move rfl (Get.tmp rfl))) ?_
  refine L.op1 rfl rfl (GSpec.plain rfl (spec_indexAddrD (E := eC) rfl Tryd.underlying38 Tryd.sizeOf25 (fun _ => rfl) (Get.tmp rfl) (Get.cint rfl) (by (first | omega | (simp only [Int.toNat_natCast]; omega))))) ?_
  refine L.op1 rfl rfl (GSpec.plain rfl (spec_fieldAddrP (f := 0) rfl Tryd.underlying25 rfl Tryd.sizeOf9 (Get.tmp rfl) rfl rfl)) ?_
  refine L.op1 rfl rfl (GSpec.plain rfl (spec_loadP1 rfl Tryd.isAgg9 (Get.tmp rfl))) ?_
  refine L.op1 rfl rfl (GSpec.plain rfl (spec_build (Rs := [_, Rp.str [], Rp.val (.slice none 0 0), Rp.val (.slice none 0 0)]) rfl ti25 z25v Tryd.underlying25 pl25 (.cons (GetC.one (Get.tmp rfl)) rfl rfl rfl .nil))) ?_
  refine L.box rfl rfl (GSpec.plain rfl (spec_alloc rfl ti25 z25)) (fun r3 => ?_)
  refine L.storeW (k := 0) rfl rfl rfl Tryd.sizeOf25 (Get.tmp rfl) (Get.tmp rfl) rfl rfl rfl ?_
  refine L.nil ?_
  refine N.thenW ?_
  refine W.nil 27 5 eF ?_
  refine W.nil 54 2 eBk ?_
  refine W.seq ?_
  refine W.seq ?_
  refine W.region ?_
  refine L.op1 rfl rfl (GSpec.plain rfl (spec_move rfl (Get.tmp rfl))) ?_
  refine L.op1 rfl rfl (GSpec.plain rfl (spec_len rfl Tryd.underlying38 (Get.tmp rfl))) ?_
  first | refine L.op1 rfl rfl (GSpec.plain rfl (fit_i64 (by (first | omega | (simp only [Int.toNat_natCast]; omega))) (by (first | omega | (simp only [Int.toNat_natCast]; omega))) (spec_sub rfl (Get.tmp rfl) (Get.cint rfl)))) ?_ | refine L.op1 rfl rfl (GSpec.plain rfl (spec_sub rfl (Get.tmp rfl) (Get.cint rfl))) ?_
  refine L.op1 rfl rfl (GSpec.plain rfl (spec_assign rfl (Get.tmp rfl))) ?_
  refine L.nil ?_
  refine N.thenW ?_
  refine W.keep (.cons (t := 0) rfl (.cons (t := 2) rfl (.cons (t := 3) rfl (.cons (t := 4) rfl .nil)))) .refl ?_
  refine W.block ?_
  refine W.loopK (σ := Nat × Value × Value) (.cons (t := 0) rfl (.cons (t := 2) rfl (.cons (t := 3) rfl .nil))) (fun z => [(4, Rp.int .i64 ((z.1 : Nat) - 1 : Int))]) (fun z => [MF.box r3 25 [Rp.str (l.getD 0 default).name, Rp.str [], Rp.val z.2.1, Rp.val z.2.2], MF.osl z.2.1 27 5 eF (flF (l.drop z.1)), MF.osl z.2.2 54 2 eBk (flB (l.drop z.1))]) (fun z => z.1 ≤ l.length) (fun z => z.1) (l.length, .slice none 0 0, .slice none 0 0) (Nat.le_refl _) (.weak (t := 4) rfl (eqI (by first | rfl | omega)) .nil) (by rw [List.drop_length]; exact (.cons 2 rfl (.cons 1 rfl (.cons 0 rfl (.cons 0 rfl .nil))))) ?_
  intro ⟨k, va, vb⟩ hI S' M' hS hM
  try dsimp only at hS hM
  simp only [List.cons_append, List.nil_append] at hS hM
  subst hS hM
  try dsimp only
  try dsimp only at hI
  try dsimp only
  refine W.seq ?_
  refine W.seq ?_
  refine W.region ?_
  refine L.op1 rfl rfl (GSpec.plain rfl (spec_move rfl (Get.tmp rfl))) ?_
  refine L.op1 rfl rfl (GSpec.plain rfl (spec_geq rfl (Get.tmp rfl) (Get.cint rfl))) ?_
  refine L.nil ?_
  refine N.thenW ?_
  refine W.cond (Get.tmp rfl) (fun h1 => ?_) (fun h1 => ?_)
  · have ph1 := h1; try simp only [decide_eq_true_eq, decide_eq_false_iff_not, Bool.and_eq_true, Bool.or_eq_true, Bool.and_eq_false_iff, Bool.or_eq_false_iff, Bool.not_eq_true', Bool.not_eq_false', Bool.not_true, Bool.not_false, Int.not_lt, Int.not_le] at ph1
    refine W.skip ?_
    refine N.thenW ?_
    obtain ⟨m, rfl⟩ : ∃ m, k = m + 1 := ⟨k - 1, by omega⟩
    rw [show ((m + 1 : Nat) : Int) - 1 = (m : Int) by omega]
    have hcm := hf.2 _ (getD_mem' (show m < l.length by omega))
    have hfd := few_drop hf (m + 1)
    refine W.seq ?_
    refine W.block ?_
    refine W.seq ?_
    apply W.any 7 mixed (by kernel_rfl)
    · apply Head.one rfl rfl (GSpec.plain rfl (spec_fieldAddr (f := 2) (off' := 2) rfl Tryd.underlying25 rfl Tryd.sizeOf22 (Get.tmp rfl) rfl))
      apply Head.one rfl rfl (GSpec.plain rfl (spec_load1 (k := 0) rfl Tryd.isAgg22 (Get.tmp rfl) rfl rfl))
      apply Head.one rfl rfl (GSpec.plain rfl (spec_move rfl (Get.tmp rfl)))
      apply Head.one rfl rfl (GSpec.plain rfl (spec_move rfl (Get.tmp rfl)))
      apply Head.one rfl rfl (GSpec.plain rfl (spec_indexAddrD (E := eC) rfl Tryd.underlying38 Tryd.sizeOf25 (fun _ => rfl) (Get.tmp rfl) (Get.tmp rfl) (by (first | omega | (simp only [Int.toNat_natCast]; omega)))))
      apply Head.one rfl rfl (GSpec.plain rfl (spec_fieldAddrP (f := 2) rfl Tryd.underlying25 rfl Tryd.sizeOf22 (Get.tmp rfl) rfl rfl))
      apply Head.one rfl rfl (GSpec.plain rfl (spec_loadP1 rfl Tryd.isAgg22 (Get.tmp rfl)))
      exact Head.nil
    refine Fin.one ?_
    refine Fin.one ?_
    refine Fin.one ?_
    refine Fin.one ?_
    refine Fin.one ?_
    refine Fin.one ?_
    refine Fin.one ?_
    refine Fin.nil ?_
    refine L.append (k := 1) (E := eF) rfl rfl rfl rfl Tryd.underlying22 ti27 rfl (by decide) (fun _ => rfl) (Get.tmp rfl) (Get.tmp rfl) rfl (by (first | omega | (simp only [Int.toNat_natCast]; omega))) (by (first | omega | (simp only [Int.toNat_natCast]; omega))) (fun v27 => ?_)
    refine L.op1 rfl rfl (GSpec.plain rfl (spec_fieldAddr (f := 2) (off' := 2) rfl Tryd.underlying25 rfl Tryd.sizeOf22 (Get.tmp rfl) rfl)) ?_
    refine L.factM 1 rfl osl_one fun hq => ?_
    haveI := One.val hq
    refine L.storeB (k := 0) (R := Rp.val v27) rfl rfl rfl Tryd.sizeOf22 (Get.tmp rfl) (Get.tmp rfl) rfl rfl ?_
    refine L.nil ?_
    refine N.thenW ?_
    refine W.seq ?_
    refine W.region ?_
    refine L.op1 rfl rfl (GSpec.plain rfl (spec_assign rfl (Get.cint rfl))) ?_
    refine L.nil ?_
    refine N.thenW ?_
    refine W.block ?_
    refine W.loopK (σ := Nat × Value) (.cons (t := 0) rfl (.cons (t := 2) rfl (.cons (t := 3) rfl (.cons (t := 4) rfl (.cons (t := 16) rfl (.cons (t := 17) rfl (.cons (t := 20) rfl (.cons (t := 21) rfl (.cons (t := 22) rfl (.cons (t := 23) rfl (.cons (t := 24) rfl (.cons (t := 25) rfl (.cons (t := 26) rfl (.cons (t := 27) rfl (.cons (t := 28) rfl .nil))))))))))))))) (fun z => [(5, Rp.int .i64 (z.1 : Nat))]) (fun z => [MF.box r3 25 [Rp.str (l.getD 0 default).name, Rp.str [], Rp.val v27, Rp.val z.2], MF.osl z.2 54 2 eBk (extA (flB (l.drop (m + 1))) ((l.getD m default).blocks.take z.1))]) (fun z => z.1 ≤ (l.getD m default).blocks.length) (fun z => (l.getD m default).blocks.length - z.1) (0, vb) (Nat.zero_le _) (.cons (t := 5) rfl .nil) (.cons 0 rfl (.cons 1 rfl (.cons 0 rfl (.cons 0 rfl .nil)))) ?_
    intro ⟨j, vc⟩ hI S' M' hS hM
    try dsimp only at hS hM
    simp only [List.cons_append, List.nil_append] at hS hM
    subst hS hM
    try dsimp only
    try dsimp only at hI
    have hxl := extA_len ((l.getD m default).blocks.take j) (flB (l.drop (m + 1)))
    have htl : ((l.getD m default).blocks.take j).length ≤ j := by simp; omega
    have hbl := blk_lt (extA (flB (l.drop (m + 1))) ((l.getD m default).blocks.take j)) ((l.getD m default).blocks.getD j default).name
    refine W.seq ?_
    refine W.seq ?_
    refine W.region ?_
    refine L.op1 rfl rfl (GSpec.plain rfl (spec_move rfl (Get.tmp rfl))) ?_
    refine L.op1 rfl rfl (GSpec.plain rfl (spec_move rfl (Get.tmp rfl))) ?_
    refine L.op1 rfl rfl (GSpec.plain rfl (spec_move rfl (Get.tmp rfl))) ?_
    refine L.op1 rfl rfl (GSpec.plain rfl (spec_indexAddrD (E := eC) rfl Tryd.underlying38 Tryd.sizeOf25 (fun _ => rfl) (Get.tmp rfl) (Get.tmp rfl) (by (first | omega | (simp only [Int.toNat_natCast]; omega))))) ?_
    refine L.op1 rfl rfl (GSpec.plain rfl (spec_fieldAddrP (f := 3) rfl Tryd.underlying25 rfl Tryd.sizeOf23 (Get.tmp rfl) rfl rfl)) ?_
    refine L.op1 rfl rfl (GSpec.plain rfl (spec_loadP1 rfl Tryd.isAgg23 (Get.tmp rfl))) ?_
    refine L.op1 rfl rfl (GSpec.plain rfl (spec_len rfl Tryd.underlying23 (Get.tmp rfl))) ?_
    refine L.op1 rfl rfl (GSpec.plain rfl (spec_lss rfl (Get.tmp rfl) (Get.tmp rfl))) ?_
    refine L.nil ?_
    refine N.thenW ?_
    refine W.cond (Get.tmp rfl) (fun h2 => ?_) (fun h2 => ?_)
    · have ph2 := h2; simp only [decide_eq_true_eq, decide_eq_false_iff_not, Bool.and_eq_true, Bool.or_eq_true, Bool.and_eq_false_iff, Bool.or_eq_false_iff, Bool.not_eq_true', Bool.not_eq_false', Bool.not_true, Bool.not_false, Int.not_lt, Int.not_le] at ph2
      have hjl : j < (l.getD m default).blocks.length := Int.ofNat_lt.1 (of_decide_eq_true h2)
      refine W.skip ?_
      refine N.thenW ?_
      refine W.seq ?_
      refine W.block ?_
      refine W.seq ?_
      refine W.region ?_
      refine L.op1 rfl rfl (GSpec.plain rfl (spec_move rfl (Get.tmp rfl))) ?_
      refine L.op1 rfl rfl (GSpec.plain rfl (spec_move rfl (Get.tmp rfl))) ?_
      refine L.op1 rfl rfl (GSpec.plain rfl (spec_indexAddrD (E := eC) rfl Tryd.underlying38 Tryd.sizeOf25 (fun _ => rfl) (Get.tmp rfl) (Get.tmp rfl) (by (first | omega | (simp only [Int.toNat_natCast]; omega))))) ?_
      refine L.op1 rfl rfl (GSpec.plain rfl (spec_fieldAddrP (f := 3) rfl Tryd.underlying25 rfl Tryd.sizeOf23 (Get.tmp rfl) rfl rfl)) ?_
      refine L.op1 rfl rfl (GSpec.plain rfl (spec_loadP1 rfl Tryd.isAgg23 (Get.tmp rfl))) ?_
      refine L.op1 rfl rfl (GSpec.plain rfl (spec_move rfl (Get.tmp rfl))) ?_
      refine L.op1 rfl rfl (GSpec.plain rfl (spec_indexAddrD (E := eBk) rfl Tryd.underlying23 Tryd.sizeOf54 (fun _ => rfl) (Get.tmp rfl) (Get.tmp rfl) (by (first | omega | (simp only [Int.toNat_natCast]; omega))))) ?_
      refine L.op1 rfl rfl (GSpec.plain rfl (spec_loadPA rfl Tryd.isAgg54 Tryd.sizeOf54 (Get.tmp rfl) rfl)) ?_
      refine L.box rfl rfl (GSpec.plain rfl (spec_alloc rfl ti54 z54)) (fun r6 => ?_)
      refine L.storeW (k := 0) rfl rfl rfl Tryd.sizeOf54 (Get.tmp rfl) (Get.tmp rfl) rfl rfl rfl ?_
      refine L.nil ?_
      refine N.thenW ?_
      refine W.seq ?_
      refine W.region ?_
      refine L.op1 rfl rfl (GSpec.plain rfl (spec_fieldAddr (f := 3) (off' := 3) rfl Tryd.underlying25 rfl Tryd.sizeOf23 (Get.tmp rfl) rfl)) ?_
      refine L.op1 rfl rfl (GSpec.plain rfl (spec_load1 (k := 1) rfl Tryd.isAgg23 (Get.tmp rfl) rfl rfl)) ?_
      refine L.op1 rfl rfl (GSpec.plain rfl (spec_fieldAddr (f := 0) (off' := 0) rfl Tryd.underlying54 rfl Tryd.sizeOf9 (Get.tmp rfl) rfl)) ?_
      refine L.op1 rfl rfl (GSpec.plain rfl (spec_load1 (k := 0) rfl Tryd.isAgg9 (Get.tmp rfl) rfl rfl)) ?_
      refine L.op1 rfl rfl (GSpec.plain rfl (spec_callB rfl Tryd.call42 (block_ok _ _) (.cons (Get.tmp rfl) (.cons (Get.tmp rfl) .nil)) (.cons (.slice 2 rfl (fun _ => rfl)) (.cons .same .nil)))) ?_
      refine L.op1 rfl rfl (GSpec.plain rfl (spec_assign rfl (Get.tmp rfl))) ?_
      refine L.nil ?_
      refine N.thenW ?_
      refine W.seq ?_
      refine W.region ?_
      refine L.op1 rfl rfl (GSpec.plain rfl (spec_move rfl (Get.tmp rfl))) ?_
      refine L.op1 rfl rfl (GSpec.plain rfl (spec_geq rfl (Get.tmp rfl) (Get.cint rfl))) ?_
      refine L.nil ?_
      refine N.thenW ?_
      refine W.cond (Get.tmp rfl) (fun h3 => ?_) (fun h3 => ?_)
      · have hge := of_decide_eq_true h3
        simp only [Int.toNat_natCast] at hge
        refine W.region ?_
        refine L.op1 rfl rfl (GSpec.plain rfl (spec_fieldAddr (f := 3) (off' := 3) rfl Tryd.underlying25 rfl Tryd.sizeOf23 (Get.tmp rfl) rfl)) ?_
        refine L.op1 rfl rfl (GSpec.plain rfl (spec_load1 (k := 1) rfl Tryd.isAgg23 (Get.tmp rfl) rfl rfl)) ?_
        refine L.op1 rfl rfl (GSpec.plain rfl (spec_move rfl (Get.tmp rfl))) ?_
        refine L.op1 rfl rfl (GSpec.plain rfl (spec_loadW (k := 0) rfl Tryd.isAgg54 Tryd.sizeOf54 (Get.tmp rfl) rfl rfl)) ?_
        refine L.op1 rfl rfl (GSpec.plain rfl (spec_indexAddrO (k := 2) (E := eBk) rfl Tryd.underlying23 Tryd.sizeOf54 (Get.tmp rfl) (Get.tmp rfl) rfl (by (first | omega | (simp only [Int.toNat_natCast]; omega))))) ?_
        refine L.storeOA (k := 2) (E := eBk) rfl rfl rfl Tryd.sizeOf54 (fun _ => rfl) (Get.tmp rfl) (Get.tmp rfl) rfl rfl (by (first | omega | (simp only [Int.toNat_natCast]; omega))) ?_
        refine L.nil ?_
        refine N.blockNormal ?_
        refine N.thenW ?_
        refine W.region ?_
        refine L.op1 rfl rfl (GSpec.plain rfl (spec_move rfl (Get.tmp rfl))) ?_
        first | refine L.op1 rfl rfl (GSpec.plain rfl (fit_i64 (by (first | omega | (simp only [Int.toNat_natCast]; omega))) (by (first | omega | (simp only [Int.toNat_natCast]; omega))) (spec_add rfl (Get.tmp rfl) (Get.cint rfl)))) ?_ | refine L.op1 rfl rfl (GSpec.plain rfl (spec_add rfl (Get.tmp rfl) (Get.cint rfl))) ?_
        refine L.op1 rfl rfl (GSpec.plain rfl (spec_assign rfl (Get.tmp rfl))) ?_
        refine L.nil ?_
        refine N.roundK (j + 1, vc) ?hI1 ?hmu1 ?hs1 ?hk1 ?hp1
        case hs1 => exact (.cons (t := 5) rfl .nil)
        case hk1 => exact (.cons (t := 0) rfl (.cons (t := 2) rfl (.cons (t := 3) rfl (.cons (t := 4) rfl (.cons (t := 16) rfl (.cons (t := 17) rfl (.cons (t := 20) rfl (.cons (t := 21) rfl (.cons (t := 22) rfl (.cons (t := 23) rfl (.cons (t := 24) rfl (.cons (t := 25) rfl (.cons (t := 26) rfl (.cons (t := 27) rfl (.cons (t := 28) rfl .nil)))))))))))))))
        case hp1 => dsimp only; rw [extA_take (show j < (l.getD m default).blocks.length by omega), ← extB_yes hge]; exact (.cons 1 rfl (.cons 1 rfl (.cons 1 rfl (.cons 1 rfl .nil))))
        case hI1 => dsimp only; omega
        case hmu1 => dsimp only; omega
      · have hge := of_decide_eq_false h3
        simp only [Int.toNat_natCast] at hge
        refine W.region ?_
        refine L.op1 rfl rfl (GSpec.plain rfl (spec_fieldAddr (f := 3) (off' := 3) rfl Tryd.underlying25 rfl Tryd.sizeOf23 (Get.tmp rfl) rfl)) ?_
        refine L.op1 rfl rfl (GSpec.plain rfl (spec_load1 (k := 1) rfl Tryd.isAgg23 (Get.tmp rfl) rfl rfl)) ?_
        refine L.op1 rfl rfl (GSpec.plain rfl (spec_loadW (k := 0) rfl Tryd.isAgg54 Tryd.sizeOf54 (Get.tmp rfl) rfl rfl)) ?_
        refine L.op1 rfl rfl (GSpec.plain rfl (spec_buildSlice1 (y := ((l.getD m default).blocks.getD j default)) (E := eBk) rfl Tryd.underlying23 ti54 z54 (by decide) (GetC.agg (Get.tmp rfl)) (fun _ => rfl))) ?_
        refine L.append (k := 2) (E := eBk) rfl rfl rfl rfl Tryd.underlying23 ti54 rfl (by decide) (fun _ => rfl) (Get.tmp rfl) (Get.tmp rfl) rfl (by (simp only [List.length_cons, List.length_nil]; omega)) (by (simp only [List.length_cons, List.length_nil]; omega)) (fun v63 => ?_)
        refine L.op1 rfl rfl (GSpec.plain rfl (spec_fieldAddr (f := 3) (off' := 3) rfl Tryd.underlying25 rfl Tryd.sizeOf23 (Get.tmp rfl) rfl)) ?_
        refine L.factM 2 rfl osl_one fun hq => ?_
        haveI := One.val hq
        refine L.storeB (k := 1) (R := Rp.val v63) rfl rfl rfl Tryd.sizeOf23 (Get.tmp rfl) (Get.tmp rfl) rfl rfl ?_
        refine L.nil ?_
        refine N.blockNormal ?_
        refine N.thenW ?_
        refine W.region ?_
        refine L.op1 rfl rfl (GSpec.plain rfl (spec_move rfl (Get.tmp rfl))) ?_
        first | refine L.op1 rfl rfl (GSpec.plain rfl (fit_i64 (by (first | omega | (simp only [Int.toNat_natCast]; omega))) (by (first | omega | (simp only [Int.toNat_natCast]; omega))) (spec_add rfl (Get.tmp rfl) (Get.cint rfl)))) ?_ | refine L.op1 rfl rfl (GSpec.plain rfl (spec_add rfl (Get.tmp rfl) (Get.cint rfl))) ?_
        refine L.op1 rfl rfl (GSpec.plain rfl (spec_assign rfl (Get.tmp rfl))) ?_
        refine L.nil ?_
        refine N.roundK (j + 1, v63) ?hI2 ?hmu2 ?hs2 ?hk2 ?hp2
        case hs2 => exact (.cons (t := 5) rfl .nil)
        case hk2 => exact (.cons (t := 0) rfl (.cons (t := 2) rfl (.cons (t := 3) rfl (.cons (t := 4) rfl (.cons (t := 16) rfl (.cons (t := 17) rfl (.cons (t := 20) rfl (.cons (t := 21) rfl (.cons (t := 22) rfl (.cons (t := 23) rfl (.cons (t := 24) rfl (.cons (t := 25) rfl (.cons (t := 26) rfl (.cons (t := 27) rfl (.cons (t := 28) rfl .nil)))))))))))))))
        case hp2 => dsimp only; rw [extA_take (show j < (l.getD m default).blocks.length by omega), ← extB_no hge]; exact (.cons 1 rfl (.cons 1 rfl (.cons 1 rfl (.cons 1 rfl .nil))))
        case hI2 => dsimp only; omega
        case hmu2 => dsimp only; omega
    · have ph2 := h2; simp only [decide_eq_true_eq, decide_eq_false_iff_not, Bool.and_eq_true, Bool.or_eq_true, Bool.and_eq_false_iff, Bool.or_eq_false_iff, Bool.not_eq_true', Bool.not_eq_false', Bool.not_true, Bool.not_false, Int.not_lt, Int.not_le] at ph2
      have hjl : ¬ j < (l.getD m default).blocks.length := fun q => of_decide_eq_false h2 (Int.ofNat_lt.2 q)
      refine W.exit ?_
      refine N.thenExit ?_
      refine N.thenExit ?_
      refine N.blockExit ?_
      refine N.blockNormal ?_
      refine N.thenW ?_
      have hj : j = (l.getD m default).blocks.length := by omega
      subst hj
      rw [List.take_length]
      refine W.region ?_
      refine L.op1 rfl rfl (GSpec.plain rfl (spec_move rfl (Get.tmp rfl))) ?_
      first | refine L.op1 rfl rfl (GSpec.plain rfl (fit_i64 (by (first | omega | (simp only [Int.toNat_natCast]; omega))) (by (first | omega | (simp only [Int.toNat_natCast]; omega))) (spec_sub rfl (Get.tmp rfl) (Get.cint rfl)))) ?_ | refine L.op1 rfl rfl (GSpec.plain rfl (spec_sub rfl (Get.tmp rfl) (Get.cint rfl))) ?_
      refine L.op1 rfl rfl (GSpec.plain rfl (spec_assign rfl (Get.tmp rfl))) ?_
      refine L.nil ?_
      refine N.roundK (m, v27, vc) ?hI3 ?hmu3 ?hs3 ?hk3 ?hp3
      case hs3 => exact (.weak (t := 4) rfl (eqI (by omega)) .nil)
      case hk3 => exact (.cons (t := 0) rfl (.cons (t := 2) rfl (.cons (t := 3) rfl .nil)))
      case hp3 => dsimp only; rw [flF_drop (show m < l.length by omega), flB_drop (show m < l.length by omega)]; exact (.cons 0 rfl (.cons 1 rfl (.cons 0 rfl (.cons 0 rfl .nil))))
      case hI3 => dsimp only; omega
      case hmu3 => dsimp only; omega
  · have ph1 := h1; try simp only [decide_eq_true_eq, decide_eq_false_iff_not, Bool.and_eq_true, Bool.or_eq_true, Bool.and_eq_false_iff, Bool.or_eq_false_iff, Bool.not_eq_true', Bool.not_eq_false', Bool.not_true, Bool.not_false, Int.not_lt, Int.not_le] at ph1
    refine W.exit ?_
    refine N.thenExit ?_
    refine N.thenExit ?_
    refine N.blockExit ?_
    refine N.thenW ?_
    have hk0 : k = 0 := by omega
    subst hk0
    rw [List.drop_zero]
    refine W.pubBox (off := 2) 1 0 rfl rfl rfl (fun _ => rfl) ?_
    refine W.pubBox (off := 3) 1 0 rfl rfl rfl (fun _ => rfl) ?_
    refine W.seq ?_
    refine W.region ?_
    refine L.op1 rfl rfl (GSpec.plain rfl (spec_loadW (k := 0) rfl Tryd.isAgg25 Tryd.sizeOf25 (Get.tmp rfl) rfl rfl)) ?_
    refine L.storeW (k := 1) rfl rfl rfl Tryd.sizeOf25 (Get.tmp rfl) (Get.tmp rfl) rfl rfl rfl ?_
    refine L.nil ?_
    refine N.thenW ?_
    refine W.keep (.cons (t := 2) rfl .nil) .refl ?_
    refine W.ret ?_
    refine N.ret () rfl (.cellA (k := 1) (Get.tmp (t := 2) rfl) rfl Tryd.isAgg25 Tryd.sizeOf25 rfl .nil) (res1 (eqA ?_)) .nil (fun _ _ h => h)
    rfl

end Go.Proofs.YtcabngjnmipflaaDoor
set_option linter.unusedSimpArgs false
set_option maxRecDepth 8000
set_option linter.unusedVariables false
namespace Go.Proofs.YtcabngjnmipflaaDoor
open Go.Sim
theorem rcheck_ok (src : List Cl) (hok : ∀ c ∈ src, ClOk c) : CallT Tryd.prog 26 [Rp.slice eC src] [] (.one (Rp.int .i64 (rcheckE src))) := by
  refine W.enter (fn := Tryd.f26) (n := 129) Tryd.func26 rfl Tryd.ntmps26 rfl (fun w₀ C₀ => ?_)
  simp only [argS]
  refine W.fact 0 rfl slice_fact fun hl => ?_
  refine W.seq ?_
  refine W.region ?_
  refine L.op1 rfl rfl (GSpec.plain rfl (spec_assign rfl (Get.cint rfl))) ?_
  refine L.nil ?_
  refine N.thenW ?_
  refine W.seq ?_
  refine W.seq ?_
  refine W.region ?_
  refine L.op1 rfl rfl (GSpec.plain rfl (spec_move rfl (Get.tmp rfl))) ?_
  refine L.op1 rfl rfl (GSpec.plain rfl (spec_len rfl Tryd.underlying38 (Get.tmp rfl))) ?_
  refine L.op1 rfl rfl (GSpec.plain rfl (spec_gtr rfl (Get.tmp rfl) (Get.cint rfl))) ?_
  refine L.nil ?_
  refine N.thenW ?_
  refine W.cond (Get.tmp rfl) (fun h1 => ?_) (fun h1 => ?_)
  · have hn32 : 32 < src.length := by have h := of_decide_eq_true h1; omega
    refine W.seq ?_
    refine W.region ?_
    refine L.op1 rfl rfl (GSpec.plain rfl (spec_assign rfl (Get.cint rfl))) ?_
    refine L.nil ?_
    refine N.thenW ?_
    refine W.ret ?_
    refine N.ret () rfl (.tmp (t := 2) (Get.tmp rfl) .nil) (res1 (eqI ?_)) .nil (fun _ _ h => h)
    unfold rcheckE; rw [if_pos hn32]
  · have hn32 : ¬ 32 < src.length := by have h := of_decide_eq_false h1; omega
    refine W.skip ?_
    refine N.thenW ?_
    refine W.seq ?_
    refine W.seq ?_
    refine W.region ?_
    refine L.op1 rfl rfl (GSpec.plain rfl (spec_assign rfl (Get.cint rfl))) ?_
    refine L.nil ?_
    refine N.thenW ?_
    refine W.block ?_
    -- assigned in the loop, not kept: [2]
    refine W.loopK (σ := Nat) (.cons (t := 0) rfl .nil) (fun z => [(3, Rp.int .i64 (z : Nat))]) (fun z => []) (fun z => z ≤ src.length ∧ ∀ j : Nat, j < z → validC (src.getD j default) = 0) (fun z => src.length - z) 0 ⟨Nat.zero_le _, fun j hj => by omega⟩ (.cons (t := 3) rfl .nil) .nil ?_
    intro i hI S' M' hS hM
    obtain ⟨hI1, hI2⟩ := hI
    try dsimp only at hS hM
    simp only [List.cons_append, List.nil_append] at hS hM
    subst hS hM
    try dsimp only
    refine W.seq ?_
    refine W.seq ?_
    refine W.region ?_
    refine L.op1 rfl rfl (GSpec.plain rfl (spec_move rfl (Get.tmp rfl))) ?_
    refine L.op1 rfl rfl (GSpec.plain rfl (spec_move rfl (Get.tmp rfl))) ?_
    refine L.op1 rfl rfl (GSpec.plain rfl (spec_len rfl Tryd.underlying38 (Get.tmp rfl))) ?_
    refine L.op1 rfl rfl (GSpec.plain rfl (spec_lss rfl (Get.tmp rfl) (Get.tmp rfl))) ?_
    refine L.nil ?_
    refine N.thenW ?_
    refine W.cond (Get.tmp rfl) (fun h2 => ?_) (fun h2 => ?_)
    · have ph2 := h2; try simp only [decide_eq_true_eq, decide_eq_false_iff_not, Bool.and_eq_true, Bool.or_eq_true, Bool.and_eq_false_iff, Bool.or_eq_false_iff, Bool.not_eq_true', Bool.not_eq_false', Bool.not_true, Bool.not_false, Int.not_lt, Int.not_le] at ph2
      refine W.skip ?_
      refine N.thenW ?_
      refine W.seq ?_
      refine W.block ?_
      refine W.seq ?_
      refine W.region ?_
      refine L.op1 rfl rfl (GSpec.plain rfl (spec_move rfl (Get.tmp rfl))) ?_
      refine L.op1 rfl rfl (GSpec.plain rfl (spec_move rfl (Get.tmp rfl))) ?_
      refine L.op1 rfl rfl (GSpec.plain rfl (spec_indexAddrD (E := eC) rfl Tryd.underlying38 Tryd.sizeOf25 (fun _ => rfl) (Get.tmp rfl) (Get.tmp rfl) (by (first | omega | (simp only [Int.toNat_natCast]; omega))))) ?_
      refine L.op1 rfl rfl (GSpec.plain rfl (spec_loadPA rfl Tryd.isAgg25 Tryd.sizeOf25 (Get.tmp rfl) rfl)) ?_
      refine L.op1 rfl rfl (GSpec.plain rfl (spec_call rfl Tryd.call16 (rvalidC_ok _) (.cons (Get.tmp rfl) .nil))) ?_
      refine L.op1 rfl rfl (GSpec.plain rfl (spec_assign rfl (Get.tmp rfl))) ?_
      refine L.nil ?_
      refine N.thenW ?_
      refine W.seq ?_
      refine W.region ?_
      refine L.op1 rfl rfl (GSpec.plain rfl (spec_move rfl (Get.tmp rfl))) ?_
      refine L.op1 rfl rfl (GSpec.plain rfl (spec_neq rfl (Get.tmp rfl) (Get.cint rfl))) ?_
      refine L.nil ?_
      refine N.thenW ?_
      refine W.cond (Get.tmp rfl) (fun h3 => ?_) (fun h3 => ?_)
      · have ph3 := h3; try simp only [decide_eq_true_eq, decide_eq_false_iff_not, Bool.and_eq_true, Bool.or_eq_true, Bool.and_eq_false_iff, Bool.or_eq_false_iff, Bool.not_eq_true', Bool.not_eq_false', Bool.not_true, Bool.not_false, Int.not_lt, Int.not_le] at ph3
        refine W.seq ?_
        refine W.region ?_
        refine L.op1 rfl rfl (GSpec.plain rfl (spec_move rfl (Get.tmp rfl))) ?_
        refine L.op1 rfl rfl (GSpec.plain rfl (spec_assign rfl (Get.tmp rfl))) ?_
        refine L.nil ?_
        refine N.thenW ?_
        refine W.ret ?_
        refine N.ret () rfl (.tmp (t := 2) (Get.tmp rfl) .nil) (res1 (eqI ?_)) .nil (fun _ _ h => h)
        unfold rcheckE; rw [if_neg hn32, (firstE_at (e := validC) (i := i) (by omega) (by simpa using h3) hI2), if_pos (by simpa using h3)]
        rfl
      · have ph3 := h3; try simp only [decide_eq_true_eq, decide_eq_false_iff_not, Bool.and_eq_true, Bool.or_eq_true, Bool.and_eq_false_iff, Bool.or_eq_false_iff, Bool.not_eq_true', Bool.not_eq_false', Bool.not_true, Bool.not_false, Int.not_lt, Int.not_le] at ph3
        refine W.skip ?_
        refine N.blockNormal ?_
        refine N.thenW ?_
        refine W.region ?_
        refine L.op1 rfl rfl (GSpec.plain rfl (spec_move rfl (Get.tmp rfl))) ?_
        first | refine L.op1 rfl rfl (GSpec.plain rfl (fit_i64 (by (first | omega | (simp only [Int.toNat_natCast]; omega))) (by (first | omega | (simp only [Int.toNat_natCast]; omega))) (spec_add rfl (Get.tmp rfl) (Get.cint rfl)))) ?_ | refine L.op1 rfl rfl (GSpec.plain rfl (spec_add rfl (Get.tmp rfl) (Get.cint rfl))) ?_
        refine L.op1 rfl rfl (GSpec.plain rfl (spec_assign rfl (Get.tmp rfl))) ?_
        refine L.nil ?_
        refine N.roundK (i + 1) ?hI1 ?hmu1 ?hs1 ?hk1 ?hp1
        case hs1 => exact (.cons (t := 3) rfl .nil)
        case hk1 => exact (.cons (t := 0) rfl .nil)
        case hp1 => exact .nil
        case hI1 => exact ⟨by omega, upto hI2 (by simpa using h3)⟩
        case hmu1 => omega
    · have ph2 := h2; try simp only [decide_eq_true_eq, decide_eq_false_iff_not, Bool.and_eq_true, Bool.or_eq_true, Bool.and_eq_false_iff, Bool.or_eq_false_iff, Bool.not_eq_true', Bool.not_eq_false', Bool.not_true, Bool.not_false, Int.not_lt, Int.not_le] at ph2
      refine W.exit ?_
      refine N.thenExit ?_
      refine N.thenExit ?_
      refine N.blockExit ?_
      refine N.thenW ?_
      have hv0 : firstE validC src = 0 := firstE_none fun j hj => hI2 j (by omega)
      have hsd := sound_of hok hn32 hv0
      refine W.seq ?_
      refine W.seq ?_
      refine W.region ?_
      refine L.op1 rfl rfl (GSpec.plain rfl (spec_assign rfl (Get.cint rfl))) ?_
      refine L.nil ?_
      refine N.thenW ?_
      refine W.block ?_
      refine W.loopK (σ := Nat) (.cons (t := 0) rfl .nil) (fun z => [(5, Rp.int .i64 (z : Nat))]) (fun z => []) (fun z => z ≤ src.length ∧ ∀ j : Nat, j < z → ∀ k, k < j → (src.getD j default).name ≠ (src.getD k default).name) (fun z => src.length - z) 0 ⟨Nat.zero_le _, fun j hj => by omega⟩ (.cons (t := 5) rfl .nil) .nil ?_
      intro i hI S' M' hS hM
      obtain ⟨hI1, hI2⟩ := hI
      try dsimp only at hS hM
      simp only [List.cons_append, List.nil_append] at hS hM
      subst hS hM
      try dsimp only
      refine W.seq ?_
      refine W.seq ?_
      refine W.region ?_
      refine L.op1 rfl rfl (GSpec.plain rfl (spec_move rfl (Get.tmp rfl))) ?_
      refine L.op1 rfl rfl (GSpec.plain rfl (spec_move rfl (Get.tmp rfl))) ?_
      refine L.op1 rfl rfl (GSpec.plain rfl (spec_len rfl Tryd.underlying38 (Get.tmp rfl))) ?_
      refine L.op1 rfl rfl (GSpec.plain rfl (spec_lss rfl (Get.tmp rfl) (Get.tmp rfl))) ?_
      refine L.nil ?_
      refine N.thenW ?_
      refine W.cond (Get.tmp rfl) (fun h4 => ?_) (fun h4 => ?_)
      · have ph4 := h4; try simp only [decide_eq_true_eq, decide_eq_false_iff_not, Bool.and_eq_true, Bool.or_eq_true, Bool.and_eq_false_iff, Bool.or_eq_false_iff, Bool.not_eq_true', Bool.not_eq_false', Bool.not_true, Bool.not_false, Int.not_lt, Int.not_le] at ph4
        refine W.skip ?_
        refine N.thenW ?_
        refine W.seq ?_
        refine W.block ?_
        refine W.seq ?_
        apply W.any1 (bs := [false, false, false, false, false, false, false, false, false, false, false, true, false]) (Mf := []) 13 mixed (by kernel_rfl) (by kernel_rfl) rfl .nil
        · apply Head1.one rfl rfl (GSpec.plain rfl (spec_move rfl (Get.tmp rfl)))
          apply Head1.one rfl rfl (GSpec.plain rfl (spec_move rfl (Get.tmp rfl)))
          apply Head1.one rfl rfl (GSpec.plain rfl (spec_slice (E := eC) rfl Tryd.underlying38 Tryd.sizeOf25 (fun _ => rfl) (Get.tmp rfl) .none (.some (Get.tmp rfl) (by (first | omega | (simp only [Int.toNat_natCast]; omega)))) (by (first | omega | (simp only [Int.toNat_natCast]; omega)))))
          apply Head1.one rfl rfl (GSpec.plain rfl (spec_move rfl (Get.tmp rfl)))
          apply Head1.one rfl rfl (GSpec.plain rfl (spec_move rfl (Get.tmp rfl)))
          apply Head1.one rfl rfl (GSpec.plain rfl (spec_indexAddrD (E := eC) rfl Tryd.underlying38 Tryd.sizeOf25 (fun _ => rfl) (Get.tmp rfl) (Get.tmp rfl) (by (first | omega | (simp only [Int.toNat_natCast]; omega)))))
          apply Head1.one rfl rfl (GSpec.plain rfl (spec_fieldAddrP (f := 0) rfl Tryd.underlying25 rfl Tryd.sizeOf9 (Get.tmp rfl) rfl rfl))
          apply Head1.one rfl rfl (GSpec.plain rfl (spec_loadP1 rfl Tryd.isAgg9 (Get.tmp rfl)))
          apply Head1.one rfl rfl (GSpec.plain rfl (spec_call rfl Tryd.call24 (rfind_ok _ _) (.cons (Get.tmp rfl) (.cons (Get.tmp rfl) .nil))))
          apply Head1.one rfl rfl (GSpec.plain rfl (spec_move rfl (Get.tmp rfl)))
          apply Head1.one rfl rfl (GSpec.plain rfl (spec_extract rfl (Get.tmp rfl) rfl))
          apply Head1.flo rfl rfl (GSpec.plain rfl (spec_extract rfl (Get.tmp rfl) rfl))
          apply Head1.sink rfl rfl (GSpec.plain rfl (spec_alloc rfl ti25 z25))
          exact Head1.nil
        · rfl
        refine Fin1.one ?_
        refine Fin1.one ?_
        refine Fin1.one ?_
        refine Fin1.one ?_
        refine Fin1.one ?_
        refine Fin1.one ?_
        refine Fin1.one ?_
        refine Fin1.one ?_
        refine Fin1.one ?_
        refine Fin1.one ?_
        refine Fin1.one ?_
        refine Fin1.flo ?_
        refine Fin1.sink (fun (r6 : Nat) => ?_)
        refine Fin1.nil (fun X => ?_)
        refine L.storeW (k := 0) rfl rfl rfl Tryd.sizeOf25 (Get.tmp rfl) (Get.tmp rfl) rfl rfl rfl ?_
        refine L.nil ?_
        refine Aft.next _ .refl .nil rfl ?_
        refine L.op1 rfl rfl (GSpec.plain rfl (spec_assign rfl (Get.tmp rfl))) ?_
        refine L.nil ?_
        refine N.thenW ?_
        refine W.seq ?_
        refine W.region ?_
        refine L.op1 rfl rfl (GSpec.plain rfl (spec_move rfl (Get.tmp rfl))) ?_
        refine L.nil ?_
        refine N.thenW ?_
        refine W.cond (Get.tmp rfl) (fun h5 => ?_) (fun h5 => ?_)
        · have hr : repB Cl.name src = true := by have h := h5; simp only [Int.toNat_natCast, Nat.sub_zero, List.drop_zero] at h; obtain ⟨k, hk, e⟩ := (known_take (src := src) (i := i) (by omega)).1 h; exact rep_yes (by omega) hk e
          refine W.seq ?_
          refine W.region ?_
          refine L.op1 rfl rfl (GSpec.plain rfl (spec_assign rfl (Get.cint rfl))) ?_
          refine L.nil ?_
          refine N.thenW ?_
          refine W.ret ?_
          refine N.ret () rfl (.tmp (t := 2) (Get.tmp rfl) .nil) (res1 (eqI ?_)) .nil (fun _ _ h => h)
          unfold rcheckE; rw [if_neg hn32, if_neg (by rw [hv0]; simp), if_pos hr]
        · have hr : ∀ k, k < i → (src.getD i default).name ≠ (src.getD k default).name := fun k hk e => by have h := h5; simp only [Int.toNat_natCast, Nat.sub_zero, List.drop_zero] at h; rw [(known_take (src := src) (i := i) (by omega)).2 ⟨k, hk, e⟩] at h; cases h
          refine W.skip ?_
          refine N.blockNormal ?_
          refine N.thenW ?_
          refine W.region ?_
          refine L.op1 rfl rfl (GSpec.plain rfl (spec_move rfl (Get.tmp rfl))) ?_
          first | refine L.op1 rfl rfl (GSpec.plain rfl (fit_i64 (by (first | omega | (simp only [Int.toNat_natCast]; omega))) (by (first | omega | (simp only [Int.toNat_natCast]; omega))) (spec_add rfl (Get.tmp rfl) (Get.cint rfl)))) ?_ | refine L.op1 rfl rfl (GSpec.plain rfl (spec_add rfl (Get.tmp rfl) (Get.cint rfl))) ?_
          refine L.op1 rfl rfl (GSpec.plain rfl (spec_assign rfl (Get.tmp rfl))) ?_
          refine L.nil ?_
          refine N.roundK (i + 1) ?hI2 ?hmu2 ?hs2 ?hk2 ?hp2
          case hs2 => exact (.cons (t := 5) rfl .nil)
          case hk2 => exact (.cons (t := 0) rfl .nil)
          case hp2 => exact .nil
          case hI2 => exact ⟨by omega, upto hI2 hr⟩
          case hmu2 => omega
      · have ph4 := h4; try simp only [decide_eq_true_eq, decide_eq_false_iff_not, Bool.and_eq_true, Bool.or_eq_true, Bool.and_eq_false_iff, Bool.or_eq_false_iff, Bool.not_eq_true', Bool.not_eq_false', Bool.not_true, Bool.not_false, Int.not_lt, Int.not_le] at ph4
        refine W.exit ?_
        refine N.thenExit ?_
        refine N.thenExit ?_
        refine N.blockExit ?_
        refine N.thenW ?_
        have hrb : repB Cl.name src = false := rep_no fun a ha b hb => hI2 a (by omega) b hb
        refine W.seq ?_
        refine W.seq ?_
        refine W.region ?_
        refine L.op1 rfl rfl (GSpec.plain rfl (spec_assign rfl (Get.cint rfl))) ?_
        refine L.nil ?_
        refine N.thenW ?_
        refine W.block ?_
        refine W.loopK (σ := Nat) (.cons (t := 0) rfl .nil) (fun z => [(8, Rp.int .i64 (z : Nat))]) (fun z => []) (fun z => z ≤ src.length ∧ ∀ j : Nat, j < z → lostB src (src.getD j default) = false) (fun z => src.length - z) 0 ⟨Nat.zero_le _, fun j hj => by omega⟩ (.cons (t := 8) rfl .nil) .nil ?_
        intro i hI S' M' hS hM
        obtain ⟨hI1, hI2⟩ := hI
        try dsimp only at hS hM
        simp only [List.cons_append, List.nil_append] at hS hM
        subst hS hM
        try dsimp only
        refine W.seq ?_
        refine W.seq ?_
        refine W.region ?_
        refine L.op1 rfl rfl (GSpec.plain rfl (spec_move rfl (Get.tmp rfl))) ?_
        refine L.op1 rfl rfl (GSpec.plain rfl (spec_move rfl (Get.tmp rfl))) ?_
        refine L.op1 rfl rfl (GSpec.plain rfl (spec_len rfl Tryd.underlying38 (Get.tmp rfl))) ?_
        refine L.op1 rfl rfl (GSpec.plain rfl (spec_lss rfl (Get.tmp rfl) (Get.tmp rfl))) ?_
        refine L.nil ?_
        refine N.thenW ?_
        refine W.cond (Get.tmp rfl) (fun h6 => ?_) (fun h6 => ?_)
        · have ph6 := h6; try simp only [decide_eq_true_eq, decide_eq_false_iff_not, Bool.and_eq_true, Bool.or_eq_true, Bool.and_eq_false_iff, Bool.or_eq_false_iff, Bool.not_eq_true', Bool.not_eq_false', Bool.not_true, Bool.not_false, Int.not_lt, Int.not_le] at ph6
          refine W.skip ?_
          refine N.thenW ?_
          refine W.seq ?_
          refine W.block ?_
          refine W.seq ?_
          refine W.region ?_
          refine L.op1 rfl rfl (GSpec.plain rfl (spec_move rfl (Get.tmp rfl))) ?_
          refine L.op1 rfl rfl (GSpec.plain rfl (spec_move rfl (Get.tmp rfl))) ?_
          refine L.op1 rfl rfl (GSpec.plain rfl (spec_move rfl (Get.tmp rfl))) ?_
          refine L.op1 rfl rfl (GSpec.plain rfl (spec_indexAddrD (E := eC) rfl Tryd.underlying38 Tryd.sizeOf25 (fun _ => rfl) (Get.tmp rfl) (Get.tmp rfl) (by (first | omega | (simp only [Int.toNat_natCast]; omega))))) ?_
          refine L.op1 rfl rfl (GSpec.plain rfl (spec_fieldAddrP (f := 1) rfl Tryd.underlying25 rfl Tryd.sizeOf9 (Get.tmp rfl) rfl rfl)) ?_
          refine L.op1 rfl rfl (GSpec.plain rfl (spec_loadP1 rfl Tryd.isAgg9 (Get.tmp rfl))) ?_
          refine L.op1 rfl rfl (GSpec.plain rfl (spec_call rfl Tryd.call24 (rfind_ok _ _) (.cons (Get.tmp rfl) (.cons (Get.tmp rfl) .nil)))) ?_
          refine L.op1 rfl rfl (GSpec.plain rfl (spec_move rfl (Get.tmp rfl))) ?_
          refine L.op1 rfl rfl (GSpec.plain rfl (spec_extract rfl (Get.tmp rfl) rfl)) ?_
          refine L.op1 rfl rfl (GSpec.plain rfl (spec_extract rfl (Get.tmp rfl) rfl)) ?_
          refine L.box rfl rfl (GSpec.plain rfl (spec_alloc rfl ti25 z25)) (fun r9 => ?_)
          refine L.storeW (k := 0) rfl rfl rfl Tryd.sizeOf25 (Get.tmp rfl) (Get.tmp rfl) rfl rfl rfl ?_
          refine L.op1 rfl rfl (GSpec.plain rfl (spec_assign rfl (Get.tmp rfl))) ?_
          refine L.nil ?_
          refine N.thenW ?_
          refine W.seq ?_
          refine W.region ?_
          refine L.op1 rfl rfl (GSpec.plain rfl (spec_move rfl (Get.tmp rfl))) ?_
          refine L.op1 rfl rfl (GSpec.plain rfl (spec_move rfl (Get.tmp rfl))) ?_
          refine L.op1 rfl rfl (GSpec.plain rfl (spec_indexAddrD (E := eC) rfl Tryd.underlying38 Tryd.sizeOf25 (fun _ => rfl) (Get.tmp rfl) (Get.tmp rfl) (by (first | omega | (simp only [Int.toNat_natCast]; omega))))) ?_
          refine L.op1 rfl rfl (GSpec.plain rfl (spec_fieldAddrP (f := 1) rfl Tryd.underlying25 rfl Tryd.sizeOf9 (Get.tmp rfl) rfl rfl)) ?_
          refine L.op1 rfl rfl (GSpec.plain rfl (spec_loadP1 rfl Tryd.isAgg9 (Get.tmp rfl))) ?_
          refine L.op1 rfl rfl (GSpec.plain rfl (spec_neqS rfl (Get.tmp rfl) (Get.cstr (l := []) rfl rfl))) ?_
          refine L.op1 rfl rfl (GSpec.plain rfl (spec_move rfl (Get.tmp rfl))) ?_
          refine L.op1 rfl rfl (GSpec.guard rfl rfl rfl fun hg => (spec_move rfl (Get.tmp rfl))) ?_
          refine L.op1 rfl rfl (GSpec.guard rfl rfl rfl fun hg => (spec_not rfl (Get.opt rfl hg))) ?_
          refine L.op1 rfl rfl (GSpec.plain rfl (spec_and rfl (Get.tmp rfl) (fun hb => (Get.opt rfl hb)))) ?_
          refine L.nil ?_
          refine N.thenW ?_
          refine W.cond (Get.tmp rfl) (fun h7 => ?_) (fun h7 => ?_)
          · have hb : lostB src (src.getD i default) = true := by have h := h7; unfold lostB; simp only [decide_eq_true_eq, decide_eq_false_iff_not, Bool.and_eq_true, Bool.or_eq_true, Bool.and_eq_false_iff, Bool.or_eq_false_iff, Bool.not_eq_true', Bool.not_eq_false', Bool.not_true, Bool.not_false, Int.not_lt, Int.not_le, beq_eq_false_iff_ne, Int.toNat_natCast, ne_eq] at h ⊢; exact h
            refine W.seq ?_
            refine W.region ?_
            refine L.op1 rfl rfl (GSpec.plain rfl (spec_assign rfl (Get.cint rfl))) ?_
            refine L.nil ?_
            refine N.thenW ?_
            refine W.ret ?_
            refine N.ret () rfl (.tmp (t := 2) (Get.tmp rfl) .nil) (res1 (eqI ?_)) .nil (fun _ _ h => h)
            unfold rcheckE; rw [if_neg hn32, if_neg (by rw [hv0]; simp), if_neg (by rw [hrb]; simp), if_pos (any_yes (p := lostB src) (i := i) (by omega) hb)]
          · have hb : lostB src (src.getD i default) = false := by have h := h7; unfold lostB; simp only [decide_eq_true_eq, decide_eq_false_iff_not, Bool.and_eq_true, Bool.or_eq_true, Bool.and_eq_false_iff, Bool.or_eq_false_iff, Bool.not_eq_true', Bool.not_eq_false', Bool.not_true, Bool.not_false, Int.not_lt, Int.not_le, beq_iff_eq, Int.toNat_natCast, ne_eq, Classical.not_not] at h ⊢; exact h
            refine W.skip ?_
            refine N.blockNormal ?_
            refine N.thenW ?_
            refine W.region ?_
            refine L.op1 rfl rfl (GSpec.plain rfl (spec_move rfl (Get.tmp rfl))) ?_
            first | refine L.op1 rfl rfl (GSpec.plain rfl (fit_i64 (by (first | omega | (simp only [Int.toNat_natCast]; omega))) (by (first | omega | (simp only [Int.toNat_natCast]; omega))) (spec_add rfl (Get.tmp rfl) (Get.cint rfl)))) ?_ | refine L.op1 rfl rfl (GSpec.plain rfl (spec_add rfl (Get.tmp rfl) (Get.cint rfl))) ?_
            refine L.op1 rfl rfl (GSpec.plain rfl (spec_assign rfl (Get.tmp rfl))) ?_
            refine L.nil ?_
            refine N.roundK (i + 1) ?hI3 ?hmu3 ?hs3 ?hk3 ?hp3
            case hs3 => exact (.cons (t := 8) rfl .nil)
            case hk3 => exact (.cons (t := 0) rfl .nil)
            case hp3 => exact .nil
            case hI3 => exact ⟨by omega, upto hI2 hb⟩
            case hmu3 => omega
        · have ph6 := h6; try simp only [decide_eq_true_eq, decide_eq_false_iff_not, Bool.and_eq_true, Bool.or_eq_true, Bool.and_eq_false_iff, Bool.or_eq_false_iff, Bool.not_eq_true', Bool.not_eq_false', Bool.not_true, Bool.not_false, Int.not_lt, Int.not_le] at ph6
          refine W.exit ?_
          refine N.thenExit ?_
          refine N.thenExit ?_
          refine N.blockExit ?_
          refine N.thenW ?_
          have hlo : src.any (lostB src) = false := any_no (p := lostB src) fun j hj => hI2 j (by omega)
          refine W.seq ?_
          refine W.seq ?_
          refine W.region ?_
          refine L.op1 rfl rfl (GSpec.plain rfl (spec_assign rfl (Get.cint rfl))) ?_
          refine L.nil ?_
          refine N.thenW ?_
          refine W.block ?_
          refine W.loopK (σ := Nat) (.cons (t := 0) rfl .nil) (fun z => [(11, Rp.int .i64 (z : Nat))]) (fun z => []) (fun z => z ≤ src.length ∧ ∀ j : Nat, j < z → decide (src.length < (upE src (src.getD j default)).length) = false) (fun z => src.length - z) 0 ⟨Nat.zero_le _, fun j hj => by omega⟩ (.cons (t := 11) rfl .nil) .nil ?_
          intro i hI S' M' hS hM
          obtain ⟨hI1, hI2⟩ := hI
          try dsimp only at hS hM
          simp only [List.cons_append, List.nil_append] at hS hM
          subst hS hM
          try dsimp only
          refine W.seq ?_
          refine W.seq ?_
          refine W.region ?_
          refine L.op1 rfl rfl (GSpec.plain rfl (spec_move rfl (Get.tmp rfl))) ?_
          refine L.op1 rfl rfl (GSpec.plain rfl (spec_move rfl (Get.tmp rfl))) ?_
          refine L.op1 rfl rfl (GSpec.plain rfl (spec_len rfl Tryd.underlying38 (Get.tmp rfl))) ?_
          refine L.op1 rfl rfl (GSpec.plain rfl (spec_lss rfl (Get.tmp rfl) (Get.tmp rfl))) ?_
          refine L.nil ?_
          refine N.thenW ?_
          refine W.cond (Get.tmp rfl) (fun h8 => ?_) (fun h8 => ?_)
          · have ph8 := h8; try simp only [decide_eq_true_eq, decide_eq_false_iff_not, Bool.and_eq_true, Bool.or_eq_true, Bool.and_eq_false_iff, Bool.or_eq_false_iff, Bool.not_eq_true', Bool.not_eq_false', Bool.not_true, Bool.not_false, Int.not_lt, Int.not_le] at ph8
            refine W.skip ?_
            refine N.thenW ?_
            refine W.seq ?_
            refine W.block ?_
            refine W.seq ?_
            refine W.region ?_
            refine L.op1 rfl rfl (GSpec.plain rfl (spec_move rfl (Get.tmp rfl))) ?_
            refine L.op1 rfl rfl (GSpec.plain rfl (spec_move rfl (Get.tmp rfl))) ?_
            refine L.op1 rfl rfl (GSpec.plain rfl (spec_move rfl (Get.tmp rfl))) ?_
            refine L.op1 rfl rfl (GSpec.plain rfl (spec_indexAddrD (E := eC) rfl Tryd.underlying38 Tryd.sizeOf25 (fun _ => rfl) (Get.tmp rfl) (Get.tmp rfl) (by (first | omega | (simp only [Int.toNat_natCast]; omega))))) ?_
            refine L.op1 rfl rfl (GSpec.plain rfl (spec_loadPA rfl Tryd.isAgg25 Tryd.sizeOf25 (Get.tmp rfl) rfl)) ?_
            refine L.op1 rfl rfl (GSpec.plain rfl (spec_call rfl Tryd.call52 (up_ok _ _) (.cons (Get.tmp rfl) (.cons (Get.tmp rfl) .nil)))) ?_
            refine L.op1 rfl rfl (GSpec.plain rfl (spec_len rfl Tryd.underlying38 (Get.tmp rfl))) ?_
            refine L.op1 rfl rfl (GSpec.plain rfl (spec_move rfl (Get.tmp rfl))) ?_
            refine L.op1 rfl rfl (GSpec.plain rfl (spec_len rfl Tryd.underlying38 (Get.tmp rfl))) ?_
            refine L.op1 rfl rfl (GSpec.plain rfl (spec_gtr rfl (Get.tmp rfl) (Get.tmp rfl))) ?_
            refine L.nil ?_
            refine N.thenW ?_
            refine W.cond (Get.tmp rfl) (fun h9 => ?_) (fun h9 => ?_)
            · have hb : decide (src.length < (upE src (src.getD i default)).length) = true := by have h := of_decide_eq_true h9; simp only [Int.toNat_natCast] at h; exact decide_eq_true (by omega)
              refine W.seq ?_
              refine W.region ?_
              refine L.op1 rfl rfl (GSpec.plain rfl (spec_assign rfl (Get.cint rfl))) ?_
              refine L.nil ?_
              refine N.thenW ?_
              refine W.ret ?_
              refine N.ret () rfl (.tmp (t := 2) (Get.tmp rfl) .nil) (res1 (eqI ?_)) .nil (fun _ _ h => h)
              unfold rcheckE; rw [if_neg hn32, if_neg (by rw [hv0]; simp), if_neg (by rw [hrb]; simp), if_neg (by rw [hlo]; simp), if_pos (any_yes (p := fun c => decide (src.length < (upE src c).length)) (i := i) (by omega) hb)]
            · have hb : decide (src.length < (upE src (src.getD i default)).length) = false := by have h := of_decide_eq_false h9; simp only [Int.toNat_natCast] at h; exact decide_eq_false (by omega)
              refine W.skip ?_
              refine N.blockNormal ?_
              refine N.thenW ?_
              refine W.region ?_
              refine L.op1 rfl rfl (GSpec.plain rfl (spec_move rfl (Get.tmp rfl))) ?_
              first | refine L.op1 rfl rfl (GSpec.plain rfl (fit_i64 (by (first | omega | (simp only [Int.toNat_natCast]; omega))) (by (first | omega | (simp only [Int.toNat_natCast]; omega))) (spec_add rfl (Get.tmp rfl) (Get.cint rfl)))) ?_ | refine L.op1 rfl rfl (GSpec.plain rfl (spec_add rfl (Get.tmp rfl) (Get.cint rfl))) ?_
              refine L.op1 rfl rfl (GSpec.plain rfl (spec_assign rfl (Get.tmp rfl))) ?_
              refine L.nil ?_
              refine N.roundK (i + 1) ?hI4 ?hmu4 ?hs4 ?hk4 ?hp4
              case hs4 => exact (.cons (t := 11) rfl .nil)
              case hk4 => exact (.cons (t := 0) rfl .nil)
              case hp4 => exact .nil
              case hI4 => exact ⟨by omega, upto hI2 hb⟩
              case hmu4 => omega
          · have ph8 := h8; try simp only [decide_eq_true_eq, decide_eq_false_iff_not, Bool.and_eq_true, Bool.or_eq_true, Bool.and_eq_false_iff, Bool.or_eq_false_iff, Bool.not_eq_true', Bool.not_eq_false', Bool.not_true, Bool.not_false, Int.not_lt, Int.not_le] at ph8
            refine W.exit ?_
            refine N.thenExit ?_
            refine N.thenExit ?_
            refine N.blockExit ?_
            refine N.thenW ?_
            have hor : (src.any fun c => decide (src.length < (upE src c).length)) = false := any_no (p := fun c => decide (src.length < (upE src c).length)) fun j hj => hI2 j (by omega)
            refine W.seq ?_
            refine W.seq ?_
            refine W.region ?_
            refine L.op1 rfl rfl (GSpec.plain rfl (spec_assign rfl (Get.cint rfl))) ?_
            refine L.nil ?_
            refine N.thenW ?_
            refine W.block ?_
            refine W.loopK (σ := Nat) (.cons (t := 0) rfl .nil) (fun z => [(12, Rp.int .i64 (z : Nat))]) (fun z => []) (fun z => z ≤ src.length ∧ ∀ j : Nat, j < z → inhB (upE src (src.getD j default)) = false) (fun z => src.length - z) 0 ⟨Nat.zero_le _, fun j hj => by omega⟩ (.cons (t := 12) rfl .nil) .nil ?_
            intro i hI S' M' hS hM
            obtain ⟨hI1, hI2⟩ := hI
            try dsimp only at hS hM
            simp only [List.cons_append, List.nil_append] at hS hM
            subst hS hM
            try dsimp only
            refine W.seq ?_
            refine W.seq ?_
            refine W.region ?_
            refine L.op1 rfl rfl (GSpec.plain rfl (spec_move rfl (Get.tmp rfl))) ?_
            refine L.op1 rfl rfl (GSpec.plain rfl (spec_move rfl (Get.tmp rfl))) ?_
            refine L.op1 rfl rfl (GSpec.plain rfl (spec_len rfl Tryd.underlying38 (Get.tmp rfl))) ?_
            refine L.op1 rfl rfl (GSpec.plain rfl (spec_lss rfl (Get.tmp rfl) (Get.tmp rfl))) ?_
            refine L.nil ?_
            refine N.thenW ?_
            refine W.cond (Get.tmp rfl) (fun h10 => ?_) (fun h10 => ?_)
            · have ph10 := h10; try simp only [decide_eq_true_eq, decide_eq_false_iff_not, Bool.and_eq_true, Bool.or_eq_true, Bool.and_eq_false_iff, Bool.or_eq_false_iff, Bool.not_eq_true', Bool.not_eq_false', Bool.not_true, Bool.not_false, Int.not_lt, Int.not_le] at ph10
              refine W.skip ?_
              refine N.thenW ?_
              refine W.seq ?_
              refine W.block ?_
              refine W.seq ?_
              refine W.region ?_
              refine L.op1 rfl rfl (GSpec.plain rfl (spec_move rfl (Get.tmp rfl))) ?_
              refine L.op1 rfl rfl (GSpec.plain rfl (spec_move rfl (Get.tmp rfl))) ?_
              refine L.op1 rfl rfl (GSpec.plain rfl (spec_move rfl (Get.tmp rfl))) ?_
              refine L.op1 rfl rfl (GSpec.plain rfl (spec_indexAddrD (E := eC) rfl Tryd.underlying38 Tryd.sizeOf25 (fun _ => rfl) (Get.tmp rfl) (Get.tmp rfl) (by (first | omega | (simp only [Int.toNat_natCast]; omega))))) ?_
              refine L.op1 rfl rfl (GSpec.plain rfl (spec_loadPA rfl Tryd.isAgg25 Tryd.sizeOf25 (Get.tmp rfl) rfl)) ?_
              refine L.op1 rfl rfl (GSpec.plain rfl (spec_call rfl Tryd.call52 (up_ok _ _) (.cons (Get.tmp rfl) (.cons (Get.tmp rfl) .nil)))) ?_
              refine L.op1 rfl rfl (GSpec.plain rfl (spec_call rfl Tryd.call53 (inh_ok _) (.cons (Get.tmp rfl) .nil))) ?_
              refine L.nil ?_
              refine N.thenW ?_
              refine W.cond (Get.tmp rfl) (fun h11 => ?_) (fun h11 => ?_)
              · have hb := h11
                simp only [Int.toNat_natCast] at hb
                refine W.seq ?_
                refine W.region ?_
                refine L.op1 rfl rfl (GSpec.plain rfl (spec_assign rfl (Get.cint rfl))) ?_
                refine L.nil ?_
                refine N.thenW ?_
                refine W.ret ?_
                refine N.ret () rfl (.tmp (t := 2) (Get.tmp rfl) .nil) (res1 (eqI ?_)) .nil (fun _ _ h => h)
                unfold rcheckE; rw [if_neg hn32, if_neg (by rw [hv0]; simp), if_neg (by rw [hrb]; simp), if_neg (by rw [hlo]; simp), if_neg (by rw [hor]; simp), if_pos (any_yes (p := fun c => inhB (upE src c)) (i := i) (by omega) hb)]
              · have hb := h11
                simp only [Int.toNat_natCast] at hb
                refine W.skip ?_
                refine N.blockNormal ?_
                refine N.thenW ?_
                refine W.region ?_
                refine L.op1 rfl rfl (GSpec.plain rfl (spec_move rfl (Get.tmp rfl))) ?_
                first | refine L.op1 rfl rfl (GSpec.plain rfl (fit_i64 (by (first | omega | (simp only [Int.toNat_natCast]; omega))) (by (first | omega | (simp only [Int.toNat_natCast]; omega))) (spec_add rfl (Get.tmp rfl) (Get.cint rfl)))) ?_ | refine L.op1 rfl rfl (GSpec.plain rfl (spec_add rfl (Get.tmp rfl) (Get.cint rfl))) ?_
                refine L.op1 rfl rfl (GSpec.plain rfl (spec_assign rfl (Get.tmp rfl))) ?_
                refine L.nil ?_
                refine N.roundK (i + 1) ?hI5 ?hmu5 ?hs5 ?hk5 ?hp5
                case hs5 => exact (.cons (t := 12) rfl .nil)
                case hk5 => exact (.cons (t := 0) rfl .nil)
                case hp5 => exact .nil
                case hI5 => exact ⟨by omega, upto hI2 hb⟩
                case hmu5 => omega
            · have ph10 := h10; try simp only [decide_eq_true_eq, decide_eq_false_iff_not, Bool.and_eq_true, Bool.or_eq_true, Bool.and_eq_false_iff, Bool.or_eq_false_iff, Bool.not_eq_true', Bool.not_eq_false', Bool.not_true, Bool.not_false, Int.not_lt, Int.not_le] at ph10
              refine W.exit ?_
              refine N.thenExit ?_
              refine N.thenExit ?_
              refine N.blockExit ?_
              refine N.thenW ?_
              have hin : (src.any fun c => inhB (upE src c)) = false := any_no (p := fun c => inhB (upE src c)) fun j hj => hI2 j (by omega)
              refine W.seq ?_
              refine W.seq ?_
              refine W.region ?_
              refine L.op1 rfl rfl (GSpec.plain rfl (spec_assign rfl (Get.cint rfl))) ?_
              refine L.nil ?_
              refine N.thenW ?_
              refine W.block ?_
              refine W.loopK (σ := Nat) (.cons (t := 0) rfl .nil) (fun z => [(13, Rp.int .i64 (z : Nat))]) (fun z => []) (fun z => z ≤ src.length ∧ ∀ j : Nat, j < z → largeL (upE src (src.getD j default)) = false) (fun z => src.length - z) 0 ⟨Nat.zero_le _, fun j hj => by omega⟩ (.cons (t := 13) rfl .nil) .nil ?_
              intro i hI S' M' hS hM
              obtain ⟨hI1, hI2⟩ := hI
              try dsimp only at hS hM
              simp only [List.cons_append, List.nil_append] at hS hM
              subst hS hM
              try dsimp only
              refine W.seq ?_
              refine W.seq ?_
              refine W.region ?_
              refine L.op1 rfl rfl (GSpec.plain rfl (spec_move rfl (Get.tmp rfl))) ?_
              refine L.op1 rfl rfl (GSpec.plain rfl (spec_move rfl (Get.tmp rfl))) ?_
              refine L.op1 rfl rfl (GSpec.plain rfl (spec_len rfl Tryd.underlying38 (Get.tmp rfl))) ?_
              refine L.op1 rfl rfl (GSpec.plain rfl (spec_lss rfl (Get.tmp rfl) (Get.tmp rfl))) ?_
              refine L.nil ?_
              refine N.thenW ?_
              refine W.cond (Get.tmp rfl) (fun h12 => ?_) (fun h12 => ?_)
              · have ph12 := h12; try simp only [decide_eq_true_eq, decide_eq_false_iff_not, Bool.and_eq_true, Bool.or_eq_true, Bool.and_eq_false_iff, Bool.or_eq_false_iff, Bool.not_eq_true', Bool.not_eq_false', Bool.not_true, Bool.not_false, Int.not_lt, Int.not_le] at ph12
                refine W.skip ?_
                refine N.thenW ?_
                have hfl := up_few hsd (.inl (getD_mem' (show i < src.length by omega)))
                refine W.seq ?_
                refine W.block ?_
                refine W.seq ?_
                refine W.region ?_
                refine L.op1 rfl rfl (GSpec.plain rfl (spec_move rfl (Get.tmp rfl))) ?_
                refine L.op1 rfl rfl (GSpec.plain rfl (spec_move rfl (Get.tmp rfl))) ?_
                refine L.op1 rfl rfl (GSpec.plain rfl (spec_move rfl (Get.tmp rfl))) ?_
                refine L.op1 rfl rfl (GSpec.plain rfl (spec_indexAddrD (E := eC) rfl Tryd.underlying38 Tryd.sizeOf25 (fun _ => rfl) (Get.tmp rfl) (Get.tmp rfl) (by (first | omega | (simp only [Int.toNat_natCast]; omega))))) ?_
                refine L.op1 rfl rfl (GSpec.plain rfl (spec_loadPA rfl Tryd.isAgg25 Tryd.sizeOf25 (Get.tmp rfl) rfl)) ?_
                refine L.op1 rfl rfl (GSpec.plain rfl (spec_call rfl Tryd.call52 (up_ok _ _) (.cons (Get.tmp rfl) (.cons (Get.tmp rfl) .nil)))) ?_
                refine L.op1 rfl rfl (GSpec.plain rfl (spec_call rfl Tryd.call46 (rflat_ok _ hfl.1 hfl.2) (.cons (Get.tmp rfl) .nil))) ?_
                refine L.box rfl rfl (GSpec.plain rfl (spec_alloc rfl ti25 z25)) (fun r14 => ?_)
                refine L.storeW (k := 0) rfl rfl rfl Tryd.sizeOf25 (Get.tmp rfl) (Get.tmp rfl) rfl rfl rfl ?_
                refine L.nil ?_
                refine N.thenW ?_
                refine W.seq ?_
                refine W.region ?_
                refine L.op1 rfl rfl (GSpec.plain rfl (spec_fieldAddr (f := 2) (off' := 2) rfl Tryd.underlying25 rfl Tryd.sizeOf22 (Get.tmp rfl) rfl)) ?_
                refine L.op1 rfl rfl (GSpec.plain rfl (spec_load1 (k := 0) rfl Tryd.isAgg22 (Get.tmp rfl) rfl rfl)) ?_
                refine L.op1 rfl rfl (GSpec.plain rfl (spec_len rfl Tryd.underlying22 (Get.tmp rfl))) ?_
                refine L.op1 rfl rfl (GSpec.plain rfl (spec_gtr rfl (Get.tmp rfl) (Get.cint rfl))) ?_
                refine L.op1 rfl rfl (GSpec.plain rfl (spec_move rfl (Get.tmp rfl))) ?_
                refine L.op1 rfl rfl (GSpec.guard rfl rfl rfl fun hg => (spec_fieldAddr (f := 3) (off' := 3) rfl Tryd.underlying25 rfl Tryd.sizeOf23 (Get.tmp rfl) rfl)) ?_
                refine L.op1 rfl rfl (GSpec.guard rfl rfl rfl fun hg => (spec_load1 (k := 0) rfl Tryd.isAgg23 (Get.opt rfl hg) rfl rfl)) ?_
                refine L.op1 rfl rfl (GSpec.guard rfl rfl rfl fun hg => (spec_len rfl Tryd.underlying23 (Get.opt rfl hg))) ?_
                refine L.op1 rfl rfl (GSpec.guard rfl rfl rfl fun hg => (spec_gtr rfl (Get.opt rfl hg) (Get.cint rfl))) ?_
                refine L.op1 rfl rfl (GSpec.plain rfl (spec_or rfl (Get.tmp rfl) (fun hb => (Get.opt rfl hb)))) ?_
                refine L.nil ?_
                refine N.thenW ?_
                refine W.cond (Get.tmp rfl) (fun h13 => ?_) (fun h13 => ?_)
                · have hb : largeL (upE src (src.getD i default)) = true := h13
                  refine W.seq ?_
                  refine W.region ?_
                  refine L.op1 rfl rfl (GSpec.plain rfl (spec_assign rfl (Get.cint rfl))) ?_
                  refine L.nil ?_
                  refine N.thenW ?_
                  refine W.ret ?_
                  refine N.ret () rfl (.tmp (t := 2) (Get.tmp rfl) .nil) (res1 (eqI ?_)) .nil (fun _ _ h => h)
                  unfold rcheckE; rw [if_neg hn32, if_neg (by rw [hv0]; simp), if_neg (by rw [hrb]; simp), if_neg (by rw [hlo]; simp), if_neg (by rw [hor]; simp), if_neg (by rw [hin]; simp), if_pos (any_yes (p := fun c => largeL (upE src c)) (i := i) (by omega) hb)]
                · have hb : largeL (upE src (src.getD i default)) = false := h13
                  refine W.skip ?_
                  refine N.blockNormal ?_
                  refine N.thenW ?_
                  refine W.region ?_
                  refine L.op1 rfl rfl (GSpec.plain rfl (spec_move rfl (Get.tmp rfl))) ?_
                  first | refine L.op1 rfl rfl (GSpec.plain rfl (fit_i64 (by (first | omega | (simp only [Int.toNat_natCast]; omega))) (by (first | omega | (simp only [Int.toNat_natCast]; omega))) (spec_add rfl (Get.tmp rfl) (Get.cint rfl)))) ?_ | refine L.op1 rfl rfl (GSpec.plain rfl (spec_add rfl (Get.tmp rfl) (Get.cint rfl))) ?_
                  refine L.op1 rfl rfl (GSpec.plain rfl (spec_assign rfl (Get.tmp rfl))) ?_
                  refine L.nil ?_
                  refine N.roundK (i + 1) ?hI6 ?hmu6 ?hs6 ?hk6 ?hp6
                  case hs6 => exact (.cons (t := 13) rfl .nil)
                  case hk6 => exact (.cons (t := 0) rfl .nil)
                  case hp6 => exact .nil
                  case hI6 => exact ⟨by omega, upto hI2 hb⟩
                  case hmu6 => omega
              · have ph12 := h12; try simp only [decide_eq_true_eq, decide_eq_false_iff_not, Bool.and_eq_true, Bool.or_eq_true, Bool.and_eq_false_iff, Bool.or_eq_false_iff, Bool.not_eq_true', Bool.not_eq_false', Bool.not_true, Bool.not_false, Int.not_lt, Int.not_le] at ph12
                refine W.exit ?_
                refine N.thenExit ?_
                refine N.thenExit ?_
                refine N.blockExit ?_
                refine N.thenW ?_
                have hla : (src.any fun c => largeL (upE src c)) = false := any_no (p := fun c => largeL (upE src c)) fun j hj => hI2 j (by omega)
                refine W.keep .nil .refl ?_
                refine W.seq ?_
                refine W.region ?_
                refine L.op1 rfl rfl (GSpec.plain rfl (spec_assign rfl (Get.cint rfl))) ?_
                refine L.nil ?_
                refine N.thenW ?_
                refine W.ret ?_
                refine N.ret () rfl (.tmp (t := 2) (Get.tmp rfl) .nil) (res1 (eqI ?_)) .nil (fun _ _ h => h)
                unfold rcheckE; rw [if_neg hn32, if_neg (by rw [hv0]; simp), if_neg (by rw [hrb]; simp), if_neg (by rw [hlo]; simp), if_neg (by rw [hor]; simp), if_neg (by rw [hin]; simp), if_neg (by rw [hla]; simp)]

end Go.Proofs.YtcabngjnmipflaaDoor
set_option linter.unusedSimpArgs false
set_option maxRecDepth 8000
set_option linter.unusedVariables false
namespace Go.Proofs.YtcabngjnmipflaaDoor
open Go.Sim
theorem classChecks_ok (src : List Cl) (s : List UInt8) (hok : ∀ c ∈ src, ClOk c) : CallT Tryd.prog 6 [Rp.slice eC src, Rp.str s] [kwG] (.one (Rp.bool true)) := by
  refine W.enter (fn := Tryd.f6) (n := 43) Tryd.func6 rfl Tryd.ntmps6 rfl (fun w₀ C₀ => ?_)
  simp only [argS]
  refine W.seq ?_
  refine W.region ?_
  refine L.op1 rfl rfl (GSpec.plain rfl (spec_assign rfl Get.cbool)) ?_
  refine L.nil ?_
  refine N.thenW ?_
  refine W.seq ?_
  refine W.seq ?_
  refine W.region ?_
  refine L.op1 rfl rfl (GSpec.plain rfl (spec_move rfl (Get.tmp rfl))) ?_
  refine L.op rfl rfl (GSpec.plain rfl (spec_call rfl Tryd.call17 (few_ok _) (.cons (Get.tmp rfl) .nil))) (fun b10 => ?_)
  try dsimp only
  refine L.op1 rfl rfl (GSpec.plain rfl (spec_not rfl (Get.tmp rfl))) ?_
  refine L.nil ?_
  refine N.thenW ?_
  refine W.cond (Get.tmp rfl) (fun h1 => ?_) (fun h1 => ?_)
  · have ph1 := h1; try simp only [decide_eq_true_eq, decide_eq_false_iff_not, Bool.and_eq_true, Bool.or_eq_true, Bool.and_eq_false_iff, Bool.or_eq_false_iff, Bool.not_eq_true', Bool.not_eq_false', Bool.not_true, Bool.not_false, Int.not_lt, Int.not_le] at ph1
    refine W.seq ?_
    refine W.region ?_
    refine L.op1 rfl rfl (GSpec.plain rfl (spec_callG (k := 0) rfl Tryd.call10 rfl (awake_ok ) .nil)) ?_
    refine L.op1 rfl rfl (GSpec.plain rfl (spec_assign rfl (Get.tmp rfl))) ?_
    refine L.nil ?_
    refine N.thenW ?_
    refine W.ret ?_
    refine N.ret () rfl (.tmp (t := 4) (Get.tmp rfl) .nil) (res1 (eqB ?_)) .nil (fun _ _ h => h)
    rfl
  · have ph1 := h1; try simp only [decide_eq_true_eq, decide_eq_false_iff_not, Bool.and_eq_true, Bool.or_eq_true, Bool.and_eq_false_iff, Bool.or_eq_false_iff, Bool.not_eq_true', Bool.not_eq_false', Bool.not_true, Bool.not_false, Int.not_lt, Int.not_le] at ph1
    refine W.skip ?_
    refine N.thenW ?_
    refine W.seq ?_
    refine W.region ?_
    refine L.op1 rfl rfl (GSpec.plain rfl (spec_move rfl (Get.tmp rfl))) ?_
    refine L.op1 rfl rfl (GSpec.plain rfl (spec_move rfl (Get.tmp rfl))) ?_
    refine L.op1 rfl rfl (GSpec.plain rfl (spec_call rfl Tryd.call23 (findX_ok _ _ (by assumption)) (.cons (Get.tmp rfl) (.cons (Get.tmp rfl) .nil)))) ?_
    refine L.op1 rfl rfl (GSpec.plain rfl (spec_move rfl (Get.tmp rfl))) ?_
    refine L.op1 rfl rfl (GSpec.plain rfl (spec_extract rfl (Get.tmp rfl) rfl)) ?_
    refine L.op1 rfl rfl (GSpec.plain rfl (spec_extract rfl (Get.tmp rfl) rfl)) ?_
    refine L.box rfl rfl (GSpec.plain rfl (spec_alloc rfl ti25 z25)) (fun r5 => ?_)
    refine L.storeW (k := 0) rfl rfl rfl Tryd.sizeOf25 (Get.tmp rfl) (Get.tmp rfl) rfl rfl rfl ?_
    refine L.op1 rfl rfl (GSpec.plain rfl (spec_assign rfl (Get.tmp rfl))) ?_
    refine L.nil ?_
    refine N.thenW ?_
    refine W.keep (.cons (t := 0) rfl (.cons (t := 1) rfl (.cons (t := 4) rfl (.cons (t := 5) rfl (.cons (t := 6) rfl .nil))))) .refl ?_
    refine W.seq ?_
    refine W.region ?_
    refine L.op1 rfl rfl (GSpec.plain rfl (spec_move rfl (Get.tmp rfl))) ?_
    refine L.op1 rfl rfl (GSpec.plain rfl (spec_move rfl (Get.tmp rfl))) ?_
    refine L.op1 rfl rfl (GSpec.plain rfl (spec_call rfl Tryd.call24 (rfind_ok _ _) (.cons (Get.tmp rfl) (.cons (Get.tmp rfl) .nil)))) ?_
    refine L.op1 rfl rfl (GSpec.plain rfl (spec_move rfl (Get.tmp rfl))) ?_
    refine L.op1 rfl rfl (GSpec.plain rfl (spec_extract rfl (Get.tmp rfl) rfl)) ?_
    refine L.op1 rfl rfl (GSpec.plain rfl (spec_extract rfl (Get.tmp rfl) rfl)) ?_
    refine L.box rfl rfl (GSpec.plain rfl (spec_alloc rfl ti25 z25)) (fun r7 => ?_)
    refine L.storeW (k := 0) rfl rfl rfl Tryd.sizeOf25 (Get.tmp rfl) (Get.tmp rfl) rfl rfl rfl ?_
    refine L.op1 rfl rfl (GSpec.plain rfl (spec_assign rfl (Get.tmp rfl))) ?_
    refine L.nil ?_
    refine N.thenW ?_
    refine W.keep (.cons (t := 0) rfl (.cons (t := 4) rfl (.cons (t := 5) rfl (.cons (t := 6) rfl (.cons (t := 7) rfl (.cons (t := 8) rfl .nil)))))) .refl ?_
    refine W.seq ?_
    refine W.region ?_
    refine L.op1 rfl rfl (GSpec.plain rfl (spec_move rfl (Get.tmp rfl))) ?_
    refine L.op1 rfl rfl (GSpec.plain rfl (spec_callG (k := 2) rfl Tryd.call25 rfl (check_ok _ (by assumption)) (.cons (Get.tmp rfl) .nil))) ?_
    refine L.op1 rfl rfl (GSpec.plain rfl (spec_move rfl (Get.tmp rfl))) ?_
    refine L.op1 rfl rfl (GSpec.plain rfl (spec_call rfl Tryd.call26 (rcheck_ok _ (by assumption)) (.cons (Get.tmp rfl) .nil))) ?_
    refine L.op1 rfl rfl (GSpec.plain rfl (spec_eql rfl (Get.tmp rfl) (Get.tmp rfl))) ?_
    refine L.op1 rfl rfl (GSpec.plain rfl (spec_move rfl (Get.tmp rfl))) ?_
    refine L.op1 rfl rfl (GSpec.guard rfl rfl rfl fun hg => (spec_loadW (k := 1) rfl Tryd.isAgg25 Tryd.sizeOf25 (Get.tmp rfl) rfl rfl)) ?_
    refine L.op1 rfl rfl (GSpec.guard rfl rfl rfl fun hg => (spec_loadW (k := 0) rfl Tryd.isAgg25 Tryd.sizeOf25 (Get.tmp rfl) rfl rfl)) ?_
    refine L.op1 rfl rfl (GSpec.guard rfl rfl rfl fun hg => (spec_call rfl Tryd.call22 (sameC_ok _ _) (.cons (Get.opt rfl hg) (.cons (Get.opt rfl hg) .nil)))) ?_
    refine L.op1 rfl rfl (GSpec.plain rfl (spec_and rfl (Get.tmp rfl) (fun hb => (Get.opt rfl hb)))) ?_
    refine L.op1 rfl rfl (GSpec.plain rfl (spec_move rfl (Get.tmp rfl))) ?_
    refine L.op1 rfl rfl (GSpec.guard rfl rfl rfl fun hg => (spec_move rfl (Get.tmp rfl))) ?_
    refine L.op1 rfl rfl (GSpec.guard rfl rfl rfl fun hg => (spec_move rfl (Get.tmp rfl))) ?_
    refine L.op1 rfl rfl (GSpec.guard rfl rfl rfl fun hg => (spec_eqlB rfl Tryd.underlying4 (Get.opt rfl hg) (Get.opt rfl hg))) ?_
    refine L.op1 rfl rfl (GSpec.plain rfl (spec_and rfl (Get.tmp rfl) (fun hb => (Get.opt rfl hb)))) ?_
    refine L.op1 rfl rfl (GSpec.plain rfl (spec_move rfl (Get.tmp rfl))) ?_
    refine L.op1 rfl rfl (GSpec.guard rfl rfl rfl fun hg => (spec_callG (k := 2) rfl Tryd.call10 rfl (awake_ok ) .nil)) ?_
    refine L.op1 rfl rfl (GSpec.plain rfl (spec_and rfl (Get.tmp rfl) (fun hb => (Get.opt rfl hb)))) ?_
    refine L.op1 rfl rfl (GSpec.plain rfl (spec_assign rfl (Get.tmp rfl))) ?_
    refine L.nil ?_
    refine N.thenW ?_
    refine W.keep (.cons (t := 4) rfl .nil) .refl ?_
    refine W.ret ?_
    refine N.ret () rfl (.tmp (t := 4) (Get.tmp rfl) .nil) (res1 (eqB ?_)) .nil (fun _ _ h => h)
    rw [check_same]; simp

end Go.Proofs.YtcabngjnmipflaaDoor
set_option linter.unusedSimpArgs false
set_option maxRecDepth 8000
set_option linter.unusedVariables false
namespace Go.Proofs.YtcabngjnmipflaaDoor
open Go.Sim
theorem rline_ok (src : List Cl) (s : List UInt8) (hok : ∀ c ∈ src, ClOk c) : CallT Tryd.prog 44 [Rp.slice eC src, Rp.str s] [] (.one (Rp.tuple [Rp.slice eC (rlineE src s).1, Rp.int .i64 (rlineE src s).2])) := by
  refine W.enter (fn := Tryd.f44) (n := 25) Tryd.func44 rfl Tryd.ntmps44 rfl (fun w₀ C₀ => ?_)
  simp only [argS]
  refine W.seq ?_
  refine W.region ?_
  refine L.op1 rfl rfl (GSpec.plain rfl (spec_assign rfl (Get.cnil (E := eC)))) ?_
  refine L.op1 rfl rfl (GSpec.plain rfl (spec_assign rfl (Get.cint rfl))) ?_
  refine L.nil ?_
  refine N.thenW ?_
  refine W.seq ?_
  refine W.region ?_
  refine L.op1 rfl rfl (GSpec.plain rfl (spec_move rfl (Get.tmp rfl))) ?_
  refine L.op1 rfl rfl (GSpec.plain rfl (spec_call rfl Tryd.call26 (rcheck_ok _ (by assumption)) (.cons (Get.tmp rfl) .nil))) ?_
  refine L.op1 rfl rfl (GSpec.plain rfl (spec_assign rfl (Get.tmp rfl))) ?_
  refine L.nil ?_
  refine N.thenW ?_
  refine W.seq ?_
  refine W.seq ?_
  refine W.region ?_
  refine L.op1 rfl rfl (GSpec.plain rfl (spec_move rfl (Get.tmp rfl))) ?_
  refine L.op1 rfl rfl (GSpec.plain rfl (spec_neq rfl (Get.tmp rfl) (Get.cint rfl))) ?_
  refine L.nil ?_
  refine N.thenW ?_
  refine W.cond (Get.tmp rfl) (fun h1 => ?_) (fun h1 => ?_)
  · have hc : rcheckE src ≠ 0 := by have h := h1; simpa using h
    refine W.seq ?_
    refine W.region ?_
    refine L.op1 rfl rfl (GSpec.plain rfl (spec_move rfl (Get.tmp rfl))) ?_
    refine L.op1 rfl rfl (GSpec.plain rfl (spec_assign rfl (Get.cnil (E := eC)))) ?_
    refine L.op1 rfl rfl (GSpec.plain rfl (spec_assign rfl (Get.tmp rfl))) ?_
    refine L.nil ?_
    refine N.thenW ?_
    refine W.keep (.cons (t := 0) rfl (.cons (t := 1) rfl (.cons (t := 4) rfl (.cons (t := 5) rfl .nil)))) .refl ?_
    refine W.ret ?_
    refine N.ret () rfl (.tmp (t := 4) (Get.tmp rfl) (.tmp (t := 5) (Get.tmp rfl) .nil)) (res2w (eqSl ?_) (eqI ?_)) .nil (fun _ _ h => h)
    all_goals (unfold rlineE; rw [if_pos hc])
  · have hc : rcheckE src = 0 := by have h := h1; simpa using h
    refine W.skip ?_
    refine N.thenW ?_
    refine W.seq ?_
    refine W.region ?_
    refine L.op1 rfl rfl (GSpec.plain rfl (spec_move rfl (Get.tmp rfl))) ?_
    refine L.op1 rfl rfl (GSpec.plain rfl (spec_move rfl (Get.tmp rfl))) ?_
    refine L.op1 rfl rfl (GSpec.plain rfl (spec_call rfl Tryd.call24 (rfind_ok _ _) (.cons (Get.tmp rfl) (.cons (Get.tmp rfl) .nil)))) ?_
    refine L.op1 rfl rfl (GSpec.plain rfl (spec_move rfl (Get.tmp rfl))) ?_
    refine L.op1 rfl rfl (GSpec.plain rfl (spec_extract rfl (Get.tmp rfl) rfl)) ?_
    refine L.op1 rfl rfl (GSpec.plain rfl (spec_extract rfl (Get.tmp rfl) rfl)) ?_
    refine L.box rfl rfl (GSpec.plain rfl (spec_alloc rfl ti25 z25)) (fun r7 => ?_)
    refine L.storeW (k := 0) rfl rfl rfl Tryd.sizeOf25 (Get.tmp rfl) (Get.tmp rfl) rfl rfl rfl ?_
    refine L.op1 rfl rfl (GSpec.plain rfl (spec_assign rfl (Get.tmp rfl))) ?_
    refine L.nil ?_
    refine N.thenW ?_
    refine W.keep (.cons (t := 0) rfl (.cons (t := 4) rfl (.cons (t := 5) rfl (.cons (t := 7) rfl (.cons (t := 8) rfl .nil))))) .refl ?_
    refine W.seq ?_
    refine W.seq ?_
    refine W.region ?_
    refine L.op1 rfl rfl (GSpec.plain rfl (spec_move rfl (Get.tmp rfl))) ?_
    refine L.op1 rfl rfl (GSpec.plain rfl (spec_not rfl (Get.tmp rfl))) ?_
    refine L.nil ?_
    refine N.thenW ?_
    refine W.cond (Get.tmp rfl) (fun h2 => ?_) (fun h2 => ?_)
    · have hf : (findC src s).2 = false := by have h := h2; simpa using h
      refine W.seq ?_
      refine W.region ?_
      refine L.op1 rfl rfl (GSpec.plain rfl (spec_assign rfl (Get.cnil (E := eC)))) ?_
      refine L.op1 rfl rfl (GSpec.plain rfl (spec_assign rfl (Get.cint rfl))) ?_
      refine L.nil ?_
      refine N.thenW ?_
      refine W.ret ?_
      refine N.ret () rfl (.tmp (t := 4) (Get.tmp rfl) (.tmp (t := 5) (Get.tmp rfl) .nil)) (res2w (eqSl ?_) (eqI ?_)) .nil (fun _ _ h => h)
      all_goals (unfold rlineE; rw [if_neg (by rw [hc]; simp), if_pos hf])
    · have hf : (findC src s).2 = true := by have h := h2; simpa using h
      refine W.skip ?_
      refine N.thenW ?_
      refine W.seq ?_
      refine W.region ?_
      refine L.op1 rfl rfl (GSpec.plain rfl (spec_move rfl (Get.tmp rfl))) ?_
      refine L.op1 rfl rfl (GSpec.plain rfl (spec_loadW (k := 0) rfl Tryd.isAgg25 Tryd.sizeOf25 (Get.tmp rfl) rfl rfl)) ?_
      refine L.op1 rfl rfl (GSpec.plain rfl (spec_call rfl Tryd.call52 (up_ok _ _) (.cons (Get.tmp rfl) (.cons (Get.tmp rfl) .nil)))) ?_
      refine L.op1 rfl rfl (GSpec.plain rfl (spec_assign rfl (Get.tmp rfl))) ?_
      refine L.op1 rfl rfl (GSpec.plain rfl (spec_assign rfl (Get.cint rfl))) ?_
      refine L.nil ?_
      refine N.thenW ?_
      refine W.keep (.cons (t := 4) rfl (.cons (t := 5) rfl .nil)) .refl ?_
      refine W.ret ?_
      refine N.ret () rfl (.tmp (t := 4) (Get.tmp rfl) (.tmp (t := 5) (Get.tmp rfl) .nil)) (res2w (eqSl ?_) (eqI ?_)) .nil (fun _ _ h => h)
      all_goals (unfold rlineE; rw [if_neg (by rw [hc]; simp), if_neg (by rw [hf]; simp)])

end Go.Proofs.YtcabngjnmipflaaDoor
set_option linter.unusedSimpArgs false
set_option maxRecDepth 8000
set_option linter.unusedVariables false
namespace Go.Proofs.YtcabngjnmipflaaDoor
open Go.Sim
theorem rLine_ok (src : List Cl) (s : List UInt8) (hok : ∀ c ∈ src, ClOk c) : CallT Tryd.prog 19 [Rp.slice eC src, Rp.str s] [] (.one (Rp.tuple [Rp.slice eS (namesL (rlineE src s)), Rp.int .i64 (rlineE src s).2])) := by
  refine W.enter (fn := Tryd.f19) (n := 34) Tryd.func19 rfl Tryd.ntmps19 rfl (fun w₀ C₀ => ?_)
  simp only [argS]
  have hfw := rline_few hok s
  have hln := hfw.1.1
  refine W.seq ?_
  refine W.region ?_
  refine L.op1 rfl rfl (GSpec.plain rfl (spec_assign rfl (Get.cnil (E := eS)))) ?_
  refine L.op1 rfl rfl (GSpec.plain rfl (spec_assign rfl (Get.cint rfl))) ?_
  refine L.nil ?_
  refine N.thenW ?_
  refine W.seq ?_
  refine W.region ?_
  refine L.op1 rfl rfl (GSpec.plain rfl (spec_move rfl (Get.tmp rfl))) ?_
  refine L.op1 rfl rfl (GSpec.plain rfl (spec_move rfl (Get.tmp rfl))) ?_
  refine L.op1 rfl rfl (GSpec.plain rfl (spec_call rfl Tryd.call44 (rline_ok _ _ (by assumption)) (.cons (Get.tmp rfl) (.cons (Get.tmp rfl) .nil)))) ?_
  refine L.op1 rfl rfl (GSpec.plain rfl (spec_move rfl (Get.tmp rfl))) ?_
  refine L.op1 rfl rfl (GSpec.plain rfl (spec_extract rfl (Get.tmp rfl) rfl)) ?_
  refine L.op1 rfl rfl (GSpec.plain rfl (spec_extract rfl (Get.tmp rfl) rfl)) ?_
  refine L.op1 rfl rfl (GSpec.plain rfl (spec_assign rfl (Get.tmp rfl))) ?_
  refine L.op1 rfl rfl (GSpec.plain rfl (spec_assign rfl (Get.tmp rfl))) ?_
  refine L.nil ?_
  refine N.thenW ?_
  refine W.keep (.cons (t := 4) rfl (.cons (t := 5) rfl (.cons (t := 6) rfl (.cons (t := 7) rfl .nil)))) .refl ?_
  refine W.seq ?_
  refine W.seq ?_
  refine W.region ?_
  refine L.op1 rfl rfl (GSpec.plain rfl (spec_move rfl (Get.tmp rfl))) ?_
  refine L.op1 rfl rfl (GSpec.plain rfl (spec_neq rfl (Get.tmp rfl) (Get.cint rfl))) ?_
  refine L.nil ?_
  refine N.thenW ?_
  refine W.cond (Get.tmp rfl) (fun h1 => ?_) (fun h1 => ?_)
  · have hc : (rlineE src s).2 ≠ 0 := by have h := h1; simpa using h
    refine W.seq ?_
    refine W.region ?_
    refine L.op1 rfl rfl (GSpec.plain rfl (spec_move rfl (Get.tmp rfl))) ?_
    refine L.op1 rfl rfl (GSpec.plain rfl (spec_assign rfl (Get.cnil (E := eS)))) ?_
    refine L.op1 rfl rfl (GSpec.plain rfl (spec_assign rfl (Get.tmp rfl))) ?_
    refine L.nil ?_
    refine N.thenW ?_
    refine W.keep (.cons (t := 4) rfl (.cons (t := 5) rfl (.cons (t := 6) rfl .nil))) .refl ?_
    refine W.ret ?_
    refine N.ret () rfl (.tmp (t := 4) (Get.tmp rfl) (.tmp (t := 5) (Get.tmp rfl) .nil)) (res2w (eqSl ?_) (eqI ?_)) .nil (fun _ _ h => h)
    all_goals first | (unfold namesL; rw [if_pos hc]) | rfl
  · have hc : (rlineE src s).2 = 0 := by have h := h1; simpa using h
    refine W.skip ?_
    refine N.thenW ?_
    refine W.seq ?_
    refine W.region ?_
    refine L.op1 rfl rfl (GSpec.plain rfl (spec_assign rfl Get.cval)) ?_
    refine L.nil ?_
    refine N.thenW ?_
    refine W.nil 9 1 eS ?_
    refine W.seq ?_
    refine W.seq ?_
    refine W.region ?_
    refine L.op1 rfl rfl (GSpec.plain rfl (spec_assign rfl (Get.cint rfl))) ?_
    refine L.nil ?_
    refine N.thenW ?_
    refine W.block ?_
    refine W.loopK (σ := Nat × Value) (.cons (t := 4) rfl (.cons (t := 5) rfl (.cons (t := 6) rfl .nil))) (fun z => [(9, Rp.int .i64 (z.1 : Nat)), (8, Rp.val z.2)]) (fun z => [MF.osl z.2 9 1 eS (((rlineE src s).1.take z.1).map Cl.name)]) (fun z => z.1 ≤ (rlineE src s).1.length) (fun z => (rlineE src s).1.length - z.1) (0, .slice none 0 0) (Nat.zero_le _) (.cons (t := 9) rfl (.cons (t := 8) rfl .nil)) (.cons 0 rfl .nil) ?_
    intro ⟨i, vo⟩ hI S' M' hS hM
    try dsimp only at hS hM
    simp only [List.cons_append, List.nil_append] at hS hM
    subst hS hM
    try dsimp only
    try dsimp only at hI
    refine W.seq ?_
    refine W.seq ?_
    refine W.region ?_
    refine L.op1 rfl rfl (GSpec.plain rfl (spec_move rfl (Get.tmp rfl))) ?_
    refine L.op1 rfl rfl (GSpec.plain rfl (spec_move rfl (Get.tmp rfl))) ?_
    refine L.op1 rfl rfl (GSpec.plain rfl (spec_len rfl Tryd.underlying38 (Get.tmp rfl))) ?_
    refine L.op1 rfl rfl (GSpec.plain rfl (spec_lss rfl (Get.tmp rfl) (Get.tmp rfl))) ?_
    refine L.nil ?_
    refine N.thenW ?_
    refine W.cond (Get.tmp rfl) (fun h2 => ?_) (fun h2 => ?_)
    · have ph2 := h2; try simp only [decide_eq_true_eq, decide_eq_false_iff_not, Bool.and_eq_true, Bool.or_eq_true, Bool.and_eq_false_iff, Bool.or_eq_false_iff, Bool.not_eq_true', Bool.not_eq_false', Bool.not_true, Bool.not_false, Int.not_lt, Int.not_le] at ph2
      refine W.skip ?_
      refine N.thenW ?_
      refine W.seq ?_
      refine W.block ?_
      refine W.region ?_
      refine L.op1 rfl rfl (GSpec.plain rfl (spec_move rfl (Get.tmp rfl))) ?_
      refine L.op1 rfl rfl (GSpec.plain rfl (spec_move rfl (Get.tmp rfl))) ?_
      refine L.op1 rfl rfl (GSpec.plain rfl (spec_move rfl (Get.tmp rfl))) ?_
      refine L.op1 rfl rfl (GSpec.plain rfl (spec_indexAddrD (E := eC) rfl Tryd.underlying38 Tryd.sizeOf25 (fun _ => rfl) (Get.tmp rfl) (Get.tmp rfl) (by (first | omega | (simp only [Int.toNat_natCast]; omega))))) ?_
      refine L.op1 rfl rfl (GSpec.plain rfl (spec_fieldAddrP (f := 0) rfl Tryd.underlying25 rfl Tryd.sizeOf9 (Get.tmp rfl) rfl rfl)) ?_
      refine L.op1 rfl rfl (GSpec.plain rfl (spec_loadP1 rfl Tryd.isAgg9 (Get.tmp rfl))) ?_
      refine L.op1 rfl rfl (GSpec.plain rfl (spec_buildSlice1 (y := ((rlineE src s).1.getD i default).name) (E := eS) rfl Tryd.underlying40 ti9 z9 (by decide) (GetC.one (Get.tmp rfl)) (fun _ => rfl))) ?_
      refine L.append (k := 0) (E := eS) rfl rfl rfl rfl Tryd.underlying40 ti9 rfl (by decide) (fun _ => rfl) (Get.tmp rfl) (Get.tmp rfl) rfl (by (simp only [List.length_map, List.length_take, List.length_cons, List.length_nil]; omega)) (by (simp only [List.length_map, List.length_take, List.length_cons, List.length_nil]; omega)) (fun v32 => ?_)
      refine L.op1 rfl rfl (GSpec.plain rfl (spec_assign rfl (Get.tmp rfl))) ?_
      refine L.nil ?_
      refine N.blockNormal ?_
      refine N.thenW ?_
      refine W.region ?_
      refine L.op1 rfl rfl (GSpec.plain rfl (spec_move rfl (Get.tmp rfl))) ?_
      first | refine L.op1 rfl rfl (GSpec.plain rfl (fit_i64 (by (first | omega | (simp only [Int.toNat_natCast]; omega))) (by (first | omega | (simp only [Int.toNat_natCast]; omega))) (spec_add rfl (Get.tmp rfl) (Get.cint rfl)))) ?_ | refine L.op1 rfl rfl (GSpec.plain rfl (spec_add rfl (Get.tmp rfl) (Get.cint rfl))) ?_
      refine L.op1 rfl rfl (GSpec.plain rfl (spec_assign rfl (Get.tmp rfl))) ?_
      refine L.nil ?_
      refine N.roundK (i + 1, v32) ?hI1 ?hmu1 ?hs1 ?hk1 ?hp1
      case hs1 => exact (.cons (t := 9) rfl (.cons (t := 8) rfl .nil))
      case hk1 => exact (.cons (t := 4) rfl (.cons (t := 5) rfl (.cons (t := 6) rfl .nil)))
      case hp1 => dsimp only; rw [take_succ (show i < (rlineE src s).1.length by omega), List.map_append]; exact (.cons 0 rfl .nil)
      case hI1 => dsimp only; omega
      case hmu1 => dsimp only; omega
    · have ph2 := h2; try simp only [decide_eq_true_eq, decide_eq_false_iff_not, Bool.and_eq_true, Bool.or_eq_true, Bool.and_eq_false_iff, Bool.or_eq_false_iff, Bool.not_eq_true', Bool.not_eq_false', Bool.not_true, Bool.not_false, Int.not_lt, Int.not_le] at ph2
      refine W.exit ?_
      refine N.thenExit ?_
      refine N.thenExit ?_
      refine N.blockExit ?_
      refine N.thenW ?_
      have hi : i = (rlineE src s).1.length := by omega
      subst hi
      rw [List.take_length]
      refine W.pub (t := 8) (k := 0) rfl rfl (fun _ => rfl) ?_
      refine W.keep (.cons (t := 4) rfl (.cons (t := 5) rfl (.cons (t := 8) rfl .nil))) .refl ?_
      refine W.seq ?_
      refine W.region ?_
      refine L.op1 rfl rfl (GSpec.plain rfl (spec_move rfl (Get.tmp rfl))) ?_
      refine L.op1 rfl rfl (GSpec.plain rfl (spec_assign rfl (Get.tmp rfl))) ?_
      refine L.op1 rfl rfl (GSpec.plain rfl (spec_assign rfl (Get.cint rfl))) ?_
      refine L.nil ?_
      refine N.thenW ?_
      refine W.ret ?_
      refine N.ret () rfl (.tmp (t := 4) (Get.tmp rfl) (.tmp (t := 5) (Get.tmp rfl) .nil)) (res2w (eqSl ?_) (eqI ?_)) .nil (fun _ _ h => h)
      all_goals first | (unfold namesL; rw [if_neg (by rw [hc]; simp)]) | exact hc.symm

end Go.Proofs.YtcabngjnmipflaaDoor
set_option linter.unusedSimpArgs false
set_option maxRecDepth 8000
set_option linter.unusedVariables false
namespace Go.Proofs.YtcabngjnmipflaaDoor
open Go.Sim
theorem rFlatten_ok (src : List Cl) (s : List UInt8) (hok : ∀ c ∈ src, ClOk c) : CallT Tryd.prog 21 [Rp.slice eC src, Rp.str s] [] (.one (Rp.tuple [Rp.agg (eC (flatL (rlineE src s))), Rp.int .i64 (rlineE src s).2])) := by
  refine W.enter (fn := Tryd.f21) (n := 20) Tryd.func21 rfl Tryd.ntmps21 rfl (fun w₀ C₀ => ?_)
  simp only [argS]
  have hfw := rline_few hok s
  refine W.seq ?_
  refine W.region ?_
  refine L.box rfl rfl (GSpec.plain rfl (spec_alloc rfl ti25 z25)) (fun r4 => ?_)
  refine L.op1 rfl rfl (GSpec.plain rfl (spec_assign rfl (Get.cint rfl))) ?_
  refine L.nil ?_
  refine N.thenW ?_
  refine W.seq ?_
  refine W.region ?_
  refine L.op1 rfl rfl (GSpec.plain rfl (spec_move rfl (Get.tmp rfl))) ?_
  refine L.op1 rfl rfl (GSpec.plain rfl (spec_move rfl (Get.tmp rfl))) ?_
  refine L.op1 rfl rfl (GSpec.plain rfl (spec_call rfl Tryd.call44 (rline_ok _ _ (by assumption)) (.cons (Get.tmp rfl) (.cons (Get.tmp rfl) .nil)))) ?_
  refine L.op1 rfl rfl (GSpec.plain rfl (spec_move rfl (Get.tmp rfl))) ?_
  refine L.op1 rfl rfl (GSpec.plain rfl (spec_extract rfl (Get.tmp rfl) rfl)) ?_
  refine L.op1 rfl rfl (GSpec.plain rfl (spec_extract rfl (Get.tmp rfl) rfl)) ?_
  refine L.op1 rfl rfl (GSpec.plain rfl (spec_assign rfl (Get.tmp rfl))) ?_
  refine L.op1 rfl rfl (GSpec.plain rfl (spec_assign rfl (Get.tmp rfl))) ?_
  refine L.nil ?_
  refine N.thenW ?_
  refine W.keep (.cons (t := 4) rfl (.cons (t := 5) rfl (.cons (t := 6) rfl (.cons (t := 7) rfl .nil)))) .refl ?_
  refine W.seq ?_
  refine W.seq ?_
  refine W.region ?_
  refine L.op1 rfl rfl (GSpec.plain rfl (spec_move rfl (Get.tmp rfl))) ?_
  refine L.op1 rfl rfl (GSpec.plain rfl (spec_neq rfl (Get.tmp rfl) (Get.cint rfl))) ?_
  refine L.nil ?_
  refine N.thenW ?_
  refine W.cond (Get.tmp rfl) (fun h1 => ?_) (fun h1 => ?_)
  · have hc : (rlineE src s).2 ≠ 0 := by have h := h1; simpa using h
    refine W.seq ?_
    refine W.region ?_
    refine L.op1 rfl rfl (GSpec.plain rfl (spec_build (Rs := [Rp.str [], Rp.str [], Rp.slice eF [], Rp.slice eBk []]) rfl ti25 z25 Tryd.underlying25 pl25 .nil)) ?_
    refine L.op1 rfl rfl (GSpec.plain rfl (spec_move rfl (Get.tmp rfl))) ?_
    refine L.storeW (k := 0) rfl rfl rfl Tryd.sizeOf25 (Get.tmp rfl) (Get.tmp rfl) rfl rfl rfl ?_
    refine L.op1 rfl rfl (GSpec.plain rfl (spec_assign rfl (Get.tmp rfl))) ?_
    refine L.nil ?_
    refine N.thenW ?_
    refine W.keep (.cons (t := 4) rfl (.cons (t := 5) rfl (.cons (t := 6) rfl .nil))) .refl ?_
    refine W.ret ?_
    refine N.ret () rfl (.cellA (k := 0) (Get.tmp (t := 4) rfl) rfl Tryd.isAgg25 Tryd.sizeOf25 rfl (.tmp (t := 5) (Get.tmp rfl) .nil)) (res2w (eqA ?_) (eqI ?_)) .nil (fun _ _ h => h)
    all_goals first | (unfold flatL; rw [if_pos hc]; rfl) | rfl
  · have hc : (rlineE src s).2 = 0 := by have h := h1; simpa using h
    refine W.skip ?_
    refine N.thenW ?_
    refine W.seq ?_
    refine W.region ?_
    refine L.op1 rfl rfl (GSpec.plain rfl (spec_move rfl (Get.tmp rfl))) ?_
    refine L.op1 rfl rfl (GSpec.plain rfl (spec_call rfl Tryd.call46 (rflat_ok _ (hfw.2 hc) hfw.1) (.cons (Get.tmp rfl) .nil))) ?_
    refine L.storeW (k := 0) rfl rfl rfl Tryd.sizeOf25 (Get.tmp rfl) (Get.tmp rfl) rfl rfl rfl ?_
    refine L.op1 rfl rfl (GSpec.plain rfl (spec_assign rfl (Get.cint rfl))) ?_
    refine L.nil ?_
    refine N.thenW ?_
    refine W.keep (.cons (t := 4) rfl (.cons (t := 5) rfl .nil)) .refl ?_
    refine W.ret ?_
    refine N.ret () rfl (.cellA (k := 0) (Get.tmp (t := 4) rfl) rfl Tryd.isAgg25 Tryd.sizeOf25 rfl (.tmp (t := 5) (Get.tmp rfl) .nil)) (res2w (eqA ?_) (eqI ?_)) .nil (fun _ _ h => h)
    all_goals first | (unfold flatL; rw [if_neg (by rw [hc]; simp)]; done) | (unfold flatL; rw [if_neg (by rw [hc]; simp)]; rfl) | exact hc.symm

end Go.Proofs.YtcabngjnmipflaaDoor
set_option linter.unusedSimpArgs false
set_option maxRecDepth 8000
set_option linter.unusedVariables false
namespace Go.Proofs.YtcabngjnmipflaaDoor
open Go.Sim
theorem classLines_ok (src : List Cl) (s : List UInt8) (hok : ∀ c ∈ src, ClOk c) : CallT Tryd.prog 4 [Rp.slice eC src, Rp.str s] [kwG] (.one (Rp.bool true)) := by
  refine W.enter (fn := Tryd.f4) (n := 78) Tryd.func4 rfl Tryd.ntmps4 rfl (fun w₀ C₀ => ?_)
  simp only [argS]
  have hls := line_same src s
  refine W.seq ?_
  refine W.region ?_
  refine L.op1 rfl rfl (GSpec.plain rfl (spec_assign rfl Get.cbool)) ?_
  refine L.nil ?_
  refine N.thenW ?_
  refine W.seq ?_
  refine W.seq ?_
  refine W.region ?_
  refine L.op1 rfl rfl (GSpec.plain rfl (spec_move rfl (Get.tmp rfl))) ?_
  refine L.op rfl rfl (GSpec.plain rfl (spec_call rfl Tryd.call17 (few_ok _) (.cons (Get.tmp rfl) .nil))) (fun b15 => ?_)
  try dsimp only
  refine L.op1 rfl rfl (GSpec.plain rfl (spec_not rfl (Get.tmp rfl))) ?_
  refine L.nil ?_
  refine N.thenW ?_
  refine W.cond (Get.tmp rfl) (fun h1 => ?_) (fun h1 => ?_)
  · have ph1 := h1; try simp only [decide_eq_true_eq, decide_eq_false_iff_not, Bool.and_eq_true, Bool.or_eq_true, Bool.and_eq_false_iff, Bool.or_eq_false_iff, Bool.not_eq_true', Bool.not_eq_false', Bool.not_true, Bool.not_false, Int.not_lt, Int.not_le] at ph1
    refine W.seq ?_
    refine W.region ?_
    refine L.op1 rfl rfl (GSpec.plain rfl (spec_callG (k := 0) rfl Tryd.call10 rfl (awake_ok ) .nil)) ?_
    refine L.op1 rfl rfl (GSpec.plain rfl (spec_assign rfl (Get.tmp rfl))) ?_
    refine L.nil ?_
    refine N.thenW ?_
    refine W.ret ?_
    refine N.ret () rfl (.tmp (t := 4) (Get.tmp rfl) .nil) (res1 (eqB ?_)) .nil (fun _ _ h => h)
    rfl
  · have ph1 := h1; try simp only [decide_eq_true_eq, decide_eq_false_iff_not, Bool.and_eq_true, Bool.or_eq_true, Bool.and_eq_false_iff, Bool.or_eq_false_iff, Bool.not_eq_true', Bool.not_eq_false', Bool.not_true, Bool.not_false, Int.not_lt, Int.not_le] at ph1
    refine W.skip ?_
    refine N.thenW ?_
    refine W.seq ?_
    refine W.region ?_
    refine L.op1 rfl rfl (GSpec.plain rfl (spec_move rfl (Get.tmp rfl))) ?_
    refine L.op1 rfl rfl (GSpec.plain rfl (spec_move rfl (Get.tmp rfl))) ?_
    refine L.op1 rfl rfl (GSpec.plain rfl (spec_callG (k := 0) rfl Tryd.call18 rfl (LineX_ok _ _ (by assumption)) (.cons (Get.tmp rfl) (.cons (Get.tmp rfl) .nil)))) ?_
    refine L.op1 rfl rfl (GSpec.plain rfl (spec_move rfl (Get.tmp rfl))) ?_
    refine L.op1 rfl rfl (GSpec.plain rfl (spec_extract rfl (Get.tmp rfl) rfl)) ?_
    refine L.op1 rfl rfl (GSpec.plain rfl (spec_extract rfl (Get.tmp rfl) rfl)) ?_
    refine L.op1 rfl rfl (GSpec.plain rfl (spec_assign rfl (Get.tmp rfl))) ?_
    refine L.op1 rfl rfl (GSpec.plain rfl (spec_assign rfl (Get.tmp rfl))) ?_
    refine L.nil ?_
    refine N.thenW ?_
    refine W.keep (.cons (t := 0) rfl (.cons (t := 1) rfl (.cons (t := 4) rfl (.cons (t := 5) rfl (.cons (t := 6) rfl .nil))))) .refl ?_
    refine W.seq ?_
    refine W.region ?_
    refine L.op1 rfl rfl (GSpec.plain rfl (spec_move rfl (Get.tmp rfl))) ?_
    refine L.op1 rfl rfl (GSpec.plain rfl (spec_move rfl (Get.tmp rfl))) ?_
    refine L.op1 rfl rfl (GSpec.plain rfl (spec_call rfl Tryd.call19 (rLine_ok _ _ (by assumption)) (.cons (Get.tmp rfl) (.cons (Get.tmp rfl) .nil)))) ?_
    refine L.op1 rfl rfl (GSpec.plain rfl (spec_move rfl (Get.tmp rfl))) ?_
    refine L.op1 rfl rfl (GSpec.plain rfl (spec_extract rfl (Get.tmp rfl) rfl)) ?_
    refine L.op1 rfl rfl (GSpec.plain rfl (spec_extract rfl (Get.tmp rfl) rfl)) ?_
    refine L.op1 rfl rfl (GSpec.plain rfl (spec_assign rfl (Get.tmp rfl))) ?_
    refine L.op1 rfl rfl (GSpec.plain rfl (spec_assign rfl (Get.tmp rfl))) ?_
    refine L.nil ?_
    refine N.thenW ?_
    refine W.keep (.cons (t := 0) rfl (.cons (t := 1) rfl (.cons (t := 4) rfl (.cons (t := 5) rfl (.cons (t := 6) rfl (.cons (t := 7) rfl (.cons (t := 8) rfl .nil))))))) .refl ?_
    refine W.seq ?_
    refine W.seq ?_
    refine W.region ?_
    refine L.op1 rfl rfl (GSpec.plain rfl (spec_move rfl (Get.tmp rfl))) ?_
    refine L.op1 rfl rfl (GSpec.plain rfl (spec_len rfl Tryd.underlying40 (Get.tmp rfl))) ?_
    refine L.op1 rfl rfl (GSpec.plain rfl (spec_move rfl (Get.tmp rfl))) ?_
    refine L.op1 rfl rfl (GSpec.plain rfl (spec_len rfl Tryd.underlying40 (Get.tmp rfl))) ?_
    refine L.op1 rfl rfl (GSpec.plain rfl (spec_neq rfl (Get.tmp rfl) (Get.tmp rfl))) ?_
    refine L.op1 rfl rfl (GSpec.plain rfl (spec_move rfl (Get.tmp rfl))) ?_
    refine L.op1 rfl rfl (GSpec.guard rfl rfl rfl fun hg => (spec_move rfl (Get.tmp rfl))) ?_
    refine L.op1 rfl rfl (GSpec.guard rfl rfl rfl fun hg => (spec_move rfl (Get.tmp rfl))) ?_
    refine L.op1 rfl rfl (GSpec.guard rfl rfl rfl fun hg => (spec_neq rfl (Get.opt rfl hg) (Get.opt rfl hg))) ?_
    refine L.op1 rfl rfl (GSpec.plain rfl (spec_or rfl (Get.tmp rfl) (fun hb => (Get.opt rfl hb)))) ?_
    refine L.nil ?_
    refine N.thenW ?_
    refine W.keep (.cons (t := 0) rfl (.cons (t := 1) rfl (.cons (t := 4) rfl (.cons (t := 5) rfl (.cons (t := 7) rfl (.cons (t := 39) rfl .nil)))))) .refl ?_
    refine W.cond (Get.tmp rfl) (fun h2 => ?_) (fun h2 => ?_)
    · have ph2 := h2; try simp only [decide_eq_true_eq, decide_eq_false_iff_not, Bool.and_eq_true, Bool.or_eq_true, Bool.and_eq_false_iff, Bool.or_eq_false_iff, Bool.not_eq_true', Bool.not_eq_false', Bool.not_true, Bool.not_false, Int.not_lt, Int.not_le] at ph2
      refine W.seq ?_
      refine W.region ?_
      refine L.op1 rfl rfl (GSpec.plain rfl (spec_assign rfl Get.cbool)) ?_
      refine L.nil ?_
      refine N.thenW ?_
      refine W.ret ?_
      refine N.ret () rfl (.tmp (t := 4) (Get.tmp rfl) .nil) (res1 (eqB ?_)) .nil (fun _ _ h => h)
      exfalso; rw [hls] at h2; simp at h2
    · have ph2 := h2; try simp only [decide_eq_true_eq, decide_eq_false_iff_not, Bool.and_eq_true, Bool.or_eq_true, Bool.and_eq_false_iff, Bool.or_eq_false_iff, Bool.not_eq_true', Bool.not_eq_false', Bool.not_true, Bool.not_false, Int.not_lt, Int.not_le] at ph2
      refine W.skip ?_
      refine N.thenW ?_
      refine W.fact 5 rfl slice_fact fun hvl => ?_
      refine W.seq ?_
      refine W.seq ?_
      refine W.region ?_
      refine L.op1 rfl rfl (GSpec.plain rfl (spec_assign rfl (Get.cint rfl))) ?_
      refine L.nil ?_
      refine N.thenW ?_
      refine W.block ?_
      -- assigned in the loop, not kept: [4]
      refine W.loopK (σ := Nat) (.cons (t := 0) rfl (.cons (t := 1) rfl (.cons (t := 5) rfl (.cons (t := 7) rfl .nil)))) (fun z => [(9, Rp.int .i64 (z : Nat))]) (fun z => []) (fun z => z ≤ (namesL (lineE src s)).length) (fun z => (namesL (lineE src s)).length - z) 0 (Nat.zero_le _) (.cons (t := 9) rfl .nil) (.cons 0 rfl .nil) ?_
      intro i hI S' M' hS hM
      try dsimp only at hS hM
      simp only [List.cons_append, List.nil_append] at hS hM
      subst hS hM
      try dsimp only
      refine W.seq ?_
      refine W.seq ?_
      refine W.region ?_
      refine L.op1 rfl rfl (GSpec.plain rfl (spec_move rfl (Get.tmp rfl))) ?_
      refine L.op1 rfl rfl (GSpec.plain rfl (spec_move rfl (Get.tmp rfl))) ?_
      refine L.op1 rfl rfl (GSpec.plain rfl (spec_len rfl Tryd.underlying40 (Get.tmp rfl))) ?_
      refine L.op1 rfl rfl (GSpec.plain rfl (spec_lss rfl (Get.tmp rfl) (Get.tmp rfl))) ?_
      refine L.nil ?_
      refine N.thenW ?_
      refine W.cond (Get.tmp rfl) (fun h3 => ?_) (fun h3 => ?_)
      · have ph3 := h3; try simp only [decide_eq_true_eq, decide_eq_false_iff_not, Bool.and_eq_true, Bool.or_eq_true, Bool.and_eq_false_iff, Bool.or_eq_false_iff, Bool.not_eq_true', Bool.not_eq_false', Bool.not_true, Bool.not_false, Int.not_lt, Int.not_le] at ph3
        refine W.skip ?_
        refine N.thenW ?_
        refine W.seq ?_
        refine W.block ?_
        refine W.seq ?_
        apply W.any 9 mixed (by kernel_rfl)
        · apply Head.one rfl rfl (GSpec.plain rfl (spec_move rfl (Get.tmp rfl)))
          apply Head.one rfl rfl (GSpec.plain rfl (spec_move rfl (Get.tmp rfl)))
          apply Head.one rfl rfl (GSpec.plain rfl (spec_indexAddrD (E := eS) rfl Tryd.underlying40 Tryd.sizeOf9 (fun _ => rfl) (Get.tmp rfl) (Get.tmp rfl) (by (first | omega | (rw [← hls]; omega) | (simp only [Int.toNat_natCast]; omega)))))
          apply Head.one rfl rfl (GSpec.plain rfl (spec_loadP1 rfl Tryd.isAgg9 (Get.tmp rfl)))
          apply Head.one rfl rfl (GSpec.plain rfl (spec_move rfl (Get.tmp rfl)))
          apply Head.one rfl rfl (GSpec.plain rfl (spec_move rfl (Get.tmp rfl)))
          apply Head.one rfl rfl (GSpec.plain rfl (spec_indexAddrD (E := eS) rfl Tryd.underlying40 Tryd.sizeOf9 (fun _ => rfl) (Get.tmp rfl) (Get.tmp rfl) (by (first | omega | (rw [← hls]; omega) | (simp only [Int.toNat_natCast]; omega)))))
          apply Head.one rfl rfl (GSpec.plain rfl (spec_loadP1 rfl Tryd.isAgg9 (Get.tmp rfl)))
          apply Head.one rfl rfl (GSpec.plain rfl (spec_neqS rfl (Get.tmp rfl) (Get.tmp rfl)))
          exact Head.nil
        refine Fin.one ?_
        refine Fin.one ?_
        refine Fin.one ?_
        refine Fin.one ?_
        refine Fin.one ?_
        refine Fin.one ?_
        refine Fin.one ?_
        refine Fin.one ?_
        refine Fin.one ?_
        refine Fin.nil ?_
        refine L.nil ?_
        refine N.thenW ?_
        refine W.cond (Get.tmp rfl) (fun h4 => ?_) (fun h4 => ?_)
        · have ph4 := h4; try simp only [decide_eq_true_eq, decide_eq_false_iff_not, Bool.and_eq_true, Bool.or_eq_true, Bool.and_eq_false_iff, Bool.or_eq_false_iff, Bool.not_eq_true', Bool.not_eq_false', Bool.not_true, Bool.not_false, Int.not_lt, Int.not_le] at ph4
          refine W.seq ?_
          refine W.region ?_
          refine L.op1 rfl rfl (GSpec.plain rfl (spec_assign rfl Get.cbool)) ?_
          refine L.nil ?_
          refine N.thenW ?_
          refine W.ret ?_
          refine N.ret () rfl (.tmp (t := 4) (Get.tmp rfl) .nil) (res1 (eqB ?_)) .nil (fun _ _ h => h)
          exfalso; rw [hls] at h4; simp at h4
        · have ph4 := h4; try simp only [decide_eq_true_eq, decide_eq_false_iff_not, Bool.and_eq_true, Bool.or_eq_true, Bool.and_eq_false_iff, Bool.or_eq_false_iff, Bool.not_eq_true', Bool.not_eq_false', Bool.not_true, Bool.not_false, Int.not_lt, Int.not_le] at ph4
          refine W.skip ?_
          refine N.blockNormal ?_
          refine N.thenW ?_
          refine W.region ?_
          refine L.op1 rfl rfl (GSpec.plain rfl (spec_move rfl (Get.tmp rfl))) ?_
          first | refine L.op1 rfl rfl (GSpec.plain rfl (fit_i64 (by (first | omega | (rw [← hls]; omega) | (simp only [Int.toNat_natCast]; omega))) (by (first | omega | (rw [← hls]; omega) | (simp only [Int.toNat_natCast]; omega))) (spec_add rfl (Get.tmp rfl) (Get.cint rfl)))) ?_ | refine L.op1 rfl rfl (GSpec.plain rfl (spec_add rfl (Get.tmp rfl) (Get.cint rfl))) ?_
          refine L.op1 rfl rfl (GSpec.plain rfl (spec_assign rfl (Get.tmp rfl))) ?_
          refine L.nil ?_
          refine N.roundK (i + 1) ?hI1 ?hmu1 ?hs1 ?hk1 ?hp1
          case hs1 => exact (.cons (t := 9) rfl .nil)
          case hk1 => exact (.cons (t := 0) rfl (.cons (t := 1) rfl (.cons (t := 5) rfl (.cons (t := 7) rfl .nil))))
          case hp1 => exact (.cons 0 rfl .nil)
          all_goals (first | rfl | trivial | omega | (simp_all; done))
      · have ph3 := h3; try simp only [decide_eq_true_eq, decide_eq_false_iff_not, Bool.and_eq_true, Bool.or_eq_true, Bool.and_eq_false_iff, Bool.or_eq_false_iff, Bool.not_eq_true', Bool.not_eq_false', Bool.not_true, Bool.not_false, Int.not_lt, Int.not_le] at ph3
        refine W.exit ?_
        refine N.thenExit ?_
        refine N.thenExit ?_
        refine N.blockExit ?_
        refine N.thenW ?_
        refine W.keep (.cons (t := 0) rfl (.cons (t := 1) rfl .nil)) .refl ?_
        refine W.seq ?_
        refine W.region ?_
        refine L.op1 rfl rfl (GSpec.plain rfl (spec_move rfl (Get.tmp rfl))) ?_
        refine L.op1 rfl rfl (GSpec.plain rfl (spec_move rfl (Get.tmp rfl))) ?_
        refine L.op1 rfl rfl (GSpec.plain rfl (spec_callG (k := 0) rfl Tryd.call20 rfl (FlattenX_ok _ _ (by assumption)) (.cons (Get.tmp rfl) (.cons (Get.tmp rfl) .nil)))) ?_
        refine L.op1 rfl rfl (GSpec.plain rfl (spec_move rfl (Get.tmp rfl))) ?_
        refine L.op1 rfl rfl (GSpec.plain rfl (spec_extract rfl (Get.tmp rfl) rfl)) ?_
        refine L.op1 rfl rfl (GSpec.plain rfl (spec_extract rfl (Get.tmp rfl) rfl)) ?_
        refine L.box rfl rfl (GSpec.plain rfl (spec_alloc rfl ti25 z25)) (fun r10 => ?_)
        refine L.storeW (k := 0) rfl rfl rfl Tryd.sizeOf25 (Get.tmp rfl) (Get.tmp rfl) rfl rfl rfl ?_
        refine L.op1 rfl rfl (GSpec.plain rfl (spec_assign rfl (Get.tmp rfl))) ?_
        refine L.nil ?_
        refine N.thenW ?_
        refine W.keep (.cons (t := 0) rfl (.cons (t := 1) rfl (.cons (t := 10) rfl (.cons (t := 11) rfl .nil)))) .refl ?_
        refine W.seq ?_
        refine W.region ?_
        refine L.op1 rfl rfl (GSpec.plain rfl (spec_move rfl (Get.tmp rfl))) ?_
        refine L.op1 rfl rfl (GSpec.plain rfl (spec_move rfl (Get.tmp rfl))) ?_
        refine L.op1 rfl rfl (GSpec.plain rfl (spec_call rfl Tryd.call21 (rFlatten_ok _ _ (by assumption)) (.cons (Get.tmp rfl) (.cons (Get.tmp rfl) .nil)))) ?_
        refine L.op1 rfl rfl (GSpec.plain rfl (spec_move rfl (Get.tmp rfl))) ?_
        refine L.op1 rfl rfl (GSpec.plain rfl (spec_extract rfl (Get.tmp rfl) rfl)) ?_
        refine L.op1 rfl rfl (GSpec.plain rfl (spec_extract rfl (Get.tmp rfl) rfl)) ?_
        refine L.box rfl rfl (GSpec.plain rfl (spec_alloc rfl ti25 z25)) (fun r12 => ?_)
        refine L.storeW (k := 0) rfl rfl rfl Tryd.sizeOf25 (Get.tmp rfl) (Get.tmp rfl) rfl rfl rfl ?_
        refine L.op1 rfl rfl (GSpec.plain rfl (spec_assign rfl (Get.tmp rfl))) ?_
        refine L.nil ?_
        refine N.thenW ?_
        refine W.keep (.cons (t := 10) rfl (.cons (t := 11) rfl (.cons (t := 12) rfl (.cons (t := 13) rfl .nil)))) .refl ?_
        refine W.seq ?_
        refine W.region ?_
        refine L.op1 rfl rfl (GSpec.plain rfl (spec_loadW (k := 1) rfl Tryd.isAgg25 Tryd.sizeOf25 (Get.tmp rfl) rfl rfl)) ?_
        refine L.op1 rfl rfl (GSpec.plain rfl (spec_loadW (k := 0) rfl Tryd.isAgg25 Tryd.sizeOf25 (Get.tmp rfl) rfl rfl)) ?_
        refine L.op1 rfl rfl (GSpec.plain rfl (spec_call rfl Tryd.call22 (sameC_ok _ _) (.cons (Get.tmp rfl) (.cons (Get.tmp rfl) .nil)))) ?_
        refine L.op1 rfl rfl (GSpec.plain rfl (spec_move rfl (Get.tmp rfl))) ?_
        refine L.op1 rfl rfl (GSpec.guard rfl rfl rfl fun hg => (spec_move rfl (Get.tmp rfl))) ?_
        refine L.op1 rfl rfl (GSpec.guard rfl rfl rfl fun hg => (spec_move rfl (Get.tmp rfl))) ?_
        refine L.op1 rfl rfl (GSpec.guard rfl rfl rfl fun hg => (spec_eql rfl (Get.opt rfl hg) (Get.opt rfl hg))) ?_
        refine L.op1 rfl rfl (GSpec.plain rfl (spec_and rfl (Get.tmp rfl) (fun hb => (Get.opt rfl hb)))) ?_
        refine L.op1 rfl rfl (GSpec.plain rfl (spec_move rfl (Get.tmp rfl))) ?_
        refine L.op1 rfl rfl (GSpec.guard rfl rfl rfl fun hg => (spec_callG (k := 2) rfl Tryd.call10 rfl (awake_ok ) .nil)) ?_
        refine L.op1 rfl rfl (GSpec.plain rfl (spec_and rfl (Get.tmp rfl) (fun hb => (Get.opt rfl hb)))) ?_
        refine L.op1 rfl rfl (GSpec.plain rfl (spec_assign rfl (Get.tmp rfl))) ?_
        refine L.nil ?_
        refine N.thenW ?_
        refine W.keep (.cons (t := 4) rfl .nil) .refl ?_
        refine W.ret ?_
        refine N.ret () rfl (.tmp (t := 4) (Get.tmp rfl) .nil) (res1 (eqB ?_)) .nil (fun _ _ h => h)
        rw [hls]; simp

end Go.Proofs.YtcabngjnmipflaaDoor
/- The order of the classes does not matter. -/
set_option linter.unusedSimpArgs false
set_option linter.unusedVariables false
namespace Go.Proofs.YtcabngjnmipflaaDoor
open Go.Sim
theorem getD_lt {α : Type} [Inhabited α] {l : List α} {i : Nat} (h : i < l.length) : l.getD i default = l[i] := by simp [List.getD, h]
theorem rep_nodup {α : Type} [Inhabited α] {nm : α → List UInt8} {l : List α} : repB nm l = false ↔ (l.map nm).Nodup := by
  unfold List.Nodup
  rw [List.pairwise_iff_getElem]
  constructor
  · intro h i j hi hj hij
    simp only [List.length_map] at hi hj
    have := rep_ne h j hj i hij
    rw [getD_lt hj, getD_lt hi] at this
    simp only [List.getElem_map]
    exact fun e => this e.symm
  · intro h
    refine rep_no fun i hi k hk e => ?_
    have := h k i (by simp; omega) (by simpa using hi) hk
    rw [getD_lt hi, getD_lt (show k < l.length by omega)] at e
    simp only [List.getElem_map] at this
    exact this e.symm
def Uniq (src : List Cl) : Prop := ∀ a ∈ src, ∀ b ∈ src, a.name = b.name → a = b
theorem uniq_of {src : List Cl} (h : repB Cl.name src = false) : Uniq src := by
  intro a ha b hb e
  obtain ⟨i, hi, rfl⟩ := mem_getD ha
  obtain ⟨k, hk, rfl⟩ := mem_getD hb
  rcases Nat.lt_trichotomy i k with h1 | h1 | h1
  · exact absurd e.symm (rep_ne h k hk i h1)
  · rw [h1]
  · exact absurd e (rep_ne h i hi k h1)
theorem find_is {src : List Cl} (h : Uniq src) {c : Cl} (hc : c ∈ src) : findC src c.name = (c, true) := by
  rcases find_cases src c.name with ⟨i, h1, h2, _, h4⟩ | ⟨h1, h4⟩
  · rw [h4, h _ (getD_mem' h1) c hc h2]
  · obtain ⟨i, hi, e⟩ := mem_getD hc
    exact absurd (by rw [e]) (h1 i hi)
theorem find_none {src : List Cl} {s : List UInt8} (h : ∀ c ∈ src, c.name ≠ s) : findC src s = (default, false) := find_no fun j hj => h _ (getD_mem' hj)
theorem find_same {src t : List Cl} (h : Uniq src) (hm : ∀ x, x ∈ src ↔ x ∈ t) (s : List UInt8) : findC t s = findC src s := by
  have ht : Uniq t := fun a ha b hb e => h a ((hm a).2 ha) b ((hm b).2 hb) e
  by_cases hs : ∃ c ∈ src, c.name = s
  · obtain ⟨c, hc, rfl⟩ := hs
    rw [find_is h hc, find_is ht ((hm c).1 hc)]
  · rw [find_none fun c hc e => hs ⟨c, hc, e⟩, find_none fun c hc e => hs ⟨c, (hm c).2 hc, e⟩]
theorem chn_same {src t : List Cl} (h : ∀ s, findC t s = findC src s) : ∀ (n : Nat) (c : Cl), chn t n c = chn src n c
  | 0, c => rfl
  | n + 1, c => by rw [chn, chn, h, chn_same h n]
theorem anc_same {src t : List Cl} (h : ∀ s, findC t s = findC src s) (hl : t.length = src.length) (c : Cl) : ancE t c = ancE src c := by
  unfold ancE; rw [hl, chn_same h]
theorem good_perm {src t : List Cl} (hp : src.Perm t) (h : Good src) : Good t := by
  have hm : ∀ x, x ∈ src ↔ x ∈ t := fun x => hp.mem_iff
  have hf := find_same (uniq_of h.rep) hm
  have ha := anc_same hf hp.length_eq.symm
  exact ⟨by rw [← hp.length_eq]; exact h.n, fun c hc => h.v c ((hm c).2 hc), rep_nodup.2 ((hp.map Cl.name).nodup_iff.1 (rep_nodup.1 h.rep)),
    fun c hc => by have := h.lost c ((hm c).2 hc); unfold lostB at this ⊢; rw [hf]; exact this, fun c hc => by rw [ha]; exact h.anc c ((hm c).2 hc),
    fun c hc => by unfold clashC; rw [ha]; exact h.clash c ((hm c).2 hc), fun c hc => by unfold largeC; rw [ha]; exact h.large c ((hm c).2 hc)⟩
def turnE (src : List Cl) (n : Nat) : List Cl := src.drop n ++ src.take n
theorem turn_perm (src : List Cl) (n : Nat) : src.Perm (turnE src n) := by
  have := List.perm_append_comm (l₁ := src.take n) (l₂ := src.drop n)
  rwa [List.take_append_drop] at this
theorem turn_line (src : List Cl) (n : Nat) (s : List UInt8) : (lineE src s).2 = 0 ∧ lineE (turnE src n) s = lineE src s ∨ (lineE src s).2 ≠ 0 ∧ (lineE (turnE src n) s).2 ≠ 0 := by
  have hp := turn_perm src n
  by_cases hg : Good src
  · have hg' := good_perm hp hg
    have hf := find_same (uniq_of hg.rep) (fun x => hp.mem_iff)
    have ha := anc_same hf hp.length_eq.symm
    have e : lineE (turnE src n) s = lineE src s := by
      unfold lineE
      rw [(good_iff _).2 hg, (good_iff _).2 hg', hf, ha]
    by_cases h0 : (lineE src s).2 = 0
    · exact .inl ⟨h0, e⟩
    · exact .inr ⟨h0, by rw [e]; exact h0⟩
  · refine .inr ⟨?_, ?_⟩
    · have h1 : checkE src ≠ 0 := fun h => hg ((good_iff _).1 h)
      unfold lineE; rw [if_pos h1]; exact h1
    · have h1 : checkE (turnE src n) ≠ 0 := fun h => hg (good_perm hp.symm ((good_iff _).1 h))
      unfold lineE; rw [if_pos h1]; exact h1
theorem turn_flat (src : List Cl) (n : Nat) (s : List UInt8) : flatL (lineE (turnE src n) s) = flatL (lineE src s) ∧ decide ((lineE (turnE src n) s).2 = 0) = decide ((lineE src s).2 = 0) := by
  rcases turn_line src n s with ⟨h1, h2⟩ | ⟨h1, h2⟩
  · rw [h2]; exact ⟨rfl, rfl⟩
  · unfold flatL
    rw [if_pos h1, if_pos h2]
    exact ⟨rfl, by rw [decide_eq_false h1, decide_eq_false h2]⟩
theorem turn_ok {src : List Cl} (h : ∀ c ∈ src, ClOk c) (n : Nat) : ∀ c ∈ turnE src n, ClOk c := fun c hc => h c ((turn_perm src n).mem_iff.2 hc)
end Go.Proofs.YtcabngjnmipflaaDoor
set_option linter.unusedSimpArgs false
set_option maxRecDepth 8000
set_option linter.unusedVariables false
namespace Go.Proofs.YtcabngjnmipflaaDoor
open Go.Sim
theorem classTurns_ok (src : List Cl) (s : List UInt8) (k : Int) (hok : ∀ c ∈ src, ClOk c) : CallT Tryd.prog 5 [Rp.slice eC src, Rp.str s, Rp.int .u8 k] [kwG] (.one (Rp.bool true)) := by
  refine W.enter (fn := Tryd.f5) (n := 60) Tryd.func5 rfl Tryd.ntmps5 rfl (fun w₀ C₀ => ?_)
  simp only [argS]
  refine W.fact 2 rfl int_fact fun hk => ?_
  simp only [InR] at hk
  refine W.seq ?_
  refine W.region ?_
  refine L.op1 rfl rfl (GSpec.plain rfl (spec_assign rfl Get.cbool)) ?_
  refine L.nil ?_
  refine N.thenW ?_
  refine W.seq ?_
  refine W.seq ?_
  refine W.region ?_
  refine L.op1 rfl rfl (GSpec.plain rfl (spec_move rfl (Get.tmp rfl))) ?_
  refine L.op rfl rfl (GSpec.plain rfl (spec_call rfl Tryd.call17 (few_ok _) (.cons (Get.tmp rfl) .nil))) (fun b14 => ?_)
  try dsimp only
  refine L.op1 rfl rfl (GSpec.plain rfl (spec_not rfl (Get.tmp rfl))) ?_
  refine L.op1 rfl rfl (GSpec.plain rfl (spec_move rfl (Get.tmp rfl))) ?_
  refine L.op1 rfl rfl (GSpec.guard rfl rfl rfl fun hg => (spec_move rfl (Get.tmp rfl))) ?_
  refine L.op1 rfl rfl (GSpec.guard rfl rfl rfl fun hg => (spec_len rfl Tryd.underlying38 (Get.opt rfl hg))) ?_
  refine L.op1 rfl rfl (GSpec.guard rfl rfl rfl fun hg => (spec_eql rfl (Get.opt rfl hg) (Get.cint rfl))) ?_
  refine L.op1 rfl rfl (GSpec.plain rfl (spec_or rfl (Get.tmp rfl) (fun hb => (Get.opt rfl hb)))) ?_
  refine L.nil ?_
  refine N.thenW ?_
  refine W.cond (Get.tmp rfl) (fun h1 => ?_) (fun h1 => ?_)
  · have ph1 := h1; try simp only [decide_eq_true_eq, decide_eq_false_iff_not, Bool.and_eq_true, Bool.or_eq_true, Bool.and_eq_false_iff, Bool.or_eq_false_iff, Bool.not_eq_true', Bool.not_eq_false', Bool.not_true, Bool.not_false, Int.not_lt, Int.not_le] at ph1
    refine W.seq ?_
    refine W.region ?_
    refine L.op1 rfl rfl (GSpec.plain rfl (spec_callG (k := 0) rfl Tryd.call10 rfl (awake_ok ) .nil)) ?_
    refine L.op1 rfl rfl (GSpec.plain rfl (spec_assign rfl (Get.tmp rfl))) ?_
    refine L.nil ?_
    refine N.thenW ?_
    refine W.keep (.cons (t := 0) rfl (.cons (t := 1) rfl (.cons (t := 2) rfl (.cons (t := 6) rfl .nil)))) .refl ?_
    refine W.ret ?_
    refine N.ret () rfl (.tmp (t := 6) (Get.tmp rfl) .nil) (res1 (eqB ?_)) .nil (fun _ _ h => h)
    rfl
  · have h20 : b14.1 = true ∧ src.length ≠ 0 := by have h := h1; simp only [Bool.or_eq_false_iff, Bool.not_eq_false', decide_eq_false_iff_not] at h; exact ⟨by simpa using h.1, by have := h.2; omega⟩
    have h40 := b14.2 h20.1
    refine W.skip ?_
    refine N.thenW ?_
    refine W.seq ?_
    refine W.region ?_
    refine L.op1 rfl rfl (GSpec.plain rfl (spec_move rfl (Get.tmp rfl))) ?_
    first | refine L.op1 rfl rfl (GSpec.plain rfl (fit_i64 (by (first | omega | (simp only [List.length_append, List.length_take, List.length_drop, List.length_nil, Int.toNat_natCast]; omega))) (by (first | omega | (simp only [List.length_append, List.length_take, List.length_drop, List.length_nil, Int.toNat_natCast]; omega))) (spec_conv rfl Tryd.underlying3 ⟨_, Tryd.underlying5⟩ (Get.tmp rfl)))) ?_ | refine L.op1 rfl rfl (GSpec.plain rfl (spec_conv rfl Tryd.underlying3 ⟨_, Tryd.underlying5⟩ (Get.tmp rfl))) ?_
    refine L.op1 rfl rfl (GSpec.plain rfl (spec_move rfl (Get.tmp rfl))) ?_
    refine L.op1 rfl rfl (GSpec.plain rfl (spec_len rfl Tryd.underlying38 (Get.tmp rfl))) ?_
    first | refine L.op1 rfl rfl (GSpec.plain rfl (spec_remP rfl (Get.tmp rfl) (Get.tmp rfl) (by (first | omega | (simp only [List.length_append, List.length_take, List.length_drop, List.length_nil, Int.toNat_natCast]; omega))) (by (first | omega | (simp only [List.length_append, List.length_take, List.length_drop, List.length_nil, Int.toNat_natCast]; omega))))) ?_ | refine L.op1 rfl rfl (GSpec.plain rfl (spec_rem rfl (Get.tmp rfl) (Get.tmp rfl) (by (first | omega | (simp only [List.length_append, List.length_take, List.length_drop, List.length_nil, Int.toNat_natCast]; omega))))) ?_
    refine L.op1 rfl rfl (GSpec.plain rfl (spec_assign rfl (Get.tmp rfl))) ?_
    refine L.nil ?_
    refine N.thenW ?_
    obtain ⟨q, hq⟩ : ∃ q : Nat, k % ((src.length : Nat) : Int) = (q : Int) := ⟨_, (Int.toNat_of_nonneg (Int.emod_nonneg k (by omega))).symm⟩
    have hq2 := Int.emod_lt_of_pos k (show (0 : Int) < ((src.length : Nat) : Int) by omega)
    rw [hq] at hq2 ⊢
    refine W.keep (.cons (t := 0) rfl (.cons (t := 1) rfl (.cons (t := 6) rfl (.cons (t := 7) rfl .nil)))) .refl ?_
    refine W.seq ?_
    refine W.region ?_
    refine L.op1 rfl rfl (GSpec.plain rfl (spec_assign rfl Get.cval)) ?_
    refine L.nil ?_
    refine N.thenW ?_
    refine W.nil 25 4 eC ?_
    refine W.seq ?_
    refine W.region ?_
    refine L.op1 rfl rfl (GSpec.plain rfl (spec_move rfl (Get.tmp rfl))) ?_
    refine L.op1 rfl rfl (GSpec.plain rfl (spec_move rfl (Get.tmp rfl))) ?_
    refine L.op1 rfl rfl (GSpec.plain rfl (spec_move rfl (Get.tmp rfl))) ?_
    refine L.op1 rfl rfl (GSpec.plain rfl (spec_slice (E := eC) rfl Tryd.underlying38 Tryd.sizeOf25 (fun _ => rfl) (Get.tmp rfl) (.some (Get.tmp rfl) (by (first | omega | (simp only [List.length_append, List.length_take, List.length_drop, List.length_nil, Int.toNat_natCast]; omega)))) .none (by (first | omega | (simp only [List.length_append, List.length_take, List.length_drop, List.length_nil, Int.toNat_natCast]; omega))))) ?_
    refine L.append (k := 0) (E := eC) rfl rfl rfl rfl Tryd.underlying38 ti25 rfl (by decide) (fun _ => rfl) (Get.tmp rfl) (Get.tmp rfl) rfl (by (first | omega | (simp; omega))) (by (first | omega | (simp; omega))) (fun v31 => ?_)
    refine L.op1 rfl rfl (GSpec.plain rfl (spec_assign rfl (Get.tmp rfl))) ?_
    refine L.nil ?_
    refine N.thenW ?_
    refine W.keep (.cons (t := 0) rfl (.cons (t := 1) rfl (.cons (t := 6) rfl (.cons (t := 7) rfl (.cons (t := 8) rfl .nil))))) .refl ?_
    refine W.seq ?_
    refine W.region ?_
    refine L.op1 rfl rfl (GSpec.plain rfl (spec_move rfl (Get.tmp rfl))) ?_
    refine L.op1 rfl rfl (GSpec.plain rfl (spec_move rfl (Get.tmp rfl))) ?_
    refine L.op1 rfl rfl (GSpec.plain rfl (spec_move rfl (Get.tmp rfl))) ?_
    refine L.op1 rfl rfl (GSpec.plain rfl (spec_slice (E := eC) rfl Tryd.underlying38 Tryd.sizeOf25 (fun _ => rfl) (Get.tmp rfl) .none (.some (Get.tmp rfl) (by (first | omega | (simp only [List.length_append, List.length_take, List.length_drop, List.length_nil, Int.toNat_natCast]; omega)))) (by (first | omega | (simp only [List.length_append, List.length_take, List.length_drop, List.length_nil, Int.toNat_natCast]; omega))))) ?_
    refine L.append (k := 0) (E := eC) rfl rfl rfl rfl Tryd.underlying38 ti25 rfl (by decide) (fun _ => rfl) (Get.tmp rfl) (Get.tmp rfl) rfl (by (first | omega | (simp; omega))) (by (first | omega | (simp; omega))) (fun v36 => ?_)
    refine L.op1 rfl rfl (GSpec.plain rfl (spec_assign rfl (Get.tmp rfl))) ?_
    refine L.nil ?_
    refine N.thenW ?_
    rw [show [] ++ List.take (src.length - ((q : Nat) : Int).toNat) (List.drop ((q : Nat) : Int).toNat src) ++ List.take (((q : Nat) : Int).toNat - 0) (List.drop 0 src) = turnE src q from by unfold turnE; simp; exact List.take_of_length_le (by simp)]
    refine W.pub (t := 8) (k := 0) rfl rfl (fun _ => rfl) ?_
    refine W.keep (.cons (t := 0) rfl (.cons (t := 1) rfl (.cons (t := 6) rfl (.cons (t := 8) rfl .nil)))) .refl ?_
    refine W.seq ?_
    refine W.region ?_
    refine L.op1 rfl rfl (GSpec.plain rfl (spec_move rfl (Get.tmp rfl))) ?_
    refine L.op1 rfl rfl (GSpec.plain rfl (spec_move rfl (Get.tmp rfl))) ?_
    refine L.op1 rfl rfl (GSpec.plain rfl (spec_callG (k := 0) rfl Tryd.call20 rfl (FlattenX_ok _ _ (by assumption)) (.cons (Get.tmp rfl) (.cons (Get.tmp rfl) .nil)))) ?_
    refine L.op1 rfl rfl (GSpec.plain rfl (spec_move rfl (Get.tmp rfl))) ?_
    refine L.op1 rfl rfl (GSpec.plain rfl (spec_extract rfl (Get.tmp rfl) rfl)) ?_
    refine L.op1 rfl rfl (GSpec.plain rfl (spec_extract rfl (Get.tmp rfl) rfl)) ?_
    refine L.box rfl rfl (GSpec.plain rfl (spec_alloc rfl ti25 z25)) (fun r9 => ?_)
    refine L.storeW (k := 0) rfl rfl rfl Tryd.sizeOf25 (Get.tmp rfl) (Get.tmp rfl) rfl rfl rfl ?_
    refine L.op1 rfl rfl (GSpec.plain rfl (spec_assign rfl (Get.tmp rfl))) ?_
    refine L.nil ?_
    refine N.thenW ?_
    refine W.keep (.cons (t := 1) rfl (.cons (t := 6) rfl (.cons (t := 8) rfl (.cons (t := 9) rfl (.cons (t := 10) rfl .nil))))) .refl ?_
    refine W.seq ?_
    refine W.region ?_
    refine L.op1 rfl rfl (GSpec.plain rfl (spec_move rfl (Get.tmp rfl))) ?_
    refine L.op1 rfl rfl (GSpec.plain rfl (spec_move rfl (Get.tmp rfl))) ?_
    refine L.op1 rfl rfl (GSpec.plain rfl (spec_callG (k := 1) rfl Tryd.call20 rfl (FlattenX_ok _ _ (turn_ok hok q)) (.cons (Get.tmp rfl) (.cons (Get.tmp rfl) .nil)))) ?_
    refine L.op1 rfl rfl (GSpec.plain rfl (spec_move rfl (Get.tmp rfl))) ?_
    refine L.op1 rfl rfl (GSpec.plain rfl (spec_extract rfl (Get.tmp rfl) rfl)) ?_
    refine L.op1 rfl rfl (GSpec.plain rfl (spec_extract rfl (Get.tmp rfl) rfl)) ?_
    refine L.box rfl rfl (GSpec.plain rfl (spec_alloc rfl ti25 z25)) (fun r11 => ?_)
    refine L.storeW (k := 0) rfl rfl rfl Tryd.sizeOf25 (Get.tmp rfl) (Get.tmp rfl) rfl rfl rfl ?_
    refine L.op1 rfl rfl (GSpec.plain rfl (spec_assign rfl (Get.tmp rfl))) ?_
    refine L.nil ?_
    refine N.thenW ?_
    refine W.keep (.cons (t := 6) rfl (.cons (t := 9) rfl (.cons (t := 10) rfl (.cons (t := 11) rfl (.cons (t := 12) rfl .nil))))) .refl ?_
    refine W.seq ?_
    refine W.seq ?_
    refine W.region ?_
    refine L.op1 rfl rfl (GSpec.plain rfl (spec_move rfl (Get.tmp rfl))) ?_
    refine L.op1 rfl rfl (GSpec.plain rfl (spec_eql rfl (Get.tmp rfl) (Get.cint rfl))) ?_
    refine L.op1 rfl rfl (GSpec.plain rfl (spec_move rfl (Get.tmp rfl))) ?_
    refine L.op1 rfl rfl (GSpec.plain rfl (spec_eql rfl (Get.tmp rfl) (Get.cint rfl))) ?_
    refine L.op1 rfl rfl (GSpec.plain rfl (spec_neqB rfl Tryd.underlying4 (Get.tmp rfl) (Get.tmp rfl))) ?_
    refine L.nil ?_
    refine N.thenW ?_
    refine W.keep (.cons (t := 6) rfl (.cons (t := 9) rfl (.cons (t := 11) rfl (.cons (t := 53) rfl .nil)))) .refl ?_
    refine W.cond (Get.tmp rfl) (fun h2 => ?_) (fun h2 => ?_)
    · have ph2 := h2; try simp only [decide_eq_true_eq, decide_eq_false_iff_not, Bool.and_eq_true, Bool.or_eq_true, Bool.and_eq_false_iff, Bool.or_eq_false_iff, Bool.not_eq_true', Bool.not_eq_false', Bool.not_true, Bool.not_false, Int.not_lt, Int.not_le] at ph2
      refine W.seq ?_
      refine W.region ?_
      refine L.op1 rfl rfl (GSpec.plain rfl (spec_assign rfl Get.cbool)) ?_
      refine L.nil ?_
      refine N.thenW ?_
      refine W.ret ?_
      refine N.ret () rfl (.tmp (t := 6) (Get.tmp rfl) .nil) (res1 (eqB ?_)) .nil (fun _ _ h => h)
      exfalso; rw [(turn_flat src q s).2] at h2; simp at h2
    · have ph2 := h2; try simp only [decide_eq_true_eq, decide_eq_false_iff_not, Bool.and_eq_true, Bool.or_eq_true, Bool.and_eq_false_iff, Bool.or_eq_false_iff, Bool.not_eq_true', Bool.not_eq_false', Bool.not_true, Bool.not_false, Int.not_lt, Int.not_le] at ph2
      refine W.skip ?_
      refine N.thenW ?_
      refine W.seq ?_
      refine W.region ?_
      refine L.op1 rfl rfl (GSpec.plain rfl (spec_loadW (k := 1) rfl Tryd.isAgg25 Tryd.sizeOf25 (Get.tmp rfl) rfl rfl)) ?_
      refine L.op1 rfl rfl (GSpec.plain rfl (spec_loadW (k := 0) rfl Tryd.isAgg25 Tryd.sizeOf25 (Get.tmp rfl) rfl rfl)) ?_
      refine L.op1 rfl rfl (GSpec.plain rfl (spec_call rfl Tryd.call22 (sameC_ok _ _) (.cons (Get.tmp rfl) (.cons (Get.tmp rfl) .nil)))) ?_
      refine L.op1 rfl rfl (GSpec.plain rfl (spec_move rfl (Get.tmp rfl))) ?_
      refine L.op1 rfl rfl (GSpec.guard rfl rfl rfl fun hg => (spec_callG (k := 2) rfl Tryd.call10 rfl (awake_ok ) .nil)) ?_
      refine L.op1 rfl rfl (GSpec.plain rfl (spec_and rfl (Get.tmp rfl) (fun hb => (Get.opt rfl hb)))) ?_
      refine L.op1 rfl rfl (GSpec.plain rfl (spec_assign rfl (Get.tmp rfl))) ?_
      refine L.nil ?_
      refine N.thenW ?_
      refine W.keep (.cons (t := 6) rfl .nil) .refl ?_
      refine W.ret ?_
      refine N.ret () rfl (.tmp (t := 6) (Get.tmp rfl) .nil) (res1 (eqB ?_)) .nil (fun _ _ h => h)
      rw [(turn_flat src q s).1]; simp

end Go.Proofs.YtcabngjnmipflaaDoor
/- A flat class is a source of its own. -/
set_option linter.unusedSimpArgs false
set_option linter.unusedVariables false
namespace Go.Proofs.YtcabngjnmipflaaDoor
open Go.Sim
structure VC (c : Cl) : Prop where
  name : nameB c.name = true
  parent : c.parent = [] ∨ nameB c.parent = true
  nf : c.fields.length ≤ 16
  nb : c.blocks.length ≤ 16
  fs : ∀ f ∈ c.fields, validF f = 0
  bs : ∀ b ∈ c.blocks, nameB b.name = true
  uf : (c.fields.map Fd.name).Nodup
  ub : (c.blocks.map Bk.name).Nodup
theorem valid_iff (c : Cl) : validC c = 0 ↔ VC c := by
  constructor
  · intro h
    unfold validC at h
    split at h; · cases h
    rename_i h1
    split at h; · cases h
    rename_i h2
    split at h; · rename_i h3; exact absurd h h3
    rename_i h3
    split at h; · cases h
    rename_i h4
    split at h; · cases h
    rename_i h5
    have hn : nameB c.name = true := by
      cases hx : nameB c.name with
      | true => rfl
      | false => exact absurd (.inl hx) h1
    have hp : c.parent = [] ∨ nameB c.parent = true := by
      by_cases hx : c.parent = []
      · exact .inl hx
      · cases hy : nameB c.parent with
        | true => exact .inr rfl
        | false => exact absurd (.inr ⟨hx, hy⟩) h1
    have hf : repB Fd.name c.fields = false := by
      cases hx : repB Fd.name c.fields with
      | false => rfl
      | true => exact absurd (.inl hx) h5
    have hb : repB Bk.name c.blocks = false := by
      cases hx : repB Bk.name c.blocks with
      | false => rfl
      | true => exact absurd (.inr hx) h5
    exact ⟨hn, hp, by omega, by omega, firstE_ok (Classical.byContradiction fun hx => h3 hx), fun b hb2 => by have := any_false (Bool.eq_false_iff.2 h4) b hb2; simpa using this, rep_nodup.1 hf, rep_nodup.1 hb⟩
  · intro h
    unfold validC
    rw [if_neg (by rintro (h1 | ⟨h1, h2⟩); rw [h.name] at h1; cases h1; rcases h.parent with h3 | h3; exact h1 h3; rw [h3] at h2; cases h2),
      if_neg (by have := h.nf; have := h.nb; omega), if_neg (by rw [firstE_none fun j hj => h.fs _ (getD_mem' hj)]; simp),
      if_neg (by rw [List.any_eq_true]; rintro ⟨b, hb, e⟩; rw [h.bs b hb] at e; cases e),
      if_neg (by rw [rep_nodup.2 h.uf, rep_nodup.2 h.ub]; simp)]
theorem flF_mem {l : List Cl} {f : Fd} (h : f ∈ flF l) : ∃ c ∈ l, f ∈ c.fields := by
  unfold flF at h
  simpa using h
theorem extB_mem {bs : List Bk} {b x : Bk} (h : x ∈ extB bs b) : x ∈ bs ∨ x = b := by
  unfold extB at h
  split at h
  · exact List.mem_or_eq_of_mem_set h
  · simpa using h
theorem extA_mem {l : List Bk} : ∀ {bs : List Bk} {x : Bk}, x ∈ extA bs l → x ∈ bs ∨ x ∈ l := by
  induction l with
  | nil => intro bs x h; exact .inl h
  | cons b l ih =>
    intro bs x h
    rcases ih (bs := extB bs b) h with h | h
    · rcases extB_mem h with h | h
      · exact .inl h
      · exact .inr (by rw [h]; exact List.mem_cons_self)
    · exact .inr (List.mem_cons_of_mem _ h)
theorem flB_mem {l : List Cl} {b : Bk} (h : b ∈ flB l) : ∃ c ∈ l, b ∈ c.blocks := by
  induction l with
  | nil => simp [flB] at h
  | cons c l ih =>
    rw [flB_cons] at h
    rcases extA_mem h with h | h
    · obtain ⟨d, h1, h2⟩ := ih h; exact ⟨d, List.mem_cons_of_mem _ h1, h2⟩
    · exact ⟨c, List.mem_cons_self, h⟩
theorem blk_at {bs : List Bk} {s : List UInt8} (h : 0 ≤ blkI bs s) : ∃ hi : (blkI bs s).toNat < bs.length, (bs[(blkI bs s).toNat]).name = s := by
  unfold blkI at h ⊢
  rcases idx_cases (fun b : Bk => b.name == s) bs with ⟨i, h1, h2, _, h4⟩ | ⟨_, h4⟩
  · rw [h4] at h ⊢
    refine ⟨by simpa using h1, ?_⟩
    have := beq_iff_eq.1 h2
    rw [getD_lt h1] at this
    simpa using this
  · rw [h4] at h; omega
theorem blk_no {bs : List Bk} {s : List UInt8} (h : ¬ 0 ≤ blkI bs s) : s ∉ bs.map Bk.name := by
  unfold blkI at h
  rcases idx_cases (fun b : Bk => b.name == s) bs with ⟨i, h1, h2, _, h4⟩ | ⟨h1, h4⟩
  · rw [h4] at h; omega
  · intro hm
    obtain ⟨b, hb, e⟩ := List.mem_map.1 hm
    obtain ⟨i, hi, e2⟩ := mem_getD hb
    have := h1 i hi
    rw [e2, e] at this; simp at this
theorem extB_names (bs : List Bk) (b : Bk) : (extB bs b).map Bk.name = if 0 ≤ blkI bs b.name then bs.map Bk.name else bs.map Bk.name ++ [b.name] := by
  unfold extB
  split
  · rename_i h
    obtain ⟨hi, e⟩ := blk_at h
    rw [List.map_set]
    refine List.ext_getElem (by simp) fun i h1 h2 => ?_
    by_cases hx : (blkI bs b.name).toNat = i
    · subst hx; simp [e]
    · rw [List.getElem_set_ne hx]
  · simp
theorem extB_nodup {bs : List Bk} {b : Bk} (h : (bs.map Bk.name).Nodup) : ((extB bs b).map Bk.name).Nodup := by
  rw [extB_names]
  split
  · exact h
  · rename_i hn
    rw [List.nodup_append]
    refine ⟨h, by simp, fun x hx y hy e => ?_⟩
    simp only [List.mem_singleton] at hy
    subst hy; subst e
    exact blk_no hn hx
theorem extA_nodup {l : List Bk} : ∀ {bs : List Bk}, (bs.map Bk.name).Nodup → ((extA bs l).map Bk.name).Nodup := by
  induction l with
  | nil => intro bs h; exact h
  | cons b l ih => intro bs h; exact ih (bs := extB bs b) (extB_nodup h)
theorem flB_nodup (l : List Cl) : ((flB l).map Bk.name).Nodup := by
  induction l with
  | nil => simp [flB]
  | cons c l ih => rw [flB_cons]; exact extA_nodup ih
theorem extA_new {l : List Bk} : ∀ {bs : List Bk}, ((bs ++ l).map Bk.name).Nodup → extA bs l = bs ++ l := by
  induction l with
  | nil => intro bs h; simp [extA]
  | cons b l ih =>
    intro bs h
    have e : extB bs b = bs ++ [b] := by
      unfold extB
      rw [if_neg]
      intro hi
      obtain ⟨hlt, e⟩ := blk_at hi
      rw [List.map_append, List.nodup_append] at h
      exact h.2.2 b.name (List.mem_map.2 ⟨_, List.getElem_mem hlt, e⟩) b.name (by simp) rfl
    have := ih (bs := bs ++ [b]) (by simpa using h)
    show extA (extB bs b) l = _
    rw [e, this]; simp
theorem flF_nodup {l : List Cl} (hu : ∀ c ∈ l, (c.fields.map Fd.name).Nodup) (hc : clashL l = false) : ((flF l).map Fd.name).Nodup := by
  induction l with
  | nil => simp [flF]
  | cons c l ih =>
    rw [flF_cons, List.map_append, List.nodup_append]
    have h2 : clashL l = false ∧ clashB (flF l) c.fields = false := by
      have h : (clashL l || clashB (flF l) c.fields) = false := hc
      simpa using h
    refine ⟨ih (fun d hd => hu d (List.mem_cons_of_mem _ hd)) h2.1, hu c List.mem_cons_self, fun x hx y hy e => ?_⟩
    subst e
    obtain ⟨f, hf, ef⟩ := List.mem_map.1 hx
    obtain ⟨g, hg, eg⟩ := List.mem_map.1 hy
    have := any_false h2.2 g hg
    have h3 : hasF (flF l) g.name = true := List.any_eq_true.2 ⟨f, hf, by rw [ef, eg]; simp⟩
    rw [h3] at this; cases this
/-- The line of a class of a good source. -/
theorem line_src {src : List Cl} (hg : Good src) {c : Cl} (hc : c ∈ src) : ∀ x ∈ (ancE src c).1, x ∈ src := fun x hx => by
  rw [anc_1 (hg.anc c hc)] at hx; exact chn_src hg.lost hc hx
theorem line_head {src : List Cl} (hg : Good src) {c : Cl} (hc : c ∈ src) : ∃ r, (ancE src c).1 = c :: r := by
  rw [anc_1 (hg.anc c hc)]; exact chn_head _ _ _
theorem flat_valid {src : List Cl} (hg : Good src) {c : Cl} (hc : c ∈ src) : VC (flatC (ancE src c).1) := by
  obtain ⟨r, hr⟩ := line_head hg hc
  have hs := line_src hg hc
  have hv : ∀ x ∈ (ancE src c).1, VC x := fun x hx => (valid_iff x).1 (hg.v x (hs x hx))
  have hl := hg.large c hc
  have hcl := hg.clash c hc
  unfold largeC largeL at hl
  simp only [Bool.or_eq_false_iff, decide_eq_false_iff_not] at hl
  unfold clashC at hcl
  refine ⟨?_, .inl rfl, by show (flF (ancE src c).1).length ≤ 16; omega, by show (flB (ancE src c).1).length ≤ 16; omega, fun f hf => ?_, fun b hb => ?_, flF_nodup (fun x hx => (hv x hx).uf) hcl, flB_nodup _⟩
  · show nameB ((ancE src c).1.getD 0 default).name = true
    rw [hr]; exact ((valid_iff c).1 (hg.v c hc)).name
  · obtain ⟨x, h1, h2⟩ := flF_mem hf; exact (hv x h1).fs f h2
  · obtain ⟨x, h1, h2⟩ := flB_mem hb; exact (hv x h1).bs b h2
theorem chn_one {src : List Cl} {c : Cl} (h : c.parent = []) (n : Nat) : chn src n c = [c] := by
  cases n with
  | zero => rfl
  | succ n => rw [chn, if_pos h]
theorem alone_anc {c : Cl} (h : c.parent = []) : ancE [c] c = ([c], true) := by
  unfold ancE; rw [chn_one h, root_one, h]; rfl
theorem alone_good {c : Cl} (h : VC c) (hp : c.parent = []) : Good [c] := by
  have key : ∀ x ∈ [c], x = c := by simp
  refine ⟨by simp, fun x hx => key x hx ▸ (valid_iff c).2 h, rep_nodup.2 (by simp), fun x hx => ?_, fun x hx => ?_, fun x hx => ?_, fun x hx => ?_⟩
  · rw [key x hx]; unfold lostB; rw [hp]; simp
  · rw [key x hx, alone_anc hp]
  · rw [key x hx]; unfold clashC; rw [alone_anc hp]
    show (clashL [] || clashB (flF []) c.fields) = false
    simp [clashL, clashB, flF, hasF]
  · rw [key x hx]; unfold largeC largeL; rw [alone_anc hp]
    have h1 := h.nf; have h2 := h.nb
    have e1 : flF [c] = c.fields := by simp [flF]
    have e2 := extA_len c.blocks []
    have e3 : flB [c] = extA [] c.blocks := by rw [flB_cons]; rfl
    show (decide ((16 : Int) < (flF [c]).length) || decide ((16 : Int) < (flB [c]).length)) = false
    rw [e1, e3]
    simp only [Bool.or_eq_false_iff, decide_eq_false_iff_not]
    simp only [List.length_nil] at e2
    omega
theorem alone_flat {c : Cl} (h : VC c) (hp : c.parent = []) : flatC [c] = c := by
  have e1 : flF [c] = c.fields := by simp [flF]
  have e3 : flB [c] = c.blocks := by
    rw [flB_cons]
    show extA [] c.blocks = c.blocks
    rw [extA_new (by simpa using h.ub)]; rfl
  exact cl_ext rfl hp.symm e1 e3
theorem alone_line {c : Cl} (h : VC c) (hp : c.parent = []) : lineE [c] c.name = ([c], 0) := by
  have hf : findC [c] c.name = (c, true) := find_is (by intro a ha b hb _; simp only [List.mem_singleton] at ha hb; rw [ha, hb]) (by simp)
  unfold lineE
  rw [(good_iff _).2 (alone_good h hp), hf, alone_anc hp]; rfl
theorem line_0 {src : List Cl} {s : List UInt8} (h : (lineE src s).2 = 0) : Good src ∧ (findC src s).2 = true ∧ lineE src s = ((ancE src (findC src s).1).1, 0) := by
  unfold lineE at h ⊢
  by_cases h1 : checkE src ≠ 0
  · rw [if_pos h1] at h; exact absurd h h1
  rw [if_neg h1] at h ⊢
  cases hf : (findC src s).2 with
  | false => rw [if_pos hf] at h; cases h
  | true => rw [if_neg (by rw [hf]; simp)] at h; exact ⟨(good_iff _).1 (by simpa using h1), rfl, by simp⟩
theorem line_of {src : List Cl} (hg : Good src) {s : List UInt8} (hf : (findC src s).2 = true) : lineE src s = ((ancE src (findC src s).1).1, 0) := by
  unfold lineE; rw [(good_iff _).2 hg, if_neg (by simp), if_neg (by rw [hf]; simp)]
/-- What the law asks of the flat class. -/
structure FlatLaw (src : List Cl) (s : List UInt8) (c own : Cl) : Prop where
  ok : ClOk c
  check : checkE [c] = 0
  line : lineE [c] s = ([c], 0)
  flat : flatL (lineE [c] s) = c
  known : (findC src s).2 = true
  parent : c.parent = []
  fields : ∃ p, c.fields = p ++ own.fields
  root : own.parent = [] → c.fields = own.fields
  up : own.parent ≠ [] → (lineE src own.parent).2 = 0 ∧ c.fields = (flatL (lineE src own.parent)).fields ++ own.fields ∧ ∃ w, varsC c = varsC (flatL (lineE src own.parent)) ++ w
theorem flat_of {x : List Cl × Int} (h : x.2 = 0) : flatL x = flatC x.1 := by unfold flatL; rw [if_neg (by rw [h]; simp)]
theorem flat_law {src : List Cl} (hok : ∀ c ∈ src, ClOk c) {s : List UInt8} (h : (lineE src s).2 = 0) : FlatLaw src s (flatL (lineE src s)) (findC src s).1 := by
  obtain ⟨hg, hf, hl⟩ := line_0 h
  have hm := find_mem hf
  have hc : flatL (lineE src s) = flatC (ancE src (findC src s).1).1 := by rw [flat_of h, hl]
  rw [hc]
  have hv := flat_valid hg hm.1
  obtain ⟨r, hr⟩ := line_head hg hm.1
  have hnm : (flatC (ancE src (findC src s).1).1).name = s := by
    show ((ancE src (findC src s).1).1.getD 0 default).name = s
    rw [hr]; exact hm.2
  have hal := alone_line hv rfl
  rw [hnm] at hal
  have hfd : (flatC (ancE src (findC src s).1).1).fields = flF r ++ (findC src s).1.fields := by
    show flF (ancE src (findC src s).1).1 = _
    rw [hr, flF_cons]
  refine ⟨⟨?_, ?_, fun b hb => ?_⟩, (good_iff _).2 (alone_good hv rfl), hal, by rw [hal, flat_of rfl]; exact alone_flat hv rfl, hf, rfl, ⟨_, hfd⟩, fun hp => ?_, fun hp => ?_⟩
  · have := hv.nf; omega
  · have := hv.nb; omega
  · obtain ⟨x, h1, h2⟩ := flB_mem (show b ∈ flB (ancE src (findC src s).1).1 from hb)
    exact (hok x (line_src hg hm.1 x h1)).2.2 b h2
  · rw [hfd]
    have e := anc_1 (hg.anc _ hm.1)
    rw [chn_one hp, hr] at e
    rw [(List.cons.inj e).2]; rfl
  · obtain ⟨f1, f2⟩ := found_of hg.lost hm.1 hp
    have hlp := line_of hg f1
    have hr2 : (ancE src (findC src (findC src s).1.parent).1).1 = r := by
      have e := anc_1 (hg.anc _ hm.1)
      have hroot := hg.anc _ hm.1
      rw [anc_2] at hroot
      obtain ⟨n, hn⟩ : ∃ n, src.length = n + 1 := ⟨src.length - 1, by have := List.length_pos_of_mem hm.1; omega⟩
      rw [hr, hn, chn, if_neg hp] at e
      rw [hn, chn, if_neg hp, root_cons (chn_ne _ _ _)] at hroot
      rw [anc_1 (hg.anc _ f2), hn, chn_more hroot (by omega)]
      exact ((List.cons.inj e).2).symm
    have hpf : flatL (lineE src (findC src s).1.parent) = flatC r := by rw [hlp, flat_of rfl]; rw [hr2]
    rw [hpf]
    have hvp := flat_valid hg f2
    rw [hr2] at hvp
    refine ⟨by rw [hlp], hfd, ?_⟩
    refine ⟨(findC src s).1.fields.flatMap varsF, ?_⟩
    unfold varsC
    rw [if_neg (by rw [(valid_iff _).2 hv]; simp), if_neg (by rw [(valid_iff _).2 hvp]; simp), hfd, List.flatMap_append]; rfl
theorem tail_at {p l c : List Fd} (h : c = p ++ l) {i : Nat} (hi : i < l.length) : c.getD ((((c.length : Nat) : Int) - ((l.length : Nat) : Int) + ((i : Nat) : Int)).toNat) default = l.getD i default := by
  subst h
  rw [show ((((p ++ l).length : Nat) : Int) - ((l.length : Nat) : Int) + ((i : Nat) : Int)).toNat = p.length + i by simp only [List.length_append]; omega]
  simp [List.getD, List.getElem?_append_right]
theorem front_at {p w c : List Vr} (h : c = p ++ w) {i : Nat} (hi : i < p.length) : c.getD i default = p.getD i default := by
  subst h
  simp [List.getD, List.getElem?_append_left hi]
theorem len_app {α : Type} {c p l : List α} (h : c = p ++ l) : c.length = p.length + l.length := by rw [h, List.length_append]
end Go.Proofs.YtcabngjnmipflaaDoor
