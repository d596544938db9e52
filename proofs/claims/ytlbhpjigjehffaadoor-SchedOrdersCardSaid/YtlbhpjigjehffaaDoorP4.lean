/- Lemmas for the claim, part 4: rules for walks, contracts of functions, the data they compute. No conditions. -/
import Derived.Test.YtlbhpjigjehffaaDoorP3
set_option linter.unusedSimpArgs false
set_option maxRecDepth 8000
set_option linter.unusedVariables false
namespace Go.Proofs.YtlbhpjigjehffaaDoor
open Go.Sim
theorem valid_ok (j : Jb) : CallT Tryd.prog 11 [Rp.agg (eJ j)] [kwG] (.one (Rp.bool (validJ j))) := by
  refine W.enter (fn := Tryd.f11) (n := 31) Tryd.func11 rfl Tryd.ntmps11 rfl (fun w₀ C₀ => ?_)
  simp only [argS]
  refine W.seq ?_
  refine W.region ?_
  refine L.box rfl rfl (GSpec.plain rfl (spec_box rfl (GetC.agg (Get.tmp rfl)))) (fun r1 => ?_)
  refine L.op1 rfl rfl (GSpec.plain rfl (spec_assign rfl Get.cbool)) ?_
  refine L.nil ?_
  refine N.thenW ?_
  refine W.seq ?_
  refine W.region ?_
  refine L.op1 rfl rfl (GSpec.plain rfl (spec_fieldAddr (f := 0) (off' := 0) rfl Tryd.underlying28 rfl Tryd.sizeOf9 (Get.tmp rfl) rfl)) ?_
  refine L.op1 rfl rfl (GSpec.plain rfl (spec_load1 (k := 0) rfl Tryd.isAgg9 (Get.tmp rfl) rfl rfl)) ?_
  refine L.op1 rfl rfl (GSpec.plain rfl (spec_callG (k := 1) rfl Tryd.call26 rfl (isName_ok _) (.cons (Get.tmp rfl) .nil))) ?_
  refine L.op1 rfl rfl (GSpec.plain rfl (spec_move rfl (Get.tmp rfl))) ?_
  refine L.op1 rfl rfl (GSpec.guard rfl rfl rfl fun hg => (spec_fieldAddr (f := 1) (off' := 1) rfl Tryd.underlying28 rfl Tryd.sizeOf9 (Get.tmp rfl) rfl)) ?_
  refine L.op1 rfl rfl (GSpec.guard rfl rfl rfl fun hg => (spec_load1 (k := 0) rfl Tryd.isAgg9 (Get.opt rfl hg) rfl rfl)) ?_
  refine L.op1 rfl rfl (GSpec.guard rfl rfl rfl fun hg => (spec_callG (k := 1) rfl Tryd.call26 rfl (isName_ok _) (.cons (Get.opt rfl hg) .nil))) ?_
  refine L.op1 rfl rfl (GSpec.plain rfl (spec_and rfl (Get.tmp rfl) (fun hb => (Get.opt rfl hb)))) ?_
  refine L.op1 rfl rfl (GSpec.plain rfl (spec_move rfl (Get.tmp rfl))) ?_
  refine L.op1 rfl rfl (GSpec.guard rfl rfl rfl fun hg => (spec_fieldAddr (f := 3) (off' := 3) rfl Tryd.underlying28 rfl Tryd.sizeOf3 (Get.tmp rfl) rfl)) ?_
  refine L.op1 rfl rfl (GSpec.guard rfl rfl rfl fun hg => (spec_load1 (k := 0) rfl Tryd.isAgg3 (Get.opt rfl hg) rfl rfl)) ?_
  refine L.op1 rfl rfl (GSpec.guard rfl rfl rfl fun hg => (spec_geq rfl (Get.opt rfl hg) (Get.cint rfl))) ?_
  refine L.op1 rfl rfl (GSpec.plain rfl (spec_and rfl (Get.tmp rfl) (fun hb => (Get.opt rfl hb)))) ?_
  refine L.op1 rfl rfl (GSpec.plain rfl (spec_move rfl (Get.tmp rfl))) ?_
  refine L.op1 rfl rfl (GSpec.guard rfl rfl rfl fun hg => (spec_fieldAddr (f := 3) (off' := 3) rfl Tryd.underlying28 rfl Tryd.sizeOf3 (Get.tmp rfl) rfl)) ?_
  refine L.op1 rfl rfl (GSpec.guard rfl rfl rfl fun hg => (spec_load1 (k := 0) rfl Tryd.isAgg3 (Get.opt rfl hg) rfl rfl)) ?_
  refine L.op1 rfl rfl (GSpec.guard rfl rfl rfl fun hg => (spec_leq rfl (Get.opt rfl hg) (Get.cint rfl))) ?_
  refine L.op1 rfl rfl (GSpec.plain rfl (spec_and rfl (Get.tmp rfl) (fun hb => (Get.opt rfl hb)))) ?_
  refine L.op1 rfl rfl (GSpec.plain rfl (spec_move rfl (Get.tmp rfl))) ?_
  refine L.op1 rfl rfl (GSpec.guard rfl rfl rfl fun hg => (spec_fieldAddr (f := 4) (off' := 4) rfl Tryd.underlying28 rfl Tryd.sizeOf3 (Get.tmp rfl) rfl)) ?_
  refine L.op1 rfl rfl (GSpec.guard rfl rfl rfl fun hg => (spec_load1 (k := 0) rfl Tryd.isAgg3 (Get.opt rfl hg) rfl rfl)) ?_
  refine L.op1 rfl rfl (GSpec.guard rfl rfl rfl fun hg => (spec_geq rfl (Get.opt rfl hg) (Get.cint rfl))) ?_
  refine L.op1 rfl rfl (GSpec.plain rfl (spec_and rfl (Get.tmp rfl) (fun hb => (Get.opt rfl hb)))) ?_
  refine L.op1 rfl rfl (GSpec.plain rfl (spec_move rfl (Get.tmp rfl))) ?_
  refine L.op1 rfl rfl (GSpec.guard rfl rfl rfl fun hg => (spec_fieldAddr (f := 4) (off' := 4) rfl Tryd.underlying28 rfl Tryd.sizeOf3 (Get.tmp rfl) rfl)) ?_
  refine L.op1 rfl rfl (GSpec.guard rfl rfl rfl fun hg => (spec_load1 (k := 0) rfl Tryd.isAgg3 (Get.opt rfl hg) rfl rfl)) ?_
  refine L.op1 rfl rfl (GSpec.guard rfl rfl rfl fun hg => (spec_leq rfl (Get.opt rfl hg) (Get.cint rfl))) ?_
  refine L.op1 rfl rfl (GSpec.plain rfl (spec_and rfl (Get.tmp rfl) (fun hb => (Get.opt rfl hb)))) ?_
  refine L.op1 rfl rfl (GSpec.plain rfl (spec_assign rfl (Get.tmp rfl))) ?_
  refine L.nil ?_
  refine N.thenW ?_
  refine W.keep (.cons (t := 2) rfl .nil) .refl ?_
  refine W.ret ?_
  refine N.ret () rfl (.tmp (t := 2) (Get.tmp rfl) .nil) (res1 (eqB ?_)) .nil (fun _ _ h => h)
  rfl

theorem rvalid_ok (j : Jb) : CallT Tryd.prog 12 [Rp.agg (eJ j)] [] (.one (Rp.bool (validJ j))) := by
  refine W.enter (fn := Tryd.f12) (n := 31) Tryd.func12 rfl Tryd.ntmps12 rfl (fun w₀ C₀ => ?_)
  simp only [argS]
  refine W.seq ?_
  refine W.region ?_
  refine L.box rfl rfl (GSpec.plain rfl (spec_box rfl (GetC.agg (Get.tmp rfl)))) (fun r1 => ?_)
  refine L.op1 rfl rfl (GSpec.plain rfl (spec_assign rfl Get.cbool)) ?_
  refine L.nil ?_
  refine N.thenW ?_
  refine W.seq ?_
  refine W.region ?_
  refine L.op1 rfl rfl (GSpec.plain rfl (spec_fieldAddr (f := 0) (off' := 0) rfl Tryd.underlying28 rfl Tryd.sizeOf9 (Get.tmp rfl) rfl)) ?_
  refine L.op1 rfl rfl (GSpec.plain rfl (spec_load1 (k := 0) rfl Tryd.isAgg9 (Get.tmp rfl) rfl rfl)) ?_
  refine L.op1 rfl rfl (GSpec.plain rfl (spec_call rfl Tryd.call27 (isName2_ok _) (.cons (Get.tmp rfl) .nil))) ?_
  refine L.op1 rfl rfl (GSpec.plain rfl (spec_move rfl (Get.tmp rfl))) ?_
  refine L.op1 rfl rfl (GSpec.guard rfl rfl rfl fun hg => (spec_fieldAddr (f := 1) (off' := 1) rfl Tryd.underlying28 rfl Tryd.sizeOf9 (Get.tmp rfl) rfl)) ?_
  refine L.op1 rfl rfl (GSpec.guard rfl rfl rfl fun hg => (spec_load1 (k := 0) rfl Tryd.isAgg9 (Get.opt rfl hg) rfl rfl)) ?_
  refine L.op1 rfl rfl (GSpec.guard rfl rfl rfl fun hg => (spec_call rfl Tryd.call27 (isName2_ok _) (.cons (Get.opt rfl hg) .nil))) ?_
  refine L.op1 rfl rfl (GSpec.plain rfl (spec_and rfl (Get.tmp rfl) (fun hb => (Get.opt rfl hb)))) ?_
  refine L.op1 rfl rfl (GSpec.plain rfl (spec_move rfl (Get.tmp rfl))) ?_
  refine L.op1 rfl rfl (GSpec.guard rfl rfl rfl fun hg => (spec_fieldAddr (f := 3) (off' := 3) rfl Tryd.underlying28 rfl Tryd.sizeOf3 (Get.tmp rfl) rfl)) ?_
  refine L.op1 rfl rfl (GSpec.guard rfl rfl rfl fun hg => (spec_load1 (k := 0) rfl Tryd.isAgg3 (Get.opt rfl hg) rfl rfl)) ?_
  refine L.op1 rfl rfl (GSpec.guard rfl rfl rfl fun hg => (spec_geq rfl (Get.opt rfl hg) (Get.cint rfl))) ?_
  refine L.op1 rfl rfl (GSpec.plain rfl (spec_and rfl (Get.tmp rfl) (fun hb => (Get.opt rfl hb)))) ?_
  refine L.op1 rfl rfl (GSpec.plain rfl (spec_move rfl (Get.tmp rfl))) ?_
  refine L.op1 rfl rfl (GSpec.guard rfl rfl rfl fun hg => (spec_fieldAddr (f := 3) (off' := 3) rfl Tryd.underlying28 rfl Tryd.sizeOf3 (Get.tmp rfl) rfl)) ?_
  refine L.op1 rfl rfl (GSpec.guard rfl rfl rfl fun hg => (spec_load1 (k := 0) rfl Tryd.isAgg3 (Get.opt rfl hg) rfl rfl)) ?_
  refine L.op1 rfl rfl (GSpec.guard rfl rfl rfl fun hg => (spec_leq rfl (Get.opt rfl hg) (Get.cint rfl))) ?_
  refine L.op1 rfl rfl (GSpec.plain rfl (spec_and rfl (Get.tmp rfl) (fun hb => (Get.opt rfl hb)))) ?_
  refine L.op1 rfl rfl (GSpec.plain rfl (spec_move rfl (Get.tmp rfl))) ?_
  refine L.op1 rfl rfl (GSpec.guard rfl rfl rfl fun hg => (spec_fieldAddr (f := 4) (off' := 4) rfl Tryd.underlying28 rfl Tryd.sizeOf3 (Get.tmp rfl) rfl)) ?_
  refine L.op1 rfl rfl (GSpec.guard rfl rfl rfl fun hg => (spec_load1 (k := 0) rfl Tryd.isAgg3 (Get.opt rfl hg) rfl rfl)) ?_
  refine L.op1 rfl rfl (GSpec.guard rfl rfl rfl fun hg => (spec_geq rfl (Get.opt rfl hg) (Get.cint rfl))) ?_
  refine L.op1 rfl rfl (GSpec.plain rfl (spec_and rfl (Get.tmp rfl) (fun hb => (Get.opt rfl hb)))) ?_
  refine L.op1 rfl rfl (GSpec.plain rfl (spec_move rfl (Get.tmp rfl))) ?_
  refine L.op1 rfl rfl (GSpec.guard rfl rfl rfl fun hg => (spec_fieldAddr (f := 4) (off' := 4) rfl Tryd.underlying28 rfl Tryd.sizeOf3 (Get.tmp rfl) rfl)) ?_
  refine L.op1 rfl rfl (GSpec.guard rfl rfl rfl fun hg => (spec_load1 (k := 0) rfl Tryd.isAgg3 (Get.opt rfl hg) rfl rfl)) ?_
  refine L.op1 rfl rfl (GSpec.guard rfl rfl rfl fun hg => (spec_leq rfl (Get.opt rfl hg) (Get.cint rfl))) ?_
  refine L.op1 rfl rfl (GSpec.plain rfl (spec_and rfl (Get.tmp rfl) (fun hb => (Get.opt rfl hb)))) ?_
  refine L.op1 rfl rfl (GSpec.plain rfl (spec_assign rfl (Get.tmp rfl))) ?_
  refine L.nil ?_
  refine N.thenW ?_
  refine W.keep (.cons (t := 2) rfl .nil) .refl ?_
  refine W.ret ?_
  refine N.ret () rfl (.tmp (t := 2) (Get.tmp rfl) .nil) (res1 (eqB ?_)) .nil (fun _ _ h => h)
  rfl

theorem notvalid_ok (j : Jb) : CallT Tryd.prog 50 [Rp.agg (eJ j)] [kwG] (.one (Rp.bool (!validJ j))) := by
  refine W.enter (fn := Tryd.f50) (n := 6) Tryd.func50 rfl Tryd.ntmps50 rfl (fun w₀ C₀ => ?_)
  simp only [argS]
  refine W.seq ?_
  refine W.region ?_
  refine L.box rfl rfl (GSpec.plain rfl (spec_box rfl (GetC.agg (Get.tmp rfl)))) (fun r1 => ?_)
  refine L.op1 rfl rfl (GSpec.plain rfl (spec_assign rfl Get.cbool)) ?_
  refine L.nil ?_
  refine N.thenW ?_
  refine W.seq ?_
  refine W.region ?_
  refine L.op1 rfl rfl (GSpec.plain rfl (spec_loadW (k := 0) rfl Tryd.isAgg28 Tryd.sizeOf28 (Get.tmp rfl) rfl rfl)) ?_
  refine L.op1 rfl rfl (GSpec.plain rfl (spec_callG (k := 1) rfl Tryd.call11 rfl (valid_ok _) (.cons (Get.tmp rfl) .nil))) ?_
  refine L.op1 rfl rfl (GSpec.plain rfl (spec_not rfl (Get.tmp rfl))) ?_
  refine L.op1 rfl rfl (GSpec.plain rfl (spec_assign rfl (Get.tmp rfl))) ?_
  refine L.nil ?_
  refine N.thenW ?_
  refine W.keep (.cons (t := 2) rfl .nil) .refl ?_
  refine W.ret ?_
  refine N.ret () rfl (.tmp (t := 2) (Get.tmp rfl) .nil) (res1 (eqB ?_)) .nil (fun _ _ h => h)
  rfl

theorem idxJ_ok (l : List Jb) (p : Jb → Bool) : CallT Tryd.prog 59 [Rp.slice eJ l, pG p] [kwG] (.one (Rp.int .i64 (idxI p l))) := by
  refine W.enter (fn := Tryd.f59) (n := 19) Tryd.func59 rfl Tryd.ntmps59 rfl (fun w₀ C₀ => ?_)
  simp only [argS]
  refine W.fact 0 rfl slice_fact fun hl => ?_
  refine W.seq ?_
  refine W.region ?_
  refine L.op1 rfl rfl (GSpec.plain rfl (spec_assign rfl (Get.cint rfl))) ?_
  refine L.nil ?_
  refine N.thenW ?_
  refine W.seq ?_
  refine W.seq ?_
  refine W.region ?_
  refine L.op1 rfl rfl (GSpec.plain rfl (spec_move rfl (Get.tmp rfl))) ?_
  refine L.op1 rfl rfl (GSpec.plain rfl (spec_len rfl Tryd.underlying22 (Get.tmp rfl))) ?_
  refine L.op1 rfl rfl (GSpec.plain rfl (spec_move rfl (Get.cint rfl))) ?_
  refine L.nil ?_
  refine N.thenW ?_
  refine W.block ?_
  -- assigned in the loop, not kept: [4]
  refine W.loopK (σ := Nat) (.cons (t := 0) rfl (.cons (t := 1) rfl (.cons (t := 7) rfl .nil))) (fun z => [(8, Rp.int .i64 (z : Nat))]) (fun z => []) (fun z => z ≤ l.length ∧ ∀ j : Nat, j < z → p (l.getD j default) = false) (fun z => l.length - z) 0 ⟨Nat.zero_le _, fun j hj => by omega⟩ (.cons (t := 8) rfl .nil) (.cons 0 rfl .nil) ?_
  intro i hI S' M' hS hM
  obtain ⟨hI1, hI2⟩ := hI
  try dsimp only at hS hM
  simp only [List.cons_append, List.nil_append] at hS hM
  subst hS hM
  try dsimp only
  refine W.seq ?_
  refine W.region ?_
  refine L.op1 rfl rfl (GSpec.plain rfl (spec_lss rfl (Get.tmp rfl) (Get.tmp rfl))) ?_
  refine L.nil ?_
  refine N.thenW ?_
  refine W.seq ?_
  refine W.cond (Get.tmp rfl) (fun h1 => ?_) (fun h1 => ?_)
  · have ph1 := h1; try simp only [decide_eq_true_eq, decide_eq_false_iff_not, Bool.and_eq_true, Bool.or_eq_true, Bool.and_eq_false_iff, Bool.or_eq_false_iff, Bool.not_eq_true', Bool.not_eq_false', Bool.not_true, Bool.not_false, Int.not_lt, Int.not_le] at ph1
    refine W.skip ?_
    refine N.thenW ?_
    refine W.seq ?_
    refine W.block ?_
    refine W.seq ?_
    refine W.region ?_
    refine L.op1 rfl rfl (GSpec.plain rfl (spec_move rfl (Get.tmp rfl))) ?_
    refine L.op1 rfl rfl (GSpec.plain rfl (spec_assign rfl (Get.tmp rfl))) ?_
    refine L.nil ?_
    refine N.thenW ?_
    refine W.seq ?_
    refine W.region ?_
    refine L.op1 rfl rfl (GSpec.plain rfl (spec_move rfl (Get.tmp rfl))) ?_
    refine L.op1 rfl rfl (GSpec.plain rfl (spec_move rfl (Get.tmp rfl))) ?_
    refine L.op1 rfl rfl (GSpec.plain rfl (spec_move rfl (Get.tmp rfl))) ?_
    refine L.op1 rfl rfl (GSpec.plain rfl (spec_indexAddrD (E := eJ) rfl Tryd.underlying22 Tryd.sizeOf28 (fun _ => rfl) (Get.tmp rfl) (Get.tmp rfl) (by omega))) ?_
    refine L.op1 rfl rfl (GSpec.plain rfl (spec_loadPA rfl Tryd.isAgg28 Tryd.sizeOf28 (Get.tmp rfl) rfl)) ?_
    refine L.op1 rfl rfl (GSpec.plain rfl (spec_callFG (k := 0) rfl rfl (A := fun j : Jb => [Rp.agg (eJ j)]) (X := fun j : Jb => .one (Rp.bool (p j))) (l.getD i default) rfl (Get.tmp rfl) (.cons (Get.tmp rfl) .nil))) ?_
    refine L.nil ?_
    refine N.thenW ?_
    refine W.cond (Get.tmp rfl) (fun h2 => ?_) (fun h2 => ?_)
    · have ph2 := h2; try simp only [decide_eq_true_eq, decide_eq_false_iff_not, Bool.and_eq_true, Bool.or_eq_true, Bool.and_eq_false_iff, Bool.or_eq_false_iff, Bool.not_eq_true', Bool.not_eq_false', Bool.not_true, Bool.not_false, Int.not_lt, Int.not_le] at ph2
      refine W.seq ?_
      refine W.region ?_
      refine L.op1 rfl rfl (GSpec.plain rfl (spec_move rfl (Get.tmp rfl))) ?_
      refine L.op1 rfl rfl (GSpec.plain rfl (spec_assign rfl (Get.tmp rfl))) ?_
      refine L.nil ?_
      refine N.thenW ?_
      refine W.ret ?_
      refine N.ret () rfl (.tmp (t := 4) (Get.tmp rfl) .nil) (res1 (eqI ?_)) .nil (fun _ _ h => h)
      exact (idx_yes (by omega) h2 hI2).symm
    · have ph2 := h2; try simp only [decide_eq_true_eq, decide_eq_false_iff_not, Bool.and_eq_true, Bool.or_eq_true, Bool.and_eq_false_iff, Bool.or_eq_false_iff, Bool.not_eq_true', Bool.not_eq_false', Bool.not_true, Bool.not_false, Int.not_lt, Int.not_le] at ph2
      refine W.skip ?_
      refine N.blockNormal ?_
      refine N.thenW ?_
      refine W.region ?_
      first | refine L.op1 rfl rfl (GSpec.plain rfl (fit_i64 (by omega) (by omega) (spec_add rfl (Get.tmp rfl) (Get.cint rfl)))) ?_ | refine L.op1 rfl rfl (GSpec.plain rfl (spec_add rfl (Get.tmp rfl) (Get.cint rfl))) ?_
      refine L.op1 rfl rfl (GSpec.plain rfl (spec_move rfl (Get.tmp rfl))) ?_
      refine L.nil ?_
      refine N.roundK (i + 1) ?hI1 ?hmu1 ?hs1 ?hk1 ?hp1
      case hs1 => exact (.cons (t := 8) rfl .nil)
      case hk1 => exact (.cons (t := 0) rfl (.cons (t := 1) rfl (.cons (t := 7) rfl .nil)))
      case hp1 => exact (.cons 0 rfl .nil)
      case hI1 => exact ⟨by omega, upto hI2 h2⟩
      case hmu1 => omega
  · have ph1 := h1; try simp only [decide_eq_true_eq, decide_eq_false_iff_not, Bool.and_eq_true, Bool.or_eq_true, Bool.and_eq_false_iff, Bool.or_eq_false_iff, Bool.not_eq_true', Bool.not_eq_false', Bool.not_true, Bool.not_false, Int.not_lt, Int.not_le] at ph1
    refine W.exit ?_
    refine N.thenExit ?_
    refine N.thenExit ?_
    refine N.blockExit ?_
    refine N.thenW ?_
    refine W.seq ?_
    refine W.region ?_
    refine L.op1 rfl rfl (GSpec.plain rfl (spec_assign rfl (Get.cint rfl))) ?_
    refine L.nil ?_
    refine N.thenW ?_
    refine W.ret ?_
    refine N.ret () rfl (.tmp (t := 4) (Get.tmp rfl) .nil) (res1 (eqI ?_)) .nil (fun _ _ h => h)
    exact (idx_no fun j hj => hI2 j (by omega)).symm

theorem contJ_ok (l : List Jb) (p : Jb → Bool) : CallT Tryd.prog 49 [Rp.slice eJ l, pG p] [kwG] (.one (Rp.bool (l.any p))) := by
  refine W.enter (fn := Tryd.f49) (n := 9) Tryd.func49 rfl Tryd.ntmps49 rfl (fun w₀ C₀ => ?_)
  simp only [argS]
  refine W.seq ?_
  refine W.region ?_
  refine L.op1 rfl rfl (GSpec.plain rfl (spec_assign rfl Get.cbool)) ?_
  refine L.nil ?_
  refine N.thenW ?_
  refine W.seq ?_
  refine W.region ?_
  refine L.op1 rfl rfl (GSpec.plain rfl (spec_move rfl (Get.tmp rfl))) ?_
  refine L.op1 rfl rfl (GSpec.plain rfl (spec_move rfl (Get.tmp rfl))) ?_
  refine L.op1 rfl rfl (GSpec.plain rfl (spec_callG (k := 0) rfl Tryd.call59 rfl (idxJ_ok l p) (.cons (Get.tmp rfl) (.cons (Get.tmp rfl) .nil)))) ?_
  refine L.op1 rfl rfl (GSpec.plain rfl (spec_geq rfl (Get.tmp rfl) (Get.cint rfl))) ?_
  refine L.op1 rfl rfl (GSpec.plain rfl (spec_assign rfl (Get.tmp rfl))) ?_
  refine L.nil ?_
  refine N.thenW ?_
  refine W.keep (.cons (t := 4) rfl .nil) .refl ?_
  refine W.ret ?_
  refine N.ret () rfl (.tmp (t := 4) (Get.tmp rfl) .nil) (res1 (eqB ?_)) .nil (fun _ _ h => h)
  exact idx_any _ _

theorem jobs_ok_ (l : List Jb) : CallT Tryd.prog 39 [Rp.slice eJ l] [kwG] (.one (Rp.int .i64 (jobsE l))) := by
  refine W.enter (fn := Tryd.f39) (n := 10) Tryd.func39 rfl Tryd.ntmps39 rfl (fun w₀ C₀ => ?_)
  simp only [argS]
  refine W.seq ?_
  refine W.region ?_
  refine L.op1 rfl rfl (GSpec.plain rfl (spec_assign rfl (Get.cint rfl))) ?_
  refine L.nil ?_
  refine N.thenW ?_
  refine W.seq ?_
  refine W.block ?_
  refine W.seq ?_
  refine W.region ?_
  refine L.op1 rfl rfl (GSpec.plain rfl (spec_move rfl (Get.tmp rfl))) ?_
  refine L.op1 rfl rfl (GSpec.plain rfl (spec_len rfl Tryd.underlying22 (Get.tmp rfl))) ?_
  refine L.op1 rfl rfl (GSpec.plain rfl (spec_gtr rfl (Get.tmp rfl) (Get.cint rfl))) ?_
  refine L.op1 rfl rfl (GSpec.plain rfl (spec_assign rfl (Get.tmp rfl))) ?_
  refine L.nil ?_
  refine N.thenW ?_
  refine W.cond (Get.tmp rfl) (fun h1 => ?_) (fun h1 => ?_)
  · have ph1 := h1; try simp only [decide_eq_true_eq, decide_eq_false_iff_not, Bool.and_eq_true, Bool.or_eq_true, Bool.and_eq_false_iff, Bool.or_eq_false_iff, Bool.not_eq_true', Bool.not_eq_false', Bool.not_true, Bool.not_false, Int.not_lt, Int.not_le] at ph1
    refine W.seq ?_
    refine W.region ?_
    refine L.op1 rfl rfl (GSpec.plain rfl (spec_assign rfl (Get.cint rfl))) ?_
    refine L.nil ?_
    refine N.thenW ?_
    refine W.keep (.cons (t := 2) rfl .nil) .refl ?_
    refine W.ret ?_
    refine N.ret () rfl (.tmp (t := 2) (Get.tmp rfl) .nil) (res1 (eqI ?_)) .nil (fun _ _ h => h)
    unfold jobsE; rw [if_pos (by omega)]
  · have ph1 := h1; try simp only [decide_eq_true_eq, decide_eq_false_iff_not, Bool.and_eq_true, Bool.or_eq_true, Bool.and_eq_false_iff, Bool.or_eq_false_iff, Bool.not_eq_true', Bool.not_eq_false', Bool.not_true, Bool.not_false, Int.not_lt, Int.not_le] at ph1
    refine W.seq ?_
    refine W.region ?_
    refine L.op1 rfl rfl (GSpec.plain rfl (spec_move rfl (Get.tmp rfl))) ?_
    refine L.op1 rfl rfl (GSpec.plain rfl (spec_callG (k := 0) rfl Tryd.call49 rfl (contJ_ok l (fun j => !validJ j)) (.cons (Get.tmp rfl) (.cons (Get.weak Get.clo (fnM_of_clo Tryd.call50 (fun i => notvalid_ok i))) .nil)))) ?_
    refine L.op1 rfl rfl (GSpec.plain rfl (spec_assign rfl (Get.tmp rfl))) ?_
    refine L.nil ?_
    refine N.thenW ?_
    refine W.keep (.cons (t := 2) rfl (.cons (t := 7) rfl .nil)) .refl ?_
    refine W.cond (Get.tmp rfl) (fun h2 => ?_) (fun h2 => ?_)
    · have ph2 := h2; try simp only [decide_eq_true_eq, decide_eq_false_iff_not, Bool.and_eq_true, Bool.or_eq_true, Bool.and_eq_false_iff, Bool.or_eq_false_iff, Bool.not_eq_true', Bool.not_eq_false', Bool.not_true, Bool.not_false, Int.not_lt, Int.not_le] at ph2
      refine W.seq ?_
      refine W.region ?_
      refine L.op1 rfl rfl (GSpec.plain rfl (spec_assign rfl (Get.cint rfl))) ?_
      refine L.nil ?_
      refine N.thenW ?_
      refine W.ret ?_
      refine N.ret () rfl (.tmp (t := 2) (Get.tmp rfl) .nil) (res1 (eqI ?_)) .nil (fun _ _ h => h)
      unfold jobsE; rw [if_neg (by omega), if_pos h2]
    · have ph2 := h2; try simp only [decide_eq_true_eq, decide_eq_false_iff_not, Bool.and_eq_true, Bool.or_eq_true, Bool.and_eq_false_iff, Bool.or_eq_false_iff, Bool.not_eq_true', Bool.not_eq_false', Bool.not_true, Bool.not_false, Int.not_lt, Int.not_le] at ph2
      refine W.skip ?_
      refine N.blockNormal ?_
      refine N.thenW ?_
      refine W.seq ?_
      refine W.region ?_
      refine L.op1 rfl rfl (GSpec.plain rfl (spec_assign rfl (Get.cint rfl))) ?_
      refine L.nil ?_
      refine N.thenW ?_
      refine W.ret ?_
      refine N.ret () rfl (.tmp (t := 2) (Get.tmp rfl) .nil) (res1 (eqI ?_)) .nil (fun _ _ h => h)
      unfold jobsE; rw [if_neg (by omega), h2]; rfl

theorem asked_ok (l : List Jb) (w : Int) : CallT Tryd.prog 33 [Rp.slice eJ l, Rp.int .i64 w] [kwG] (.one (Rp.int .i64 (askedE l w))) := by
  refine W.enter (fn := Tryd.f33) (n := 13) Tryd.func33 rfl Tryd.ntmps33 rfl (fun w₀ C₀ => ?_)
  simp only [argS]
  refine W.seq ?_
  refine W.region ?_
  refine L.op1 rfl rfl (GSpec.plain rfl (spec_assign rfl (Get.cint rfl))) ?_
  refine L.nil ?_
  refine N.thenW ?_
  refine W.seq ?_
  refine W.seq ?_
  refine W.region ?_
  refine L.op1 rfl rfl (GSpec.plain rfl (spec_move rfl (Get.tmp rfl))) ?_
  refine L.op1 rfl rfl (GSpec.plain rfl (spec_lss rfl (Get.tmp rfl) (Get.cint rfl))) ?_
  refine L.op1 rfl rfl (GSpec.plain rfl (spec_move rfl (Get.tmp rfl))) ?_
  refine L.op1 rfl rfl (GSpec.guard rfl rfl rfl fun hg => (spec_move rfl (Get.tmp rfl))) ?_
  refine L.op1 rfl rfl (GSpec.guard rfl rfl rfl fun hg => (spec_gtr rfl (Get.opt rfl hg) (Get.cint rfl))) ?_
  refine L.op1 rfl rfl (GSpec.plain rfl (spec_or rfl (Get.tmp rfl) (fun hb => (Get.opt rfl hb)))) ?_
  refine L.nil ?_
  refine N.thenW ?_
  refine W.keep (.cons (t := 0) rfl (.cons (t := 4) rfl (.cons (t := 10) rfl .nil))) .refl ?_
  refine W.cond (Get.tmp rfl) (fun h1 => ?_) (fun h1 => ?_)
  · have ph1 := h1; try simp only [decide_eq_true_eq, decide_eq_false_iff_not, Bool.and_eq_true, Bool.or_eq_true, Bool.and_eq_false_iff, Bool.or_eq_false_iff, Bool.not_eq_true', Bool.not_eq_false', Bool.not_true, Bool.not_false, Int.not_lt, Int.not_le] at ph1
    refine W.seq ?_
    refine W.region ?_
    refine L.op1 rfl rfl (GSpec.plain rfl (spec_assign rfl (Get.cint rfl))) ?_
    refine L.nil ?_
    refine N.thenW ?_
    refine W.ret ?_
    refine N.ret () rfl (.tmp (t := 4) (Get.tmp rfl) .nil) (res1 (eqI ?_)) .nil (fun _ _ h => h)
    unfold askedE; rw [if_pos (by omega)]
  · have ph1 := h1; try simp only [decide_eq_true_eq, decide_eq_false_iff_not, Bool.and_eq_true, Bool.or_eq_true, Bool.and_eq_false_iff, Bool.or_eq_false_iff, Bool.not_eq_true', Bool.not_eq_false', Bool.not_true, Bool.not_false, Int.not_lt, Int.not_le] at ph1
    refine W.skip ?_
    refine N.thenW ?_
    refine W.seq ?_
    refine W.region ?_
    refine L.op1 rfl rfl (GSpec.plain rfl (spec_move rfl (Get.tmp rfl))) ?_
    refine L.op1 rfl rfl (GSpec.plain rfl (spec_callG (k := 0) rfl Tryd.call39 rfl (jobs_ok_ _) (.cons (Get.tmp rfl) .nil))) ?_
    refine L.op1 rfl rfl (GSpec.plain rfl (spec_assign rfl (Get.tmp rfl))) ?_
    refine L.nil ?_
    refine N.thenW ?_
    refine W.ret ?_
    refine N.ret () rfl (.tmp (t := 4) (Get.tmp rfl) .nil) (res1 (eqI ?_)) .nil (fun _ _ h => h)
    unfold askedE; rw [if_neg (by omega)]

theorem check_ok (l : List Jb) : CallT Tryd.prog 36 [Rp.slice eJ l] [] (.one (Rp.int .i64 (jobsE l))) := by
  refine W.enter (fn := Tryd.f36) (n := 19) Tryd.func36 rfl Tryd.ntmps36 rfl (fun w₀ C₀ => ?_)
  simp only [argS]
  refine W.fact 0 rfl slice_fact fun hl => ?_
  refine W.seq ?_
  refine W.region ?_
  refine L.op1 rfl rfl (GSpec.plain rfl (spec_assign rfl (Get.cint rfl))) ?_
  refine L.nil ?_
  refine N.thenW ?_
  refine W.seq ?_
  refine W.seq ?_
  refine W.region ?_
  refine L.op1 rfl rfl (GSpec.plain rfl (spec_move rfl (Get.tmp rfl))) ?_
  refine L.op1 rfl rfl (GSpec.plain rfl (spec_len rfl Tryd.underlying22 (Get.tmp rfl))) ?_
  refine L.op1 rfl rfl (GSpec.plain rfl (spec_gtr rfl (Get.tmp rfl) (Get.cint rfl))) ?_
  refine L.nil ?_
  refine N.thenW ?_
  refine W.keep (.cons (t := 0) rfl (.cons (t := 2) rfl (.cons (t := 6) rfl .nil))) .refl ?_
  refine W.cond (Get.tmp rfl) (fun h1 => ?_) (fun h1 => ?_)
  · have ph1 := h1; try simp only [decide_eq_true_eq, decide_eq_false_iff_not, Bool.and_eq_true, Bool.or_eq_true, Bool.and_eq_false_iff, Bool.or_eq_false_iff, Bool.not_eq_true', Bool.not_eq_false', Bool.not_true, Bool.not_false, Int.not_lt, Int.not_le] at ph1
    refine W.seq ?_
    refine W.region ?_
    refine L.op1 rfl rfl (GSpec.plain rfl (spec_assign rfl (Get.cint rfl))) ?_
    refine L.nil ?_
    refine N.thenW ?_
    refine W.ret ?_
    refine N.ret () rfl (.tmp (t := 2) (Get.tmp rfl) .nil) (res1 (eqI ?_)) .nil (fun _ _ h => h)
    unfold jobsE; rw [if_pos (by omega)]
  · have ph1 := h1; try simp only [decide_eq_true_eq, decide_eq_false_iff_not, Bool.and_eq_true, Bool.or_eq_true, Bool.and_eq_false_iff, Bool.or_eq_false_iff, Bool.not_eq_true', Bool.not_eq_false', Bool.not_true, Bool.not_false, Int.not_lt, Int.not_le] at ph1
    refine W.skip ?_
    refine N.thenW ?_
    refine W.seq ?_
    refine W.seq ?_
    refine W.region ?_
    refine L.op1 rfl rfl (GSpec.plain rfl (spec_assign rfl (Get.cint rfl))) ?_
    refine L.nil ?_
    refine N.thenW ?_
    refine W.block ?_
    -- assigned in the loop, not kept: [2]
    refine W.loopK (σ := Nat) (.cons (t := 0) rfl .nil) (fun z => [(3, Rp.int .i64 (z : Nat))]) (fun z => []) (fun z => z ≤ l.length ∧ ∀ j : Nat, j < z → (!validJ (l.getD j default)) = false) (fun z => l.length - z) 0 ⟨Nat.zero_le _, fun j hj => by omega⟩ (.cons (t := 3) rfl .nil) .nil ?_
    intro i hI S' M' hS hM
    obtain ⟨hI1, hI2⟩ := hI
    try dsimp only at hS hM
    simp only [List.cons_append, List.nil_append] at hS hM
    subst hS hM
    try dsimp only
    refine W.seq ?_
    refine W.seq ?_
    refine W.region ?_
    refine L.op1 rfl rfl (GSpec.plain rfl (spec_move rfl (Get.tmp rfl))) ?_
    refine L.op1 rfl rfl (GSpec.plain rfl (spec_move rfl (Get.tmp rfl))) ?_
    refine L.op1 rfl rfl (GSpec.plain rfl (spec_len rfl Tryd.underlying22 (Get.tmp rfl))) ?_
    refine L.op1 rfl rfl (GSpec.plain rfl (spec_lss rfl (Get.tmp rfl) (Get.tmp rfl))) ?_
    refine L.nil ?_
    refine N.thenW ?_
    refine W.cond (Get.tmp rfl) (fun h2 => ?_) (fun h2 => ?_)
    · have ph2 := h2; try simp only [decide_eq_true_eq, decide_eq_false_iff_not, Bool.and_eq_true, Bool.or_eq_true, Bool.and_eq_false_iff, Bool.or_eq_false_iff, Bool.not_eq_true', Bool.not_eq_false', Bool.not_true, Bool.not_false, Int.not_lt, Int.not_le] at ph2
      refine W.skip ?_
      refine N.thenW ?_
      refine W.seq ?_
      refine W.block ?_
      refine W.seq ?_
      refine W.region ?_
      refine L.op1 rfl rfl (GSpec.plain rfl (spec_move rfl (Get.tmp rfl))) ?_
      refine L.op1 rfl rfl (GSpec.plain rfl (spec_move rfl (Get.tmp rfl))) ?_
      refine L.op1 rfl rfl (GSpec.plain rfl (spec_indexAddrD (E := eJ) rfl Tryd.underlying22 Tryd.sizeOf28 (fun _ => rfl) (Get.tmp rfl) (Get.tmp rfl) (by omega))) ?_
      refine L.op1 rfl rfl (GSpec.plain rfl (spec_loadPA rfl Tryd.isAgg28 Tryd.sizeOf28 (Get.tmp rfl) rfl)) ?_
      refine L.op1 rfl rfl (GSpec.plain rfl (spec_call rfl Tryd.call12 (rvalid_ok _) (.cons (Get.tmp rfl) .nil))) ?_
      refine L.op1 rfl rfl (GSpec.plain rfl (spec_not rfl (Get.tmp rfl))) ?_
      refine L.nil ?_
      refine N.thenW ?_
      refine W.cond (Get.tmp rfl) (fun h3 => ?_) (fun h3 => ?_)
      · have ph3 := h3; try simp only [decide_eq_true_eq, decide_eq_false_iff_not, Bool.and_eq_true, Bool.or_eq_true, Bool.and_eq_false_iff, Bool.or_eq_false_iff, Bool.not_eq_true', Bool.not_eq_false', Bool.not_true, Bool.not_false, Int.not_lt, Int.not_le] at ph3
        refine W.seq ?_
        refine W.region ?_
        refine L.op1 rfl rfl (GSpec.plain rfl (spec_assign rfl (Get.cint rfl))) ?_
        refine L.nil ?_
        refine N.thenW ?_
        refine W.ret ?_
        refine N.ret () rfl (.tmp (t := 2) (Get.tmp rfl) .nil) (res1 (eqI ?_)) .nil (fun _ _ h => h)
        unfold jobsE; rw [if_neg (by omega), if_pos (any_yes (i := i) (by omega) (by simpa using h3))]
      · have ph3 := h3; try simp only [decide_eq_true_eq, decide_eq_false_iff_not, Bool.and_eq_true, Bool.or_eq_true, Bool.and_eq_false_iff, Bool.or_eq_false_iff, Bool.not_eq_true', Bool.not_eq_false', Bool.not_true, Bool.not_false, Int.not_lt, Int.not_le] at ph3
        refine W.skip ?_
        refine N.blockNormal ?_
        refine N.thenW ?_
        refine W.region ?_
        refine L.op1 rfl rfl (GSpec.plain rfl (spec_move rfl (Get.tmp rfl))) ?_
        first | refine L.op1 rfl rfl (GSpec.plain rfl (fit_i64 (by omega) (by omega) (spec_add rfl (Get.tmp rfl) (Get.cint rfl)))) ?_ | refine L.op1 rfl rfl (GSpec.plain rfl (spec_add rfl (Get.tmp rfl) (Get.cint rfl))) ?_
        refine L.op1 rfl rfl (GSpec.plain rfl (spec_assign rfl (Get.tmp rfl))) ?_
        refine L.nil ?_
        refine N.roundK (i + 1) ?hI2 ?hmu2 ?hs2 ?hk2 ?hp2
        case hs2 => exact (.cons (t := 3) rfl .nil)
        case hk2 => exact (.cons (t := 0) rfl .nil)
        case hp2 => exact .nil
        case hI2 => exact ⟨by omega, upto hI2 (by simpa using h3)⟩
        case hmu2 => omega
    · have ph2 := h2; try simp only [decide_eq_true_eq, decide_eq_false_iff_not, Bool.and_eq_true, Bool.or_eq_true, Bool.and_eq_false_iff, Bool.or_eq_false_iff, Bool.not_eq_true', Bool.not_eq_false', Bool.not_true, Bool.not_false, Int.not_lt, Int.not_le] at ph2
      refine W.exit ?_
      refine N.thenExit ?_
      refine N.thenExit ?_
      refine N.blockExit ?_
      refine N.thenW ?_
      refine W.keep .nil .refl ?_
      refine W.seq ?_
      refine W.region ?_
      refine L.op1 rfl rfl (GSpec.plain rfl (spec_assign rfl (Get.cint rfl))) ?_
      refine L.nil ?_
      refine N.thenW ?_
      refine W.ret ?_
      refine N.ret () rfl (.tmp (t := 2) (Get.tmp rfl) .nil) (res1 (eqI ?_)) .nil (fun _ _ h => h)
      unfold jobsE; rw [if_neg (by omega), any_no (p := fun j => !validJ j) fun j hj => hI2 j (by omega)]; rfl

end Go.Proofs.YtlbhpjigjehffaaDoor
/- Steps of the checks of plans. -/
namespace Go.Proofs.YtlbhpjigjehffaaDoor
open Go.Sim
theorem split_at {α : Type} [Inhabited α] {l : List α} {i : Nat} (h : i < l.length) : l = l.take i ++ l.getD i default :: l.drop (i + 1) := by
  conv => lhs; rw [← List.take_append_drop i l, List.drop_eq_getElem_cons h]
  rw [List.getD, List.getElem?_eq_getElem h]; rfl
abbrev rowAt (p : List (List Int)) (i : Nat) : List Int := p.getD i default
abbrev stAt (n : Nat) (p : List (List Int)) (i k : Nat) : CS := rowC (planC (cs0 n) (p.take i)) ((rowAt p i).take k)
theorem comp_no {p : List (List Int)} {n i k : Nat} (hi : i < p.length) (hk : k < (rowAt p i).length) (hb : badC (stAt n p i k) ((rowAt p i).getD k default) = true) : completeB p n = false := by
  have h1 : rowOk (planC (cs0 n) (p.take i)) (rowAt p i) = false := by
    rw [split_at hk, rowOk_app, rowOk, hb]; simp
  have h2 : planOk (cs0 n) p = false := by
    rw [split_at hi, planOk_app, planOk, h1]; simp
  unfold completeB
  rw [h2]; rfl
theorem row_step {n i k : Nat} {p : List (List Int)} (hk : k < (rowAt p i).length) : stAt n p i (k + 1) = stepC (stAt n p i k) ((rowAt p i).getD k default) := by
  show rowC _ _ = _
  unfold rowC; rw [fold_take _ _ hk]; rfl
theorem row_step2 {s : CS} {x : List Int} {k : Nat} (hk : k < x.length) : rowC s (x.take (k + 1)) = stepC (rowC s (x.take k)) (x.getD k default) := by
  unfold rowC; rw [fold_take _ _ hk]
theorem row_okstep {s : CS} {x : List Int} {k : Nat} (hk : k < x.length) (h : rowOk s (x.take k) = true) (hb : badC (rowC s (x.take k)) (x.getD k default) = false) : rowOk s (x.take (k + 1)) = true := by
  rw [take_succ hk, rowOk_app, h, rowOk, hb]; rfl
theorem plan_step {n i : Nat} {p : List (List Int)} (hi : i < p.length) : planC (cs0 n) (p.take (i + 1)) = rowC (planC (cs0 n) (p.take i)) (rowAt p i) := by
  unfold planC; rw [fold_take _ _ hi]
theorem plan_okstep {n i : Nat} {p : List (List Int)} (hi : i < p.length) (h : planOk (cs0 n) (p.take i) = true) (hr : rowOk (planC (cs0 n) (p.take i)) (rowAt p i) = true) : planOk (cs0 n) (p.take (i + 1)) = true := by
  rw [take_succ hi, planOk_app, h, planOk, hr]; rfl
theorem st_len (n : Nat) (p : List (List Int)) (i k : Nat) : (stAt n p i k).seen.length = n := by
  rw [(rowC_len _ _).1, (planC_len _ _).1]; simp [cs0]
theorem plan_len (n : Nat) (p : List (List Int)) (i : Nat) : (planC (cs0 n) (p.take i)).seen.length = n := by
  rw [(planC_len _ _).1]; simp [cs0]
theorem bad_no {s : CS} {i : Int} {n : Nat} (hn : s.seen.length = n) (h : (i < 0 ∨ (n : Int) ≤ i) ∨ s.seen.getD i.toNat default = true) : badC s i = true := by
  unfold badC; rw [hn]
  rcases h with (h | h) | h
  · simp [h]
  · simp [h]
  · rw [h]; simp
theorem bad_yes {s : CS} {i : Int} {n : Nat} (hn : s.seen.length = n) (h : (0 ≤ i ∧ i < (n : Int)) ∧ s.seen.getD i.toNat default = false) : badC s i = false := by
  unfold badC; rw [hn, h.2, decide_eq_false (by omega), decide_eq_false (by omega)]; rfl
theorem comp_end {p : List (List Int)} {n i : Nat} (hi : i = p.length) (h : planOk (cs0 n) (p.take i) = true) : completeB p n = decide ((planC (cs0 n) (p.take i)).left = 0) := by
  subst hi
  rw [List.take_length] at h ⊢
  unfold completeB; rw [h]; rfl
theorem sum_le {l : List Nat} : ∀ x ∈ l, x ≤ l.sum := by
  induction l with
  | nil => intro x hx; cases hx
  | cons y l ih =>
    intro x hx
    rw [List.sum_cons]
    rcases List.mem_cons.1 hx with rfl | hx
    · omega
    · have := ih x hx; omega
theorem complete_len {p : List (List Int)} {n : Nat} (h : completeB p n = true) {i : Nat} (hi : i < p.length) : (rowAt p i).length ≤ n := by
  unfold completeB at h
  simp only [Bool.and_eq_true, decide_eq_true_eq] at h
  have h2 := (planC_len (cs0 n) p).2
  have h3 := sum_le (rowAt p i).length (List.mem_map.2 ⟨_, getD_mem' hi, rfl⟩)
  have h4 : (cs0 n).left = n := rfl
  omega
/-- How many are left is never below nothing while none occurs twice. -/
theorem left_range (n : Nat) (p : List (List Int)) (i k : Nat) : (stAt n p i k).left = n - ((p.take i).map List.length).sum - ((rowAt p i).take k).length := by
  rw [(rowC_len _ _).2, (planC_len _ _).2]; rfl
/-- Seen ones are as many as are gone. -/
def cnt (l : List Bool) : Nat := (l.filter id).length
theorem cnt_set {l : List Bool} {i : Nat} (hi : i < l.length) (h : l.getD i default = false) : cnt (l.set i true) = cnt l + 1 := by
  induction l generalizing i with
  | nil => simp at hi
  | cons b l ih =>
    cases i with
    | zero =>
      have : b = false := h
      subst this
      simp [cnt]
    | succ i =>
      have := ih (i := i) (by simpa using hi) (by simpa using h)
      unfold cnt at this ⊢
      cases b <;> simp_all
theorem cnt_le (l : List Bool) : cnt l ≤ l.length := List.length_filter_le _ _
theorem row_cnt {s : CS} {x : List Int} (h : rowOk s x = true) : ((cnt (rowC s x).seen : Nat) : Int) = cnt s.seen + x.length := by
  induction x generalizing s with
  | nil => simp [rowC]
  | cons y x ih =>
    rw [rowOk, Bool.and_eq_true] at h
    have hb : badC s y = false := by simpa using h.1
    simp only [badC, Bool.or_eq_false_iff, decide_eq_false_iff_not] at hb
    have h1 := ih h.2
    have h2 : cnt (stepC s y).seen = cnt s.seen + 1 := cnt_set (by omega) hb.2
    have e : rowC s (y :: x) = rowC (stepC s y) x := rfl
    rw [e, h1, h2]; simp; omega
theorem plan_cnt {s : CS} {p : List (List Int)} (h : planOk s p = true) : ((cnt (planC s p).seen : Nat) : Int) = cnt s.seen + (p.map List.length).sum := by
  induction p generalizing s with
  | nil => simp [planC]
  | cons y p ih =>
    rw [planOk, Bool.and_eq_true] at h
    have h1 := ih h.2
    have h2 := row_cnt h.1
    have e : planC s (y :: p) = planC (rowC s y) p := rfl
    rw [e, h1, h2]; simp; omega
theorem left_pos {n : Nat} {p : List (List Int)} {i k : Nat} (h : planOk (cs0 n) (p.take i) = true) (hr : rowOk (planC (cs0 n) (p.take i)) ((rowAt p i).take k) = true) : 0 ≤ (stAt n p i k).left ∧ (stAt n p i k).left ≤ n := by
  have h1 := row_cnt hr
  have h2 := plan_cnt h
  have h3 := cnt_le (stAt n p i k).seen
  have h4 := left_range n p i k
  have h5 : cnt (cs0 n).seen = 0 := by unfold cs0 cnt; simp
  rw [st_len] at h3
  unfold stAt at *
  omega
theorem plan_left {n : Nat} {p : List (List Int)} {i : Nat} (h : planOk (cs0 n) (p.take i) = true) : 0 ≤ (planC (cs0 n) (p.take i)).left ∧ (planC (cs0 n) (p.take i)).left ≤ n := left_pos (k := 0) h rfl
end Go.Proofs.YtlbhpjigjehffaaDoor
set_option linter.unusedSimpArgs false
set_option maxRecDepth 8000
set_option linter.unusedVariables false
namespace Go.Proofs.YtlbhpjigjehffaaDoor
open Go.Sim
theorem sum_ok (l : List Jb) (ix : List Int) (hl : jobsE l = 0) (hx : inR l.length ix) (hn : ix.length ≤ 1000000) : CallT Tryd.prog 41 [Rp.slice eJ l, Rp.slice eI ix] [] (.one (Rp.int .i64 (sumC l ix))) := by
  refine W.enter (fn := Tryd.f41) (n := 23) Tryd.func41 rfl Tryd.ntmps41 rfl (fun w₀ C₀ => ?_)
  simp only [argS]
  refine W.fact 1 rfl slice_fact fun hxl => ?_
  refine W.seq ?_
  refine W.region ?_
  refine L.op1 rfl rfl (GSpec.plain rfl (spec_assign rfl (Get.cint rfl))) ?_
  refine L.nil ?_
  refine N.thenW ?_
  refine W.seq ?_
  refine W.region ?_
  refine L.op1 rfl rfl (GSpec.plain rfl (spec_assign rfl (Get.cint rfl))) ?_
  refine L.nil ?_
  refine N.thenW ?_
  refine W.seq ?_
  refine W.seq ?_
  refine W.region ?_
  refine L.op1 rfl rfl (GSpec.plain rfl (spec_move rfl (Get.tmp rfl))) ?_
  refine L.op1 rfl rfl (GSpec.plain rfl (spec_len rfl Tryd.underlying32 (Get.tmp rfl))) ?_
  refine L.op1 rfl rfl (GSpec.plain rfl (spec_move rfl (Get.cint rfl))) ?_
  refine L.nil ?_
  refine N.thenW ?_
  refine W.block ?_
  refine W.loopK (σ := Nat) (.cons (t := 0) rfl (.cons (t := 4) rfl (.cons (t := 8) rfl (.cons (t := 9) rfl .nil)))) (fun z => [(10, Rp.int .i64 (z : Nat)), (5, Rp.int .i64 (sumC l (ix.take z)))]) (fun z => []) (fun z => z ≤ ix.length) (fun z => ix.length - z) 0 (Nat.zero_le _) (.cons (t := 10) rfl (.cons (t := 5) rfl .nil)) .nil ?_
  intro i hI S' M' hS hM
  try dsimp only at hS hM
  simp only [List.cons_append, List.nil_append] at hS hM
  subst hS hM
  try dsimp only
  refine W.seq ?_
  refine W.region ?_
  refine L.op1 rfl rfl (GSpec.plain rfl (spec_lss rfl (Get.tmp rfl) (Get.tmp rfl))) ?_
  refine L.nil ?_
  refine N.thenW ?_
  refine W.seq ?_
  refine W.cond (Get.tmp rfl) (fun h1 => ?_) (fun h1 => ?_)
  · have ph1 := h1; try simp only [decide_eq_true_eq, decide_eq_false_iff_not, Bool.and_eq_true, Bool.or_eq_true, Bool.and_eq_false_iff, Bool.or_eq_false_iff, Bool.not_eq_true', Bool.not_eq_false', Bool.not_true, Bool.not_false, Int.not_lt, Int.not_le] at ph1
    refine W.skip ?_
    refine N.thenW ?_
    refine W.seq ?_
    refine W.block ?_
    refine W.seq ?_
    refine W.region ?_
    refine L.op1 rfl rfl (GSpec.plain rfl (spec_indexAddrD (E := eI) rfl Tryd.underlying32 Tryd.sizeOf3 (fun _ => rfl) (Get.tmp rfl) (Get.tmp rfl) (by (first | omega | (have q1 := hx _ (getD_mem' (show i < ix.length by omega)); have q2 := jobs_cost hl (i := (ix.getD i default).toNat) (by omega); have q3 := sum_range hl hx i (by omega); simp only [Int.toNat_natCast]; omega))))) ?_
    refine L.op1 rfl rfl (GSpec.plain rfl (spec_loadP1 rfl Tryd.isAgg3 (Get.tmp rfl))) ?_
    refine L.op1 rfl rfl (GSpec.plain rfl (spec_assign rfl (Get.tmp rfl))) ?_
    refine L.nil ?_
    refine N.thenW ?_
    refine W.region ?_
    refine L.op1 rfl rfl (GSpec.plain rfl (spec_move rfl (Get.tmp rfl))) ?_
    refine L.op1 rfl rfl (GSpec.plain rfl (spec_move rfl (Get.tmp rfl))) ?_
    refine L.op1 rfl rfl (GSpec.plain rfl (spec_move rfl (Get.tmp rfl))) ?_
    refine L.op1 rfl rfl (GSpec.plain rfl (spec_indexAddrD (E := eJ) rfl Tryd.underlying22 Tryd.sizeOf28 (fun _ => rfl) (Get.tmp rfl) (Get.tmp rfl) (by (first | omega | (have q1 := hx _ (getD_mem' (show i < ix.length by omega)); have q2 := jobs_cost hl (i := (ix.getD i default).toNat) (by omega); have q3 := sum_range hl hx i (by omega); simp only [Int.toNat_natCast]; omega))))) ?_
    refine L.op1 rfl rfl (GSpec.plain rfl (spec_fieldAddrP (f := 4) rfl Tryd.underlying28 rfl Tryd.sizeOf3 (Get.tmp rfl) rfl rfl)) ?_
    refine L.op1 rfl rfl (GSpec.plain rfl (spec_loadP1 rfl Tryd.isAgg3 (Get.tmp rfl))) ?_
    first | refine L.op1 rfl rfl (GSpec.plain rfl (fit_i64 (by (first | omega | (have q1 := hx _ (getD_mem' (show i < ix.length by omega)); have q2 := jobs_cost hl (i := (ix.getD i default).toNat) (by omega); have q3 := sum_range hl hx i (by omega); simp only [Int.toNat_natCast]; omega))) (by (first | omega | (have q1 := hx _ (getD_mem' (show i < ix.length by omega)); have q2 := jobs_cost hl (i := (ix.getD i default).toNat) (by omega); have q3 := sum_range hl hx i (by omega); simp only [Int.toNat_natCast]; omega))) (spec_add rfl (Get.tmp rfl) (Get.tmp rfl)))) ?_ | refine L.op1 rfl rfl (GSpec.plain rfl (spec_add rfl (Get.tmp rfl) (Get.tmp rfl))) ?_
    refine L.op1 rfl rfl (GSpec.plain rfl (spec_assign rfl (Get.tmp rfl))) ?_
    refine L.nil ?_
    refine N.blockNormal ?_
    refine N.thenW ?_
    refine W.region ?_
    first | refine L.op1 rfl rfl (GSpec.plain rfl (fit_i64 (by (first | omega | (have q1 := hx _ (getD_mem' (show i < ix.length by omega)); have q2 := jobs_cost hl (i := (ix.getD i default).toNat) (by omega); have q3 := sum_range hl hx i (by omega); simp only [Int.toNat_natCast]; omega))) (by (first | omega | (have q1 := hx _ (getD_mem' (show i < ix.length by omega)); have q2 := jobs_cost hl (i := (ix.getD i default).toNat) (by omega); have q3 := sum_range hl hx i (by omega); simp only [Int.toNat_natCast]; omega))) (spec_add rfl (Get.tmp rfl) (Get.cint rfl)))) ?_ | refine L.op1 rfl rfl (GSpec.plain rfl (spec_add rfl (Get.tmp rfl) (Get.cint rfl))) ?_
    refine L.op1 rfl rfl (GSpec.plain rfl (spec_move rfl (Get.tmp rfl))) ?_
    refine L.nil ?_
    refine N.roundK (i + 1) ?hI1 ?hmu1 ?hs1 ?hk1 ?hp1
    case hs1 => exact (.cons (t := 10) rfl (.weak (t := 5) rfl (eqI (by simp only [Int.toNat_natCast]; exact (sum_step (l := l) (ix := ix) (k := i) (by omega)).symm)) .nil))
    case hk1 => exact (.cons (t := 0) rfl (.cons (t := 4) rfl (.cons (t := 8) rfl (.cons (t := 9) rfl .nil))))
    case hp1 => exact .nil
    all_goals (first | rfl | trivial | omega | (simp_all; done))
  · have ph1 := h1; try simp only [decide_eq_true_eq, decide_eq_false_iff_not, Bool.and_eq_true, Bool.or_eq_true, Bool.and_eq_false_iff, Bool.or_eq_false_iff, Bool.not_eq_true', Bool.not_eq_false', Bool.not_true, Bool.not_false, Int.not_lt, Int.not_le] at ph1
    refine W.exit ?_
    refine N.thenExit ?_
    refine N.thenExit ?_
    refine N.blockExit ?_
    refine N.thenW ?_
    refine W.seq ?_
    refine W.region ?_
    refine L.op1 rfl rfl (GSpec.plain rfl (spec_move rfl (Get.tmp rfl))) ?_
    refine L.op1 rfl rfl (GSpec.plain rfl (spec_assign rfl (Get.tmp rfl))) ?_
    refine L.nil ?_
    refine N.thenW ?_
    refine W.keep (.cons (t := 4) rfl .nil) .refl ?_
    refine W.ret ?_
    refine N.ret () rfl (.tmp (t := 4) (Get.tmp rfl) .nil) (res1 (eqI ?_)) .nil (fun _ _ h => h)
    rw [show i = ix.length by omega, List.take_length]

theorem work_ok (l : List Jb) (ix : List Int) (hl : jobsE l = 0) (hx : inR l.length ix) (hn : ix.length ≤ 1000000) : CallT Tryd.prog 37 [Rp.slice eJ l, Rp.slice eI ix] [] (.one (Rp.int .i64 (sumC l ix))) := by
  refine W.enter (fn := Tryd.f37) (n := 24) Tryd.func37 rfl Tryd.ntmps37 rfl (fun w₀ C₀ => ?_)
  simp only [argS]
  refine W.fact 1 rfl slice_fact fun hxl => ?_
  refine W.seq ?_
  refine W.region ?_
  refine L.op1 rfl rfl (GSpec.plain rfl (spec_assign rfl (Get.cint rfl))) ?_
  refine L.nil ?_
  refine N.thenW ?_
  refine W.seq ?_
  refine W.region ?_
  refine L.op1 rfl rfl (GSpec.plain rfl (spec_assign rfl (Get.cint rfl))) ?_
  refine L.nil ?_
  refine N.thenW ?_
  refine W.seq ?_
  refine W.seq ?_
  refine W.region ?_
  refine L.op1 rfl rfl (GSpec.plain rfl (spec_assign rfl (Get.cint rfl))) ?_
  refine L.nil ?_
  refine N.thenW ?_
  refine W.block ?_
  refine W.loopK (σ := Nat) (.cons (t := 0) rfl (.cons (t := 1) rfl (.cons (t := 4) rfl .nil))) (fun z => [(6, Rp.int .i64 (z : Nat)), (5, Rp.int .i64 (sumC l (ix.take z)))]) (fun z => []) (fun z => z ≤ ix.length) (fun z => ix.length - z) 0 (Nat.zero_le _) (.cons (t := 6) rfl (.cons (t := 5) rfl .nil)) .nil ?_
  intro i hI S' M' hS hM
  try dsimp only at hS hM
  simp only [List.cons_append, List.nil_append] at hS hM
  subst hS hM
  try dsimp only
  refine W.seq ?_
  refine W.seq ?_
  refine W.region ?_
  refine L.op1 rfl rfl (GSpec.plain rfl (spec_move rfl (Get.tmp rfl))) ?_
  refine L.op1 rfl rfl (GSpec.plain rfl (spec_move rfl (Get.tmp rfl))) ?_
  refine L.op1 rfl rfl (GSpec.plain rfl (spec_len rfl Tryd.underlying32 (Get.tmp rfl))) ?_
  refine L.op1 rfl rfl (GSpec.plain rfl (spec_lss rfl (Get.tmp rfl) (Get.tmp rfl))) ?_
  refine L.nil ?_
  refine N.thenW ?_
  refine W.cond (Get.tmp rfl) (fun h1 => ?_) (fun h1 => ?_)
  · have ph1 := h1; try simp only [decide_eq_true_eq, decide_eq_false_iff_not, Bool.and_eq_true, Bool.or_eq_true, Bool.and_eq_false_iff, Bool.or_eq_false_iff, Bool.not_eq_true', Bool.not_eq_false', Bool.not_true, Bool.not_false, Int.not_lt, Int.not_le] at ph1
    refine W.skip ?_
    refine N.thenW ?_
    refine W.seq ?_
    refine W.block ?_
    refine W.region ?_
    refine L.op1 rfl rfl (GSpec.plain rfl (spec_move rfl (Get.tmp rfl))) ?_
    refine L.op1 rfl rfl (GSpec.plain rfl (spec_move rfl (Get.tmp rfl))) ?_
    refine L.op1 rfl rfl (GSpec.plain rfl (spec_move rfl (Get.tmp rfl))) ?_
    refine L.op1 rfl rfl (GSpec.plain rfl (spec_move rfl (Get.tmp rfl))) ?_
    refine L.op1 rfl rfl (GSpec.plain rfl (spec_indexAddrD (E := eI) rfl Tryd.underlying32 Tryd.sizeOf3 (fun _ => rfl) (Get.tmp rfl) (Get.tmp rfl) (by (first | omega | (have q1 := hx _ (getD_mem' (show i < ix.length by omega)); have q2 := jobs_cost hl (i := (ix.getD i default).toNat) (by omega); have q3 := sum_range hl hx i (by omega); simp only [Int.toNat_natCast]; omega))))) ?_
    refine L.op1 rfl rfl (GSpec.plain rfl (spec_loadP1 rfl Tryd.isAgg3 (Get.tmp rfl))) ?_
    refine L.op1 rfl rfl (GSpec.plain rfl (spec_indexAddrD (E := eJ) rfl Tryd.underlying22 Tryd.sizeOf28 (fun _ => rfl) (Get.tmp rfl) (Get.tmp rfl) (by (first | omega | (have q1 := hx _ (getD_mem' (show i < ix.length by omega)); have q2 := jobs_cost hl (i := (ix.getD i default).toNat) (by omega); have q3 := sum_range hl hx i (by omega); simp only [Int.toNat_natCast]; omega))))) ?_
    refine L.op1 rfl rfl (GSpec.plain rfl (spec_fieldAddrP (f := 4) rfl Tryd.underlying28 rfl Tryd.sizeOf3 (Get.tmp rfl) rfl rfl)) ?_
    refine L.op1 rfl rfl (GSpec.plain rfl (spec_loadP1 rfl Tryd.isAgg3 (Get.tmp rfl))) ?_
    first | refine L.op1 rfl rfl (GSpec.plain rfl (fit_i64 (by (first | omega | (have q1 := hx _ (getD_mem' (show i < ix.length by omega)); have q2 := jobs_cost hl (i := (ix.getD i default).toNat) (by omega); have q3 := sum_range hl hx i (by omega); simp only [Int.toNat_natCast]; omega))) (by (first | omega | (have q1 := hx _ (getD_mem' (show i < ix.length by omega)); have q2 := jobs_cost hl (i := (ix.getD i default).toNat) (by omega); have q3 := sum_range hl hx i (by omega); simp only [Int.toNat_natCast]; omega))) (spec_add rfl (Get.tmp rfl) (Get.tmp rfl)))) ?_ | refine L.op1 rfl rfl (GSpec.plain rfl (spec_add rfl (Get.tmp rfl) (Get.tmp rfl))) ?_
    refine L.op1 rfl rfl (GSpec.plain rfl (spec_assign rfl (Get.tmp rfl))) ?_
    refine L.nil ?_
    refine N.blockNormal ?_
    refine N.thenW ?_
    refine W.region ?_
    refine L.op1 rfl rfl (GSpec.plain rfl (spec_move rfl (Get.tmp rfl))) ?_
    first | refine L.op1 rfl rfl (GSpec.plain rfl (fit_i64 (by (first | omega | (have q1 := hx _ (getD_mem' (show i < ix.length by omega)); have q2 := jobs_cost hl (i := (ix.getD i default).toNat) (by omega); have q3 := sum_range hl hx i (by omega); simp only [Int.toNat_natCast]; omega))) (by (first | omega | (have q1 := hx _ (getD_mem' (show i < ix.length by omega)); have q2 := jobs_cost hl (i := (ix.getD i default).toNat) (by omega); have q3 := sum_range hl hx i (by omega); simp only [Int.toNat_natCast]; omega))) (spec_add rfl (Get.tmp rfl) (Get.cint rfl)))) ?_ | refine L.op1 rfl rfl (GSpec.plain rfl (spec_add rfl (Get.tmp rfl) (Get.cint rfl))) ?_
    refine L.op1 rfl rfl (GSpec.plain rfl (spec_assign rfl (Get.tmp rfl))) ?_
    refine L.nil ?_
    refine N.roundK (i + 1) ?hI2 ?hmu2 ?hs2 ?hk2 ?hp2
    case hs2 => exact (.cons (t := 6) rfl (.weak (t := 5) rfl (eqI (by simp only [Int.toNat_natCast]; exact (sum_step (l := l) (ix := ix) (k := i) (by omega)).symm)) .nil))
    case hk2 => exact (.cons (t := 0) rfl (.cons (t := 1) rfl (.cons (t := 4) rfl .nil)))
    case hp2 => exact .nil
    all_goals (first | rfl | trivial | omega | (simp_all; done))
  · have ph1 := h1; try simp only [decide_eq_true_eq, decide_eq_false_iff_not, Bool.and_eq_true, Bool.or_eq_true, Bool.and_eq_false_iff, Bool.or_eq_false_iff, Bool.not_eq_true', Bool.not_eq_false', Bool.not_true, Bool.not_false, Int.not_lt, Int.not_le] at ph1
    refine W.exit ?_
    refine N.thenExit ?_
    refine N.thenExit ?_
    refine N.blockExit ?_
    refine N.thenW ?_
    refine W.keep (.cons (t := 4) rfl (.cons (t := 5) rfl .nil)) .refl ?_
    refine W.seq ?_
    refine W.region ?_
    refine L.op1 rfl rfl (GSpec.plain rfl (spec_move rfl (Get.tmp rfl))) ?_
    refine L.op1 rfl rfl (GSpec.plain rfl (spec_assign rfl (Get.tmp rfl))) ?_
    refine L.nil ?_
    refine N.thenW ?_
    refine W.ret ?_
    refine N.ret () rfl (.tmp (t := 4) (Get.tmp rfl) .nil) (res1 (eqI ?_)) .nil (fun _ _ h => h)
    rw [show i = ix.length by omega, List.take_length]

end Go.Proofs.YtlbhpjigjehffaaDoor
set_option linter.unusedSimpArgs false
set_option maxRecDepth 8000
set_option linter.unusedVariables false
namespace Go.Proofs.YtlbhpjigjehffaaDoor
open Go.Sim
theorem complete_ok (p : List (List Int)) (n : Nat) (hn : n ≤ 1000000) : CallT Tryd.prog 40 [Rp.slice eII p, Rp.int .i64 (n : Nat)] [] (.one (Rp.bool (completeB p n))) := by
  refine W.enter (fn := Tryd.f40) (n := 48) Tryd.func40 rfl Tryd.ntmps40 rfl (fun w₀ C₀ => ?_)
  simp only [argS]
  refine W.fact 0 rfl slice_fact fun hp => ?_
  refine W.seq ?_
  refine W.region ?_
  refine L.op1 rfl rfl (GSpec.plain rfl (spec_assign rfl Get.cbool)) ?_
  refine L.nil ?_
  refine N.thenW ?_
  refine W.seq ?_
  refine W.region ?_
  refine L.op1 rfl rfl (GSpec.plain rfl (spec_move rfl (Get.tmp rfl))) ?_
  refine L.op rfl rfl (GSpec.plain rfl (spec_makeSlice (z₀ := false) (E := eB) rfl Tryd.underlying57 ti4 z4 (fun _ => rfl) (Get.tmp rfl) (Get.tmp rfl) (by (first | omega | (simp only [Int.toNat_natCast]; omega))) (by (first | omega | (simp only [Int.toNat_natCast]; omega))) (by (first | omega | (simp only [Int.toNat_natCast]; omega))))) (fun v12 => ?_)
  refine L.op1 rfl rfl (GSpec.plain rfl (spec_assign rfl (Get.tmp rfl))) ?_
  refine L.nil ?_
  refine N.thenW ?_
  refine W.seq ?_
  refine W.region ?_
  refine L.op1 rfl rfl (GSpec.plain rfl (spec_move rfl (Get.tmp rfl))) ?_
  refine L.op1 rfl rfl (GSpec.plain rfl (spec_assign rfl (Get.tmp rfl))) ?_
  refine L.nil ?_
  refine N.thenW ?_
  refine W.seq ?_
  refine W.seq ?_
  refine W.region ?_
  refine L.op1 rfl rfl (GSpec.plain rfl (spec_move rfl (Get.tmp rfl))) ?_
  refine L.op1 rfl rfl (GSpec.plain rfl (spec_len rfl Tryd.underlying34 (Get.tmp rfl))) ?_
  refine L.op1 rfl rfl (GSpec.plain rfl (spec_move rfl (Get.cint rfl))) ?_
  refine L.nil ?_
  refine N.thenW ?_
  refine W.block ?_
  -- assigned in the loop, not kept: [4]
  refine W.loopK (σ := Nat) (.cons (t := 1) rfl (.cons (t := 5) rfl (.cons (t := 14) rfl (.cons (t := 15) rfl .nil)))) (fun z => [(16, Rp.int .i64 (z : Nat)), (6, Rp.int .i64 (planC (cs0 n) (p.take z)).left)]) (fun z => [MF.osl v12 4 1 eB ((planC (cs0 n) (p.take z)).seen)]) (fun z => z ≤ p.length ∧ planOk (cs0 n) (p.take z) = true) (fun z => p.length - z) 0 ⟨Nat.zero_le _, rfl⟩ (.cons (t := 16) rfl (.cons (t := 6) rfl .nil)) (.cons 0 rfl .nil) ?_
  intro i hI S' M' hS hM
  obtain ⟨hI1, hI2⟩ := hI
  try dsimp only at hS hM
  simp only [List.cons_append, List.nil_append] at hS hM
  subst hS hM
  try dsimp only
  have hpl := plan_left hI2
  refine W.seq ?_
  refine W.region ?_
  refine L.op1 rfl rfl (GSpec.plain rfl (spec_lss rfl (Get.tmp rfl) (Get.tmp rfl))) ?_
  refine L.nil ?_
  refine N.thenW ?_
  refine W.seq ?_
  refine W.cond (Get.tmp rfl) (fun h1 => ?_) (fun h1 => ?_)
  · have ph1 := h1; try simp only [decide_eq_true_eq, decide_eq_false_iff_not, Bool.and_eq_true, Bool.or_eq_true, Bool.and_eq_false_iff, Bool.or_eq_false_iff, Bool.not_eq_true', Bool.not_eq_false', Bool.not_true, Bool.not_false, Int.not_lt, Int.not_le] at ph1
    refine W.skip ?_
    refine N.thenW ?_
    refine W.seq ?_
    refine W.block ?_
    refine W.seq ?_
    refine W.region ?_
    refine L.op1 rfl rfl (GSpec.plain rfl (spec_indexAddrD (E := eII) rfl Tryd.underlying34 Tryd.sizeOf32 (fun _ => rfl) (Get.tmp rfl) (Get.tmp rfl) (by (first | omega | (simp only [Int.toNat_natCast]; omega))))) ?_
    refine L.op1 rfl rfl (GSpec.plain rfl (spec_loadP1 rfl Tryd.isAgg32 (Get.tmp rfl))) ?_
    refine L.op1 rfl rfl (GSpec.plain rfl (spec_assign rfl (Get.tmp rfl))) ?_
    refine L.nil ?_
    refine N.thenW ?_
    obtain ⟨x, hx⟩ : ∃ x, x = p.getD i default := ⟨_, rfl⟩
    simp only [Int.toNat_natCast]
    rw [← hx]
    refine W.seq ?_
    refine W.region ?_
    refine L.op1 rfl rfl (GSpec.plain rfl (spec_move rfl (Get.tmp rfl))) ?_
    refine L.op1 rfl rfl (GSpec.plain rfl (spec_len rfl Tryd.underlying32 (Get.tmp rfl))) ?_
    refine L.op1 rfl rfl (GSpec.plain rfl (spec_move rfl (Get.cint rfl))) ?_
    refine L.nil ?_
    refine N.thenW ?_
    refine W.fact 20 rfl slice_fact fun hr => ?_
    refine W.block ?_
    refine W.loopK (σ := Nat) (.cons (t := 1) rfl (.cons (t := 5) rfl (.cons (t := 8) rfl (.cons (t := 14) rfl (.cons (t := 15) rfl (.cons (t := 16) rfl (.cons (t := 17) rfl (.cons (t := 18) rfl (.cons (t := 19) rfl (.cons (t := 20) rfl (.cons (t := 21) rfl .nil))))))))))) (fun z => [(22, Rp.int .i64 (z : Nat)), (6, Rp.int .i64 (rowC (planC (cs0 n) (p.take i)) (x.take z)).left)]) (fun z => [MF.osl v12 4 1 eB ((rowC (planC (cs0 n) (p.take i)) (x.take z)).seen)]) (fun z => z ≤ x.length ∧ rowOk (planC (cs0 n) (p.take i)) (x.take z) = true) (fun z => x.length - z) 0 ⟨Nat.zero_le _, rfl⟩ (.cons (t := 22) rfl (.cons (t := 6) rfl .nil)) (.cons 0 rfl .nil) ?_
    intro k hI S' M' hS hM
    obtain ⟨hK1, hK2⟩ := hI
    try dsimp only at hS hM
    simp only [List.cons_append, List.nil_append] at hS hM
    subst hS hM
    try dsimp only
    have hsl : (rowC (planC (cs0 n) (p.take i)) (x.take k)).seen.length = n := by rw [hx]; exact st_len n p i k
    have hlp : 0 ≤ (rowC (planC (cs0 n) (p.take i)) (x.take k)).left ∧ (rowC (planC (cs0 n) (p.take i)) (x.take k)).left ≤ n := by rw [hx] at hK2 ⊢; exact left_pos hI2 hK2
    refine W.seq ?_
    refine W.region ?_
    refine L.op1 rfl rfl (GSpec.plain rfl (spec_lss rfl (Get.tmp rfl) (Get.tmp rfl))) ?_
    refine L.nil ?_
    refine N.thenW ?_
    refine W.seq ?_
    refine W.cond (Get.tmp rfl) (fun h2 => ?_) (fun h2 => ?_)
    · have ph2 := h2; try simp only [decide_eq_true_eq, decide_eq_false_iff_not, Bool.and_eq_true, Bool.or_eq_true, Bool.and_eq_false_iff, Bool.or_eq_false_iff, Bool.not_eq_true', Bool.not_eq_false', Bool.not_true, Bool.not_false, Int.not_lt, Int.not_le] at ph2
      refine W.skip ?_
      refine N.thenW ?_
      refine W.seq ?_
      refine W.block ?_
      refine W.seq ?_
      refine W.region ?_
      refine L.op1 rfl rfl (GSpec.plain rfl (spec_indexAddrD (E := eI) rfl Tryd.underlying32 Tryd.sizeOf3 (fun _ => rfl) (Get.tmp rfl) (Get.tmp rfl) (by (first | omega | (simp only [Int.toNat_natCast]; omega))))) ?_
      refine L.op1 rfl rfl (GSpec.plain rfl (spec_loadP1 rfl Tryd.isAgg3 (Get.tmp rfl))) ?_
      refine L.op1 rfl rfl (GSpec.plain rfl (spec_assign rfl (Get.tmp rfl))) ?_
      refine L.nil ?_
      refine N.thenW ?_
      refine W.seq ?_
      refine W.seq ?_
      refine W.region ?_
      refine L.op1 rfl rfl (GSpec.plain rfl (spec_move rfl (Get.tmp rfl))) ?_
      refine L.op1 rfl rfl (GSpec.plain rfl (spec_lss rfl (Get.tmp rfl) (Get.cint rfl))) ?_
      refine L.op1 rfl rfl (GSpec.plain rfl (spec_move rfl (Get.tmp rfl))) ?_
      refine L.op1 rfl rfl (GSpec.guard rfl rfl rfl fun hg => (spec_move rfl (Get.tmp rfl))) ?_
      refine L.op1 rfl rfl (GSpec.guard rfl rfl rfl fun hg => (spec_move rfl (Get.tmp rfl))) ?_
      refine L.op1 rfl rfl (GSpec.guard rfl rfl rfl fun hg => (spec_geq rfl (Get.opt rfl hg) (Get.opt rfl hg))) ?_
      refine L.op1 rfl rfl (GSpec.plain rfl (spec_or rfl (Get.tmp rfl) (fun hb => (Get.opt rfl hb)))) ?_
      refine L.op1 rfl rfl (GSpec.plain rfl (spec_move rfl (Get.tmp rfl))) ?_
      refine L.op1 rfl rfl (GSpec.guard rfl rfl rfl fun hg => (spec_move rfl (Get.tmp rfl))) ?_
      refine L.op1 rfl rfl (GSpec.guard rfl rfl rfl fun hg => (spec_move rfl (Get.tmp rfl))) ?_
      refine L.op1 rfl rfl (GSpec.guard rfl rfl rfl fun hg => (spec_indexAddrO (k := 0) (E := eB) rfl Tryd.underlying57 Tryd.sizeOf4 (Get.opt rfl hg) (Get.opt rfl hg) rfl (by (first | omega | (simp only [decide_eq_true_eq, decide_eq_false_iff_not, Bool.and_eq_true, Bool.or_eq_true, Bool.and_eq_false_iff, Bool.or_eq_false_iff, Bool.not_eq_true', Bool.not_eq_false', Bool.not_true, Bool.not_false, Int.not_lt, Int.not_le] at hg; omega))))) ?_
      refine L.op1 rfl rfl (GSpec.guard rfl rfl rfl fun hg => (spec_loadO1 (k := 0) (j := 0) (E := eB) rfl Tryd.isAgg4 (fun _ => rfl) (Get.opt rfl hg) rfl rfl (getD_some (by (first | omega | (simp only [decide_eq_true_eq, decide_eq_false_iff_not, Bool.and_eq_true, Bool.or_eq_true, Bool.and_eq_false_iff, Bool.or_eq_false_iff, Bool.not_eq_true', Bool.not_eq_false', Bool.not_true, Bool.not_false, Int.not_lt, Int.not_le] at hg; omega)))) rfl)) ?_
      refine L.op1 rfl rfl (GSpec.plain rfl (spec_or rfl (Get.tmp rfl) (fun hb => (Get.opt rfl hb)))) ?_
      refine L.nil ?_
      refine N.thenW ?_
      refine W.cond (Get.tmp rfl) (fun h3 => ?_) (fun h3 => ?_)
      · have hb : badC (rowC (planC (cs0 n) (p.take i)) (x.take k)) (x.getD k default) = true := bad_no (n := n) hsl (by have h := h3; simp only [decide_eq_true_eq, decide_eq_false_iff_not, Bool.and_eq_true, Bool.or_eq_true, Bool.and_eq_false_iff, Bool.or_eq_false_iff, Bool.not_eq_true', Bool.not_eq_false', Bool.not_true, Bool.not_false, Int.not_lt, Int.not_le, Int.toNat_natCast] at h; exact h)
        refine W.seq ?_
        refine W.region ?_
        refine L.op1 rfl rfl (GSpec.plain rfl (spec_assign rfl Get.cbool)) ?_
        refine L.nil ?_
        refine N.thenW ?_
        refine W.ret ?_
        refine N.ret () rfl (.tmp (t := 4) (Get.tmp rfl) .nil) (res1 (eqB ?_)) .nil (fun _ _ h => h)
        subst hx; exact (comp_no (by omega) (show k < (p.getD i default).length by omega) hb).symm
      · have hb : badC (rowC (planC (cs0 n) (p.take i)) (x.take k)) (x.getD k default) = false := bad_yes (n := n) hsl (by have h := h3; simp only [decide_eq_true_eq, decide_eq_false_iff_not, Bool.and_eq_true, Bool.or_eq_true, Bool.and_eq_false_iff, Bool.or_eq_false_iff, Bool.not_eq_true', Bool.not_eq_false', Bool.not_true, Bool.not_false, Int.not_lt, Int.not_le, Int.toNat_natCast] at h; exact h)
        have hb2 : 0 ≤ x.getD k default ∧ x.getD k default < n := by have h := h3; simp only [decide_eq_true_eq, decide_eq_false_iff_not, Bool.and_eq_true, Bool.or_eq_true, Bool.and_eq_false_iff, Bool.or_eq_false_iff, Bool.not_eq_true', Bool.not_eq_false', Bool.not_true, Bool.not_false, Int.not_lt, Int.not_le, Int.toNat_natCast] at h; exact h.1
        refine W.skip ?_
        refine N.thenW ?_
        refine W.seq ?_
        refine W.region ?_
        refine L.op1 rfl rfl (GSpec.plain rfl (spec_move rfl (Get.tmp rfl))) ?_
        refine L.op1 rfl rfl (GSpec.plain rfl (spec_move rfl (Get.tmp rfl))) ?_
        refine L.op1 rfl rfl (GSpec.plain rfl (spec_indexAddrO (k := 0) (E := eB) rfl Tryd.underlying57 Tryd.sizeOf4 (Get.tmp rfl) (Get.tmp rfl) rfl (by (first | omega | (simp only [Int.toNat_natCast]; omega))))) ?_
        refine L.storeO1 (k := 0) (j := 0) (E := eB) rfl rfl rfl Tryd.sizeOf4 (fun _ => rfl) (Get.tmp rfl) Get.cbool rfl rfl (by decide) (getD_some (by (first | omega | (simp only [Int.toNat_natCast]; omega)))) rfl ?_
        refine L.nil ?_
        refine N.thenW ?_
        refine W.region ?_
        refine L.op1 rfl rfl (GSpec.plain rfl (spec_move rfl (Get.tmp rfl))) ?_
        first | refine L.op1 rfl rfl (GSpec.plain rfl (fit_i64 (by (first | omega | (simp only [Int.toNat_natCast]; omega))) (by (first | omega | (simp only [Int.toNat_natCast]; omega))) (spec_sub rfl (Get.tmp rfl) (Get.cint rfl)))) ?_ | refine L.op1 rfl rfl (GSpec.plain rfl (spec_sub rfl (Get.tmp rfl) (Get.cint rfl))) ?_
        refine L.op1 rfl rfl (GSpec.plain rfl (spec_assign rfl (Get.tmp rfl))) ?_
        refine L.nil ?_
        refine N.blockNormal ?_
        refine N.thenW ?_
        refine W.region ?_
        first | refine L.op1 rfl rfl (GSpec.plain rfl (fit_i64 (by (first | omega | (simp only [Int.toNat_natCast]; omega))) (by (first | omega | (simp only [Int.toNat_natCast]; omega))) (spec_add rfl (Get.tmp rfl) (Get.cint rfl)))) ?_ | refine L.op1 rfl rfl (GSpec.plain rfl (spec_add rfl (Get.tmp rfl) (Get.cint rfl))) ?_
        refine L.op1 rfl rfl (GSpec.plain rfl (spec_move rfl (Get.tmp rfl))) ?_
        refine L.nil ?_
        refine N.roundK (k + 1) ?hI1 ?hmu1 ?hs1 ?hk1 ?hp1
        case hs1 => exact (.cons (t := 22) rfl (.weak (t := 6) rfl (eqI (by rw [row_step2 (show k < x.length by omega)]; rfl)) .nil))
        case hk1 => exact (.cons (t := 1) rfl (.cons (t := 5) rfl (.cons (t := 8) rfl (.cons (t := 14) rfl (.cons (t := 15) rfl (.cons (t := 16) rfl (.cons (t := 17) rfl (.cons (t := 18) rfl (.cons (t := 19) rfl (.cons (t := 20) rfl (.cons (t := 21) rfl .nil)))))))))))
        case hp1 => rw [row_step2 (show k < x.length by omega)]; exact (.cons 0 rfl .nil)
        case hI1 => exact ⟨by omega, row_okstep (by omega) hK2 hb⟩
        case hmu1 => omega
    · have ph2 := h2; try simp only [decide_eq_true_eq, decide_eq_false_iff_not, Bool.and_eq_true, Bool.or_eq_true, Bool.and_eq_false_iff, Bool.or_eq_false_iff, Bool.not_eq_true', Bool.not_eq_false', Bool.not_true, Bool.not_false, Int.not_lt, Int.not_le] at ph2
      refine W.exit ?_
      refine N.thenExit ?_
      refine N.thenExit ?_
      refine N.blockExit ?_
      refine N.blockNormal ?_
      refine N.thenW ?_
      refine W.region ?_
      first | refine L.op1 rfl rfl (GSpec.plain rfl (fit_i64 (by (first | omega | (simp only [Int.toNat_natCast]; omega))) (by (first | omega | (simp only [Int.toNat_natCast]; omega))) (spec_add rfl (Get.tmp rfl) (Get.cint rfl)))) ?_ | refine L.op1 rfl rfl (GSpec.plain rfl (spec_add rfl (Get.tmp rfl) (Get.cint rfl))) ?_
      refine L.op1 rfl rfl (GSpec.plain rfl (spec_move rfl (Get.tmp rfl))) ?_
      refine L.nil ?_
      have hke : rowC (planC (cs0 n) (p.take i)) (x.take k) = rowC (planC (cs0 n) (p.take i)) x := by rw [List.take_of_length_le (l := x) (i := k) (by omega)]
      refine N.roundK (i + 1) ?hI2 ?hmu2 ?hs2 ?hk2 ?hp2
      case hs2 => exact (.cons (t := 16) rfl (.weak (t := 6) rfl (eqI (by rw [plan_step (show i < p.length by omega), show rowAt p i = x from hx.symm, ← hke])) .nil))
      case hk2 => exact (.cons (t := 1) rfl (.cons (t := 5) rfl (.cons (t := 14) rfl (.cons (t := 15) rfl .nil))))
      case hp2 => rw [plan_step (show i < p.length by omega), show rowAt p i = x from hx.symm, ← hke]; exact (.cons 0 rfl .nil)
      case hI2 => exact ⟨by omega, plan_okstep (by omega) hI2 (by rw [List.take_of_length_le (l := x) (i := k) (by omega)] at hK2; rw [show rowAt p i = x from hx.symm]; exact hK2)⟩
      case hmu2 => omega
  · have ph1 := h1; try simp only [decide_eq_true_eq, decide_eq_false_iff_not, Bool.and_eq_true, Bool.or_eq_true, Bool.and_eq_false_iff, Bool.or_eq_false_iff, Bool.not_eq_true', Bool.not_eq_false', Bool.not_true, Bool.not_false, Int.not_lt, Int.not_le] at ph1
    refine W.exit ?_
    refine N.thenExit ?_
    refine N.thenExit ?_
    refine N.blockExit ?_
    refine N.thenW ?_
    refine W.keep (.cons (t := 6) rfl .nil) .refl ?_
    refine W.seq ?_
    refine W.region ?_
    refine L.op1 rfl rfl (GSpec.plain rfl (spec_move rfl (Get.tmp rfl))) ?_
    refine L.op1 rfl rfl (GSpec.plain rfl (spec_eql rfl (Get.tmp rfl) (Get.cint rfl))) ?_
    refine L.op1 rfl rfl (GSpec.plain rfl (spec_assign rfl (Get.tmp rfl))) ?_
    refine L.nil ?_
    refine N.thenW ?_
    refine W.ret ?_
    refine N.ret () rfl (.tmp (t := 4) (Get.tmp rfl) .nil) (res1 (eqB ?_)) .nil (fun _ _ h => h)
    exact (comp_end (by omega) hI2).symm

end Go.Proofs.YtlbhpjigjehffaaDoor
/- Bounds and spans, how they end. -/
namespace Go.Proofs.YtlbhpjigjehffaaDoor
open Go.Sim
def shortJ (j : Jb) : Bool := decide ((j.test.length : Int) ≤ 60) && decide ((j.des.length : Int) ≤ 60)
def fewB (l : List Jb) : Bool := decide (∀ j, j < l.length → j < 31 → shortJ (l.getD j default) = true) && decide ((l.length : Int) ≤ 30)
theorem few_no {l : List Jb} {i : Nat} (h1 : i < l.length) (h2 : i < 31) (h : shortJ (l.getD i default) = false) : fewB l = false := by
  unfold fewB
  rw [decide_eq_false (by intro q; rw [q i h1 h2] at h; cases h)]; rfl
theorem few_end {l : List Jb} {i : Nat} (h1 : l.length ≤ i ∨ 31 ≤ i) (h : ∀ j : Nat, j < i → shortJ (l.getD j default) = true) : fewB l = decide ((l.length : Int) ≤ 30) := by
  unfold fewB
  rw [decide_eq_true (by intro j h2 h3; exact h j (by omega))]; rfl
theorem few_len {l : List Jb} (h : fewB l = true) : l.length ≤ 30 := by
  unfold fewB at h
  simp only [Bool.and_eq_true, decide_eq_true_eq] at h
  omega
theorem bound_no {l : List Jb} {w : Int} (h : askedE l w ≠ 0) : boundE l w = (0, askedE l w) := by unfold boundE; rw [if_pos h]
theorem bound_yes {l : List Jb} {w : Int} (h : askedE l w = 0) : boundE l w = (max (greatC l) ((totalC l + w - 1) / w), 0) := by unfold boundE; rw [if_neg (by omega)]
theorem asked_yes {l : List Jb} {w : Int} (h : askedE l w = 0) : 1 ≤ w ∧ w ≤ 64 ∧ jobsE l = 0 := by
  unfold askedE at h
  split at h
  · cases h
  · exact ⟨by omega, by omega, h⟩
theorem asked_in {l : List Jb} {w : Int} (h1 : 1 ≤ w) (h2 : w ≤ 64) : askedE l w = jobsE l := by unfold askedE; rw [if_neg (by omega)]
theorem asked_out {l : List Jb} {w : Int} (h : w < 1 ∨ 64 < w) : askedE l w = 1 := by unfold askedE; rw [if_pos h]
theorem span_no {l : List Jb} {p : List (List Int)} (h : jobsE l ≠ 0) : spanE l p = (0, jobsE l) := by unfold spanE; rw [if_pos h]
theorem span_bad {l : List Jb} {p : List (List Int)} (h : jobsE l = 0) (hc : completeB p l.length = false) : spanE l p = (0, 1) := by unfold spanE; rw [if_neg (by omega), if_pos hc]
theorem span_yes {l : List Jb} {p : List (List Int)} (h : jobsE l = 0) (hc : completeB p l.length = true) : spanE l p = (spanC l p, 0) := by unfold spanE; rw [if_neg (by omega), if_neg (by rw [hc]; simp)]
end Go.Proofs.YtlbhpjigjehffaaDoor
set_option linter.unusedSimpArgs false
set_option maxRecDepth 8000
set_option linter.unusedVariables false
namespace Go.Proofs.YtlbhpjigjehffaaDoor
open Go.Sim
theorem few_ok (l : List Jb) : CallT Tryd.prog 9 [Rp.slice eJ l] [] (.one (Rp.bool (fewB l))) := by
  refine W.enter (fn := Tryd.f9) (n := 33) Tryd.func9 rfl Tryd.ntmps9 rfl (fun w₀ C₀ => ?_)
  simp only [argS]
  refine W.fact 0 rfl slice_fact fun hl => ?_
  refine W.seq ?_
  refine W.region ?_
  refine L.op1 rfl rfl (GSpec.plain rfl (spec_assign rfl Get.cbool)) ?_
  refine L.nil ?_
  refine N.thenW ?_
  refine W.seq ?_
  refine W.seq ?_
  refine W.region ?_
  refine L.op1 rfl rfl (GSpec.plain rfl (spec_assign rfl (Get.cint rfl))) ?_
  refine L.nil ?_
  refine N.thenW ?_
  refine W.block ?_
  -- assigned in the loop, not kept: [2]
  refine W.loopK (σ := Nat) (.cons (t := 0) rfl .nil) (fun z => [(3, Rp.int .i64 (z : Nat))]) (fun z => []) (fun z => z ≤ l.length ∧ ∀ j : Nat, j < z → shortJ (l.getD j default) = true) (fun z => l.length - z) 0 ⟨Nat.zero_le _, fun j hj => by omega⟩ (.cons (t := 3) rfl .nil) .nil ?_
  intro i hI S' M' hS hM
  obtain ⟨hI1, hI2⟩ := hI
  try dsimp only at hS hM
  simp only [List.cons_append, List.nil_append] at hS hM
  subst hS hM
  try dsimp only
  refine W.seq ?_
  refine W.seq ?_
  refine W.region ?_
  refine L.op1 rfl rfl (GSpec.plain rfl (spec_move rfl (Get.tmp rfl))) ?_
  refine L.op1 rfl rfl (GSpec.plain rfl (spec_move rfl (Get.tmp rfl))) ?_
  refine L.op1 rfl rfl (GSpec.plain rfl (spec_len rfl Tryd.underlying22 (Get.tmp rfl))) ?_
  refine L.op1 rfl rfl (GSpec.plain rfl (spec_lss rfl (Get.tmp rfl) (Get.tmp rfl))) ?_
  refine L.op1 rfl rfl (GSpec.plain rfl (spec_move rfl (Get.tmp rfl))) ?_
  refine L.op1 rfl rfl (GSpec.guard rfl rfl rfl fun hg => (spec_move rfl (Get.tmp rfl))) ?_
  refine L.op1 rfl rfl (GSpec.guard rfl rfl rfl fun hg => (spec_lss rfl (Get.opt rfl hg) (Get.cint rfl))) ?_
  refine L.op1 rfl rfl (GSpec.plain rfl (spec_and rfl (Get.tmp rfl) (fun hb => (Get.opt rfl hb)))) ?_
  refine L.nil ?_
  refine N.thenW ?_
  refine W.cond (Get.tmp rfl) (fun h1 => ?_) (fun h1 => ?_)
  · have ph1 := h1; simp only [decide_eq_true_eq, decide_eq_false_iff_not, Bool.and_eq_true, Bool.or_eq_true, Bool.and_eq_false_iff, Bool.or_eq_false_iff, Bool.not_eq_true', Bool.not_eq_false', Bool.not_true, Bool.not_false, Int.not_lt, Int.not_le] at ph1
    refine W.skip ?_
    refine N.thenW ?_
    refine W.seq ?_
    refine W.block ?_
    refine W.seq ?_
    refine W.region ?_
    refine L.op1 rfl rfl (GSpec.plain rfl (spec_move rfl (Get.tmp rfl))) ?_
    refine L.op1 rfl rfl (GSpec.plain rfl (spec_move rfl (Get.tmp rfl))) ?_
    refine L.op1 rfl rfl (GSpec.plain rfl (spec_indexAddrD (E := eJ) rfl Tryd.underlying22 Tryd.sizeOf28 (fun _ => rfl) (Get.tmp rfl) (Get.tmp rfl) (by (first | omega | (simp only [Int.toNat_natCast]; omega))))) ?_
    refine L.op1 rfl rfl (GSpec.plain rfl (spec_fieldAddrP (f := 0) rfl Tryd.underlying28 rfl Tryd.sizeOf9 (Get.tmp rfl) rfl rfl)) ?_
    refine L.op1 rfl rfl (GSpec.plain rfl (spec_loadP1 rfl Tryd.isAgg9 (Get.tmp rfl))) ?_
    refine L.op1 rfl rfl (GSpec.plain rfl (spec_lenS rfl Tryd.underlying9 (Get.tmp rfl))) ?_
    refine L.op1 rfl rfl (GSpec.plain rfl (spec_gtr rfl (Get.tmp rfl) (Get.cint rfl))) ?_
    refine L.op1 rfl rfl (GSpec.plain rfl (spec_move rfl (Get.tmp rfl))) ?_
    refine L.op1 rfl rfl (GSpec.guard rfl rfl rfl fun hg => (spec_move rfl (Get.tmp rfl))) ?_
    refine L.op1 rfl rfl (GSpec.guard rfl rfl rfl fun hg => (spec_move rfl (Get.tmp rfl))) ?_
    refine L.op1 rfl rfl (GSpec.guard rfl rfl rfl fun hg => (spec_indexAddrD (E := eJ) rfl Tryd.underlying22 Tryd.sizeOf28 (fun _ => rfl) (Get.opt rfl hg) (Get.opt rfl hg) (by (first | omega | (simp only [decide_eq_true_eq, decide_eq_false_iff_not, Bool.and_eq_true, Bool.or_eq_true, Bool.and_eq_false_iff, Bool.or_eq_false_iff, Bool.not_eq_true', Bool.not_eq_false', Bool.not_true, Bool.not_false, Int.not_lt, Int.not_le] at hg; omega))))) ?_
    refine L.op1 rfl rfl (GSpec.guard rfl rfl rfl fun hg => (spec_fieldAddrP (f := 1) rfl Tryd.underlying28 rfl Tryd.sizeOf9 (Get.opt rfl hg) rfl rfl)) ?_
    refine L.op1 rfl rfl (GSpec.guard rfl rfl rfl fun hg => (spec_loadP1 rfl Tryd.isAgg9 (Get.opt rfl hg))) ?_
    refine L.op1 rfl rfl (GSpec.guard rfl rfl rfl fun hg => (spec_lenS rfl Tryd.underlying9 (Get.opt rfl hg))) ?_
    refine L.op1 rfl rfl (GSpec.guard rfl rfl rfl fun hg => (spec_gtr rfl (Get.opt rfl hg) (Get.cint rfl))) ?_
    refine L.op1 rfl rfl (GSpec.plain rfl (spec_or rfl (Get.tmp rfl) (fun hb => (Get.opt rfl hb)))) ?_
    refine L.nil ?_
    refine N.thenW ?_
    refine W.cond (Get.tmp rfl) (fun h2 => ?_) (fun h2 => ?_)
    · have hs : shortJ (l.getD i default) = false := by have h := h2; simp only [decide_eq_true_eq, decide_eq_false_iff_not, Bool.and_eq_true, Bool.or_eq_true, Bool.and_eq_false_iff, Bool.or_eq_false_iff, Bool.not_eq_true', Bool.not_eq_false', Bool.not_true, Bool.not_false, Int.not_lt, Int.not_le, Int.toNat_natCast] at h; simp only [shortJ, Bool.and_eq_false_iff, decide_eq_false_iff_not]; omega
      refine W.seq ?_
      refine W.region ?_
      refine L.op1 rfl rfl (GSpec.plain rfl (spec_assign rfl Get.cbool)) ?_
      refine L.nil ?_
      refine N.thenW ?_
      refine W.ret ?_
      refine N.ret () rfl (.tmp (t := 2) (Get.tmp rfl) .nil) (res1 (eqB ?_)) .nil (fun _ _ h => h)
      exact (few_no (by omega) (by omega) hs).symm
    · have hs : shortJ (l.getD i default) = true := by have h := h2; simp only [decide_eq_true_eq, decide_eq_false_iff_not, Bool.and_eq_true, Bool.or_eq_true, Bool.and_eq_false_iff, Bool.or_eq_false_iff, Bool.not_eq_true', Bool.not_eq_false', Bool.not_true, Bool.not_false, Int.not_lt, Int.not_le, Int.toNat_natCast] at h; simp only [shortJ, Bool.and_eq_true, decide_eq_true_eq]; omega
      refine W.skip ?_
      refine N.blockNormal ?_
      refine N.thenW ?_
      refine W.region ?_
      refine L.op1 rfl rfl (GSpec.plain rfl (spec_move rfl (Get.tmp rfl))) ?_
      first | refine L.op1 rfl rfl (GSpec.plain rfl (fit_i64 (by (first | omega | (simp only [Int.toNat_natCast]; omega))) (by (first | omega | (simp only [Int.toNat_natCast]; omega))) (spec_add rfl (Get.tmp rfl) (Get.cint rfl)))) ?_ | refine L.op1 rfl rfl (GSpec.plain rfl (spec_add rfl (Get.tmp rfl) (Get.cint rfl))) ?_
      refine L.op1 rfl rfl (GSpec.plain rfl (spec_assign rfl (Get.tmp rfl))) ?_
      refine L.nil ?_
      refine N.roundK (i + 1) ?hI1 ?hmu1 ?hs1 ?hk1 ?hp1
      case hs1 => exact (.cons (t := 3) rfl .nil)
      case hk1 => exact (.cons (t := 0) rfl .nil)
      case hp1 => exact .nil
      case hI1 => exact ⟨by omega, upto hI2 hs⟩
      case hmu1 => omega
  · have ph1 := h1; simp only [decide_eq_true_eq, decide_eq_false_iff_not, Bool.and_eq_true, Bool.or_eq_true, Bool.and_eq_false_iff, Bool.or_eq_false_iff, Bool.not_eq_true', Bool.not_eq_false', Bool.not_true, Bool.not_false, Int.not_lt, Int.not_le] at ph1
    refine W.exit ?_
    refine N.thenExit ?_
    refine N.thenExit ?_
    refine N.blockExit ?_
    refine N.thenW ?_
    refine W.keep (.cons (t := 0) rfl .nil) .refl ?_
    refine W.seq ?_
    refine W.region ?_
    refine L.op1 rfl rfl (GSpec.plain rfl (spec_move rfl (Get.tmp rfl))) ?_
    refine L.op1 rfl rfl (GSpec.plain rfl (spec_len rfl Tryd.underlying22 (Get.tmp rfl))) ?_
    refine L.op1 rfl rfl (GSpec.plain rfl (spec_leq rfl (Get.tmp rfl) (Get.cint rfl))) ?_
    refine L.op1 rfl rfl (GSpec.plain rfl (spec_assign rfl (Get.tmp rfl))) ?_
    refine L.nil ?_
    refine N.thenW ?_
    refine W.ret ?_
    refine N.ret () rfl (.tmp (t := 2) (Get.tmp rfl) .nil) (res1 (eqB ?_)) .nil (fun _ _ h => h)
    exact (few_end (by omega) hI2).symm

theorem div_ok (a w : Int) (ha : 0 ≤ a) (hw : 1 ≤ w) : CallT Tryd.prog 38 [Rp.int .i64 a, Rp.int .i64 w] [] (.one (Rp.tuple [Rp.int .i64 (a / w), Rp.int .i64 0])) := by
  refine W.enter (fn := Tryd.f38) (n := 36) Tryd.func38 rfl Tryd.ntmps38 rfl (fun w₀ C₀ => ?_)
  simp only [argS]
  refine W.fact 0 rfl int_fact fun ha2 => ?_
  simp only [InR] at ha2
  refine W.seq ?_
  refine W.region ?_
  refine L.op1 rfl rfl (GSpec.plain rfl (spec_assign rfl (Get.cint rfl))) ?_
  refine L.op1 rfl rfl (GSpec.plain rfl (spec_assign rfl (Get.cint rfl))) ?_
  refine L.nil ?_
  refine N.thenW ?_
  refine W.seq ?_
  refine W.block ?_
  refine W.seq ?_
  refine W.region ?_
  refine L.op1 rfl rfl (GSpec.plain rfl (spec_move rfl (Get.tmp rfl))) ?_
  refine L.op1 rfl rfl (GSpec.plain rfl (spec_eql rfl (Get.tmp rfl) (Get.cint rfl))) ?_
  refine L.op1 rfl rfl (GSpec.plain rfl (spec_assign rfl (Get.tmp rfl))) ?_
  refine L.nil ?_
  refine N.thenW ?_
  refine W.cond (Get.tmp rfl) (fun h1 => ?_) (fun h1 => ?_)
  · exfalso; have h := of_decide_eq_true h1; omega
  · have ph1 := h1; try simp only [decide_eq_true_eq, decide_eq_false_iff_not, Bool.and_eq_true, Bool.or_eq_true, Bool.and_eq_false_iff, Bool.or_eq_false_iff, Bool.not_eq_true', Bool.not_eq_false', Bool.not_true, Bool.not_false, Int.not_lt, Int.not_le] at ph1
    refine W.seq ?_
    refine W.region ?_
    refine L.op1 rfl rfl (GSpec.plain rfl (spec_move rfl (Get.tmp rfl))) ?_
    refine L.op1 rfl rfl (GSpec.plain rfl (spec_eql rfl (Get.tmp rfl) (Get.cint rfl))) ?_
    refine L.op1 rfl rfl (GSpec.plain rfl (spec_move rfl (Get.tmp rfl))) ?_
    refine L.op1 rfl rfl (GSpec.guard rfl rfl rfl fun hg => (spec_move rfl (Get.tmp rfl))) ?_
    refine L.op1 rfl rfl (GSpec.guard rfl rfl rfl fun hg => (spec_eql rfl (Get.opt rfl hg) (Get.cint rfl))) ?_
    refine L.op1 rfl rfl (GSpec.plain rfl (spec_and rfl (Get.tmp rfl) (fun hb => (Get.opt rfl hb)))) ?_
    refine L.op1 rfl rfl (GSpec.plain rfl (spec_assign rfl (Get.tmp rfl))) ?_
    refine L.nil ?_
    refine N.thenW ?_
    refine W.keep (.cons (t := 0) rfl (.cons (t := 1) rfl (.cons (t := 4) rfl (.cons (t := 5) rfl (.cons (t := 11) rfl .nil))))) .refl ?_
    refine W.cond (Get.tmp rfl) (fun h2 => ?_) (fun h2 => ?_)
    · exfalso; have h := h2; simp only [Bool.and_eq_true, decide_eq_true_eq] at h; omega
    · have ph2 := h2; try simp only [decide_eq_true_eq, decide_eq_false_iff_not, Bool.and_eq_true, Bool.or_eq_true, Bool.and_eq_false_iff, Bool.or_eq_false_iff, Bool.not_eq_true', Bool.not_eq_false', Bool.not_true, Bool.not_false, Int.not_lt, Int.not_le] at ph2
      refine W.skip ?_
      refine N.blockNormal ?_
      refine N.thenW ?_
      refine W.seq ?_
      refine W.region ?_
      refine L.op1 rfl rfl (GSpec.plain rfl (spec_move rfl (Get.tmp rfl))) ?_
      refine L.op1 rfl rfl (GSpec.plain rfl (spec_move rfl (Get.tmp rfl))) ?_
      first | refine L.op1 rfl rfl (GSpec.plain rfl (spec_quoP rfl (Get.tmp rfl) (Get.tmp rfl) (by omega) (by omega))) ?_ | refine L.op1 rfl rfl (GSpec.plain rfl (fit_i64 (by omega) (by omega) (spec_quo rfl (Get.tmp rfl) (Get.tmp rfl) (by omega)))) ?_ | refine L.op1 rfl rfl (GSpec.plain rfl (spec_quo rfl (Get.tmp rfl) (Get.tmp rfl) (by omega))) ?_
      refine L.op1 rfl rfl (GSpec.plain rfl (spec_assign rfl (Get.tmp rfl))) ?_
      refine L.nil ?_
      refine N.thenW ?_
      refine W.seq ?_
      refine W.seq ?_
      refine W.region ?_
      refine L.op1 rfl rfl (GSpec.plain rfl (spec_move rfl (Get.tmp rfl))) ?_
      refine L.op1 rfl rfl (GSpec.plain rfl (spec_move rfl (Get.tmp rfl))) ?_
      first | refine L.op1 rfl rfl (GSpec.plain rfl (spec_remP rfl (Get.tmp rfl) (Get.tmp rfl) (by omega) (by omega))) ?_ | refine L.op1 rfl rfl (GSpec.plain rfl (spec_rem rfl (Get.tmp rfl) (Get.tmp rfl) (by omega))) ?_
      refine L.op1 rfl rfl (GSpec.plain rfl (spec_assign rfl (Get.tmp rfl))) ?_
      refine L.nil ?_
      refine N.thenW ?_
      refine W.keep (.cons (t := 1) rfl (.cons (t := 4) rfl (.cons (t := 5) rfl (.cons (t := 6) rfl (.cons (t := 7) rfl .nil))))) .refl ?_
      refine W.seq ?_
      refine W.region ?_
      refine L.op1 rfl rfl (GSpec.plain rfl (spec_move rfl (Get.tmp rfl))) ?_
      refine L.op1 rfl rfl (GSpec.plain rfl (spec_neq rfl (Get.tmp rfl) (Get.cint rfl))) ?_
      refine L.op1 rfl rfl (GSpec.plain rfl (spec_move rfl (Get.tmp rfl))) ?_
      refine L.op1 rfl rfl (GSpec.guard rfl rfl rfl fun hg => (spec_move rfl (Get.tmp rfl))) ?_
      refine L.op1 rfl rfl (GSpec.guard rfl rfl rfl fun hg => (spec_lss rfl (Get.opt rfl hg) (Get.cint rfl))) ?_
      refine L.op1 rfl rfl (GSpec.guard rfl rfl rfl fun hg => (spec_move rfl (Get.tmp rfl))) ?_
      refine L.op1 rfl rfl (GSpec.guard rfl rfl rfl fun hg => (spec_lss rfl (Get.opt rfl hg) (Get.cint rfl))) ?_
      refine L.op1 rfl rfl (GSpec.guard rfl rfl rfl fun hg => (spec_neqB rfl Tryd.underlying4 (Get.opt rfl hg) (Get.opt rfl hg))) ?_
      refine L.op1 rfl rfl (GSpec.plain rfl (spec_and rfl (Get.tmp rfl) (fun hb => (Get.opt rfl hb)))) ?_
      refine L.nil ?_
      refine N.thenW ?_
      refine W.keep (.cons (t := 4) rfl (.cons (t := 5) rfl (.cons (t := 6) rfl (.cons (t := 32) rfl .nil)))) .refl ?_
      refine W.cond (Get.tmp rfl) (fun h3 => ?_) (fun h3 => ?_)
      · exfalso; have h := h3; rw [decide_eq_false (show ¬ a % w < 0 by have := Int.emod_nonneg a (show w ≠ 0 by omega); omega), decide_eq_false (show ¬ w < 0 by omega)] at h; simp at h
      · have ph3 := h3; try simp only [decide_eq_true_eq, decide_eq_false_iff_not, Bool.and_eq_true, Bool.or_eq_true, Bool.and_eq_false_iff, Bool.or_eq_false_iff, Bool.not_eq_true', Bool.not_eq_false', Bool.not_true, Bool.not_false, Int.not_lt, Int.not_le] at ph3
        refine W.skip ?_
        refine N.thenW ?_
        refine W.seq ?_
        refine W.region ?_
        refine L.op1 rfl rfl (GSpec.plain rfl (spec_move rfl (Get.tmp rfl))) ?_
        refine L.op1 rfl rfl (GSpec.plain rfl (spec_assign rfl (Get.tmp rfl))) ?_
        refine L.op1 rfl rfl (GSpec.plain rfl (spec_assign rfl (Get.cint rfl))) ?_
        refine L.nil ?_
        refine N.thenW ?_
        refine W.ret ?_
        refine N.ret () rfl (.tmp (t := 4) (Get.tmp rfl) (.tmp (t := 5) (Get.tmp rfl) .nil)) (res2w (eqI ?_) (eqI ?_)) .nil (fun _ _ h => h)
        rfl
        rfl

theorem bound_ok (l : List Jb) (w : Int) : CallT Tryd.prog 20 [Rp.slice eJ l, Rp.int .i64 w] [kwG] (.one (Rp.tuple [Rp.int .i64 (boundE l w).1, Rp.int .i64 (boundE l w).2])) := by
  refine W.enter (fn := Tryd.f20) (n := 49) Tryd.func20 rfl Tryd.ntmps20 rfl (fun w₀ C₀ => ?_)
  simp only [argS]
  refine W.seq ?_
  refine W.region ?_
  refine L.op1 rfl rfl (GSpec.plain rfl (spec_assign rfl (Get.cint rfl))) ?_
  refine L.op1 rfl rfl (GSpec.plain rfl (spec_assign rfl (Get.cint rfl))) ?_
  refine L.nil ?_
  refine N.thenW ?_
  refine W.seq ?_
  refine W.seq ?_
  refine W.region ?_
  refine L.op1 rfl rfl (GSpec.plain rfl (spec_move rfl (Get.tmp rfl))) ?_
  refine L.op1 rfl rfl (GSpec.plain rfl (spec_move rfl (Get.tmp rfl))) ?_
  refine L.op1 rfl rfl (GSpec.plain rfl (spec_callG (k := 0) rfl Tryd.call33 rfl (asked_ok _ _) (.cons (Get.tmp rfl) (.cons (Get.tmp rfl) .nil)))) ?_
  refine L.op1 rfl rfl (GSpec.plain rfl (spec_assign rfl (Get.tmp rfl))) ?_
  refine L.nil ?_
  refine N.thenW ?_
  refine W.keep (.cons (t := 0) rfl (.cons (t := 1) rfl (.cons (t := 4) rfl (.cons (t := 5) rfl (.cons (t := 6) rfl .nil))))) .refl ?_
  refine W.seq ?_
  refine W.region ?_
  refine L.op1 rfl rfl (GSpec.plain rfl (spec_move rfl (Get.tmp rfl))) ?_
  refine L.op1 rfl rfl (GSpec.plain rfl (spec_neq rfl (Get.tmp rfl) (Get.cint rfl))) ?_
  refine L.nil ?_
  refine N.thenW ?_
  refine W.cond (Get.tmp rfl) (fun h1 => ?_) (fun h1 => ?_)
  · have q0 : askedE l w ≠ 0 := by have h := h1; simpa using h
    refine W.seq ?_
    refine W.region ?_
    refine L.op1 rfl rfl (GSpec.plain rfl (spec_move rfl (Get.tmp rfl))) ?_
    refine L.op1 rfl rfl (GSpec.plain rfl (spec_assign rfl (Get.cint rfl))) ?_
    refine L.op1 rfl rfl (GSpec.plain rfl (spec_assign rfl (Get.tmp rfl))) ?_
    refine L.nil ?_
    refine N.thenW ?_
    refine W.keep (.cons (t := 0) rfl (.cons (t := 1) rfl (.cons (t := 4) rfl (.cons (t := 5) rfl .nil)))) .refl ?_
    refine W.ret ?_
    refine N.ret () rfl (.tmp (t := 4) (Get.tmp rfl) (.tmp (t := 5) (Get.tmp rfl) .nil)) (res2w (eqI ?_) (eqI ?_)) .nil (fun _ _ h => h)
    rw [bound_no q0]
    rw [bound_no q0]
  · have q0 : askedE l w = 0 := by have h := h1; simpa using h
    obtain ⟨hw1, hw2, hok⟩ := asked_yes q0
    have hl256 := (jobs_ok hok).1
    refine W.skip ?_
    refine N.thenW ?_
    refine W.seq ?_
    refine W.region ?_
    refine L.op1 rfl rfl (GSpec.plain rfl (spec_assign rfl (Get.cint rfl))) ?_
    refine L.op1 rfl rfl (GSpec.plain rfl (spec_assign rfl (Get.cint rfl))) ?_
    refine L.nil ?_
    refine N.thenW ?_
    refine W.seq ?_
    refine W.seq ?_
    refine W.region ?_
    refine L.op1 rfl rfl (GSpec.plain rfl (spec_move rfl (Get.tmp rfl))) ?_
    refine L.op1 rfl rfl (GSpec.plain rfl (spec_len rfl Tryd.underlying22 (Get.tmp rfl))) ?_
    refine L.op1 rfl rfl (GSpec.plain rfl (spec_move rfl (Get.cint rfl))) ?_
    refine L.nil ?_
    refine N.thenW ?_
    refine W.block ?_
    refine W.loopK (σ := Nat) (.cons (t := 1) rfl (.cons (t := 4) rfl (.cons (t := 5) rfl (.cons (t := 19) rfl (.cons (t := 20) rfl .nil))))) (fun z => [(21, Rp.int .i64 (z : Nat)), (7, Rp.int .i64 (greatC (l.take z))), (8, Rp.int .i64 (totalC (l.take z)))]) (fun z => []) (fun z => z ≤ l.length) (fun z => l.length - z) 0 (Nat.zero_le _) (.cons (t := 21) rfl (.cons (t := 7) rfl (.cons (t := 8) rfl .nil))) (.cons 0 rfl .nil) ?_
    intro i hI S' M' hS hM
    try dsimp only at hS hM
    simp only [List.cons_append, List.nil_append] at hS hM
    subst hS hM
    try dsimp only
    have hc := fun h => jobs_cost hok (i := i) h
    have ht := total_range hok i (by omega)
    refine W.seq ?_
    refine W.region ?_
    refine L.op1 rfl rfl (GSpec.plain rfl (spec_lss rfl (Get.tmp rfl) (Get.tmp rfl))) ?_
    refine L.nil ?_
    refine N.thenW ?_
    refine W.seq ?_
    refine W.cond (Get.tmp rfl) (fun h2 => ?_) (fun h2 => ?_)
    · have ph2 := h2; try simp only [decide_eq_true_eq, decide_eq_false_iff_not, Bool.and_eq_true, Bool.or_eq_true, Bool.and_eq_false_iff, Bool.or_eq_false_iff, Bool.not_eq_true', Bool.not_eq_false', Bool.not_true, Bool.not_false, Int.not_lt, Int.not_le] at ph2
      refine W.skip ?_
      refine N.thenW ?_
      refine W.seq ?_
      refine W.block ?_
      refine W.seq ?_
      refine W.region ?_
      refine L.op1 rfl rfl (GSpec.plain rfl (spec_indexAddrD (E := eJ) rfl Tryd.underlying22 Tryd.sizeOf28 (fun _ => rfl) (Get.tmp rfl) (Get.tmp rfl) (by (first | omega | (have q1 := jobs_cost hok (show i < l.length by omega); simp only [Int.toNat_natCast]; omega))))) ?_
      refine L.op1 rfl rfl (GSpec.plain rfl (spec_loadPA rfl Tryd.isAgg28 Tryd.sizeOf28 (Get.tmp rfl) rfl)) ?_
      refine L.box rfl rfl (GSpec.plain rfl (spec_alloc rfl ti28 z28)) (fun r10 => ?_)
      refine L.storeW (k := 0) rfl rfl rfl Tryd.sizeOf28 (Get.tmp rfl) (Get.tmp rfl) rfl rfl rfl ?_
      refine L.nil ?_
      refine N.thenW ?_
      refine W.seq ?_
      refine W.region ?_
      refine L.op1 rfl rfl (GSpec.plain rfl (spec_move rfl (Get.tmp rfl))) ?_
      refine L.op1 rfl rfl (GSpec.plain rfl (spec_fieldAddr (f := 4) (off' := 4) rfl Tryd.underlying28 rfl Tryd.sizeOf3 (Get.tmp rfl) rfl)) ?_
      refine L.op1 rfl rfl (GSpec.plain rfl (spec_load1 (k := 0) rfl Tryd.isAgg3 (Get.tmp rfl) rfl rfl)) ?_
      refine L.op1 rfl rfl (GSpec.plain rfl (spec_max2 rfl (Get.tmp rfl) (Get.tmp rfl))) ?_
      refine L.op1 rfl rfl (GSpec.plain rfl (spec_assign rfl (Get.tmp rfl))) ?_
      refine L.nil ?_
      refine N.thenW ?_
      refine W.region ?_
      refine L.op1 rfl rfl (GSpec.plain rfl (spec_move rfl (Get.tmp rfl))) ?_
      refine L.op1 rfl rfl (GSpec.plain rfl (spec_fieldAddr (f := 4) (off' := 4) rfl Tryd.underlying28 rfl Tryd.sizeOf3 (Get.tmp rfl) rfl)) ?_
      refine L.op1 rfl rfl (GSpec.plain rfl (spec_load1 (k := 0) rfl Tryd.isAgg3 (Get.tmp rfl) rfl rfl)) ?_
      first | refine L.op1 rfl rfl (GSpec.plain rfl (fit_i64 (by (first | omega | (have q1 := jobs_cost hok (show i < l.length by omega); simp only [Int.toNat_natCast]; omega))) (by (first | omega | (have q1 := jobs_cost hok (show i < l.length by omega); simp only [Int.toNat_natCast]; omega))) (spec_add rfl (Get.tmp rfl) (Get.tmp rfl)))) ?_ | refine L.op1 rfl rfl (GSpec.plain rfl (spec_add rfl (Get.tmp rfl) (Get.tmp rfl))) ?_
      refine L.op1 rfl rfl (GSpec.plain rfl (spec_assign rfl (Get.tmp rfl))) ?_
      refine L.nil ?_
      refine N.blockNormal ?_
      refine N.thenW ?_
      refine W.region ?_
      first | refine L.op1 rfl rfl (GSpec.plain rfl (fit_i64 (by (first | omega | (have q1 := jobs_cost hok (show i < l.length by omega); simp only [Int.toNat_natCast]; omega))) (by (first | omega | (have q1 := jobs_cost hok (show i < l.length by omega); simp only [Int.toNat_natCast]; omega))) (spec_add rfl (Get.tmp rfl) (Get.cint rfl)))) ?_ | refine L.op1 rfl rfl (GSpec.plain rfl (spec_add rfl (Get.tmp rfl) (Get.cint rfl))) ?_
      refine L.op1 rfl rfl (GSpec.plain rfl (spec_move rfl (Get.tmp rfl))) ?_
      refine L.nil ?_
      refine N.roundK (i + 1) ?hI2 ?hmu2 ?hs2 ?hk2 ?hp2
      case hs2 => exact (.cons (t := 21) rfl (.weak (t := 7) rfl (eqI (by simp only [Int.toNat_natCast]; first | exact (great_step (by omega)).symm | exact (total_step (by omega)).symm)) (.weak (t := 8) rfl (eqI (by simp only [Int.toNat_natCast]; first | exact (great_step (by omega)).symm | exact (total_step (by omega)).symm)) .nil)))
      case hk2 => exact (.cons (t := 1) rfl (.cons (t := 4) rfl (.cons (t := 5) rfl (.cons (t := 19) rfl (.cons (t := 20) rfl .nil)))))
      case hp2 => exact (.cons 1 rfl .nil)
      all_goals (first | rfl | trivial | omega | (simp_all; done))
    · have ph2 := h2; try simp only [decide_eq_true_eq, decide_eq_false_iff_not, Bool.and_eq_true, Bool.or_eq_true, Bool.and_eq_false_iff, Bool.or_eq_false_iff, Bool.not_eq_true', Bool.not_eq_false', Bool.not_true, Bool.not_false, Int.not_lt, Int.not_le] at ph2
      refine W.exit ?_
      refine N.thenExit ?_
      refine N.thenExit ?_
      refine N.blockExit ?_
      refine N.thenW ?_
      have ei : i = l.length := by omega
      have ht := total_range hok i (by omega)
      refine W.seq ?_
      refine W.region ?_
      refine L.op1 rfl rfl (GSpec.plain rfl (spec_move rfl (Get.tmp rfl))) ?_
      refine L.op1 rfl rfl (GSpec.plain rfl (spec_move rfl (Get.tmp rfl))) ?_
      first | refine L.op1 rfl rfl (GSpec.plain rfl (fit_i64 (by (first | omega | (have q1 := jobs_cost hok (show i < l.length by omega); simp only [Int.toNat_natCast]; omega))) (by (first | omega | (have q1 := jobs_cost hok (show i < l.length by omega); simp only [Int.toNat_natCast]; omega))) (spec_add rfl (Get.tmp rfl) (Get.tmp rfl)))) ?_ | refine L.op1 rfl rfl (GSpec.plain rfl (spec_add rfl (Get.tmp rfl) (Get.tmp rfl))) ?_
      first | refine L.op1 rfl rfl (GSpec.plain rfl (fit_i64 (by (first | omega | (have q1 := jobs_cost hok (show i < l.length by omega); simp only [Int.toNat_natCast]; omega))) (by (first | omega | (have q1 := jobs_cost hok (show i < l.length by omega); simp only [Int.toNat_natCast]; omega))) (spec_sub rfl (Get.tmp rfl) (Get.cint rfl)))) ?_ | refine L.op1 rfl rfl (GSpec.plain rfl (spec_sub rfl (Get.tmp rfl) (Get.cint rfl))) ?_
      refine L.op1 rfl rfl (GSpec.plain rfl (spec_move rfl (Get.tmp rfl))) ?_
      refine L.op1 rfl rfl (GSpec.plain rfl (spec_call rfl Tryd.call38 (div_ok _ _ (by omega) (by omega)) (.cons (Get.tmp rfl) (.cons (Get.tmp rfl) .nil)))) ?_
      refine L.op1 rfl rfl (GSpec.plain rfl (spec_move rfl (Get.tmp rfl))) ?_
      refine L.op1 rfl rfl (GSpec.plain rfl (spec_extract rfl (Get.tmp rfl) rfl)) ?_
      refine L.op1 rfl rfl (GSpec.plain rfl (spec_extract rfl (Get.tmp rfl) rfl)) ?_
      refine L.op1 rfl rfl (GSpec.plain rfl (spec_assign rfl (Get.tmp rfl))) ?_
      refine L.op1 rfl rfl (GSpec.plain rfl (spec_assign rfl (Get.tmp rfl))) ?_
      refine L.nil ?_
      refine N.thenW ?_
      refine W.keep (.cons (t := 4) rfl (.cons (t := 5) rfl (.cons (t := 7) rfl (.cons (t := 11) rfl (.cons (t := 12) rfl .nil))))) .refl ?_
      refine W.seq ?_
      refine W.seq ?_
      refine W.region ?_
      refine L.op1 rfl rfl (GSpec.plain rfl (spec_move rfl (Get.tmp rfl))) ?_
      refine L.op1 rfl rfl (GSpec.plain rfl (spec_neq rfl (Get.tmp rfl) (Get.cint rfl))) ?_
      refine L.nil ?_
      refine N.thenW ?_
      refine W.cond (Get.tmp rfl) (fun h3 => ?_) (fun h3 => ?_)
      · exfalso; have h := h3; simp at h
      · have ph3 := h3; try simp only [decide_eq_true_eq, decide_eq_false_iff_not, Bool.and_eq_true, Bool.or_eq_true, Bool.and_eq_false_iff, Bool.or_eq_false_iff, Bool.not_eq_true', Bool.not_eq_false', Bool.not_true, Bool.not_false, Int.not_lt, Int.not_le] at ph3
        refine W.skip ?_
        refine N.thenW ?_
        refine W.seq ?_
        refine W.region ?_
        refine L.op1 rfl rfl (GSpec.plain rfl (spec_move rfl (Get.tmp rfl))) ?_
        refine L.op1 rfl rfl (GSpec.plain rfl (spec_move rfl (Get.tmp rfl))) ?_
        refine L.op1 rfl rfl (GSpec.plain rfl (spec_max2 rfl (Get.tmp rfl) (Get.tmp rfl))) ?_
        refine L.op1 rfl rfl (GSpec.plain rfl (spec_assign rfl (Get.tmp rfl))) ?_
        refine L.op1 rfl rfl (GSpec.plain rfl (spec_assign rfl (Get.cint rfl))) ?_
        refine L.nil ?_
        refine N.thenW ?_
        refine W.keep (.cons (t := 4) rfl (.cons (t := 5) rfl .nil)) .refl ?_
        refine W.ret ?_
        refine N.ret () rfl (.tmp (t := 4) (Get.tmp rfl) (.tmp (t := 5) (Get.tmp rfl) .nil)) (res2w (eqI ?_) (eqI ?_)) .nil (fun _ _ h => h)
        rw [bound_yes q0, ei, List.take_length]
        rw [bound_yes q0]

theorem rbound_ok (l : List Jb) (w : Int) : CallT Tryd.prog 21 [Rp.slice eJ l, Rp.int .i64 w] [] (.one (Rp.tuple [Rp.int .i64 (boundE l w).1, Rp.int .i64 (boundE l w).2])) := by
  refine W.enter (fn := Tryd.f21) (n := 49) Tryd.func21 rfl Tryd.ntmps21 rfl (fun w₀ C₀ => ?_)
  simp only [argS]
  refine W.seq ?_
  refine W.region ?_
  refine L.op1 rfl rfl (GSpec.plain rfl (spec_assign rfl (Get.cint rfl))) ?_
  refine L.op1 rfl rfl (GSpec.plain rfl (spec_assign rfl (Get.cint rfl))) ?_
  refine L.nil ?_
  refine N.thenW ?_
  refine W.seq ?_
  refine W.seq ?_
  refine W.region ?_
  refine L.op1 rfl rfl (GSpec.plain rfl (spec_move rfl (Get.tmp rfl))) ?_
  refine L.op1 rfl rfl (GSpec.plain rfl (spec_lss rfl (Get.tmp rfl) (Get.cint rfl))) ?_
  refine L.op1 rfl rfl (GSpec.plain rfl (spec_move rfl (Get.tmp rfl))) ?_
  refine L.op1 rfl rfl (GSpec.guard rfl rfl rfl fun hg => (spec_move rfl (Get.tmp rfl))) ?_
  refine L.op1 rfl rfl (GSpec.guard rfl rfl rfl fun hg => (spec_gtr rfl (Get.opt rfl hg) (Get.cint rfl))) ?_
  refine L.op1 rfl rfl (GSpec.plain rfl (spec_or rfl (Get.tmp rfl) (fun hb => (Get.opt rfl hb)))) ?_
  refine L.nil ?_
  refine N.thenW ?_
  refine W.cond (Get.tmp rfl) (fun h1 => ?_) (fun h1 => ?_)
  · have ph1 := h1; simp only [decide_eq_true_eq, decide_eq_false_iff_not, Bool.and_eq_true, Bool.or_eq_true, Bool.and_eq_false_iff, Bool.or_eq_false_iff, Bool.not_eq_true', Bool.not_eq_false', Bool.not_true, Bool.not_false, Int.not_lt, Int.not_le] at ph1
    have q0 : askedE l w = 1 := asked_out (by omega)
    refine W.seq ?_
    refine W.region ?_
    refine L.op1 rfl rfl (GSpec.plain rfl (spec_assign rfl (Get.cint rfl))) ?_
    refine L.op1 rfl rfl (GSpec.plain rfl (spec_assign rfl (Get.cint rfl))) ?_
    refine L.nil ?_
    refine N.thenW ?_
    refine W.keep (.cons (t := 0) rfl (.cons (t := 1) rfl (.cons (t := 4) rfl (.cons (t := 5) rfl .nil)))) .refl ?_
    refine W.ret ?_
    refine N.ret () rfl (.tmp (t := 4) (Get.tmp rfl) (.tmp (t := 5) (Get.tmp rfl) .nil)) (res2w (eqI ?_) (eqI ?_)) .nil (fun _ _ h => h)
    rw [bound_no (by omega)]
    rw [bound_no (by omega), q0]
  · have ph1 := h1; simp only [decide_eq_true_eq, decide_eq_false_iff_not, Bool.and_eq_true, Bool.or_eq_true, Bool.and_eq_false_iff, Bool.or_eq_false_iff, Bool.not_eq_true', Bool.not_eq_false', Bool.not_true, Bool.not_false, Int.not_lt, Int.not_le] at ph1
    have q9 : askedE l w = jobsE l := asked_in (by omega) (by omega)
    refine W.skip ?_
    refine N.thenW ?_
    refine W.keep (.cons (t := 0) rfl (.cons (t := 1) rfl (.cons (t := 4) rfl (.cons (t := 5) rfl .nil)))) .refl ?_
    refine W.seq ?_
    refine W.region ?_
    refine L.op1 rfl rfl (GSpec.plain rfl (spec_move rfl (Get.tmp rfl))) ?_
    refine L.op1 rfl rfl (GSpec.plain rfl (spec_call rfl Tryd.call36 (check_ok _) (.cons (Get.tmp rfl) .nil))) ?_
    refine L.op1 rfl rfl (GSpec.plain rfl (spec_assign rfl (Get.tmp rfl))) ?_
    refine L.nil ?_
    refine N.thenW ?_
    refine W.seq ?_
    refine W.seq ?_
    refine W.region ?_
    refine L.op1 rfl rfl (GSpec.plain rfl (spec_move rfl (Get.tmp rfl))) ?_
    refine L.op1 rfl rfl (GSpec.plain rfl (spec_neq rfl (Get.tmp rfl) (Get.cint rfl))) ?_
    refine L.nil ?_
    refine N.thenW ?_
    refine W.cond (Get.tmp rfl) (fun h2 => ?_) (fun h2 => ?_)
    · have q0 : jobsE l ≠ 0 := by have h := h2; simpa using h
      refine W.seq ?_
      refine W.region ?_
      refine L.op1 rfl rfl (GSpec.plain rfl (spec_move rfl (Get.tmp rfl))) ?_
      refine L.op1 rfl rfl (GSpec.plain rfl (spec_assign rfl (Get.cint rfl))) ?_
      refine L.op1 rfl rfl (GSpec.plain rfl (spec_assign rfl (Get.tmp rfl))) ?_
      refine L.nil ?_
      refine N.thenW ?_
      refine W.keep (.cons (t := 0) rfl (.cons (t := 1) rfl (.cons (t := 4) rfl (.cons (t := 5) rfl .nil)))) .refl ?_
      refine W.ret ?_
      refine N.ret () rfl (.tmp (t := 4) (Get.tmp rfl) (.tmp (t := 5) (Get.tmp rfl) .nil)) (res2w (eqI ?_) (eqI ?_)) .nil (fun _ _ h => h)
      rw [bound_no (by omega)]
      rw [bound_no (by omega), q9]
    · have hok : jobsE l = 0 := by have h := h2; simpa using h
      have hl256 := (jobs_ok hok).1
      refine W.skip ?_
      refine N.thenW ?_
      refine W.seq ?_
      refine W.region ?_
      refine L.op1 rfl rfl (GSpec.plain rfl (spec_assign rfl (Get.cint rfl))) ?_
      refine L.nil ?_
      refine N.thenW ?_
      refine W.seq ?_
      refine W.region ?_
      refine L.op1 rfl rfl (GSpec.plain rfl (spec_assign rfl (Get.cint rfl))) ?_
      refine L.nil ?_
      refine N.thenW ?_
      refine W.seq ?_
      refine W.seq ?_
      refine W.region ?_
      refine L.op1 rfl rfl (GSpec.plain rfl (spec_assign rfl (Get.cint rfl))) ?_
      refine L.nil ?_
      refine N.thenW ?_
      refine W.block ?_
      refine W.loopK (σ := Nat) (.cons (t := 0) rfl (.cons (t := 1) rfl (.cons (t := 4) rfl (.cons (t := 5) rfl .nil)))) (fun z => [(9, Rp.int .i64 (z : Nat)), (7, Rp.int .i64 (greatC (l.take z))), (8, Rp.int .i64 (totalC (l.take z)))]) (fun z => []) (fun z => z ≤ l.length) (fun z => l.length - z) 0 (Nat.zero_le _) (.cons (t := 9) rfl (.cons (t := 7) rfl (.cons (t := 8) rfl .nil))) .nil ?_
      intro i hI S' M' hS hM
      try dsimp only at hS hM
      simp only [List.cons_append, List.nil_append] at hS hM
      subst hS hM
      try dsimp only
      have hc := fun h => jobs_cost hok (i := i) h
      have ht := total_range hok i (by omega)
      refine W.seq ?_
      refine W.seq ?_
      refine W.region ?_
      refine L.op1 rfl rfl (GSpec.plain rfl (spec_move rfl (Get.tmp rfl))) ?_
      refine L.op1 rfl rfl (GSpec.plain rfl (spec_move rfl (Get.tmp rfl))) ?_
      refine L.op1 rfl rfl (GSpec.plain rfl (spec_len rfl Tryd.underlying22 (Get.tmp rfl))) ?_
      refine L.op1 rfl rfl (GSpec.plain rfl (spec_lss rfl (Get.tmp rfl) (Get.tmp rfl))) ?_
      refine L.nil ?_
      refine N.thenW ?_
      refine W.cond (Get.tmp rfl) (fun h3 => ?_) (fun h3 => ?_)
      · have ph3 := h3; try simp only [decide_eq_true_eq, decide_eq_false_iff_not, Bool.and_eq_true, Bool.or_eq_true, Bool.and_eq_false_iff, Bool.or_eq_false_iff, Bool.not_eq_true', Bool.not_eq_false', Bool.not_true, Bool.not_false, Int.not_lt, Int.not_le] at ph3
        refine W.skip ?_
        refine N.thenW ?_
        refine W.seq ?_
        refine W.block ?_
        refine W.seq ?_
        refine W.region ?_
        refine L.op1 rfl rfl (GSpec.plain rfl (spec_move rfl (Get.tmp rfl))) ?_
        refine L.op1 rfl rfl (GSpec.plain rfl (spec_move rfl (Get.tmp rfl))) ?_
        refine L.op1 rfl rfl (GSpec.plain rfl (spec_move rfl (Get.tmp rfl))) ?_
        refine L.op1 rfl rfl (GSpec.plain rfl (spec_indexAddrD (E := eJ) rfl Tryd.underlying22 Tryd.sizeOf28 (fun _ => rfl) (Get.tmp rfl) (Get.tmp rfl) (by (first | omega | (have q1 := jobs_cost hok (show i < l.length by omega); simp only [Int.toNat_natCast]; omega))))) ?_
        refine L.op1 rfl rfl (GSpec.plain rfl (spec_fieldAddrP (f := 4) rfl Tryd.underlying28 rfl Tryd.sizeOf3 (Get.tmp rfl) rfl rfl)) ?_
        refine L.op1 rfl rfl (GSpec.plain rfl (spec_loadP1 rfl Tryd.isAgg3 (Get.tmp rfl))) ?_
        refine L.op1 rfl rfl (GSpec.plain rfl (spec_max2 rfl (Get.tmp rfl) (Get.tmp rfl))) ?_
        refine L.op1 rfl rfl (GSpec.plain rfl (spec_assign rfl (Get.tmp rfl))) ?_
        refine L.nil ?_
        refine N.thenW ?_
        refine W.region ?_
        refine L.op1 rfl rfl (GSpec.plain rfl (spec_move rfl (Get.tmp rfl))) ?_
        refine L.op1 rfl rfl (GSpec.plain rfl (spec_move rfl (Get.tmp rfl))) ?_
        refine L.op1 rfl rfl (GSpec.plain rfl (spec_move rfl (Get.tmp rfl))) ?_
        refine L.op1 rfl rfl (GSpec.plain rfl (spec_indexAddrD (E := eJ) rfl Tryd.underlying22 Tryd.sizeOf28 (fun _ => rfl) (Get.tmp rfl) (Get.tmp rfl) (by (first | omega | (have q1 := jobs_cost hok (show i < l.length by omega); simp only [Int.toNat_natCast]; omega))))) ?_
        refine L.op1 rfl rfl (GSpec.plain rfl (spec_fieldAddrP (f := 4) rfl Tryd.underlying28 rfl Tryd.sizeOf3 (Get.tmp rfl) rfl rfl)) ?_
        refine L.op1 rfl rfl (GSpec.plain rfl (spec_loadP1 rfl Tryd.isAgg3 (Get.tmp rfl))) ?_
        first | refine L.op1 rfl rfl (GSpec.plain rfl (fit_i64 (by (first | omega | (have q1 := jobs_cost hok (show i < l.length by omega); simp only [Int.toNat_natCast]; omega))) (by (first | omega | (have q1 := jobs_cost hok (show i < l.length by omega); simp only [Int.toNat_natCast]; omega))) (spec_add rfl (Get.tmp rfl) (Get.tmp rfl)))) ?_ | refine L.op1 rfl rfl (GSpec.plain rfl (spec_add rfl (Get.tmp rfl) (Get.tmp rfl))) ?_
        refine L.op1 rfl rfl (GSpec.plain rfl (spec_assign rfl (Get.tmp rfl))) ?_
        refine L.nil ?_
        refine N.blockNormal ?_
        refine N.thenW ?_
        refine W.region ?_
        refine L.op1 rfl rfl (GSpec.plain rfl (spec_move rfl (Get.tmp rfl))) ?_
        first | refine L.op1 rfl rfl (GSpec.plain rfl (fit_i64 (by (first | omega | (have q1 := jobs_cost hok (show i < l.length by omega); simp only [Int.toNat_natCast]; omega))) (by (first | omega | (have q1 := jobs_cost hok (show i < l.length by omega); simp only [Int.toNat_natCast]; omega))) (spec_add rfl (Get.tmp rfl) (Get.cint rfl)))) ?_ | refine L.op1 rfl rfl (GSpec.plain rfl (spec_add rfl (Get.tmp rfl) (Get.cint rfl))) ?_
        refine L.op1 rfl rfl (GSpec.plain rfl (spec_assign rfl (Get.tmp rfl))) ?_
        refine L.nil ?_
        refine N.roundK (i + 1) ?hI3 ?hmu3 ?hs3 ?hk3 ?hp3
        case hs3 => exact (.cons (t := 9) rfl (.weak (t := 7) rfl (eqI (by simp only [Int.toNat_natCast]; first | exact (great_step (by omega)).symm | exact (total_step (by omega)).symm)) (.weak (t := 8) rfl (eqI (by simp only [Int.toNat_natCast]; first | exact (great_step (by omega)).symm | exact (total_step (by omega)).symm)) .nil)))
        case hk3 => exact (.cons (t := 0) rfl (.cons (t := 1) rfl (.cons (t := 4) rfl (.cons (t := 5) rfl .nil))))
        case hp3 => exact .nil
        all_goals (first | rfl | trivial | omega | (simp_all; done))
      · have ph3 := h3; try simp only [decide_eq_true_eq, decide_eq_false_iff_not, Bool.and_eq_true, Bool.or_eq_true, Bool.and_eq_false_iff, Bool.or_eq_false_iff, Bool.not_eq_true', Bool.not_eq_false', Bool.not_true, Bool.not_false, Int.not_lt, Int.not_le] at ph3
        refine W.exit ?_
        refine N.thenExit ?_
        refine N.thenExit ?_
        refine N.blockExit ?_
        refine N.thenW ?_
        have ei : i = l.length := by omega
        have ht := total_range hok i (by omega)
        refine W.keep (.cons (t := 1) rfl (.cons (t := 4) rfl (.cons (t := 5) rfl (.cons (t := 7) rfl (.cons (t := 8) rfl .nil))))) .refl ?_
        refine W.seq ?_
        refine W.region ?_
        refine L.op1 rfl rfl (GSpec.plain rfl (spec_move rfl (Get.tmp rfl))) ?_
        refine L.op1 rfl rfl (GSpec.plain rfl (spec_move rfl (Get.tmp rfl))) ?_
        refine L.op1 rfl rfl (GSpec.plain rfl (spec_move rfl (Get.tmp rfl))) ?_
        first | refine L.op1 rfl rfl (GSpec.plain rfl (fit_i64 (by (first | omega | (have q1 := jobs_cost hok (show i < l.length by omega); simp only [Int.toNat_natCast]; omega))) (by (first | omega | (have q1 := jobs_cost hok (show i < l.length by omega); simp only [Int.toNat_natCast]; omega))) (spec_add rfl (Get.tmp rfl) (Get.tmp rfl)))) ?_ | refine L.op1 rfl rfl (GSpec.plain rfl (spec_add rfl (Get.tmp rfl) (Get.tmp rfl))) ?_
        first | refine L.op1 rfl rfl (GSpec.plain rfl (fit_i64 (by (first | omega | (have q1 := jobs_cost hok (show i < l.length by omega); simp only [Int.toNat_natCast]; omega))) (by (first | omega | (have q1 := jobs_cost hok (show i < l.length by omega); simp only [Int.toNat_natCast]; omega))) (spec_sub rfl (Get.tmp rfl) (Get.cint rfl)))) ?_ | refine L.op1 rfl rfl (GSpec.plain rfl (spec_sub rfl (Get.tmp rfl) (Get.cint rfl))) ?_
        refine L.op1 rfl rfl (GSpec.plain rfl (spec_move rfl (Get.tmp rfl))) ?_
        first | refine L.op1 rfl rfl (GSpec.plain rfl (spec_quoP rfl (Get.tmp rfl) (Get.tmp rfl) (by (first | omega | (have q1 := jobs_cost hok (show i < l.length by omega); simp only [Int.toNat_natCast]; omega))) (by (first | omega | (have q1 := jobs_cost hok (show i < l.length by omega); simp only [Int.toNat_natCast]; omega))))) ?_ | refine L.op1 rfl rfl (GSpec.plain rfl (fit_i64 (by (first | omega | (have q1 := jobs_cost hok (show i < l.length by omega); simp only [Int.toNat_natCast]; omega))) (by (first | omega | (have q1 := jobs_cost hok (show i < l.length by omega); simp only [Int.toNat_natCast]; omega))) (spec_quo rfl (Get.tmp rfl) (Get.tmp rfl) (by (first | omega | (have q1 := jobs_cost hok (show i < l.length by omega); simp only [Int.toNat_natCast]; omega)))))) ?_ | refine L.op1 rfl rfl (GSpec.plain rfl (spec_quo rfl (Get.tmp rfl) (Get.tmp rfl) (by (first | omega | (have q1 := jobs_cost hok (show i < l.length by omega); simp only [Int.toNat_natCast]; omega))))) ?_
        refine L.op1 rfl rfl (GSpec.plain rfl (spec_max2 rfl (Get.tmp rfl) (Get.tmp rfl))) ?_
        refine L.op1 rfl rfl (GSpec.plain rfl (spec_assign rfl (Get.tmp rfl))) ?_
        refine L.op1 rfl rfl (GSpec.plain rfl (spec_assign rfl (Get.cint rfl))) ?_
        refine L.nil ?_
        refine N.thenW ?_
        refine W.keep (.cons (t := 4) rfl (.cons (t := 5) rfl .nil)) .refl ?_
        refine W.ret ?_
        refine N.ret () rfl (.tmp (t := 4) (Get.tmp rfl) (.tmp (t := 5) (Get.tmp rfl) .nil)) (res2w (eqI ?_) (eqI ?_)) .nil (fun _ _ h => h)
        rw [bound_yes (by omega), ei, List.take_length]
        rw [bound_yes (by omega)]

end Go.Proofs.YtlbhpjigjehffaaDoor
set_option linter.unusedSimpArgs false
set_option maxRecDepth 8000
set_option linter.unusedVariables false
namespace Go.Proofs.YtlbhpjigjehffaaDoor
open Go.Sim
theorem span_ok (l : List Jb) (p : List (List Int)) : CallT Tryd.prog 23 [Rp.slice eJ l, Rp.slice eII p] [kwG] (.one (Rp.tuple [Rp.int .i64 (spanE l p).1, Rp.int .i64 (spanE l p).2])) := by
  refine W.enter (fn := Tryd.f23) (n := 33) Tryd.func23 rfl Tryd.ntmps23 rfl (fun w₀ C₀ => ?_)
  simp only [argS]
  refine W.fact 1 rfl slice_fact fun hp => ?_
  refine W.seq ?_
  refine W.region ?_
  refine L.op1 rfl rfl (GSpec.plain rfl (spec_assign rfl (Get.cint rfl))) ?_
  refine L.op1 rfl rfl (GSpec.plain rfl (spec_assign rfl (Get.cint rfl))) ?_
  refine L.nil ?_
  refine N.thenW ?_
  refine W.seq ?_
  refine W.seq ?_
  refine W.region ?_
  refine L.op1 rfl rfl (GSpec.plain rfl (spec_move rfl (Get.tmp rfl))) ?_
  refine L.op1 rfl rfl (GSpec.plain rfl (spec_callG (k := 0) rfl Tryd.call39 rfl (jobs_ok_ _) (.cons (Get.tmp rfl) .nil))) ?_
  refine L.op1 rfl rfl (GSpec.plain rfl (spec_assign rfl (Get.tmp rfl))) ?_
  refine L.nil ?_
  refine N.thenW ?_
  refine W.seq ?_
  refine W.region ?_
  refine L.op1 rfl rfl (GSpec.plain rfl (spec_move rfl (Get.tmp rfl))) ?_
  refine L.op1 rfl rfl (GSpec.plain rfl (spec_neq rfl (Get.tmp rfl) (Get.cint rfl))) ?_
  refine L.nil ?_
  refine N.thenW ?_
  refine W.cond (Get.tmp rfl) (fun h1 => ?_) (fun h1 => ?_)
  · have q0 : jobsE l ≠ 0 := by have h := h1; simpa using h
    refine W.seq ?_
    refine W.region ?_
    refine L.op1 rfl rfl (GSpec.plain rfl (spec_move rfl (Get.tmp rfl))) ?_
    refine L.op1 rfl rfl (GSpec.plain rfl (spec_assign rfl (Get.cint rfl))) ?_
    refine L.op1 rfl rfl (GSpec.plain rfl (spec_assign rfl (Get.tmp rfl))) ?_
    refine L.nil ?_
    refine N.thenW ?_
    refine W.keep (.cons (t := 0) rfl (.cons (t := 1) rfl (.cons (t := 4) rfl (.cons (t := 5) rfl .nil)))) .refl ?_
    refine W.ret ?_
    refine N.ret () rfl (.tmp (t := 4) (Get.tmp rfl) (.tmp (t := 5) (Get.tmp rfl) .nil)) (res2w (eqI ?_) (eqI ?_)) .nil (fun _ _ h => h)
    all_goals rw [span_no q0]
  · have hok : jobsE l = 0 := by have h := h1; simpa using h
    have hl256 := (jobs_ok hok).1
    refine W.skip ?_
    refine N.thenW ?_
    refine W.seq ?_
    refine W.seq ?_
    refine W.region ?_
    refine L.op1 rfl rfl (GSpec.plain rfl (spec_move rfl (Get.tmp rfl))) ?_
    refine L.op1 rfl rfl (GSpec.plain rfl (spec_move rfl (Get.tmp rfl))) ?_
    refine L.op1 rfl rfl (GSpec.plain rfl (spec_len rfl Tryd.underlying22 (Get.tmp rfl))) ?_
    refine L.op1 rfl rfl (GSpec.plain rfl (spec_call rfl Tryd.call40 (complete_ok _ _ (by omega)) (.cons (Get.tmp rfl) (.cons (Get.tmp rfl) .nil)))) ?_
    refine L.op1 rfl rfl (GSpec.plain rfl (spec_not rfl (Get.tmp rfl))) ?_
    refine L.nil ?_
    refine N.thenW ?_
    refine W.keep (.cons (t := 0) rfl (.cons (t := 1) rfl (.cons (t := 4) rfl (.cons (t := 5) rfl (.cons (t := 19) rfl .nil))))) .refl ?_
    refine W.cond (Get.tmp rfl) (fun h2 => ?_) (fun h2 => ?_)
    · have q1 : completeB p l.length = false := by have h := h2; rw [Bool.not_eq_true'] at h; exact h
      refine W.seq ?_
      refine W.region ?_
      refine L.op1 rfl rfl (GSpec.plain rfl (spec_assign rfl (Get.cint rfl))) ?_
      refine L.op1 rfl rfl (GSpec.plain rfl (spec_assign rfl (Get.cint rfl))) ?_
      refine L.nil ?_
      refine N.thenW ?_
      refine W.ret ?_
      refine N.ret () rfl (.tmp (t := 4) (Get.tmp rfl) (.tmp (t := 5) (Get.tmp rfl) .nil)) (res2w (eqI ?_) (eqI ?_)) .nil (fun _ _ h => h)
      all_goals rw [span_bad hok q1]
    · have q1 : completeB p l.length = true := by have h := h2; rw [Bool.not_eq_false'] at h; exact h
      have hin := complete_in q1
      refine W.skip ?_
      refine N.thenW ?_
      refine W.seq ?_
      refine W.region ?_
      refine L.op1 rfl rfl (GSpec.plain rfl (spec_assign rfl (Get.cint rfl))) ?_
      refine L.nil ?_
      refine N.thenW ?_
      refine W.seq ?_
      refine W.seq ?_
      refine W.region ?_
      refine L.op1 rfl rfl (GSpec.plain rfl (spec_move rfl (Get.tmp rfl))) ?_
      refine L.op1 rfl rfl (GSpec.plain rfl (spec_len rfl Tryd.underlying34 (Get.tmp rfl))) ?_
      refine L.op1 rfl rfl (GSpec.plain rfl (spec_move rfl (Get.cint rfl))) ?_
      refine L.nil ?_
      refine N.thenW ?_
      refine W.block ?_
      refine W.loopK (σ := Nat) (.cons (t := 0) rfl (.cons (t := 4) rfl (.cons (t := 5) rfl (.cons (t := 20) rfl (.cons (t := 21) rfl .nil))))) (fun z => [(22, Rp.int .i64 (z : Nat)), (7, Rp.int .i64 (spanC l (p.take z)))]) (fun z => []) (fun z => z ≤ p.length) (fun z => p.length - z) 0 (Nat.zero_le _) (.cons (t := 22) rfl (.cons (t := 7) rfl .nil)) (.cons 0 rfl .nil) ?_
      intro i hI S' M' hS hM
      try dsimp only at hS hM
      simp only [List.cons_append, List.nil_append] at hS hM
      subst hS hM
      try dsimp only
      refine W.seq ?_
      refine W.region ?_
      refine L.op1 rfl rfl (GSpec.plain rfl (spec_lss rfl (Get.tmp rfl) (Get.tmp rfl))) ?_
      refine L.nil ?_
      refine N.thenW ?_
      refine W.seq ?_
      refine W.cond (Get.tmp rfl) (fun h3 => ?_) (fun h3 => ?_)
      · have ph3 := h3; try simp only [decide_eq_true_eq, decide_eq_false_iff_not, Bool.and_eq_true, Bool.or_eq_true, Bool.and_eq_false_iff, Bool.or_eq_false_iff, Bool.not_eq_true', Bool.not_eq_false', Bool.not_true, Bool.not_false, Int.not_lt, Int.not_le] at ph3
        refine W.skip ?_
        refine N.thenW ?_
        refine W.seq ?_
        refine W.block ?_
        refine W.seq ?_
        refine W.region ?_
        refine L.op1 rfl rfl (GSpec.plain rfl (spec_indexAddrD (E := eII) rfl Tryd.underlying34 Tryd.sizeOf32 (fun _ => rfl) (Get.tmp rfl) (Get.tmp rfl) (by omega))) ?_
        refine L.op1 rfl rfl (GSpec.plain rfl (spec_loadP1 rfl Tryd.isAgg32 (Get.tmp rfl))) ?_
        refine L.op1 rfl rfl (GSpec.plain rfl (spec_assign rfl (Get.tmp rfl))) ?_
        refine L.nil ?_
        refine N.thenW ?_
        refine W.region ?_
        refine L.op1 rfl rfl (GSpec.plain rfl (spec_move rfl (Get.tmp rfl))) ?_
        refine L.op1 rfl rfl (GSpec.plain rfl (spec_move rfl (Get.tmp rfl))) ?_
        refine L.op1 rfl rfl (GSpec.plain rfl (spec_move rfl (Get.tmp rfl))) ?_
        refine L.op1 rfl rfl (GSpec.plain rfl (spec_call rfl Tryd.call41 (sum_ok _ _ hok (hin _ (getD_mem' (by omega))) (by have := complete_len q1 (show i < p.length by omega); simp only [Int.toNat_natCast]; unfold rowAt at this; omega)) (.cons (Get.tmp rfl) (.cons (Get.tmp rfl) .nil)))) ?_
        refine L.op1 rfl rfl (GSpec.plain rfl (spec_max2 rfl (Get.tmp rfl) (Get.tmp rfl))) ?_
        refine L.op1 rfl rfl (GSpec.plain rfl (spec_assign rfl (Get.tmp rfl))) ?_
        refine L.nil ?_
        refine N.blockNormal ?_
        refine N.thenW ?_
        refine W.region ?_
        first | refine L.op1 rfl rfl (GSpec.plain rfl (fit_i64 (by omega) (by omega) (spec_add rfl (Get.tmp rfl) (Get.cint rfl)))) ?_ | refine L.op1 rfl rfl (GSpec.plain rfl (spec_add rfl (Get.tmp rfl) (Get.cint rfl))) ?_
        refine L.op1 rfl rfl (GSpec.plain rfl (spec_move rfl (Get.tmp rfl))) ?_
        refine L.nil ?_
        refine N.roundK (i + 1) ?hI1 ?hmu1 ?hs1 ?hk1 ?hp1
        case hs1 => exact (.cons (t := 22) rfl (.weak (t := 7) rfl (eqI (by simp only [Int.toNat_natCast]; exact (span_step (by omega)).symm)) .nil))
        case hk1 => exact (.cons (t := 0) rfl (.cons (t := 4) rfl (.cons (t := 5) rfl (.cons (t := 20) rfl (.cons (t := 21) rfl .nil)))))
        case hp1 => exact (.cons 0 rfl .nil)
        all_goals (first | rfl | trivial | omega | (simp_all; done))
      · have ph3 := h3; try simp only [decide_eq_true_eq, decide_eq_false_iff_not, Bool.and_eq_true, Bool.or_eq_true, Bool.and_eq_false_iff, Bool.or_eq_false_iff, Bool.not_eq_true', Bool.not_eq_false', Bool.not_true, Bool.not_false, Int.not_lt, Int.not_le] at ph3
        refine W.exit ?_
        refine N.thenExit ?_
        refine N.thenExit ?_
        refine N.blockExit ?_
        refine N.thenW ?_
        refine W.seq ?_
        refine W.region ?_
        refine L.op1 rfl rfl (GSpec.plain rfl (spec_move rfl (Get.tmp rfl))) ?_
        refine L.op1 rfl rfl (GSpec.plain rfl (spec_assign rfl (Get.tmp rfl))) ?_
        refine L.op1 rfl rfl (GSpec.plain rfl (spec_assign rfl (Get.cint rfl))) ?_
        refine L.nil ?_
        refine N.thenW ?_
        refine W.keep (.cons (t := 4) rfl (.cons (t := 5) rfl .nil)) .refl ?_
        refine W.ret ?_
        refine N.ret () rfl (.tmp (t := 4) (Get.tmp rfl) (.tmp (t := 5) (Get.tmp rfl) .nil)) (res2w (eqI ?_) (eqI ?_)) .nil (fun _ _ h => h)
        rw [span_yes hok q1, show i = p.length by omega, List.take_length]
        rw [span_yes hok q1]

theorem rspan_ok (l : List Jb) (p : List (List Int)) : CallT Tryd.prog 24 [Rp.slice eJ l, Rp.slice eII p] [] (.one (Rp.tuple [Rp.int .i64 (spanE l p).1, Rp.int .i64 (spanE l p).2])) := by
  refine W.enter (fn := Tryd.f24) (n := 82) Tryd.func24 rfl Tryd.ntmps24 rfl (fun w₀ C₀ => ?_)
  simp only [argS]
  refine W.fact 1 rfl slice_fact fun hp => ?_
  refine W.seq ?_
  refine W.region ?_
  refine L.op1 rfl rfl (GSpec.plain rfl (spec_assign rfl (Get.cint rfl))) ?_
  refine L.op1 rfl rfl (GSpec.plain rfl (spec_assign rfl (Get.cint rfl))) ?_
  refine L.nil ?_
  refine N.thenW ?_
  refine W.seq ?_
  refine W.region ?_
  refine L.op1 rfl rfl (GSpec.plain rfl (spec_move rfl (Get.tmp rfl))) ?_
  refine L.op1 rfl rfl (GSpec.plain rfl (spec_call rfl Tryd.call36 (check_ok _) (.cons (Get.tmp rfl) .nil))) ?_
  refine L.op1 rfl rfl (GSpec.plain rfl (spec_assign rfl (Get.tmp rfl))) ?_
  refine L.nil ?_
  refine N.thenW ?_
  refine W.seq ?_
  refine W.seq ?_
  refine W.region ?_
  refine L.op1 rfl rfl (GSpec.plain rfl (spec_move rfl (Get.tmp rfl))) ?_
  refine L.op1 rfl rfl (GSpec.plain rfl (spec_neq rfl (Get.tmp rfl) (Get.cint rfl))) ?_
  refine L.nil ?_
  refine N.thenW ?_
  refine W.cond (Get.tmp rfl) (fun h1 => ?_) (fun h1 => ?_)
  · have q0 : jobsE l ≠ 0 := by have h := h1; simpa using h
    refine W.seq ?_
    refine W.region ?_
    refine L.op1 rfl rfl (GSpec.plain rfl (spec_move rfl (Get.tmp rfl))) ?_
    refine L.op1 rfl rfl (GSpec.plain rfl (spec_assign rfl (Get.cint rfl))) ?_
    refine L.op1 rfl rfl (GSpec.plain rfl (spec_assign rfl (Get.tmp rfl))) ?_
    refine L.nil ?_
    refine N.thenW ?_
    refine W.keep (.cons (t := 0) rfl (.cons (t := 1) rfl (.cons (t := 4) rfl (.cons (t := 5) rfl .nil)))) .refl ?_
    refine W.ret ?_
    refine N.ret () rfl (.tmp (t := 4) (Get.tmp rfl) (.tmp (t := 5) (Get.tmp rfl) .nil)) (res2w (eqI ?_) (eqI ?_)) .nil (fun _ _ h => h)
    all_goals rw [span_no q0]
  · have hok : jobsE l = 0 := by have h := h1; simpa using h
    have hl256 := (jobs_ok hok).1
    refine W.skip ?_
    refine N.thenW ?_
    refine W.seq ?_
    refine W.region ?_
    refine L.op1 rfl rfl (GSpec.plain rfl (spec_move rfl (Get.tmp rfl))) ?_
    refine L.op1 rfl rfl (GSpec.plain rfl (spec_len rfl Tryd.underlying22 (Get.tmp rfl))) ?_
    refine L.op rfl rfl (GSpec.plain rfl (spec_makeSlice (z₀ := false) (E := eB) rfl Tryd.underlying57 ti4 z4 (fun _ => rfl) (Get.tmp rfl) (Get.tmp rfl) (by (first | omega | (simp only [Int.toNat_natCast, ← hx]; omega))) (by (first | omega | (simp only [Int.toNat_natCast, ← hx]; omega))) (by (first | omega | (simp only [Int.toNat_natCast, ← hx]; omega))))) (fun v21 => ?_)
    refine L.op1 rfl rfl (GSpec.plain rfl (spec_assign rfl (Get.tmp rfl))) ?_
    refine L.nil ?_
    refine N.thenW ?_
    refine W.keep (.cons (t := 0) rfl (.cons (t := 1) rfl (.cons (t := 4) rfl (.cons (t := 5) rfl (.cons (t := 7) rfl .nil))))) .refl ?_
    refine W.seq ?_
    refine W.region ?_
    refine L.op1 rfl rfl (GSpec.plain rfl (spec_assign rfl (Get.cint rfl))) ?_
    refine L.nil ?_
    refine N.thenW ?_
    refine W.seq ?_
    refine W.seq ?_
    refine W.region ?_
    refine L.op1 rfl rfl (GSpec.plain rfl (spec_assign rfl (Get.cint rfl))) ?_
    refine L.nil ?_
    refine N.thenW ?_
    refine W.block ?_
    -- assigned in the loop, not kept: [4, 5]
    refine W.loopK (σ := Nat) (.cons (t := 0) rfl (.cons (t := 1) rfl (.cons (t := 7) rfl .nil))) (fun z => [(9, Rp.int .i64 (z : Nat)), (8, Rp.int .i64 (l.length - (planC (cs0 l.length) (p.take z)).left))]) (fun z => [MF.osl v21 4 1 eB ((planC (cs0 l.length) (p.take z)).seen)]) (fun z => z ≤ p.length ∧ planOk (cs0 l.length) (p.take z) = true) (fun z => p.length - z) 0 ⟨Nat.zero_le _, rfl⟩ (.cons (t := 9) rfl (.weak (t := 8) rfl (eqI (by simp [planC, cs0])) .nil)) (.cons 0 rfl .nil) ?_
    intro i hI S' M' hS hM
    obtain ⟨hI1, hI2⟩ := hI
    try dsimp only at hS hM
    simp only [List.cons_append, List.nil_append] at hS hM
    subst hS hM
    try dsimp only
    have hpl := plan_left hI2
    refine W.seq ?_
    refine W.seq ?_
    refine W.region ?_
    refine L.op1 rfl rfl (GSpec.plain rfl (spec_move rfl (Get.tmp rfl))) ?_
    refine L.op1 rfl rfl (GSpec.plain rfl (spec_move rfl (Get.tmp rfl))) ?_
    refine L.op1 rfl rfl (GSpec.plain rfl (spec_len rfl Tryd.underlying34 (Get.tmp rfl))) ?_
    refine L.op1 rfl rfl (GSpec.plain rfl (spec_lss rfl (Get.tmp rfl) (Get.tmp rfl))) ?_
    refine L.nil ?_
    refine N.thenW ?_
    refine W.cond (Get.tmp rfl) (fun h2 => ?_) (fun h2 => ?_)
    · have ph2 := h2; try simp only [decide_eq_true_eq, decide_eq_false_iff_not, Bool.and_eq_true, Bool.or_eq_true, Bool.and_eq_false_iff, Bool.or_eq_false_iff, Bool.not_eq_true', Bool.not_eq_false', Bool.not_true, Bool.not_false, Int.not_lt, Int.not_le] at ph2
      refine W.skip ?_
      refine N.thenW ?_
      refine W.seq ?_
      refine W.block ?_
      refine W.seq ?_
      refine W.region ?_
      refine L.op1 rfl rfl (GSpec.plain rfl (spec_assign rfl (Get.cint rfl))) ?_
      refine L.nil ?_
      refine N.thenW ?_
      obtain ⟨x, hx⟩ : ∃ x, x = p.getD i default := ⟨_, rfl⟩
      refine W.block ?_
      refine W.loopK (σ := Nat) (.cons (t := 0) rfl (.cons (t := 1) rfl (.cons (t := 7) rfl (.cons (t := 9) rfl (.cons (t := 22) rfl (.cons (t := 23) rfl (.cons (t := 24) rfl (.cons (t := 25) rfl .nil)))))))) (fun z => [(10, Rp.int .i64 (z : Nat)), (8, Rp.int .i64 (l.length - (rowC (planC (cs0 l.length) (p.take i)) (x.take z)).left))]) (fun z => [MF.osl v21 4 1 eB ((rowC (planC (cs0 l.length) (p.take i)) (x.take z)).seen)]) (fun z => z ≤ x.length ∧ rowOk (planC (cs0 l.length) (p.take i)) (x.take z) = true) (fun z => x.length - z) 0 ⟨Nat.zero_le _, rfl⟩ (.cons (t := 10) rfl (.cons (t := 8) rfl .nil)) (.cons 0 rfl .nil) ?_
      intro k hI S' M' hS hM
      obtain ⟨hK1, hK2⟩ := hI
      try dsimp only at hS hM
      simp only [List.cons_append, List.nil_append] at hS hM
      subst hS hM
      try dsimp only
      have hsl : (rowC (planC (cs0 l.length) (p.take i)) (x.take k)).seen.length = l.length := by rw [hx]; exact st_len l.length p i k
      have hlp : 0 ≤ (rowC (planC (cs0 l.length) (p.take i)) (x.take k)).left ∧ (rowC (planC (cs0 l.length) (p.take i)) (x.take k)).left ≤ l.length := by rw [hx] at hK2 ⊢; exact left_pos hI2 hK2
      refine W.seq ?_
      refine W.seq ?_
      refine W.region ?_
      refine L.op1 rfl rfl (GSpec.plain rfl (spec_move rfl (Get.tmp rfl))) ?_
      refine L.op1 rfl rfl (GSpec.plain rfl (spec_move rfl (Get.tmp rfl))) ?_
      refine L.op1 rfl rfl (GSpec.plain rfl (spec_move rfl (Get.tmp rfl))) ?_
      refine L.op1 rfl rfl (GSpec.plain rfl (spec_indexAddrD (E := eII) rfl Tryd.underlying34 Tryd.sizeOf32 (fun _ => rfl) (Get.tmp rfl) (Get.tmp rfl) (by (first | omega | (simp only [Int.toNat_natCast, ← hx]; omega))))) ?_
      refine L.op1 rfl rfl (GSpec.plain rfl (spec_loadP1 rfl Tryd.isAgg32 (Get.tmp rfl))) ?_
      refine L.op1 rfl rfl (GSpec.plain rfl (spec_len rfl Tryd.underlying32 (Get.tmp rfl))) ?_
      refine L.op1 rfl rfl (GSpec.plain rfl (spec_lss rfl (Get.tmp rfl) (Get.tmp rfl))) ?_
      refine L.nil ?_
      refine N.thenW ?_
      refine W.cond (Get.tmp rfl) (fun h3 => ?_) (fun h3 => ?_)
      · have ph3 := h3; simp only [decide_eq_true_eq, decide_eq_false_iff_not, Bool.and_eq_true, Bool.or_eq_true, Bool.and_eq_false_iff, Bool.or_eq_false_iff, Bool.not_eq_true', Bool.not_eq_false', Bool.not_true, Bool.not_false, Int.not_lt, Int.not_le, Int.toNat_natCast, ← hx] at ph3
        refine W.fact 32 rfl slice_fact fun hr => ?_
        simp only [Int.toNat_natCast, ← hx] at hr
        refine W.skip ?_
        refine N.thenW ?_
        refine W.seq ?_
        refine W.block ?_
        refine W.seq ?_
        refine W.region ?_
        refine L.op1 rfl rfl (GSpec.plain rfl (spec_move rfl (Get.tmp rfl))) ?_
        refine L.op1 rfl rfl (GSpec.plain rfl (spec_move rfl (Get.tmp rfl))) ?_
        refine L.op1 rfl rfl (GSpec.plain rfl (spec_indexAddrD (E := eII) rfl Tryd.underlying34 Tryd.sizeOf32 (fun _ => rfl) (Get.tmp rfl) (Get.tmp rfl) (by (first | omega | (simp only [Int.toNat_natCast, ← hx]; omega))))) ?_
        refine L.op1 rfl rfl (GSpec.plain rfl (spec_loadP1 rfl Tryd.isAgg32 (Get.tmp rfl))) ?_
        refine L.op1 rfl rfl (GSpec.plain rfl (spec_move rfl (Get.tmp rfl))) ?_
        refine L.op1 rfl rfl (GSpec.plain rfl (spec_indexAddrD (E := eI) rfl Tryd.underlying32 Tryd.sizeOf3 (fun _ => rfl) (Get.tmp rfl) (Get.tmp rfl) (by (first | omega | (simp only [Int.toNat_natCast, ← hx]; omega))))) ?_
        refine L.op1 rfl rfl (GSpec.plain rfl (spec_loadP1 rfl Tryd.isAgg3 (Get.tmp rfl))) ?_
        refine L.op1 rfl rfl (GSpec.plain rfl (spec_assign rfl (Get.tmp rfl))) ?_
        refine L.nil ?_
        refine N.thenW ?_
        refine W.seq ?_
        refine W.seq ?_
        refine W.region ?_
        refine L.op1 rfl rfl (GSpec.plain rfl (spec_move rfl (Get.tmp rfl))) ?_
        refine L.op1 rfl rfl (GSpec.plain rfl (spec_lss rfl (Get.tmp rfl) (Get.cint rfl))) ?_
        refine L.op1 rfl rfl (GSpec.plain rfl (spec_move rfl (Get.tmp rfl))) ?_
        refine L.op1 rfl rfl (GSpec.guard rfl rfl rfl fun hg => (spec_move rfl (Get.tmp rfl))) ?_
        refine L.op1 rfl rfl (GSpec.guard rfl rfl rfl fun hg => (spec_move rfl (Get.tmp rfl))) ?_
        refine L.op1 rfl rfl (GSpec.guard rfl rfl rfl fun hg => (spec_len rfl Tryd.underlying22 (Get.opt rfl hg))) ?_
        refine L.op1 rfl rfl (GSpec.guard rfl rfl rfl fun hg => (spec_geq rfl (Get.opt rfl hg) (Get.opt rfl hg))) ?_
        refine L.op1 rfl rfl (GSpec.plain rfl (spec_or rfl (Get.tmp rfl) (fun hb => (Get.opt rfl hb)))) ?_
        refine L.op1 rfl rfl (GSpec.plain rfl (spec_move rfl (Get.tmp rfl))) ?_
        refine L.op1 rfl rfl (GSpec.guard rfl rfl rfl fun hg => (spec_move rfl (Get.tmp rfl))) ?_
        refine L.op1 rfl rfl (GSpec.guard rfl rfl rfl fun hg => (spec_move rfl (Get.tmp rfl))) ?_
        refine L.op1 rfl rfl (GSpec.guard rfl rfl rfl fun hg => (spec_indexAddrO (k := 0) (E := eB) rfl Tryd.underlying57 Tryd.sizeOf4 (Get.opt rfl hg) (Get.opt rfl hg) rfl (by (first | omega | (simp only [decide_eq_true_eq, decide_eq_false_iff_not, Bool.and_eq_true, Bool.or_eq_true, Bool.and_eq_false_iff, Bool.or_eq_false_iff, Bool.not_eq_true', Bool.not_eq_false', Bool.not_true, Bool.not_false, Int.not_lt, Int.not_le] at hg; omega))))) ?_
        refine L.op1 rfl rfl (GSpec.guard rfl rfl rfl fun hg => (spec_loadO1 (k := 0) (j := 0) (E := eB) rfl Tryd.isAgg4 (fun _ => rfl) (Get.opt rfl hg) rfl rfl (getD_some (by (first | omega | (simp only [decide_eq_true_eq, decide_eq_false_iff_not, Bool.and_eq_true, Bool.or_eq_true, Bool.and_eq_false_iff, Bool.or_eq_false_iff, Bool.not_eq_true', Bool.not_eq_false', Bool.not_true, Bool.not_false, Int.not_lt, Int.not_le] at hg; omega)))) rfl)) ?_
        refine L.op1 rfl rfl (GSpec.plain rfl (spec_or rfl (Get.tmp rfl) (fun hb => (Get.opt rfl hb)))) ?_
        refine L.nil ?_
        refine N.thenW ?_
        refine W.cond (Get.tmp rfl) (fun h4 => ?_) (fun h4 => ?_)
        · have hb : badC (rowC (planC (cs0 l.length) (p.take i)) (x.take k)) (x.getD k default) = true := bad_no (n := l.length) hsl (by have h := h4; simp only [decide_eq_true_eq, decide_eq_false_iff_not, Bool.and_eq_true, Bool.or_eq_true, Bool.and_eq_false_iff, Bool.or_eq_false_iff, Bool.not_eq_true', Bool.not_eq_false', Bool.not_true, Bool.not_false, Int.not_lt, Int.not_le, Int.toNat_natCast, ← hx] at h; exact h)
          refine W.seq ?_
          refine W.region ?_
          refine L.op1 rfl rfl (GSpec.plain rfl (spec_assign rfl (Get.cint rfl))) ?_
          refine L.op1 rfl rfl (GSpec.plain rfl (spec_assign rfl (Get.cint rfl))) ?_
          refine L.nil ?_
          refine N.thenW ?_
          refine W.ret ?_
          refine N.ret () rfl (.tmp (t := 4) (Get.tmp rfl) (.tmp (t := 5) (Get.tmp rfl) .nil)) (res2w (eqI ?_) (eqI ?_)) .nil (fun _ _ h => h)
          all_goals rw [span_bad hok (by subst hx; exact comp_no (by omega) (show k < (p.getD i default).length by omega) hb)]
        · have hb : badC (rowC (planC (cs0 l.length) (p.take i)) (x.take k)) (x.getD k default) = false := bad_yes (n := l.length) hsl (by have h := h4; simp only [decide_eq_true_eq, decide_eq_false_iff_not, Bool.and_eq_true, Bool.or_eq_true, Bool.and_eq_false_iff, Bool.or_eq_false_iff, Bool.not_eq_true', Bool.not_eq_false', Bool.not_true, Bool.not_false, Int.not_lt, Int.not_le, Int.toNat_natCast, ← hx] at h; exact h)
          have hb2 : 0 ≤ x.getD k default ∧ x.getD k default < l.length := by have h := h4; simp only [decide_eq_true_eq, decide_eq_false_iff_not, Bool.and_eq_true, Bool.or_eq_true, Bool.and_eq_false_iff, Bool.or_eq_false_iff, Bool.not_eq_true', Bool.not_eq_false', Bool.not_true, Bool.not_false, Int.not_lt, Int.not_le, Int.toNat_natCast, ← hx] at h; exact h.1
          refine W.skip ?_
          refine N.thenW ?_
          refine W.seq ?_
          refine W.region ?_
          refine L.op1 rfl rfl (GSpec.plain rfl (spec_move rfl (Get.tmp rfl))) ?_
          refine L.op1 rfl rfl (GSpec.plain rfl (spec_move rfl (Get.tmp rfl))) ?_
          refine L.op1 rfl rfl (GSpec.plain rfl (spec_indexAddrO (k := 0) (E := eB) rfl Tryd.underlying57 Tryd.sizeOf4 (Get.tmp rfl) (Get.tmp rfl) rfl (by (first | omega | (simp only [Int.toNat_natCast, ← hx]; omega))))) ?_
          refine L.storeO1 (k := 0) (j := 0) (E := eB) rfl rfl rfl Tryd.sizeOf4 (fun _ => rfl) (Get.tmp rfl) Get.cbool rfl rfl (by decide) (getD_some (by (first | omega | (simp only [Int.toNat_natCast, ← hx]; omega)))) rfl ?_
          refine L.nil ?_
          refine N.thenW ?_
          refine W.region ?_
          refine L.op1 rfl rfl (GSpec.plain rfl (spec_move rfl (Get.tmp rfl))) ?_
          first | refine L.op1 rfl rfl (GSpec.plain rfl (fit_i64 (by (first | omega | (simp only [Int.toNat_natCast, ← hx]; omega))) (by (first | omega | (simp only [Int.toNat_natCast, ← hx]; omega))) (spec_add rfl (Get.tmp rfl) (Get.cint rfl)))) ?_ | refine L.op1 rfl rfl (GSpec.plain rfl (spec_add rfl (Get.tmp rfl) (Get.cint rfl))) ?_
          refine L.op1 rfl rfl (GSpec.plain rfl (spec_assign rfl (Get.tmp rfl))) ?_
          refine L.nil ?_
          refine N.blockNormal ?_
          refine N.thenW ?_
          refine W.region ?_
          refine L.op1 rfl rfl (GSpec.plain rfl (spec_move rfl (Get.tmp rfl))) ?_
          first | refine L.op1 rfl rfl (GSpec.plain rfl (fit_i64 (by (first | omega | (simp only [Int.toNat_natCast, ← hx]; omega))) (by (first | omega | (simp only [Int.toNat_natCast, ← hx]; omega))) (spec_add rfl (Get.tmp rfl) (Get.cint rfl)))) ?_ | refine L.op1 rfl rfl (GSpec.plain rfl (spec_add rfl (Get.tmp rfl) (Get.cint rfl))) ?_
          refine L.op1 rfl rfl (GSpec.plain rfl (spec_assign rfl (Get.tmp rfl))) ?_
          refine L.nil ?_
          refine N.roundK (k + 1) ?hI2 ?hmu2 ?hs2 ?hk2 ?hp2
          case hs2 => exact (.cons (t := 10) rfl (.weak (t := 8) rfl (eqI (by rw [row_step2 (show k < x.length by omega)]; simp only [stepC]; omega)) .nil))
          case hk2 => exact (.cons (t := 0) rfl (.cons (t := 1) rfl (.cons (t := 7) rfl (.cons (t := 9) rfl (.cons (t := 22) rfl (.cons (t := 23) rfl (.cons (t := 24) rfl (.cons (t := 25) rfl .nil))))))))
          case hp2 => rw [row_step2 (show k < x.length by omega), hx]; exact (.cons 0 rfl .nil)
          case hI2 => exact ⟨by omega, row_okstep (by omega) hK2 hb⟩
          case hmu2 => omega
      · have ph3 := h3; simp only [decide_eq_true_eq, decide_eq_false_iff_not, Bool.and_eq_true, Bool.or_eq_true, Bool.and_eq_false_iff, Bool.or_eq_false_iff, Bool.not_eq_true', Bool.not_eq_false', Bool.not_true, Bool.not_false, Int.not_lt, Int.not_le, Int.toNat_natCast, ← hx] at ph3
        refine W.exit ?_
        refine N.thenExit ?_
        refine N.thenExit ?_
        refine N.blockExit ?_
        refine N.blockNormal ?_
        refine N.thenW ?_
        refine W.region ?_
        refine L.op1 rfl rfl (GSpec.plain rfl (spec_move rfl (Get.tmp rfl))) ?_
        first | refine L.op1 rfl rfl (GSpec.plain rfl (fit_i64 (by (first | omega | (simp only [Int.toNat_natCast, ← hx]; omega))) (by (first | omega | (simp only [Int.toNat_natCast, ← hx]; omega))) (spec_add rfl (Get.tmp rfl) (Get.cint rfl)))) ?_ | refine L.op1 rfl rfl (GSpec.plain rfl (spec_add rfl (Get.tmp rfl) (Get.cint rfl))) ?_
        refine L.op1 rfl rfl (GSpec.plain rfl (spec_assign rfl (Get.tmp rfl))) ?_
        refine L.nil ?_
        have hke : rowC (planC (cs0 l.length) (p.take i)) (x.take k) = rowC (planC (cs0 l.length) (p.take i)) x := by rw [List.take_of_length_le (l := x) (i := k) (by omega)]
        refine N.roundK (i + 1) ?hI3 ?hmu3 ?hs3 ?hk3 ?hp3
        case hs3 => exact (.cons (t := 9) rfl (.weak (t := 8) rfl (eqI (by rw [plan_step (show i < p.length by omega), show rowAt p i = x from hx.symm, ← hke])) .nil))
        case hk3 => exact (.cons (t := 0) rfl (.cons (t := 1) rfl (.cons (t := 7) rfl .nil)))
        case hp3 => rw [plan_step (show i < p.length by omega), show rowAt p i = x from hx.symm, ← hke]; exact (.cons 0 rfl .nil)
        case hI3 => exact ⟨by omega, plan_okstep (by omega) hI2 (by rw [List.take_of_length_le (l := x) (i := k) (by omega)] at hK2; rw [show rowAt p i = x from hx.symm]; exact hK2)⟩
        case hmu3 => omega
    · have ph2 := h2; try simp only [decide_eq_true_eq, decide_eq_false_iff_not, Bool.and_eq_true, Bool.or_eq_true, Bool.and_eq_false_iff, Bool.or_eq_false_iff, Bool.not_eq_true', Bool.not_eq_false', Bool.not_true, Bool.not_false, Int.not_lt, Int.not_le] at ph2
      refine W.exit ?_
      refine N.thenExit ?_
      refine N.thenExit ?_
      refine N.blockExit ?_
      refine N.thenW ?_
      have ei : i = p.length := by omega
      have hce := comp_end (n := l.length) ei hI2
      have hpl := plan_left hI2
      refine W.keep (.cons (t := 0) rfl (.cons (t := 1) rfl (.cons (t := 8) rfl .nil))) .refl ?_
      refine W.seq ?_
      refine W.seq ?_
      refine W.region ?_
      refine L.op1 rfl rfl (GSpec.plain rfl (spec_move rfl (Get.tmp rfl))) ?_
      refine L.op1 rfl rfl (GSpec.plain rfl (spec_move rfl (Get.tmp rfl))) ?_
      refine L.op1 rfl rfl (GSpec.plain rfl (spec_len rfl Tryd.underlying22 (Get.tmp rfl))) ?_
      refine L.op1 rfl rfl (GSpec.plain rfl (spec_lss rfl (Get.tmp rfl) (Get.tmp rfl))) ?_
      refine L.nil ?_
      refine N.thenW ?_
      refine W.cond (Get.tmp rfl) (fun h5 => ?_) (fun h5 => ?_)
      · have ph5 := h5; simp only [decide_eq_true_eq, decide_eq_false_iff_not, Bool.and_eq_true, Bool.or_eq_true, Bool.and_eq_false_iff, Bool.or_eq_false_iff, Bool.not_eq_true', Bool.not_eq_false', Bool.not_true, Bool.not_false, Int.not_lt, Int.not_le] at ph5
        have q1 : completeB p l.length = false := by rw [hce, decide_eq_false_iff_not]; omega
        refine W.seq ?_
        refine W.region ?_
        refine L.op1 rfl rfl (GSpec.plain rfl (spec_assign rfl (Get.cint rfl))) ?_
        refine L.op1 rfl rfl (GSpec.plain rfl (spec_assign rfl (Get.cint rfl))) ?_
        refine L.nil ?_
        refine N.thenW ?_
        refine W.ret ?_
        refine N.ret () rfl (.tmp (t := 4) (Get.tmp rfl) (.tmp (t := 5) (Get.tmp rfl) .nil)) (res2w (eqI ?_) (eqI ?_)) .nil (fun _ _ h => h)
        all_goals rw [span_bad hok q1]
      · have ph5 := h5; simp only [decide_eq_true_eq, decide_eq_false_iff_not, Bool.and_eq_true, Bool.or_eq_true, Bool.and_eq_false_iff, Bool.or_eq_false_iff, Bool.not_eq_true', Bool.not_eq_false', Bool.not_true, Bool.not_false, Int.not_lt, Int.not_le] at ph5
        have q1 : completeB p l.length = true := by rw [hce, decide_eq_true_eq]; omega
        have hin := complete_in q1
        refine W.skip ?_
        refine N.thenW ?_
        refine W.seq ?_
        refine W.region ?_
        refine L.op1 rfl rfl (GSpec.plain rfl (spec_assign rfl (Get.cint rfl))) ?_
        refine L.nil ?_
        refine N.thenW ?_
        refine W.seq ?_
        refine W.seq ?_
        refine W.region ?_
        refine L.op1 rfl rfl (GSpec.plain rfl (spec_assign rfl (Get.cint rfl))) ?_
        refine L.nil ?_
        refine N.thenW ?_
        refine W.block ?_
        refine W.loopK (σ := Nat) (.cons (t := 0) rfl (.cons (t := 1) rfl .nil)) (fun z => [(13, Rp.int .i64 (z : Nat)), (12, Rp.int .i64 (spanC l (p.take z)))]) (fun z => []) (fun z => z ≤ p.length) (fun z => p.length - z) 0 (Nat.zero_le _) (.cons (t := 13) rfl (.cons (t := 12) rfl .nil)) (.cons 0 rfl .nil) ?_
        intro m hI S' M' hS hM
        try dsimp only at hS hM
        simp only [List.cons_append, List.nil_append] at hS hM
        subst hS hM
        try dsimp only
        refine W.seq ?_
        refine W.seq ?_
        refine W.region ?_
        refine L.op1 rfl rfl (GSpec.plain rfl (spec_move rfl (Get.tmp rfl))) ?_
        refine L.op1 rfl rfl (GSpec.plain rfl (spec_move rfl (Get.tmp rfl))) ?_
        refine L.op1 rfl rfl (GSpec.plain rfl (spec_len rfl Tryd.underlying34 (Get.tmp rfl))) ?_
        refine L.op1 rfl rfl (GSpec.plain rfl (spec_lss rfl (Get.tmp rfl) (Get.tmp rfl))) ?_
        refine L.nil ?_
        refine N.thenW ?_
        refine W.cond (Get.tmp rfl) (fun h6 => ?_) (fun h6 => ?_)
        · have ph6 := h6; try simp only [decide_eq_true_eq, decide_eq_false_iff_not, Bool.and_eq_true, Bool.or_eq_true, Bool.and_eq_false_iff, Bool.or_eq_false_iff, Bool.not_eq_true', Bool.not_eq_false', Bool.not_true, Bool.not_false, Int.not_lt, Int.not_le] at ph6
          refine W.skip ?_
          refine N.thenW ?_
          refine W.seq ?_
          refine W.block ?_
          refine W.region ?_
          refine L.op1 rfl rfl (GSpec.plain rfl (spec_move rfl (Get.tmp rfl))) ?_
          refine L.op1 rfl rfl (GSpec.plain rfl (spec_move rfl (Get.tmp rfl))) ?_
          refine L.op1 rfl rfl (GSpec.plain rfl (spec_move rfl (Get.tmp rfl))) ?_
          refine L.op1 rfl rfl (GSpec.plain rfl (spec_move rfl (Get.tmp rfl))) ?_
          refine L.op1 rfl rfl (GSpec.plain rfl (spec_indexAddrD (E := eII) rfl Tryd.underlying34 Tryd.sizeOf32 (fun _ => rfl) (Get.tmp rfl) (Get.tmp rfl) (by (first | omega | (simp only [Int.toNat_natCast, ← hx]; omega))))) ?_
          refine L.op1 rfl rfl (GSpec.plain rfl (spec_loadP1 rfl Tryd.isAgg32 (Get.tmp rfl))) ?_
          refine L.op1 rfl rfl (GSpec.plain rfl (spec_call rfl Tryd.call37 (work_ok _ _ hok (hin _ (getD_mem' (by omega))) (by have := complete_len q1 (show m < p.length by omega); simp only [Int.toNat_natCast]; unfold rowAt at this; omega)) (.cons (Get.tmp rfl) (.cons (Get.tmp rfl) .nil)))) ?_
          refine L.op1 rfl rfl (GSpec.plain rfl (spec_max2 rfl (Get.tmp rfl) (Get.tmp rfl))) ?_
          refine L.op1 rfl rfl (GSpec.plain rfl (spec_assign rfl (Get.tmp rfl))) ?_
          refine L.nil ?_
          refine N.blockNormal ?_
          refine N.thenW ?_
          refine W.region ?_
          refine L.op1 rfl rfl (GSpec.plain rfl (spec_move rfl (Get.tmp rfl))) ?_
          first | refine L.op1 rfl rfl (GSpec.plain rfl (fit_i64 (by (first | omega | (simp only [Int.toNat_natCast, ← hx]; omega))) (by (first | omega | (simp only [Int.toNat_natCast, ← hx]; omega))) (spec_add rfl (Get.tmp rfl) (Get.cint rfl)))) ?_ | refine L.op1 rfl rfl (GSpec.plain rfl (spec_add rfl (Get.tmp rfl) (Get.cint rfl))) ?_
          refine L.op1 rfl rfl (GSpec.plain rfl (spec_assign rfl (Get.tmp rfl))) ?_
          refine L.nil ?_
          refine N.roundK (m + 1) ?hI4 ?hmu4 ?hs4 ?hk4 ?hp4
          case hs4 => exact (.cons (t := 13) rfl (.weak (t := 12) rfl (eqI (by simp only [Int.toNat_natCast]; exact (span_step (by omega)).symm)) .nil))
          case hk4 => exact (.cons (t := 0) rfl (.cons (t := 1) rfl .nil))
          case hp4 => exact (.cons 0 rfl .nil)
          all_goals (first | rfl | trivial | omega | (simp_all; done))
        · have ph6 := h6; try simp only [decide_eq_true_eq, decide_eq_false_iff_not, Bool.and_eq_true, Bool.or_eq_true, Bool.and_eq_false_iff, Bool.or_eq_false_iff, Bool.not_eq_true', Bool.not_eq_false', Bool.not_true, Bool.not_false, Int.not_lt, Int.not_le] at ph6
          refine W.exit ?_
          refine N.thenExit ?_
          refine N.thenExit ?_
          refine N.blockExit ?_
          refine N.thenW ?_
          refine W.keep (.cons (t := 12) rfl .nil) .refl ?_
          refine W.seq ?_
          refine W.region ?_
          refine L.op1 rfl rfl (GSpec.plain rfl (spec_move rfl (Get.tmp rfl))) ?_
          refine L.op1 rfl rfl (GSpec.plain rfl (spec_assign rfl (Get.tmp rfl))) ?_
          refine L.op1 rfl rfl (GSpec.plain rfl (spec_assign rfl (Get.cint rfl))) ?_
          refine L.nil ?_
          refine N.thenW ?_
          refine W.ret ?_
          refine N.ret () rfl (.tmp (t := 4) (Get.tmp rfl) (.tmp (t := 5) (Get.tmp rfl) .nil)) (res2w (eqI ?_) (eqI ?_)) .nil (fun _ _ h => h)
          rw [span_yes hok q1, show m = p.length by omega, List.take_length]
          rw [span_yes hok q1]

end Go.Proofs.YtlbhpjigjehffaaDoor
set_option linter.unusedSimpArgs false
set_option maxRecDepth 8000
set_option linter.unusedVariables false
namespace Go.Proofs.YtlbhpjigjehffaaDoor
open Go.Sim
theorem isNaN_ok (n : Int) : CallT Tryd.prog 48 [Rp.int .i64 n] [] (.one (Rp.bool false)) := by
  refine W.enter (fn := Tryd.f48) (n := 6) Tryd.func48 rfl Tryd.ntmps48 rfl (fun w₀ C₀ => ?_)
  simp only [argS]
  refine W.seq ?_
  refine W.region ?_
  refine L.op1 rfl rfl (GSpec.plain rfl (spec_assign rfl Get.cbool)) ?_
  refine L.nil ?_
  refine N.thenW ?_
  refine W.seq ?_
  refine W.region ?_
  refine L.op1 rfl rfl (GSpec.plain rfl (spec_move rfl (Get.tmp rfl))) ?_
  refine L.op1 rfl rfl (GSpec.plain rfl (spec_move rfl (Get.tmp rfl))) ?_
  refine L.op1 rfl rfl (GSpec.plain rfl (spec_neq rfl (Get.tmp rfl) (Get.tmp rfl))) ?_
  refine L.op1 rfl rfl (GSpec.plain rfl (spec_assign rfl (Get.tmp rfl))) ?_
  refine L.nil ?_
  refine N.thenW ?_
  refine W.ret ?_
  refine N.ret () rfl (.tmp (t := 2) (Get.tmp rfl) .nil) (res1 (eqB ?_)) .nil (fun _ _ h => h)
  simp

theorem cmp_ok (x y : Int) : CallT Tryd.prog 31 [Rp.int .i64 x, Rp.int .i64 y] [] (.one (Rp.int .i64 (cmpI x y))) := by
  refine W.enter (fn := Tryd.f31) (n := 20) Tryd.func31 rfl Tryd.ntmps31 rfl (fun w₀ C₀ => ?_)
  simp only [argS]
  refine W.seq ?_
  refine W.region ?_
  refine L.op1 rfl rfl (GSpec.plain rfl (spec_assign rfl (Get.cint rfl))) ?_
  refine L.nil ?_
  refine N.thenW ?_
  refine W.seq ?_
  refine W.region ?_
  refine L.op1 rfl rfl (GSpec.plain rfl (spec_move rfl (Get.tmp rfl))) ?_
  refine L.op1 rfl rfl (GSpec.plain rfl (spec_call rfl Tryd.call48 (isNaN_ok _) (.cons (Get.tmp rfl) .nil))) ?_
  refine L.op1 rfl rfl (GSpec.plain rfl (spec_assign rfl (Get.tmp rfl))) ?_
  refine L.nil ?_
  refine N.thenW ?_
  refine W.seq ?_
  refine W.region ?_
  refine L.op1 rfl rfl (GSpec.plain rfl (spec_move rfl (Get.tmp rfl))) ?_
  refine L.op1 rfl rfl (GSpec.plain rfl (spec_call rfl Tryd.call48 (isNaN_ok _) (.cons (Get.tmp rfl) .nil))) ?_
  refine L.op1 rfl rfl (GSpec.plain rfl (spec_assign rfl (Get.tmp rfl))) ?_
  refine L.nil ?_
  refine N.thenW ?_
  refine W.keep (.cons (t := 0) rfl (.cons (t := 1) rfl (.cons (t := 4) rfl (.cons (t := 5) rfl (.cons (t := 6) rfl .nil))))) .refl ?_
  refine W.seq ?_
  refine W.seq ?_
  refine W.region ?_
  refine L.op1 rfl rfl (GSpec.plain rfl (spec_move rfl (Get.tmp rfl))) ?_
  refine L.nil ?_
  refine N.thenW ?_
  refine W.cond (Get.tmp rfl) (fun h1 => ?_) (fun h1 => ?_)
  · cases h1
  · have ph1 := h1; try simp only [decide_eq_true_eq, decide_eq_false_iff_not, Bool.and_eq_true, Bool.or_eq_true, Bool.and_eq_false_iff, Bool.or_eq_false_iff, Bool.not_eq_true', Bool.not_eq_false', Bool.not_true, Bool.not_false, Int.not_lt, Int.not_le] at ph1
    refine W.skip ?_
    refine N.thenW ?_
    refine W.seq ?_
    refine W.seq ?_
    refine W.region ?_
    refine L.op1 rfl rfl (GSpec.plain rfl (spec_move rfl (Get.tmp rfl))) ?_
    refine L.nil ?_
    refine N.thenW ?_
    refine W.cond (Get.tmp rfl) (fun h2 => ?_) (fun h2 => ?_)
    · cases h2
    · have ph2 := h2; try simp only [decide_eq_true_eq, decide_eq_false_iff_not, Bool.and_eq_true, Bool.or_eq_true, Bool.and_eq_false_iff, Bool.or_eq_false_iff, Bool.not_eq_true', Bool.not_eq_false', Bool.not_true, Bool.not_false, Int.not_lt, Int.not_le] at ph2
      refine W.skip ?_
      refine N.thenW ?_
      refine W.seq ?_
      refine W.seq ?_
      refine W.region ?_
      refine L.op1 rfl rfl (GSpec.plain rfl (spec_move rfl (Get.tmp rfl))) ?_
      refine L.op1 rfl rfl (GSpec.plain rfl (spec_move rfl (Get.tmp rfl))) ?_
      refine L.op1 rfl rfl (GSpec.plain rfl (spec_lss rfl (Get.tmp rfl) (Get.tmp rfl))) ?_
      refine L.nil ?_
      refine N.thenW ?_
      refine W.keep (.cons (t := 0) rfl (.cons (t := 1) rfl (.cons (t := 4) rfl (.cons (t := 16) rfl .nil)))) .refl ?_
      refine W.cond (Get.tmp rfl) (fun h3 => ?_) (fun h3 => ?_)
      · have ph3 := h3; try simp only [decide_eq_true_eq, decide_eq_false_iff_not, Bool.and_eq_true, Bool.or_eq_true, Bool.and_eq_false_iff, Bool.or_eq_false_iff, Bool.not_eq_true', Bool.not_eq_false', Bool.not_true, Bool.not_false, Int.not_lt, Int.not_le] at ph3
        refine W.seq ?_
        refine W.region ?_
        refine L.op1 rfl rfl (GSpec.plain rfl (spec_assign rfl (Get.cint rfl))) ?_
        refine L.nil ?_
        refine N.thenW ?_
        refine W.ret ?_
        refine N.ret () rfl (.tmp (t := 4) (Get.tmp rfl) .nil) (res1 (eqI ?_)) .nil (fun _ _ h => h)
        unfold cmpI; rw [if_pos (by omega)]
      · have ph3 := h3; try simp only [decide_eq_true_eq, decide_eq_false_iff_not, Bool.and_eq_true, Bool.or_eq_true, Bool.and_eq_false_iff, Bool.or_eq_false_iff, Bool.not_eq_true', Bool.not_eq_false', Bool.not_true, Bool.not_false, Int.not_lt, Int.not_le] at ph3
        refine W.skip ?_
        refine N.thenW ?_
        refine W.seq ?_
        refine W.seq ?_
        refine W.region ?_
        refine L.op1 rfl rfl (GSpec.plain rfl (spec_move rfl (Get.tmp rfl))) ?_
        refine L.op1 rfl rfl (GSpec.plain rfl (spec_move rfl (Get.tmp rfl))) ?_
        refine L.op1 rfl rfl (GSpec.plain rfl (spec_gtr rfl (Get.tmp rfl) (Get.tmp rfl))) ?_
        refine L.nil ?_
        refine N.thenW ?_
        refine W.cond (Get.tmp rfl) (fun h4 => ?_) (fun h4 => ?_)
        · have ph4 := h4; try simp only [decide_eq_true_eq, decide_eq_false_iff_not, Bool.and_eq_true, Bool.or_eq_true, Bool.and_eq_false_iff, Bool.or_eq_false_iff, Bool.not_eq_true', Bool.not_eq_false', Bool.not_true, Bool.not_false, Int.not_lt, Int.not_le] at ph4
          refine W.seq ?_
          refine W.region ?_
          refine L.op1 rfl rfl (GSpec.plain rfl (spec_assign rfl (Get.cint rfl))) ?_
          refine L.nil ?_
          refine N.thenW ?_
          refine W.keep (.cons (t := 4) rfl .nil) .refl ?_
          refine W.ret ?_
          refine N.ret () rfl (.tmp (t := 4) (Get.tmp rfl) .nil) (res1 (eqI ?_)) .nil (fun _ _ h => h)
          unfold cmpI; rw [if_neg (by omega), if_pos (by omega)]
        · have ph4 := h4; try simp only [decide_eq_true_eq, decide_eq_false_iff_not, Bool.and_eq_true, Bool.or_eq_true, Bool.and_eq_false_iff, Bool.or_eq_false_iff, Bool.not_eq_true', Bool.not_eq_false', Bool.not_true, Bool.not_false, Int.not_lt, Int.not_le] at ph4
          refine W.skip ?_
          refine N.thenW ?_
          refine W.keep (.cons (t := 4) rfl .nil) .refl ?_
          refine W.seq ?_
          refine W.region ?_
          refine L.op1 rfl rfl (GSpec.plain rfl (spec_assign rfl (Get.cint rfl))) ?_
          refine L.nil ?_
          refine N.thenW ?_
          refine W.ret ?_
          refine N.ret () rfl (.tmp (t := 4) (Get.tmp rfl) .nil) (res1 (eqI ?_)) .nil (fun _ _ h => h)
          unfold cmpI; rw [if_neg (by omega), if_neg (by omega)]

theorem or_ok (x y : Int) : CallT Tryd.prog 30 [Rp.slice eI [x, y]] [] (.one (Rp.int .i64 (orD [x, y]))) := by
  refine W.enter (fn := Tryd.f30) (n := 18) Tryd.func30 rfl Tryd.ntmps30 rfl (fun w₀ C₀ => ?_)
  simp only [argS]
  refine W.seq ?_
  refine W.region ?_
  refine L.op1 rfl rfl (GSpec.plain rfl (spec_assign rfl (Get.cint rfl))) ?_
  refine L.nil ?_
  refine N.thenW ?_
  refine W.seq ?_
  refine W.region ?_
  refine L.op1 rfl rfl (GSpec.plain rfl (spec_assign rfl (Get.cint rfl))) ?_
  refine L.nil ?_
  refine N.thenW ?_
  refine W.seq ?_
  refine W.seq ?_
  refine W.region ?_
  refine L.op1 rfl rfl (GSpec.plain rfl (spec_move rfl (Get.tmp rfl))) ?_
  refine L.op1 rfl rfl (GSpec.plain rfl (spec_len rfl Tryd.underlying32 (Get.tmp rfl))) ?_
  refine L.op1 rfl rfl (GSpec.plain rfl (spec_move rfl (Get.cint rfl))) ?_
  refine L.nil ?_
  refine N.thenW ?_
  refine W.block ?_
  -- assigned in the loop, not kept: [2]
  refine W.loopK (σ := Nat) (.cons (t := 3) rfl (.cons (t := 6) rfl (.cons (t := 7) rfl .nil))) (fun z => [(8, Rp.int .i64 (z : Nat))]) (fun z => []) (fun z => z ≤ 2 ∧ ∀ j : Nat, j < z → ([x, y] : List Int).getD j default = 0) (fun z => 2 - z) 0 ⟨Nat.zero_le _, fun j hj => by omega⟩ (.cons (t := 8) rfl .nil) .nil ?_
  intro i hI S' M' hS hM
  obtain ⟨hI1, hI2⟩ := hI
  try dsimp only at hS hM
  simp only [List.cons_append, List.nil_append] at hS hM
  subst hS hM
  try dsimp only
  have e2 : ([x, y] : List Int).length = 2 := rfl
  refine W.seq ?_
  refine W.region ?_
  refine L.op1 rfl rfl (GSpec.plain rfl (spec_lss rfl (Get.tmp rfl) (Get.tmp rfl))) ?_
  refine L.nil ?_
  refine N.thenW ?_
  refine W.seq ?_
  refine W.cond (Get.tmp rfl) (fun h1 => ?_) (fun h1 => ?_)
  · have ph1 := h1; try simp only [decide_eq_true_eq, decide_eq_false_iff_not, Bool.and_eq_true, Bool.or_eq_true, Bool.and_eq_false_iff, Bool.or_eq_false_iff, Bool.not_eq_true', Bool.not_eq_false', Bool.not_true, Bool.not_false, Int.not_lt, Int.not_le] at ph1
    refine W.skip ?_
    refine N.thenW ?_
    refine W.seq ?_
    refine W.block ?_
    refine W.seq ?_
    refine W.region ?_
    refine L.op1 rfl rfl (GSpec.plain rfl (spec_indexAddrD (E := eI) rfl Tryd.underlying32 Tryd.sizeOf3 (fun _ => rfl) (Get.tmp rfl) (Get.tmp rfl) (by omega))) ?_
    refine L.op1 rfl rfl (GSpec.plain rfl (spec_loadP1 rfl Tryd.isAgg3 (Get.tmp rfl))) ?_
    refine L.op1 rfl rfl (GSpec.plain rfl (spec_assign rfl (Get.tmp rfl))) ?_
    refine L.nil ?_
    refine N.thenW ?_
    refine W.seq ?_
    refine W.region ?_
    refine L.op1 rfl rfl (GSpec.plain rfl (spec_move rfl (Get.tmp rfl))) ?_
    refine L.op1 rfl rfl (GSpec.plain rfl (spec_move rfl (Get.tmp rfl))) ?_
    refine L.op1 rfl rfl (GSpec.plain rfl (spec_neq rfl (Get.tmp rfl) (Get.tmp rfl))) ?_
    refine L.nil ?_
    refine N.thenW ?_
    refine W.cond (Get.tmp rfl) (fun h2 => ?_) (fun h2 => ?_)
    · have ph2 := h2; try simp only [decide_eq_true_eq, decide_eq_false_iff_not, Bool.and_eq_true, Bool.or_eq_true, Bool.and_eq_false_iff, Bool.or_eq_false_iff, Bool.not_eq_true', Bool.not_eq_false', Bool.not_true, Bool.not_false, Int.not_lt, Int.not_le] at ph2
      refine W.seq ?_
      refine W.region ?_
      refine L.op1 rfl rfl (GSpec.plain rfl (spec_move rfl (Get.tmp rfl))) ?_
      refine L.op1 rfl rfl (GSpec.plain rfl (spec_assign rfl (Get.tmp rfl))) ?_
      refine L.nil ?_
      refine N.thenW ?_
      refine W.ret ?_
      refine N.ret () rfl (.tmp (t := 2) (Get.tmp rfl) .nil) (res1 (eqI ?_)) .nil (fun _ _ h => h)
      exact or_at hI2 (by omega) (by simpa using h2)
    · have ph2 := h2; try simp only [decide_eq_true_eq, decide_eq_false_iff_not, Bool.and_eq_true, Bool.or_eq_true, Bool.and_eq_false_iff, Bool.or_eq_false_iff, Bool.not_eq_true', Bool.not_eq_false', Bool.not_true, Bool.not_false, Int.not_lt, Int.not_le] at ph2
      refine W.skip ?_
      refine N.blockNormal ?_
      refine N.thenW ?_
      refine W.region ?_
      first | refine L.op1 rfl rfl (GSpec.plain rfl (fit_i64 (by omega) (by omega) (spec_add rfl (Get.tmp rfl) (Get.cint rfl)))) ?_ | refine L.op1 rfl rfl (GSpec.plain rfl (spec_add rfl (Get.tmp rfl) (Get.cint rfl))) ?_
      refine L.op1 rfl rfl (GSpec.plain rfl (spec_move rfl (Get.tmp rfl))) ?_
      refine L.nil ?_
      refine N.roundK (i + 1) ?hI1 ?hmu1 ?hs1 ?hk1 ?hp1
      case hs1 => exact (.cons (t := 8) rfl .nil)
      case hk1 => exact (.cons (t := 3) rfl (.cons (t := 6) rfl (.cons (t := 7) rfl .nil)))
      case hp1 => exact .nil
      case hI1 => exact ⟨by omega, upto hI2 (by simpa using h2)⟩
      case hmu1 => omega
  · have ph1 := h1; try simp only [decide_eq_true_eq, decide_eq_false_iff_not, Bool.and_eq_true, Bool.or_eq_true, Bool.and_eq_false_iff, Bool.or_eq_false_iff, Bool.not_eq_true', Bool.not_eq_false', Bool.not_true, Bool.not_false, Int.not_lt, Int.not_le] at ph1
    refine W.exit ?_
    refine N.thenExit ?_
    refine N.thenExit ?_
    refine N.blockExit ?_
    refine N.thenW ?_
    refine W.seq ?_
    refine W.region ?_
    refine L.op1 rfl rfl (GSpec.plain rfl (spec_move rfl (Get.tmp rfl))) ?_
    refine L.op1 rfl rfl (GSpec.plain rfl (spec_assign rfl (Get.tmp rfl))) ?_
    refine L.nil ?_
    refine N.thenW ?_
    refine W.keep (.cons (t := 2) rfl .nil) .refl ?_
    refine W.ret ?_
    refine N.ret () rfl (.tmp (t := 2) (Get.tmp rfl) .nil) (res1 (eqI ?_)) .nil (fun _ _ h => h)
    exact (or_end hI2 (by omega)).symm

theorem cmpF_ok (l : List Jb) (a b : Int) (ha : 0 ≤ a ∧ a < l.length) (hb : 0 ≤ b ∧ b < l.length) : CallT Tryd.prog 29 [Rp.int .i64 a, Rp.int .i64 b, Rp.at [Rp.slice eJ l]] [] (.one (Rp.int .i64 (cmpF l a b))) := by
  refine W.enter (fn := Tryd.f29) (n := 30) Tryd.func29 rfl Tryd.ntmps29 rfl (fun w₀ C₀ => ?_)
  simp only [argS]
  refine W.seq ?_
  refine W.region ?_
  refine L.op1 rfl rfl (GSpec.plain rfl (spec_assign rfl (Get.cint rfl))) ?_
  refine L.nil ?_
  refine N.thenW ?_
  refine W.seq ?_
  apply W.any 25 mixed (by kernel_rfl)
  · apply Head.one rfl rfl (GSpec.plain rfl (spec_loadP1 rfl Tryd.isAgg22 (Get.tmp rfl)))
    apply Head.one rfl rfl (GSpec.plain rfl (spec_move rfl (Get.tmp rfl)))
    apply Head.one rfl rfl (GSpec.plain rfl (spec_indexAddrD (E := eJ) rfl Tryd.underlying22 Tryd.sizeOf28 (fun _ => rfl) (Get.tmp rfl) (Get.tmp rfl) (by omega)))
    apply Head.one rfl rfl (GSpec.plain rfl (spec_fieldAddrP (f := 3) rfl Tryd.underlying28 rfl Tryd.sizeOf3 (Get.tmp rfl) rfl rfl))
    apply Head.one rfl rfl (GSpec.plain rfl (spec_loadP1 rfl Tryd.isAgg3 (Get.tmp rfl)))
    apply Head.one rfl rfl (GSpec.plain rfl (spec_loadP1 rfl Tryd.isAgg22 (Get.tmp rfl)))
    apply Head.one rfl rfl (GSpec.plain rfl (spec_move rfl (Get.tmp rfl)))
    apply Head.one rfl rfl (GSpec.plain rfl (spec_indexAddrD (E := eJ) rfl Tryd.underlying22 Tryd.sizeOf28 (fun _ => rfl) (Get.tmp rfl) (Get.tmp rfl) (by omega)))
    apply Head.one rfl rfl (GSpec.plain rfl (spec_fieldAddrP (f := 3) rfl Tryd.underlying28 rfl Tryd.sizeOf3 (Get.tmp rfl) rfl rfl))
    apply Head.one rfl rfl (GSpec.plain rfl (spec_loadP1 rfl Tryd.isAgg3 (Get.tmp rfl)))
    apply Head.one rfl rfl (GSpec.plain rfl (spec_call rfl Tryd.call31 (cmp_ok _ _) (.cons (Get.tmp rfl) (.cons (Get.tmp rfl) .nil))))
    apply Head.one rfl rfl (GSpec.plain rfl (spec_loadP1 rfl Tryd.isAgg22 (Get.tmp rfl)))
    apply Head.one rfl rfl (GSpec.plain rfl (spec_move rfl (Get.tmp rfl)))
    apply Head.one rfl rfl (GSpec.plain rfl (spec_indexAddrD (E := eJ) rfl Tryd.underlying22 Tryd.sizeOf28 (fun _ => rfl) (Get.tmp rfl) (Get.tmp rfl) (by omega)))
    apply Head.one rfl rfl (GSpec.plain rfl (spec_fieldAddrP (f := 4) rfl Tryd.underlying28 rfl Tryd.sizeOf3 (Get.tmp rfl) rfl rfl))
    apply Head.one rfl rfl (GSpec.plain rfl (spec_loadP1 rfl Tryd.isAgg3 (Get.tmp rfl)))
    apply Head.one rfl rfl (GSpec.plain rfl (spec_loadP1 rfl Tryd.isAgg22 (Get.tmp rfl)))
    apply Head.one rfl rfl (GSpec.plain rfl (spec_move rfl (Get.tmp rfl)))
    apply Head.one rfl rfl (GSpec.plain rfl (spec_indexAddrD (E := eJ) rfl Tryd.underlying22 Tryd.sizeOf28 (fun _ => rfl) (Get.tmp rfl) (Get.tmp rfl) (by omega)))
    apply Head.one rfl rfl (GSpec.plain rfl (spec_fieldAddrP (f := 4) rfl Tryd.underlying28 rfl Tryd.sizeOf3 (Get.tmp rfl) rfl rfl))
    apply Head.one rfl rfl (GSpec.plain rfl (spec_loadP1 rfl Tryd.isAgg3 (Get.tmp rfl)))
    apply Head.one rfl rfl (GSpec.plain rfl (spec_call rfl Tryd.call31 (cmp_ok _ _) (.cons (Get.tmp rfl) (.cons (Get.tmp rfl) .nil))))
    apply Head.one rfl rfl (GSpec.plain rfl (spec_buildSliceN (xs := [cmpI (l.getD b.toNat default).pri (l.getD a.toNat default).pri, cmpI (l.getD b.toNat default).cost (l.getD a.toNat default).cost]) (E := eI) rfl Tryd.underlying32 ti3 z3 (by first | decide | simp) rfl (.cons (GetC.one (Get.tmp rfl)) rfl rfl rfl (.cons (GetC.one (Get.tmp rfl)) rfl rfl rfl .nil)) rfl rfl))
    apply Head.one rfl rfl (GSpec.plain rfl (spec_call rfl Tryd.call30 (or_ok _ _) (.cons (Get.tmp rfl) .nil)))
    apply Head.one rfl rfl (GSpec.plain rfl (spec_assign rfl (Get.tmp rfl)))
    exact Head.nil
  refine Fin.one ?_
  refine Fin.one ?_
  refine Fin.one ?_
  refine Fin.one ?_
  refine Fin.one ?_
  refine Fin.one ?_
  refine Fin.one ?_
  refine Fin.one ?_
  refine Fin.one ?_
  refine Fin.one ?_
  refine Fin.one ?_
  refine Fin.one ?_
  refine Fin.one ?_
  refine Fin.one ?_
  refine Fin.one ?_
  refine Fin.one ?_
  refine Fin.one ?_
  refine Fin.one ?_
  refine Fin.one ?_
  refine Fin.one ?_
  refine Fin.one ?_
  refine Fin.one ?_
  refine Fin.one ?_
  refine Fin.one ?_
  refine Fin.one ?_
  refine Fin.nil ?_
  refine L.nil ?_
  refine N.thenW ?_
  refine W.keep (.cons (t := 5) rfl .nil) .refl ?_
  refine W.ret ?_
  refine N.ret () rfl (.tmp (t := 5) (Get.tmp rfl) .nil) (res1 (eqI ?_)) .nil (fun _ _ h => h)
  rfl

end Go.Proofs.YtlbhpjigjehffaaDoor
set_option linter.unusedSimpArgs false
set_option maxRecDepth 8000
set_option linter.unusedVariables false
namespace Go.Proofs.YtlbhpjigjehffaaDoor
open Go.Sim
theorem insert_ok (n : Nat) (c : Int → Int → Int) (v : Value) (a m : Nat) (xs : List Int) (hx : inR n xs) (hm : a + m < xs.length) (hl : xs.length ≤ 1000000) : CallT Tryd.prog 57 [Rp.val v, Rp.int .i64 (a : Nat), Rp.int .i64 ((a + m + 1 : Nat) : Int), pC n c] [MF.osl v 3 1 eI xs] (ownX v (insD c a m xs)) := by
  refine W.enter (fn := Tryd.f57) (n := 53) Tryd.func57 rfl Tryd.ntmps57 rfl (fun w₀ C₀ => ?_)
  simp only [argS]
  refine W.seq ?_
  refine W.region ?_
  refine L.op1 rfl rfl (GSpec.plain rfl (spec_move rfl (Get.tmp rfl))) ?_
  first | refine L.op1 rfl rfl (GSpec.plain rfl (fit_i64 (by (first | omega | (simp only [List.length_set]; omega))) (by (first | omega | (simp only [List.length_set]; omega))) (spec_add rfl (Get.tmp rfl) (Get.cint rfl)))) ?_ | refine L.op1 rfl rfl (GSpec.plain rfl (spec_add rfl (Get.tmp rfl) (Get.cint rfl))) ?_
  refine L.op1 rfl rfl (GSpec.plain rfl (spec_assign rfl (Get.tmp rfl))) ?_
  refine L.nil ?_
  refine N.thenW ?_
  refine W.block ?_
  refine W.loopK (σ := Nat) (.cons (t := 0) rfl (.cons (t := 1) rfl (.cons (t := 2) rfl (.cons (t := 3) rfl .nil)))) (fun z => [(8, Rp.int .i64 ((a + 1 + z : Nat) : Int))]) (fun z => [MF.osl v 3 1 eI (insD c a z xs)]) (fun z => z ≤ m) (fun z => m - z) 0 (Nat.zero_le _) (.weak (t := 8) rfl (eqI (by omega)) .nil) (.cons 0 rfl .nil) ?_
  intro w hI S' M' hS hM
  try dsimp only at hS hM
  simp only [List.cons_append, List.nil_append] at hS hM
  subst hS hM
  try dsimp only
  have hz := insD_in c a w hx (by omega)
  have hzl := insD_len c a w xs
  refine W.seq ?_
  refine W.seq ?_
  refine W.region ?_
  refine L.op1 rfl rfl (GSpec.plain rfl (spec_move rfl (Get.tmp rfl))) ?_
  refine L.op1 rfl rfl (GSpec.plain rfl (spec_move rfl (Get.tmp rfl))) ?_
  refine L.op1 rfl rfl (GSpec.plain rfl (spec_lss rfl (Get.tmp rfl) (Get.tmp rfl))) ?_
  refine L.nil ?_
  refine N.thenW ?_
  refine W.cond (Get.tmp rfl) (fun h1 => ?_) (fun h1 => ?_)
  · have ph1 := h1; try simp only [decide_eq_true_eq, decide_eq_false_iff_not, Bool.and_eq_true, Bool.or_eq_true, Bool.and_eq_false_iff, Bool.or_eq_false_iff, Bool.not_eq_true', Bool.not_eq_false', Bool.not_true, Bool.not_false, Int.not_lt, Int.not_le] at ph1
    refine W.skip ?_
    refine N.thenW ?_
    refine W.seq ?_
    refine W.block ?_
    refine W.seq ?_
    refine W.region ?_
    refine L.op1 rfl rfl (GSpec.plain rfl (spec_move rfl (Get.tmp rfl))) ?_
    refine L.op1 rfl rfl (GSpec.plain rfl (spec_assign rfl (Get.tmp rfl))) ?_
    refine L.nil ?_
    refine N.thenW ?_
    refine W.block ?_
    refine W.loopK (σ := Nat × List Int) (.cons (t := 0) rfl (.cons (t := 1) rfl (.cons (t := 2) rfl (.cons (t := 3) rfl (.cons (t := 8) rfl (.cons (t := 12) rfl (.cons (t := 13) rfl (.cons (t := 14) rfl (.cons (t := 17) rfl .nil))))))))) (fun z => [(9, Rp.int .i64 ((a + z.1 : Nat) : Int))]) (fun z => [MF.osl v 3 1 eI z.2]) (fun z => z.1 ≤ w + 1 ∧ z.2.length = xs.length ∧ inR n z.2 ∧ sink c a z.1 z.2 = sink c a (w + 1) (insD c a w xs)) (fun z => z.1) (w + 1, insD c a w xs) ⟨Nat.le_refl _, hzl, hz, rfl⟩ (.weak (t := 9) rfl (eqI (by omega)) .nil) (.cons 0 rfl .nil) ?_
    intro ⟨k, ys⟩ hI S' M' hS hM
    obtain ⟨hq1, hq2, hq3, hq4⟩ := hI
    try dsimp only at hS hM
    simp only [List.cons_append, List.nil_append] at hS hM
    subst hS hM
    try dsimp only
    try dsimp only at hq1 hq2 hq3 hq4
    refine W.seq ?_
    refine W.seq ?_
    apply W.any 17 mixed (by kernel_rfl)
    · apply Head.one rfl rfl (GSpec.plain rfl (spec_move rfl (Get.tmp rfl)))
      apply Head.one rfl rfl (GSpec.plain rfl (spec_move rfl (Get.tmp rfl)))
      apply Head.one rfl rfl (GSpec.plain rfl (spec_gtr rfl (Get.tmp rfl) (Get.tmp rfl)))
      apply Head.one rfl rfl (GSpec.plain rfl (spec_move rfl (Get.tmp rfl)))
      apply Head.one rfl rfl (GSpec.guard rfl rfl rfl fun hg => (spec_move rfl (Get.tmp rfl)))
      apply Head.one rfl rfl (GSpec.guard rfl rfl rfl fun hg => (spec_move rfl (Get.tmp rfl)))
      apply Head.one rfl rfl (GSpec.guard rfl rfl rfl fun hg => (spec_move rfl (Get.tmp rfl)))
      apply Head.one rfl rfl (GSpec.guard rfl rfl rfl fun hg => (spec_indexAddrO (k := 0) (E := eI) rfl Tryd.underlying32 Tryd.sizeOf3 (Get.opt rfl hg) (Get.opt rfl hg) rfl (by (first | omega | (simp only [decide_eq_true_eq, decide_eq_false_iff_not, Bool.and_eq_true, Bool.or_eq_true, Bool.and_eq_false_iff, Bool.or_eq_false_iff, Bool.not_eq_true', Bool.not_eq_false', Bool.not_true, Bool.not_false, Int.not_lt, Int.not_le] at hg; omega)))))
      apply Head.one rfl rfl (GSpec.guard rfl rfl rfl fun hg => (spec_loadO1 (k := 0) (j := 0) (E := eI) rfl Tryd.isAgg3 (fun _ => rfl) (Get.opt rfl hg) rfl rfl (getD_some (by (first | omega | (simp only [decide_eq_true_eq, decide_eq_false_iff_not, Bool.and_eq_true, Bool.or_eq_true, Bool.and_eq_false_iff, Bool.or_eq_false_iff, Bool.not_eq_true', Bool.not_eq_false', Bool.not_true, Bool.not_false, Int.not_lt, Int.not_le] at hg; omega)))) rfl))
      apply Head.one rfl rfl (GSpec.guard rfl rfl rfl fun hg => (spec_move rfl (Get.tmp rfl)))
      apply Head.one rfl rfl (GSpec.guard rfl rfl rfl fun hg => (spec_move rfl (Get.tmp rfl)))
      first | apply Head.one rfl rfl (GSpec.guard rfl rfl rfl fun hg => (fit_i64 (by (first | omega | (simp only [decide_eq_true_eq, decide_eq_false_iff_not, Bool.and_eq_true, Bool.or_eq_true, Bool.and_eq_false_iff, Bool.or_eq_false_iff, Bool.not_eq_true', Bool.not_eq_false', Bool.not_true, Bool.not_false, Int.not_lt, Int.not_le] at hg; omega))) (by (first | omega | (simp only [decide_eq_true_eq, decide_eq_false_iff_not, Bool.and_eq_true, Bool.or_eq_true, Bool.and_eq_false_iff, Bool.or_eq_false_iff, Bool.not_eq_true', Bool.not_eq_false', Bool.not_true, Bool.not_false, Int.not_lt, Int.not_le] at hg; omega))) (spec_sub rfl (Get.opt rfl hg) (Get.cint rfl)))) | apply Head.one rfl rfl (GSpec.guard rfl rfl rfl fun hg => (spec_sub rfl (Get.opt rfl hg) (Get.cint rfl)))
      apply Head.one rfl rfl (GSpec.guard rfl rfl rfl fun hg => (spec_indexAddrO (k := 0) (E := eI) rfl Tryd.underlying32 Tryd.sizeOf3 (Get.opt rfl hg) (Get.opt rfl hg) rfl (by (first | omega | (simp only [decide_eq_true_eq, decide_eq_false_iff_not, Bool.and_eq_true, Bool.or_eq_true, Bool.and_eq_false_iff, Bool.or_eq_false_iff, Bool.not_eq_true', Bool.not_eq_false', Bool.not_true, Bool.not_false, Int.not_lt, Int.not_le] at hg; omega)))))
      apply Head.one rfl rfl (GSpec.guard rfl rfl rfl fun hg => (spec_loadO1 (k := 0) (j := 0) (E := eI) rfl Tryd.isAgg3 (fun _ => rfl) (Get.opt rfl hg) rfl rfl (getD_some (by (first | omega | (simp only [decide_eq_true_eq, decide_eq_false_iff_not, Bool.and_eq_true, Bool.or_eq_true, Bool.and_eq_false_iff, Bool.or_eq_false_iff, Bool.not_eq_true', Bool.not_eq_false', Bool.not_true, Bool.not_false, Int.not_lt, Int.not_le] at hg; omega)))) rfl))
      apply Head.one rfl rfl (GSpec.guard rfl rfl rfl fun hg => (show Go.Sim.Spec _ _ _ _ (.one (Rp.int .i64 (c (ys.getD (((a + k : Nat) : Int)).toNat default) (ys.getD (((a + k : Nat) : Int) - 1).toNat default)))) from spec_callF (A := fun i : In2 n => [Rp.int .i64 i.1.1, Rp.int .i64 i.1.2]) (X := fun i : In2 n => .one (Rp.int .i64 (c i.1.1 i.1.2))) (⟨(ys.getD (((a + k : Nat) : Int)).toNat default, ys.getD (((a + k : Nat) : Int) - 1).toNat default), hq3 _ (getD_mem' (by simp only [decide_eq_true_eq] at hg; omega)), hq3 _ (getD_mem' (by simp only [decide_eq_true_eq] at hg; omega))⟩ : In2 n) rfl (Get.opt rfl hg) (.cons (Get.opt rfl hg) (.cons (Get.opt rfl hg) .nil))))
      apply Head.one rfl rfl (GSpec.guard rfl rfl rfl fun hg => (spec_lss rfl (Get.opt rfl hg) (Get.cint rfl)))
      apply Head.one rfl rfl (GSpec.plain rfl (spec_and rfl (Get.tmp rfl) (fun hb => (Get.opt rfl hb))))
      exact Head.nil
    refine Fin.one ?_
    refine Fin.one ?_
    refine Fin.one ?_
    refine Fin.one ?_
    refine Fin.one ?_
    refine Fin.one ?_
    refine Fin.one ?_
    refine Fin.one ?_
    refine Fin.one ?_
    refine Fin.one ?_
    refine Fin.one ?_
    refine Fin.one ?_
    refine Fin.one ?_
    refine Fin.one ?_
    refine Fin.one ?_
    refine Fin.one ?_
    refine Fin.one ?_
    refine Fin.nil ?_
    refine L.nil ?_
    refine N.thenW ?_
    refine W.cond (Get.tmp rfl) (fun h2 => ?_) (fun h2 => ?_)
    · have ph2 := h2; simp only [decide_eq_true_eq, decide_eq_false_iff_not, Bool.and_eq_true, Bool.or_eq_true, Bool.and_eq_false_iff, Bool.or_eq_false_iff, Bool.not_eq_true', Bool.not_eq_false', Bool.not_true, Bool.not_false, Int.not_lt, Int.not_le] at ph2
      have hk0 : 0 < k := by omega
      have hc : c (ys.getD (a + k) default) (ys.getD (a + (k - 1)) default) < 0 := by have h := ph2.2; rw [show ((a + k : Nat) : Int).toNat = a + k by omega, show (((a + k : Nat) : Int) - 1).toNat = a + (k - 1) by omega] at h; exact h
      refine W.skip ?_
      refine N.thenW ?_
      refine W.seq ?_
      refine W.block ?_
      apply W.any1 (bs := [false, false, true, true, true, false, false, false, false, false, false, false, false, false, false]) (Mf := []) 15 mixed (by kernel_rfl) (by kernel_rfl) rfl .nil
      · apply Head1.one rfl rfl (GSpec.plain rfl (spec_move rfl (Get.tmp rfl)))
        apply Head1.one rfl rfl (GSpec.plain rfl (spec_move rfl (Get.tmp rfl)))
        apply Head1.flo rfl rfl (GSpec.plain rfl (spec_move rfl (Get.tmp rfl)))
        apply Head1.flo rfl rfl (GSpec.plain rfl (spec_move rfl (Get.tmp rfl)))
        first | apply Head1.flo rfl rfl (GSpec.plain rfl (fit_i64 (by (first | omega | (simp only [List.length_set]; omega))) (by (first | omega | (simp only [List.length_set]; omega))) (spec_sub rfl (Get.tmp rfl) (Get.cint rfl)))) | apply Head1.flo rfl rfl (GSpec.plain rfl (spec_sub rfl (Get.tmp rfl) (Get.cint rfl)))
        apply Head1.one rfl rfl (GSpec.plain rfl (spec_move rfl (Get.tmp rfl)))
        apply Head1.one rfl rfl (GSpec.plain rfl (spec_move rfl (Get.tmp rfl)))
        first | apply Head1.one rfl rfl (GSpec.plain rfl (fit_i64 (by (first | omega | (simp only [List.length_set]; omega))) (by (first | omega | (simp only [List.length_set]; omega))) (spec_sub rfl (Get.tmp rfl) (Get.cint rfl)))) | apply Head1.one rfl rfl (GSpec.plain rfl (spec_sub rfl (Get.tmp rfl) (Get.cint rfl)))
        apply Head1.one rfl rfl (GSpec.plain rfl (spec_indexAddrO (k := 0) (E := eI) rfl Tryd.underlying32 Tryd.sizeOf3 (Get.tmp rfl) (Get.tmp rfl) rfl (by (first | omega | (simp only [List.length_set]; omega)))))
        apply Head1.one rfl rfl (GSpec.plain rfl (spec_loadO1 (k := 0) (j := 0) (E := eI) rfl Tryd.isAgg3 (fun _ => rfl) (Get.tmp rfl) rfl rfl (getD_some (by (first | omega | (simp only [List.length_set]; omega)))) rfl))
        apply Head1.one rfl rfl (GSpec.plain rfl (spec_move rfl (Get.tmp rfl)))
        apply Head1.one rfl rfl (GSpec.plain rfl (spec_move rfl (Get.tmp rfl)))
        apply Head1.one rfl rfl (GSpec.plain rfl (spec_indexAddrO (k := 0) (E := eI) rfl Tryd.underlying32 Tryd.sizeOf3 (Get.tmp rfl) (Get.tmp rfl) rfl (by (first | omega | (simp only [List.length_set]; omega)))))
        apply Head1.one rfl rfl (GSpec.plain rfl (spec_loadO1 (k := 0) (j := 0) (E := eI) rfl Tryd.isAgg3 (fun _ => rfl) (Get.tmp rfl) rfl rfl (getD_some (by (first | omega | (simp only [List.length_set]; omega)))) rfl))
        apply Head1.one rfl rfl (GSpec.plain rfl (spec_indexAddrO (k := 0) (E := eI) rfl Tryd.underlying32 Tryd.sizeOf3 (Get.tmp rfl) (Get.tmp rfl) rfl (by (first | omega | (simp only [List.length_set]; omega)))))
        exact Head1.nil
      · rfl
      refine Fin1.one ?_
      refine Fin1.one ?_
      refine Fin1.flo ?_
      refine Fin1.flo ?_
      refine Fin1.flo ?_
      refine Fin1.one ?_
      refine Fin1.one ?_
      refine Fin1.one ?_
      refine Fin1.one ?_
      refine Fin1.one ?_
      refine Fin1.one ?_
      refine Fin1.one ?_
      refine Fin1.one ?_
      refine Fin1.one ?_
      refine Fin1.one ?_
      refine Fin1.nil (fun X => ?_)
      refine L.storeO1 (k := 0) (j := 0) (E := eI) rfl rfl rfl Tryd.sizeOf3 (fun _ => rfl) (Get.tmp rfl) (Get.tmp rfl) rfl rfl (by decide) (getD_some (by (first | omega | (simp only [List.length_set]; omega)))) rfl ?_
      refine L.nil ?_
      refine Aft.next _ .refl .nil rfl ?_
      refine L.op1 rfl rfl (GSpec.plain rfl (spec_indexAddrO (k := 0) (E := eI) rfl Tryd.underlying32 Tryd.sizeOf3 (Get.tmp rfl) (Get.tmp rfl) rfl (by (first | omega | (simp only [List.length_set]; omega))))) ?_
      refine L.storeO1 (k := 0) (j := 0) (E := eI) rfl rfl rfl Tryd.sizeOf3 (fun _ => rfl) (Get.tmp rfl) (Get.tmp rfl) rfl rfl (by decide) (getD_some (by (first | omega | (simp only [List.length_set]; omega)))) rfl ?_
      refine L.nil ?_
      refine N.blockNormal ?_
      refine N.thenW ?_
      refine W.region ?_
      refine L.op1 rfl rfl (GSpec.plain rfl (spec_move rfl (Get.tmp rfl))) ?_
      first | refine L.op1 rfl rfl (GSpec.plain rfl (fit_i64 (by (first | omega | (simp only [List.length_set]; omega))) (by (first | omega | (simp only [List.length_set]; omega))) (spec_sub rfl (Get.tmp rfl) (Get.cint rfl)))) ?_ | refine L.op1 rfl rfl (GSpec.plain rfl (spec_sub rfl (Get.tmp rfl) (Get.cint rfl))) ?_
      refine L.op1 rfl rfl (GSpec.plain rfl (spec_assign rfl (Get.tmp rfl))) ?_
      refine L.nil ?_
      refine N.roundK (k - 1, swp ys (a + (k - 1))) ?hI1 ?hmu1 ?hs1 ?hk1 ?hp1
      case hs1 => exact (.weak (t := 9) rfl (eqI (by omega)) .nil)
      case hk1 => exact (.cons (t := 0) rfl (.cons (t := 1) rfl (.cons (t := 2) rfl (.cons (t := 3) rfl (.cons (t := 8) rfl (.cons (t := 12) rfl (.cons (t := 13) rfl (.cons (t := 14) rfl (.cons (t := 17) rfl .nil)))))))))
      case hp1 => rw [swp_eq (p := ((a + k : Nat) : Int).toNat) (q := (((a + k : Nat) : Int) - 1).toNat) (by omega) (by omega)]; exact (.cons 0 rfl .nil)
      case hI1 => exact ⟨by dsimp only; omega, by dsimp only; rw [swp_len]; exact hq2, swp_in (j := a + (k - 1)) hq3 (by omega), (sink_go2 hk0 hc).trans hq4⟩
      case hmu1 => dsimp only; omega
    · have hst : k = 0 ∨ ¬ c (ys.getD (a + k) default) (ys.getD (a + (k - 1)) default) < 0 := by cases k with | zero => exact .inl rfl | succ j => right; have h := h2; rw [show ((a + (j + 1) : Nat) : Int).toNat = a + (j + 1) by omega, show (((a + (j + 1) : Nat) : Int) - 1).toNat = a + j by omega] at h; intro q; rw [show j + 1 - 1 = j by omega] at q; rw [decide_eq_true q, decide_eq_true (show ((a : Nat) : Int) < ((a + (j + 1) : Nat) : Int) by omega)] at h; cases h
      have hs := sink_stop hst
      rw [hs] at hq4
      refine W.exit ?_
      refine N.thenExit ?_
      refine N.thenExit ?_
      refine N.blockExit ?_
      refine N.blockNormal ?_
      refine N.thenW ?_
      refine W.region ?_
      refine L.op1 rfl rfl (GSpec.plain rfl (spec_move rfl (Get.tmp rfl))) ?_
      first | refine L.op1 rfl rfl (GSpec.plain rfl (fit_i64 (by (first | omega | (simp only [List.length_set]; omega))) (by (first | omega | (simp only [List.length_set]; omega))) (spec_add rfl (Get.tmp rfl) (Get.cint rfl)))) ?_ | refine L.op1 rfl rfl (GSpec.plain rfl (spec_add rfl (Get.tmp rfl) (Get.cint rfl))) ?_
      refine L.op1 rfl rfl (GSpec.plain rfl (spec_assign rfl (Get.tmp rfl))) ?_
      refine L.nil ?_
      refine N.roundK (w + 1) ?hI2 ?hmu2 ?hs2 ?hk2 ?hp2
      case hs2 => exact (.weak (t := 8) rfl (eqI (by omega)) .nil)
      case hk2 => exact (.cons (t := 0) rfl (.cons (t := 1) rfl (.cons (t := 2) rfl (.cons (t := 3) rfl .nil))))
      case hp2 => rw [show insD c a (w + 1) xs = ys from hq4.symm]; exact (.cons 0 rfl .nil)
      all_goals (first | rfl | trivial | omega | (simp_all; done))
  · have ph1 := h1; try simp only [decide_eq_true_eq, decide_eq_false_iff_not, Bool.and_eq_true, Bool.or_eq_true, Bool.and_eq_false_iff, Bool.or_eq_false_iff, Bool.not_eq_true', Bool.not_eq_false', Bool.not_true, Bool.not_false, Int.not_lt, Int.not_le] at ph1
    refine W.exit ?_
    refine N.thenExit ?_
    refine N.thenExit ?_
    refine N.blockExit ?_
    have ew : w = m := by omega
    subst ew
    refine N.ret () rfl .nil res0 (.cons 0 rfl .nil) (fun _ _ h => h)
    skip

end Go.Proofs.YtlbhpjigjehffaaDoor
set_option linter.unusedSimpArgs false
set_option maxRecDepth 8000
set_option linter.unusedVariables false
namespace Go.Proofs.YtlbhpjigjehffaaDoor
open Go.Sim
theorem swapRange_ok (n : Nat) (c : Int → Int → Int) (v : Value) (xs : List Int) (a b k : Nat) (h1 : a + k ≤ b) (h2 : b + k ≤ xs.length) (hl : xs.length ≤ 1000000) : CallT Tryd.prog 63 [Rp.val v, Rp.int .i64 (a : Nat), Rp.int .i64 (b : Nat), Rp.int .i64 (k : Nat), pC n c] [MF.osl v 3 1 eI xs] (ownX v (swr xs a b k)) := by
  refine W.enter (fn := Tryd.f63) (n := 38) Tryd.func63 rfl Tryd.ntmps63 rfl (fun w₀ C₀ => ?_)
  simp only [argS]
  refine W.seq ?_
  refine W.region ?_
  refine L.op1 rfl rfl (GSpec.plain rfl (spec_assign rfl (Get.cint rfl))) ?_
  refine L.nil ?_
  refine N.thenW ?_
  refine W.block ?_
  refine W.loopK (σ := Nat) (.cons (t := 0) rfl (.cons (t := 1) rfl (.cons (t := 2) rfl (.cons (t := 3) rfl .nil)))) (fun z => [(10, Rp.int .i64 (z : Nat))]) (fun z => [MF.osl v 3 1 eI (swr xs a b z)]) (fun z => z ≤ k) (fun z => k - z) 0 (Nat.zero_le _) (.cons (t := 10) rfl .nil) (.cons 0 rfl .nil) ?_
  intro z hI S' M' hS hM
  try dsimp only at hS hM
  simp only [List.cons_append, List.nil_append] at hS hM
  subst hS hM
  try dsimp only
  have hzl := swr_len xs a b z
  refine W.seq ?_
  refine W.seq ?_
  refine W.region ?_
  refine L.op1 rfl rfl (GSpec.plain rfl (spec_move rfl (Get.tmp rfl))) ?_
  refine L.op1 rfl rfl (GSpec.plain rfl (spec_move rfl (Get.tmp rfl))) ?_
  refine L.op1 rfl rfl (GSpec.plain rfl (spec_lss rfl (Get.tmp rfl) (Get.tmp rfl))) ?_
  refine L.nil ?_
  refine N.thenW ?_
  refine W.cond (Get.tmp rfl) (fun h1 => ?_) (fun h1 => ?_)
  · have ph1 := h1; try simp only [decide_eq_true_eq, decide_eq_false_iff_not, Bool.and_eq_true, Bool.or_eq_true, Bool.and_eq_false_iff, Bool.or_eq_false_iff, Bool.not_eq_true', Bool.not_eq_false', Bool.not_true, Bool.not_false, Int.not_lt, Int.not_le] at ph1
    refine W.skip ?_
    refine N.thenW ?_
    refine W.seq ?_
    refine W.block ?_
    apply W.any1 (bs := [false, false, false, false, true, true, true, true, false, false, false, false, false, false, false, false, false, false, false, false, false]) (Mf := []) 21 mixed (by kernel_rfl) (by kernel_rfl) rfl .nil
    · apply Head1.one rfl rfl (GSpec.plain rfl (spec_move rfl (Get.tmp rfl)))
      apply Head1.one rfl rfl (GSpec.plain rfl (spec_move rfl (Get.tmp rfl)))
      apply Head1.one rfl rfl (GSpec.plain rfl (spec_move rfl (Get.tmp rfl)))
      first | apply Head1.one rfl rfl (GSpec.plain rfl (fit_i64 (by (first | omega | (simp only [List.length_set]; omega))) (by (first | omega | (simp only [List.length_set]; omega))) (spec_add rfl (Get.tmp rfl) (Get.tmp rfl)))) | apply Head1.one rfl rfl (GSpec.plain rfl (spec_add rfl (Get.tmp rfl) (Get.tmp rfl)))
      apply Head1.flo rfl rfl (GSpec.plain rfl (spec_move rfl (Get.tmp rfl)))
      apply Head1.flo rfl rfl (GSpec.plain rfl (spec_move rfl (Get.tmp rfl)))
      apply Head1.flo rfl rfl (GSpec.plain rfl (spec_move rfl (Get.tmp rfl)))
      first | apply Head1.flo rfl rfl (GSpec.plain rfl (fit_i64 (by (first | omega | (simp only [List.length_set]; omega))) (by (first | omega | (simp only [List.length_set]; omega))) (spec_add rfl (Get.tmp rfl) (Get.tmp rfl)))) | apply Head1.flo rfl rfl (GSpec.plain rfl (spec_add rfl (Get.tmp rfl) (Get.tmp rfl)))
      apply Head1.one rfl rfl (GSpec.plain rfl (spec_move rfl (Get.tmp rfl)))
      apply Head1.one rfl rfl (GSpec.plain rfl (spec_move rfl (Get.tmp rfl)))
      apply Head1.one rfl rfl (GSpec.plain rfl (spec_move rfl (Get.tmp rfl)))
      first | apply Head1.one rfl rfl (GSpec.plain rfl (fit_i64 (by (first | omega | (simp only [List.length_set]; omega))) (by (first | omega | (simp only [List.length_set]; omega))) (spec_add rfl (Get.tmp rfl) (Get.tmp rfl)))) | apply Head1.one rfl rfl (GSpec.plain rfl (spec_add rfl (Get.tmp rfl) (Get.tmp rfl)))
      apply Head1.one rfl rfl (GSpec.plain rfl (spec_indexAddrO (k := 0) (E := eI) rfl Tryd.underlying32 Tryd.sizeOf3 (Get.tmp rfl) (Get.tmp rfl) rfl (by (first | omega | (simp only [List.length_set]; omega)))))
      apply Head1.one rfl rfl (GSpec.plain rfl (spec_loadO1 (k := 0) (j := 0) (E := eI) rfl Tryd.isAgg3 (fun _ => rfl) (Get.tmp rfl) rfl rfl (getD_some (by (first | omega | (simp only [List.length_set]; omega)))) rfl))
      apply Head1.one rfl rfl (GSpec.plain rfl (spec_move rfl (Get.tmp rfl)))
      apply Head1.one rfl rfl (GSpec.plain rfl (spec_move rfl (Get.tmp rfl)))
      apply Head1.one rfl rfl (GSpec.plain rfl (spec_move rfl (Get.tmp rfl)))
      first | apply Head1.one rfl rfl (GSpec.plain rfl (fit_i64 (by (first | omega | (simp only [List.length_set]; omega))) (by (first | omega | (simp only [List.length_set]; omega))) (spec_add rfl (Get.tmp rfl) (Get.tmp rfl)))) | apply Head1.one rfl rfl (GSpec.plain rfl (spec_add rfl (Get.tmp rfl) (Get.tmp rfl)))
      apply Head1.one rfl rfl (GSpec.plain rfl (spec_indexAddrO (k := 0) (E := eI) rfl Tryd.underlying32 Tryd.sizeOf3 (Get.tmp rfl) (Get.tmp rfl) rfl (by (first | omega | (simp only [List.length_set]; omega)))))
      apply Head1.one rfl rfl (GSpec.plain rfl (spec_loadO1 (k := 0) (j := 0) (E := eI) rfl Tryd.isAgg3 (fun _ => rfl) (Get.tmp rfl) rfl rfl (getD_some (by (first | omega | (simp only [List.length_set]; omega)))) rfl))
      apply Head1.one rfl rfl (GSpec.plain rfl (spec_indexAddrO (k := 0) (E := eI) rfl Tryd.underlying32 Tryd.sizeOf3 (Get.tmp rfl) (Get.tmp rfl) rfl (by (first | omega | (simp only [List.length_set]; omega)))))
      exact Head1.nil
    · rfl
    refine Fin1.one ?_
    refine Fin1.one ?_
    refine Fin1.one ?_
    refine Fin1.one ?_
    refine Fin1.flo ?_
    refine Fin1.flo ?_
    refine Fin1.flo ?_
    refine Fin1.flo ?_
    refine Fin1.one ?_
    refine Fin1.one ?_
    refine Fin1.one ?_
    refine Fin1.one ?_
    refine Fin1.one ?_
    refine Fin1.one ?_
    refine Fin1.one ?_
    refine Fin1.one ?_
    refine Fin1.one ?_
    refine Fin1.one ?_
    refine Fin1.one ?_
    refine Fin1.one ?_
    refine Fin1.one ?_
    refine Fin1.nil (fun X => ?_)
    refine L.storeO1 (k := 0) (j := 0) (E := eI) rfl rfl rfl Tryd.sizeOf3 (fun _ => rfl) (Get.tmp rfl) (Get.tmp rfl) rfl rfl (by decide) (getD_some (by (first | omega | (simp only [List.length_set]; omega)))) rfl ?_
    refine L.nil ?_
    refine Aft.next _ .refl .nil rfl ?_
    refine L.op1 rfl rfl (GSpec.plain rfl (spec_indexAddrO (k := 0) (E := eI) rfl Tryd.underlying32 Tryd.sizeOf3 (Get.tmp rfl) (Get.tmp rfl) rfl (by (first | omega | (simp only [List.length_set]; omega))))) ?_
    refine L.storeO1 (k := 0) (j := 0) (E := eI) rfl rfl rfl Tryd.sizeOf3 (fun _ => rfl) (Get.tmp rfl) (Get.tmp rfl) rfl rfl (by decide) (getD_some (by (first | omega | (simp only [List.length_set]; omega)))) rfl ?_
    refine L.nil ?_
    refine N.blockNormal ?_
    refine N.thenW ?_
    refine W.region ?_
    refine L.op1 rfl rfl (GSpec.plain rfl (spec_move rfl (Get.tmp rfl))) ?_
    first | refine L.op1 rfl rfl (GSpec.plain rfl (fit_i64 (by (first | omega | (simp only [List.length_set]; omega))) (by (first | omega | (simp only [List.length_set]; omega))) (spec_add rfl (Get.tmp rfl) (Get.cint rfl)))) ?_ | refine L.op1 rfl rfl (GSpec.plain rfl (spec_add rfl (Get.tmp rfl) (Get.cint rfl))) ?_
    refine L.op1 rfl rfl (GSpec.plain rfl (spec_assign rfl (Get.tmp rfl))) ?_
    refine L.nil ?_
    refine N.roundK (z + 1) ?hI1 ?hmu1 ?hs1 ?hk1 ?hp1
    case hs1 => exact (.cons (t := 10) rfl .nil)
    case hk1 => exact (.cons (t := 0) rfl (.cons (t := 1) rfl (.cons (t := 2) rfl (.cons (t := 3) rfl .nil))))
    case hp1 => rw [swr_step (p := ((a : Int) + (z : Int)).toNat) (q := ((b : Int) + (z : Int)).toNat) (by omega) (by omega)]; exact (.cons 0 rfl .nil)
    all_goals (first | rfl | trivial | omega | (simp_all; done))
  · have ph1 := h1; try simp only [decide_eq_true_eq, decide_eq_false_iff_not, Bool.and_eq_true, Bool.or_eq_true, Bool.and_eq_false_iff, Bool.or_eq_false_iff, Bool.not_eq_true', Bool.not_eq_false', Bool.not_true, Bool.not_false, Int.not_lt, Int.not_le] at ph1
    refine W.exit ?_
    refine N.thenExit ?_
    refine N.thenExit ?_
    refine N.blockExit ?_
    have ez : z = k := by omega
    subst ez
    refine N.ret () rfl .nil res0 (.cons 0 rfl .nil) (fun _ _ h => h)
    skip

end Go.Proofs.YtlbhpjigjehffaaDoor
