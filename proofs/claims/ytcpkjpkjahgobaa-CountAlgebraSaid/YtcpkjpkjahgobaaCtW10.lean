import Derived.Test.YtcpkjpkjahgobaaCtW9
import Derived.Test.YtcpkjpkjahgobaaCtM
set_option linter.unusedSimpArgs false
set_option maxRecDepth 8000
set_option linter.unusedVariables false
namespace Go.Proofs.Ytcpkjpkjahgobaa
open Go.Sim
theorem mul64_ok (x y : Int) (hx : 0 ≤ x ∧ x ≤ 18446744073709551615) (hy : 0 ≤ y ∧ y ≤ 18446744073709551615) : CallT Try.prog 57 [Rp.int .u64 x, Rp.int .u64 y] [] (.one (Rp.tuple [Rp.int .u64 (x * y / 18446744073709551616), Rp.int .u64 (x * y % 18446744073709551616)])) := by
  refine W.enter (fn := Try.f57) (n := 51) Try.func57 rfl Try.ntmps57 rfl (fun w₀ C₀ => ?_)
  simp only [argS]
  have pa := prod_in (u := x % 4294967296) (v := y % 4294967296) (by omega) (by omega)
  have pb := prod_in (u := x / 4294967296) (v := y % 4294967296) (by omega) (by omega)
  have pc := prod_in (u := x % 4294967296) (v := y / 4294967296) (by omega) (by omega)
  have pd := prod_in (u := x / 4294967296) (v := y / 4294967296) (by omega) (by omega)
  refine W.seq ?_
  refine W.region ?_
  refine L.op1 rfl rfl (GSpec.plain rfl (spec_assign rfl (Get.cint rfl))) ?_
  refine L.op1 rfl rfl (GSpec.plain rfl (spec_assign rfl (Get.cint rfl))) ?_
  refine L.nil ?_
  refine N.thenW ?_
  refine W.seq ?_
  refine W.region ?_
  refine L.op1 rfl rfl (GSpec.plain rfl (spec_move rfl (Get.tmp rfl))) ?_
  refine L.op1 rfl rfl (GSpec.plain rfl (spec_and32 rfl (Get.tmp rfl) (Get.cint rfl) (by omega) (by omega))) ?_
  refine L.op1 rfl rfl (GSpec.plain rfl (spec_assign rfl (Get.tmp rfl))) ?_
  refine L.nil ?_
  refine N.thenW ?_
  refine W.seq ?_
  refine W.region ?_
  refine L.op1 rfl rfl (GSpec.plain rfl (spec_move rfl (Get.tmp rfl))) ?_
  refine L.op1 rfl rfl (GSpec.plain rfl (spec_shr32 rfl (Get.tmp rfl) (Get.cint rfl))) ?_
  refine L.op1 rfl rfl (GSpec.plain rfl (spec_assign rfl (Get.tmp rfl))) ?_
  refine L.nil ?_
  refine N.thenW ?_
  refine W.seq ?_
  refine W.region ?_
  refine L.op1 rfl rfl (GSpec.plain rfl (spec_move rfl (Get.tmp rfl))) ?_
  refine L.op1 rfl rfl (GSpec.plain rfl (spec_and32 rfl (Get.tmp rfl) (Get.cint rfl) (by omega) (by omega))) ?_
  refine L.op1 rfl rfl (GSpec.plain rfl (spec_assign rfl (Get.tmp rfl))) ?_
  refine L.nil ?_
  refine N.thenW ?_
  refine W.seq ?_
  refine W.region ?_
  refine L.op1 rfl rfl (GSpec.plain rfl (spec_move rfl (Get.tmp rfl))) ?_
  refine L.op1 rfl rfl (GSpec.plain rfl (spec_shr32 rfl (Get.tmp rfl) (Get.cint rfl))) ?_
  refine L.op1 rfl rfl (GSpec.plain rfl (spec_assign rfl (Get.tmp rfl))) ?_
  refine L.nil ?_
  refine N.thenW ?_
  refine W.keep (.cons (t := 0) rfl (.cons (t := 1) rfl (.cons (t := 4) rfl (.cons (t := 5) rfl (.cons (t := 6) rfl (.cons (t := 7) rfl (.cons (t := 8) rfl (.cons (t := 9) rfl .nil)))))))) .refl ?_
  refine W.seq ?_
  refine W.region ?_
  refine L.op1 rfl rfl (GSpec.plain rfl (spec_move rfl (Get.tmp rfl))) ?_
  refine L.op1 rfl rfl (GSpec.plain rfl (spec_move rfl (Get.tmp rfl))) ?_
  first | refine L.op1 rfl rfl (GSpec.plain rfl (fit_u64 (by omega) (by omega) (spec_mul rfl (Get.tmp rfl) (Get.tmp rfl)))) ?_ | refine L.op1 rfl rfl (GSpec.plain rfl (spec_mul rfl (Get.tmp rfl) (Get.tmp rfl))) ?_
  refine L.op1 rfl rfl (GSpec.plain rfl (spec_assign rfl (Get.tmp rfl))) ?_
  refine L.nil ?_
  refine N.thenW ?_
  refine W.seq ?_
  refine W.region ?_
  refine L.op1 rfl rfl (GSpec.plain rfl (spec_move rfl (Get.tmp rfl))) ?_
  refine L.op1 rfl rfl (GSpec.plain rfl (spec_move rfl (Get.tmp rfl))) ?_
  first | refine L.op1 rfl rfl (GSpec.plain rfl (fit_u64 (by omega) (by omega) (spec_mul rfl (Get.tmp rfl) (Get.tmp rfl)))) ?_ | refine L.op1 rfl rfl (GSpec.plain rfl (spec_mul rfl (Get.tmp rfl) (Get.tmp rfl))) ?_
  refine L.op1 rfl rfl (GSpec.plain rfl (spec_move rfl (Get.tmp rfl))) ?_
  refine L.op1 rfl rfl (GSpec.plain rfl (spec_shr32 rfl (Get.tmp rfl) (Get.cint rfl))) ?_
  first | refine L.op1 rfl rfl (GSpec.plain rfl (fit_u64 (by omega) (by omega) (spec_add rfl (Get.tmp rfl) (Get.tmp rfl)))) ?_ | refine L.op1 rfl rfl (GSpec.plain rfl (spec_add rfl (Get.tmp rfl) (Get.tmp rfl))) ?_
  refine L.op1 rfl rfl (GSpec.plain rfl (spec_assign rfl (Get.tmp rfl))) ?_
  refine L.nil ?_
  refine N.thenW ?_
  refine W.keep (.cons (t := 0) rfl (.cons (t := 1) rfl (.cons (t := 4) rfl (.cons (t := 5) rfl (.cons (t := 6) rfl (.cons (t := 7) rfl (.cons (t := 9) rfl (.cons (t := 11) rfl .nil)))))))) .refl ?_
  refine W.seq ?_
  refine W.region ?_
  refine L.op1 rfl rfl (GSpec.plain rfl (spec_move rfl (Get.tmp rfl))) ?_
  refine L.op1 rfl rfl (GSpec.plain rfl (spec_and32 rfl (Get.tmp rfl) (Get.cint rfl) (by omega) (by omega))) ?_
  refine L.op1 rfl rfl (GSpec.plain rfl (spec_assign rfl (Get.tmp rfl))) ?_
  refine L.nil ?_
  refine N.thenW ?_
  refine W.seq ?_
  refine W.region ?_
  refine L.op1 rfl rfl (GSpec.plain rfl (spec_move rfl (Get.tmp rfl))) ?_
  refine L.op1 rfl rfl (GSpec.plain rfl (spec_shr32 rfl (Get.tmp rfl) (Get.cint rfl))) ?_
  refine L.op1 rfl rfl (GSpec.plain rfl (spec_assign rfl (Get.tmp rfl))) ?_
  refine L.nil ?_
  refine N.thenW ?_
  refine W.seq ?_
  refine W.region ?_
  refine L.op1 rfl rfl (GSpec.plain rfl (spec_move rfl (Get.tmp rfl))) ?_
  refine L.op1 rfl rfl (GSpec.plain rfl (spec_move rfl (Get.tmp rfl))) ?_
  refine L.op1 rfl rfl (GSpec.plain rfl (spec_move rfl (Get.tmp rfl))) ?_
  first | refine L.op1 rfl rfl (GSpec.plain rfl (fit_u64 (by omega) (by omega) (spec_mul rfl (Get.tmp rfl) (Get.tmp rfl)))) ?_ | refine L.op1 rfl rfl (GSpec.plain rfl (spec_mul rfl (Get.tmp rfl) (Get.tmp rfl))) ?_
  first | refine L.op1 rfl rfl (GSpec.plain rfl (fit_u64 (by omega) (by omega) (spec_add rfl (Get.tmp rfl) (Get.tmp rfl)))) ?_ | refine L.op1 rfl rfl (GSpec.plain rfl (spec_add rfl (Get.tmp rfl) (Get.tmp rfl))) ?_
  refine L.op1 rfl rfl (GSpec.plain rfl (spec_assign rfl (Get.tmp rfl))) ?_
  refine L.nil ?_
  refine N.thenW ?_
  refine W.keep (.cons (t := 0) rfl (.cons (t := 1) rfl (.cons (t := 4) rfl (.cons (t := 5) rfl (.cons (t := 7) rfl (.cons (t := 9) rfl (.cons (t := 12) rfl (.cons (t := 13) rfl .nil)))))))) .refl ?_
  refine W.seq ?_
  refine W.region ?_
  refine L.op1 rfl rfl (GSpec.plain rfl (spec_move rfl (Get.tmp rfl))) ?_
  refine L.op1 rfl rfl (GSpec.plain rfl (spec_move rfl (Get.tmp rfl))) ?_
  first | refine L.op1 rfl rfl (GSpec.plain rfl (fit_u64 (by omega) (by omega) (spec_mul rfl (Get.tmp rfl) (Get.tmp rfl)))) ?_ | refine L.op1 rfl rfl (GSpec.plain rfl (spec_mul rfl (Get.tmp rfl) (Get.tmp rfl))) ?_
  refine L.op1 rfl rfl (GSpec.plain rfl (spec_move rfl (Get.tmp rfl))) ?_
  first | refine L.op1 rfl rfl (GSpec.plain rfl (fit_u64 (by omega) (by omega) (spec_add rfl (Get.tmp rfl) (Get.tmp rfl)))) ?_ | refine L.op1 rfl rfl (GSpec.plain rfl (spec_add rfl (Get.tmp rfl) (Get.tmp rfl))) ?_
  refine L.op1 rfl rfl (GSpec.plain rfl (spec_move rfl (Get.tmp rfl))) ?_
  refine L.op1 rfl rfl (GSpec.plain rfl (spec_shr32 rfl (Get.tmp rfl) (Get.cint rfl))) ?_
  first | refine L.op1 rfl rfl (GSpec.plain rfl (fit_u64 (by omega) (by omega) (spec_add rfl (Get.tmp rfl) (Get.tmp rfl)))) ?_ | refine L.op1 rfl rfl (GSpec.plain rfl (spec_add rfl (Get.tmp rfl) (Get.tmp rfl))) ?_
  refine L.op1 rfl rfl (GSpec.plain rfl (spec_assign rfl (Get.tmp rfl))) ?_
  refine L.nil ?_
  refine N.thenW ?_
  refine W.keep (.cons (t := 0) rfl (.cons (t := 1) rfl (.cons (t := 4) rfl (.cons (t := 5) rfl .nil)))) .refl ?_
  refine W.seq ?_
  refine W.region ?_
  refine L.op1 rfl rfl (GSpec.plain rfl (spec_move rfl (Get.tmp rfl))) ?_
  refine L.op1 rfl rfl (GSpec.plain rfl (spec_move rfl (Get.tmp rfl))) ?_
  refine L.op1 rfl rfl (GSpec.plain rfl (spec_mul rfl (Get.tmp rfl) (Get.tmp rfl))) ?_
  refine L.op1 rfl rfl (GSpec.plain rfl (spec_assign rfl (Get.tmp rfl))) ?_
  refine L.nil ?_
  refine N.thenW ?_
  refine W.keep (.cons (t := 4) rfl (.cons (t := 5) rfl .nil)) .refl ?_
  refine W.ret ?_
  refine N.ret () rfl (.tmp (t := 4) (Get.tmp rfl) (.tmp (t := 5) (Get.tmp rfl) .nil)) (res2w (eqI ?_) (eqI ?_)) .nil (fun _ _ h => h)
  exact mul_hi hx hy
  exact u64_wrap _

theorem plus_ok (x y : Nat) : CallT Try.prog 42 [rM x, rM y] [] (.one (rM (x + y))) := by
  refine W.enter (fn := Try.f42) (n := 26) Try.func42 rfl Try.ntmps42 rfl (fun w₀ C₀ => ?_)
  simp only [argS]
  have ax := amt_in x
  have ay := amt_in y
  refine W.seq ?_
  refine W.region ?_
  refine L.box rfl rfl (GSpec.plain rfl (spec_box rfl (GetC.agg (Get.tmp rfl)))) (fun r2 => ?_)
  refine L.box rfl rfl (GSpec.plain rfl (spec_box rfl (GetC.agg (Get.tmp rfl)))) (fun r3 => ?_)
  refine L.box rfl rfl (GSpec.plain rfl (spec_alloc rfl ti65 z65)) (fun r4 => ?_)
  refine L.nil ?_
  refine N.thenW ?_
  refine W.seq ?_
  refine W.seq ?_
  refine W.region ?_
  refine L.op1 rfl rfl (GSpec.plain rfl (spec_fieldAddr (f := 1) (off' := 1) rfl Try.underlying65 rfl Try.sizeOf4 (Get.tmp rfl) rfl)) ?_
  refine L.op1 rfl rfl (GSpec.plain rfl (spec_load1 (k := 2) rfl Try.isAgg4 (Get.tmp rfl) rfl rfl)) ?_
  refine L.op1 rfl rfl (GSpec.plain rfl (spec_move rfl (Get.tmp rfl))) ?_
  refine L.op1 rfl rfl (GSpec.guard rfl rfl rfl fun hg => (spec_fieldAddr (f := 1) (off' := 1) rfl Try.underlying65 rfl Try.sizeOf4 (Get.tmp rfl) rfl)) ?_
  refine L.op1 rfl rfl (GSpec.guard rfl rfl rfl fun hg => (spec_load1 (k := 1) rfl Try.isAgg4 (Get.opt rfl hg) rfl rfl)) ?_
  refine L.op1 rfl rfl (GSpec.plain rfl (spec_or rfl (Get.tmp rfl) (fun hb => (Get.opt rfl hb)))) ?_
  refine L.op1 rfl rfl (GSpec.plain rfl (spec_move rfl (Get.tmp rfl))) ?_
  refine L.op1 rfl rfl (GSpec.guard rfl rfl rfl fun hg => (spec_fieldAddr (f := 0) (off' := 0) rfl Try.underlying65 rfl Try.sizeOf3 (Get.tmp rfl) rfl)) ?_
  refine L.op1 rfl rfl (GSpec.guard rfl rfl rfl fun hg => (spec_load1 (k := 2) rfl Try.isAgg3 (Get.opt rfl hg) rfl rfl)) ?_
  refine L.op1 rfl rfl (GSpec.guard rfl rfl rfl fun hg => (spec_fieldAddr (f := 0) (off' := 0) rfl Try.underlying65 rfl Try.sizeOf3 (Get.tmp rfl) rfl)) ?_
  refine L.op1 rfl rfl (GSpec.guard rfl rfl rfl fun hg => (spec_load1 (k := 1) rfl Try.isAgg3 (Get.opt rfl hg) rfl rfl)) ?_
  first | refine L.op1 rfl rfl (GSpec.guard rfl rfl rfl fun hg => (fit_i64 (by (simp only [decide_eq_true_eq, decide_eq_false_iff_not, Bool.and_eq_true, Bool.or_eq_true, Bool.and_eq_false_iff, Bool.or_eq_false_iff, Bool.not_eq_true', Bool.not_eq_false', Bool.not_true, Bool.not_false, Int.not_lt, Int.not_le] at hg; omega)) (by (simp only [decide_eq_true_eq, decide_eq_false_iff_not, Bool.and_eq_true, Bool.or_eq_true, Bool.and_eq_false_iff, Bool.or_eq_false_iff, Bool.not_eq_true', Bool.not_eq_false', Bool.not_true, Bool.not_false, Int.not_lt, Int.not_le] at hg; omega)) (spec_sub rfl (Get.cint rfl) (Get.opt rfl hg)))) ?_ | refine L.op1 rfl rfl (GSpec.guard rfl rfl rfl fun hg => (spec_sub rfl (Get.cint rfl) (Get.opt rfl hg))) ?_
  refine L.op1 rfl rfl (GSpec.guard rfl rfl rfl fun hg => (spec_gtr rfl (Get.opt rfl hg) (Get.opt rfl hg))) ?_
  refine L.op1 rfl rfl (GSpec.plain rfl (spec_or rfl (Get.tmp rfl) (fun hb => (Get.opt rfl hb)))) ?_
  refine L.nil ?_
  refine N.thenW ?_
  refine W.keep (.cons (t := 2) rfl (.cons (t := 3) rfl (.cons (t := 4) rfl (.cons (t := 18) rfl .nil)))) .refl ?_
  refine W.cond (Get.tmp rfl) (fun h1 => ?_) (fun h1 => ?_)
  · have ph1 := h1; try simp only [decide_eq_true_eq, decide_eq_false_iff_not, Bool.and_eq_true, Bool.or_eq_true, Bool.and_eq_false_iff, Bool.or_eq_false_iff, Bool.not_eq_true', Bool.not_eq_false', Bool.not_true, Bool.not_false, Int.not_lt, Int.not_le] at ph1
    refine W.seq ?_
    refine W.region ?_
    refine L.op1 rfl rfl (GSpec.plain rfl (spec_build (Rs := [Rp.int .i64 0, _]) rfl ti65 z65 Try.underlying65 pl65 (.cons (GetC.one Get.cbool) rfl rfl rfl .nil))) ?_
    refine L.storeW (k := 0) rfl rfl rfl Try.sizeOf65 (Get.tmp rfl) (Get.tmp rfl) rfl rfl rfl ?_
    refine L.nil ?_
    refine N.thenW ?_
    refine W.ret ?_
    refine N.ret () rfl (.cellA (k := 0) (Get.tmp (t := 4) rfl) rfl Try.isAgg65 Try.sizeOf65 rfl .nil) (res1 (eqA ?_)) .nil (fun _ _ h => h)
    unfold eA; rw [plus_large h1]; rfl
  · have ph1 := h1; try simp only [decide_eq_true_eq, decide_eq_false_iff_not, Bool.and_eq_true, Bool.or_eq_true, Bool.and_eq_false_iff, Bool.or_eq_false_iff, Bool.not_eq_true', Bool.not_eq_false', Bool.not_true, Bool.not_false, Int.not_lt, Int.not_le] at ph1
    refine W.skip ?_
    refine N.thenW ?_
    refine W.seq ?_
    refine W.region ?_
    refine L.op1 rfl rfl (GSpec.plain rfl (spec_fieldAddr (f := 0) (off' := 0) rfl Try.underlying65 rfl Try.sizeOf3 (Get.tmp rfl) rfl)) ?_
    refine L.op1 rfl rfl (GSpec.plain rfl (spec_load1 (k := 2) rfl Try.isAgg3 (Get.tmp rfl) rfl rfl)) ?_
    refine L.op1 rfl rfl (GSpec.plain rfl (spec_fieldAddr (f := 0) (off' := 0) rfl Try.underlying65 rfl Try.sizeOf3 (Get.tmp rfl) rfl)) ?_
    refine L.op1 rfl rfl (GSpec.plain rfl (spec_load1 (k := 1) rfl Try.isAgg3 (Get.tmp rfl) rfl rfl)) ?_
    first | refine L.op1 rfl rfl (GSpec.plain rfl (fit_i64 (by omega) (by omega) (spec_add rfl (Get.tmp rfl) (Get.tmp rfl)))) ?_ | refine L.op1 rfl rfl (GSpec.plain rfl (spec_add rfl (Get.tmp rfl) (Get.tmp rfl))) ?_
    refine L.op1 rfl rfl (GSpec.plain rfl (spec_build (Rs := [_, Rp.bool false]) rfl ti65 z65 Try.underlying65 pl65 (.cons (GetC.one (Get.tmp rfl)) rfl rfl rfl .nil))) ?_
    refine L.storeW (k := 0) rfl rfl rfl Try.sizeOf65 (Get.tmp rfl) (Get.tmp rfl) rfl rfl rfl ?_
    refine L.nil ?_
    refine N.thenW ?_
    refine W.keep (.cons (t := 4) rfl .nil) .refl ?_
    refine W.ret ?_
    refine N.ret () rfl (.cellA (k := 0) (Get.tmp (t := 4) rfl) rfl Try.isAgg65 Try.sizeOf65 rfl .nil) (res1 (eqA ?_)) .nil (fun _ _ h => h)
    unfold eA; rw [plus_small h1]; rfl

theorem times_ok (x y : Nat) : CallT Try.prog 39 [rM x, rM y] [] (.one (rM (x * y))) := by
  refine W.enter (fn := Try.f39) (n := 54) Try.func39 rfl Try.ntmps39 rfl (fun w₀ C₀ => ?_)
  simp only [argS]
  have ax := amt_in x
  have ay := amt_in y
  refine W.seq ?_
  refine W.region ?_
  refine L.box rfl rfl (GSpec.plain rfl (spec_box rfl (GetC.agg (Get.tmp rfl)))) (fun r2 => ?_)
  refine L.box rfl rfl (GSpec.plain rfl (spec_box rfl (GetC.agg (Get.tmp rfl)))) (fun r3 => ?_)
  refine L.box rfl rfl (GSpec.plain rfl (spec_alloc rfl ti65 z65)) (fun r4 => ?_)
  refine L.nil ?_
  refine N.thenW ?_
  refine W.seq ?_
  refine W.seq ?_
  refine W.region ?_
  refine L.op1 rfl rfl (GSpec.plain rfl (spec_fieldAddr (f := 1) (off' := 1) rfl Try.underlying65 rfl Try.sizeOf4 (Get.tmp rfl) rfl)) ?_
  refine L.op1 rfl rfl (GSpec.plain rfl (spec_load1 (k := 2) rfl Try.isAgg4 (Get.tmp rfl) rfl rfl)) ?_
  refine L.op1 rfl rfl (GSpec.plain rfl (spec_not rfl (Get.tmp rfl))) ?_
  refine L.op1 rfl rfl (GSpec.plain rfl (spec_move rfl (Get.tmp rfl))) ?_
  refine L.op1 rfl rfl (GSpec.guard rfl rfl rfl fun hg => (spec_fieldAddr (f := 0) (off' := 0) rfl Try.underlying65 rfl Try.sizeOf3 (Get.tmp rfl) rfl)) ?_
  refine L.op1 rfl rfl (GSpec.guard rfl rfl rfl fun hg => (spec_load1 (k := 2) rfl Try.isAgg3 (Get.opt rfl hg) rfl rfl)) ?_
  refine L.op1 rfl rfl (GSpec.guard rfl rfl rfl fun hg => (spec_eql rfl (Get.opt rfl hg) (Get.cint rfl))) ?_
  refine L.op1 rfl rfl (GSpec.plain rfl (spec_and rfl (Get.tmp rfl) (fun hb => (Get.opt rfl hb)))) ?_
  refine L.op1 rfl rfl (GSpec.plain rfl (spec_move rfl (Get.tmp rfl))) ?_
  refine L.op1 rfl rfl (GSpec.guard rfl rfl rfl fun hg => (spec_fieldAddr (f := 1) (off' := 1) rfl Try.underlying65 rfl Try.sizeOf4 (Get.tmp rfl) rfl)) ?_
  refine L.op1 rfl rfl (GSpec.guard rfl rfl rfl fun hg => (spec_load1 (k := 1) rfl Try.isAgg4 (Get.opt rfl hg) rfl rfl)) ?_
  refine L.op1 rfl rfl (GSpec.guard rfl rfl rfl fun hg => (spec_not rfl (Get.opt rfl hg))) ?_
  refine L.op1 rfl rfl (GSpec.guard rfl rfl rfl fun hg => (spec_move rfl (Get.opt rfl hg))) ?_
  refine L.op1 rfl rfl (GSpec.guardOpt rfl rfl rfl fun hg => (spec_fieldAddr (f := 0) (off' := 0) rfl Try.underlying65 rfl Try.sizeOf3 (Get.tmp rfl) rfl)) ?_
  refine L.op1 rfl rfl (GSpec.guardOpt rfl rfl rfl fun hg => (spec_load1 (k := 1) rfl Try.isAgg3 (Get.opt rfl hg) rfl rfl)) ?_
  refine L.op1 rfl rfl (GSpec.guardOpt rfl rfl rfl fun hg => (spec_eql rfl (Get.opt rfl hg) (Get.cint rfl))) ?_
  refine L.op1 rfl rfl (GSpec.guard rfl rfl rfl fun hg => (spec_and rfl (Get.opt rfl hg) (fun hb => (Get.opt rfl ⟨hg, hb⟩)))) ?_
  refine L.op1 rfl rfl (GSpec.plain rfl (spec_or rfl (Get.tmp rfl) (fun hb => (Get.opt rfl hb)))) ?_
  refine L.nil ?_
  refine N.thenW ?_
  refine W.keep (.cons (t := 2) rfl (.cons (t := 3) rfl (.cons (t := 4) rfl (.cons (t := 24) rfl .nil)))) .refl ?_
  refine W.cond (Get.tmp rfl) (fun h1 => ?_) (fun h1 => ?_)
  · have ph1 := h1; try simp only [decide_eq_true_eq, decide_eq_false_iff_not, Bool.and_eq_true, Bool.or_eq_true, Bool.and_eq_false_iff, Bool.or_eq_false_iff, Bool.not_eq_true', Bool.not_eq_false', Bool.not_true, Bool.not_false, Int.not_lt, Int.not_le] at ph1
    refine W.seq ?_
    refine W.region ?_
    refine L.op1 rfl rfl (GSpec.plain rfl (spec_build (Rs := [Rp.int .i64 0, Rp.bool false]) rfl ti65 z65 Try.underlying65 pl65 .nil)) ?_
    refine L.storeW (k := 0) rfl rfl rfl Try.sizeOf65 (Get.tmp rfl) (Get.tmp rfl) rfl rfl rfl ?_
    refine L.nil ?_
    refine N.thenW ?_
    refine W.ret ?_
    refine N.ret () rfl (.cellA (k := 0) (Get.tmp (t := 4) rfl) rfl Try.isAgg65 Try.sizeOf65 rfl .nil) (res1 (eqA ?_)) .nil (fun _ _ h => h)
    unfold eA; rw [times_zero h1]; rfl
  · have ph1 := h1; try simp only [decide_eq_true_eq, decide_eq_false_iff_not, Bool.and_eq_true, Bool.or_eq_true, Bool.and_eq_false_iff, Bool.or_eq_false_iff, Bool.not_eq_true', Bool.not_eq_false', Bool.not_true, Bool.not_false, Int.not_lt, Int.not_le] at ph1
    refine W.skip ?_
    refine N.thenW ?_
    refine W.seq ?_
    refine W.region ?_
    refine L.op1 rfl rfl (GSpec.plain rfl (spec_fieldAddr (f := 0) (off' := 0) rfl Try.underlying65 rfl Try.sizeOf3 (Get.tmp rfl) rfl)) ?_
    refine L.op1 rfl rfl (GSpec.plain rfl (spec_load1 (k := 2) rfl Try.isAgg3 (Get.tmp rfl) rfl rfl)) ?_
    first | refine L.op1 rfl rfl (GSpec.plain rfl (fit_u64 (by omega) (by omega) (spec_conv rfl Try.underlying85 ⟨_, Try.underlying3⟩ (Get.tmp rfl)))) ?_ | refine L.op1 rfl rfl (GSpec.plain rfl (spec_conv rfl Try.underlying85 ⟨_, Try.underlying3⟩ (Get.tmp rfl))) ?_
    refine L.op1 rfl rfl (GSpec.plain rfl (spec_fieldAddr (f := 0) (off' := 0) rfl Try.underlying65 rfl Try.sizeOf3 (Get.tmp rfl) rfl)) ?_
    refine L.op1 rfl rfl (GSpec.plain rfl (spec_load1 (k := 1) rfl Try.isAgg3 (Get.tmp rfl) rfl rfl)) ?_
    first | refine L.op1 rfl rfl (GSpec.plain rfl (fit_u64 (by omega) (by omega) (spec_conv rfl Try.underlying85 ⟨_, Try.underlying3⟩ (Get.tmp rfl)))) ?_ | refine L.op1 rfl rfl (GSpec.plain rfl (spec_conv rfl Try.underlying85 ⟨_, Try.underlying3⟩ (Get.tmp rfl))) ?_
    refine L.op1 rfl rfl (GSpec.plain rfl (spec_call rfl Try.call57 (mul64_ok _ _ (by omega) (by omega)) (.cons (Get.tmp rfl) (.cons (Get.tmp rfl) .nil)))) ?_
    refine L.op1 rfl rfl (GSpec.plain rfl (spec_move rfl (Get.tmp rfl))) ?_
    refine L.op1 rfl rfl (GSpec.plain rfl (spec_extract rfl (Get.tmp rfl) rfl)) ?_
    refine L.op1 rfl rfl (GSpec.plain rfl (spec_extract rfl (Get.tmp rfl) rfl)) ?_
    refine L.op1 rfl rfl (GSpec.plain rfl (spec_assign rfl (Get.tmp rfl))) ?_
    refine L.op1 rfl rfl (GSpec.plain rfl (spec_assign rfl (Get.tmp rfl))) ?_
    refine L.nil ?_
    refine N.thenW ?_
    refine W.keep (.cons (t := 2) rfl (.cons (t := 3) rfl (.cons (t := 4) rfl (.cons (t := 5) rfl (.cons (t := 6) rfl .nil))))) .refl ?_
    refine W.seq ?_
    refine W.seq ?_
    refine W.region ?_
    refine L.op1 rfl rfl (GSpec.plain rfl (spec_fieldAddr (f := 1) (off' := 1) rfl Try.underlying65 rfl Try.sizeOf4 (Get.tmp rfl) rfl)) ?_
    refine L.op1 rfl rfl (GSpec.plain rfl (spec_load1 (k := 2) rfl Try.isAgg4 (Get.tmp rfl) rfl rfl)) ?_
    refine L.op1 rfl rfl (GSpec.plain rfl (spec_move rfl (Get.tmp rfl))) ?_
    refine L.op1 rfl rfl (GSpec.guard rfl rfl rfl fun hg => (spec_fieldAddr (f := 1) (off' := 1) rfl Try.underlying65 rfl Try.sizeOf4 (Get.tmp rfl) rfl)) ?_
    refine L.op1 rfl rfl (GSpec.guard rfl rfl rfl fun hg => (spec_load1 (k := 1) rfl Try.isAgg4 (Get.opt rfl hg) rfl rfl)) ?_
    refine L.op1 rfl rfl (GSpec.plain rfl (spec_or rfl (Get.tmp rfl) (fun hb => (Get.opt rfl hb)))) ?_
    refine L.op1 rfl rfl (GSpec.plain rfl (spec_move rfl (Get.tmp rfl))) ?_
    refine L.op1 rfl rfl (GSpec.guard rfl rfl rfl fun hg => (spec_move rfl (Get.tmp rfl))) ?_
    refine L.op1 rfl rfl (GSpec.guard rfl rfl rfl fun hg => (spec_neq rfl (Get.opt rfl hg) (Get.cint rfl))) ?_
    refine L.op1 rfl rfl (GSpec.plain rfl (spec_or rfl (Get.tmp rfl) (fun hb => (Get.opt rfl hb)))) ?_
    refine L.op1 rfl rfl (GSpec.plain rfl (spec_move rfl (Get.tmp rfl))) ?_
    refine L.op1 rfl rfl (GSpec.guard rfl rfl rfl fun hg => (spec_move rfl (Get.tmp rfl))) ?_
    refine L.op1 rfl rfl (GSpec.guard rfl rfl rfl fun hg => (spec_gtr rfl (Get.opt rfl hg) (Get.cint rfl))) ?_
    refine L.op1 rfl rfl (GSpec.plain rfl (spec_or rfl (Get.tmp rfl) (fun hb => (Get.opt rfl hb)))) ?_
    refine L.nil ?_
    refine N.thenW ?_
    refine W.keep (.cons (t := 4) rfl (.cons (t := 6) rfl (.cons (t := 49) rfl .nil))) .refl ?_
    refine W.cond (Get.tmp rfl) (fun h2 => ?_) (fun h2 => ?_)
    · have ph2 := h2; try simp only [decide_eq_true_eq, decide_eq_false_iff_not, Bool.and_eq_true, Bool.or_eq_true, Bool.and_eq_false_iff, Bool.or_eq_false_iff, Bool.not_eq_true', Bool.not_eq_false', Bool.not_true, Bool.not_false, Int.not_lt, Int.not_le] at ph2
      refine W.seq ?_
      refine W.region ?_
      refine L.op1 rfl rfl (GSpec.plain rfl (spec_build (Rs := [Rp.int .i64 0, _]) rfl ti65 z65 Try.underlying65 pl65 (.cons (GetC.one Get.cbool) rfl rfl rfl .nil))) ?_
      refine L.storeW (k := 0) rfl rfl rfl Try.sizeOf65 (Get.tmp rfl) (Get.tmp rfl) rfl rfl rfl ?_
      refine L.nil ?_
      refine N.thenW ?_
      refine W.ret ?_
      refine N.ret () rfl (.cellA (k := 0) (Get.tmp (t := 4) rfl) rfl Try.isAgg65 Try.sizeOf65 rfl .nil) (res1 (eqA ?_)) .nil (fun _ _ h => h)
      unfold eA; rw [times_large h1 h2]; rfl
    · have ph2 := h2; try simp only [decide_eq_true_eq, decide_eq_false_iff_not, Bool.and_eq_true, Bool.or_eq_true, Bool.and_eq_false_iff, Bool.or_eq_false_iff, Bool.not_eq_true', Bool.not_eq_false', Bool.not_true, Bool.not_false, Int.not_lt, Int.not_le] at ph2
      refine W.skip ?_
      refine N.thenW ?_
      refine W.seq ?_
      refine W.region ?_
      refine L.op1 rfl rfl (GSpec.plain rfl (spec_move rfl (Get.tmp rfl))) ?_
      first | refine L.op1 rfl rfl (GSpec.plain rfl (fit_i64 (by omega) (by omega) (spec_conv rfl Try.underlying3 ⟨_, Try.underlying85⟩ (Get.tmp rfl)))) ?_ | refine L.op1 rfl rfl (GSpec.plain rfl (spec_conv rfl Try.underlying3 ⟨_, Try.underlying85⟩ (Get.tmp rfl))) ?_
      refine L.op1 rfl rfl (GSpec.plain rfl (spec_build (Rs := [_, Rp.bool false]) rfl ti65 z65 Try.underlying65 pl65 (.cons (GetC.one (Get.tmp rfl)) rfl rfl rfl .nil))) ?_
      refine L.storeW (k := 0) rfl rfl rfl Try.sizeOf65 (Get.tmp rfl) (Get.tmp rfl) rfl rfl rfl ?_
      refine L.nil ?_
      refine N.thenW ?_
      refine W.ret ?_
      refine N.ret () rfl (.cellA (k := 0) (Get.tmp (t := 4) rfl) rfl Try.isAgg65 Try.sizeOf65 rfl .nil) (res1 (eqA ?_)) .nil (fun _ _ h => h)
      unfold eA; rw [(times_small h2).1]; rfl

end Go.Proofs.Ytcpkjpkjahgobaa
