import Derived.Test.YtlbhpjigjehffaaDoorSdB
set_option linter.unusedSimpArgs false
set_option maxRecDepth 8000
set_option linter.unusedVariables false
namespace Go.Proofs.YtlbhpjigjehffaaDoor
open Go.Sim
theorem sum_ok (l : List Jb) (ix : List Int) (hl : jobsE l = 0) (hx : inR l.length ix) (hn : ix.length ≤ 1000000) : CallT Tryd.prog 41 [Rp.slice eJ l, Rp.slice eI ix] [] (.one (Rp.int .i64 (sumC l ix))) := by
  refine W.enter (fn := Tryd.f41) (n := 23) Tryd.func41 rfl Tryd.ntmps41 rfl (fun w₀ C₀ => ?_)
  simp only [argS]
  refine W.fact 1 rfl slice_fact fun hxl => ?_
  refine W.seq ?_
  refine W.region ?_
  refine L.op1 rfl rfl (GSpec.plain rfl (spec_assign rfl (Get.cint rfl))) ?_
  refine L.nil ?_
  refine N.thenW ?_
  refine W.seq ?_
  refine W.region ?_
  refine L.op1 rfl rfl (GSpec.plain rfl (spec_assign rfl (Get.cint rfl))) ?_
  refine L.nil ?_
  refine N.thenW ?_
  refine W.seq ?_
  refine W.seq ?_
  refine W.region ?_
  refine L.op1 rfl rfl (GSpec.plain rfl (spec_move rfl (Get.tmp rfl))) ?_
  refine L.op1 rfl rfl (GSpec.plain rfl (spec_len rfl Tryd.underlying32 (Get.tmp rfl))) ?_
  refine L.op1 rfl rfl (GSpec.plain rfl (spec_move rfl (Get.cint rfl))) ?_
  refine L.nil ?_
  refine N.thenW ?_
  refine W.block ?_
  refine W.loopK (σ := Nat) (.cons (t := 0) rfl (.cons (t := 4) rfl (.cons (t := 8) rfl (.cons (t := 9) rfl .nil)))) (fun z => [(10, Rp.int .i64 (z : Nat)), (5, Rp.int .i64 (sumC l (ix.take z)))]) (fun z => []) (fun z => z ≤ ix.length) (fun z => ix.length - z) 0 (Nat.zero_le _) (.cons (t := 10) rfl (.cons (t := 5) rfl .nil)) .nil ?_
  intro i hI S' M' hS hM
  try dsimp only at hS hM
  simp only [List.cons_append, List.nil_append] at hS hM
  subst hS hM
  try dsimp only
  refine W.seq ?_
  refine W.region ?_
  refine L.op1 rfl rfl (GSpec.plain rfl (spec_lss rfl (Get.tmp rfl) (Get.tmp rfl))) ?_
  refine L.nil ?_
  refine N.thenW ?_
  refine W.seq ?_
  refine W.cond (Get.tmp rfl) (fun h1 => ?_) (fun h1 => ?_)
  · have ph1 := h1; try simp only [decide_eq_true_eq, decide_eq_false_iff_not, Bool.and_eq_true, Bool.or_eq_true, Bool.and_eq_false_iff, Bool.or_eq_false_iff, Bool.not_eq_true', Bool.not_eq_false', Bool.not_true, Bool.not_false, Int.not_lt, Int.not_le] at ph1
    refine W.skip ?_
    refine N.thenW ?_
    refine W.seq ?_
    refine W.block ?_
    refine W.seq ?_
    refine W.region ?_
    refine L.op1 rfl rfl (GSpec.plain rfl (spec_indexAddrD (E := eI) rfl Tryd.underlying32 Tryd.sizeOf3 (fun _ => rfl) (Get.tmp rfl) (Get.tmp rfl) (by (first | omega | (have q1 := hx _ (getD_mem' (show i < ix.length by omega)); have q2 := jobs_cost hl (i := (ix.getD i default).toNat) (by omega); have q3 := sum_range hl hx i (by omega); simp only [Int.toNat_natCast]; omega))))) ?_
    refine L.op1 rfl rfl (GSpec.plain rfl (spec_loadP1 rfl Tryd.isAgg3 (Get.tmp rfl))) ?_
    refine L.op1 rfl rfl (GSpec.plain rfl (spec_assign rfl (Get.tmp rfl))) ?_
    refine L.nil ?_
    refine N.thenW ?_
    refine W.region ?_
    refine L.op1 rfl rfl (GSpec.plain rfl (spec_move rfl (Get.tmp rfl))) ?_
    refine L.op1 rfl rfl (GSpec.plain rfl (spec_move rfl (Get.tmp rfl))) ?_
    refine L.op1 rfl rfl (GSpec.plain rfl (spec_move rfl (Get.tmp rfl))) ?_
    refine L.op1 rfl rfl (GSpec.plain rfl (spec_indexAddrD (E := eJ) rfl Tryd.underlying22 Tryd.sizeOf28 (fun _ => rfl) (Get.tmp rfl) (Get.tmp rfl) (by (first | omega | (have q1 := hx _ (getD_mem' (show i < ix.length by omega)); have q2 := jobs_cost hl (i := (ix.getD i default).toNat) (by omega); have q3 := sum_range hl hx i (by omega); simp only [Int.toNat_natCast]; omega))))) ?_
    refine L.op1 rfl rfl (GSpec.plain rfl (spec_fieldAddrP (f := 4) rfl Tryd.underlying28 rfl Tryd.sizeOf3 (Get.tmp rfl) rfl rfl)) ?_
    refine L.op1 rfl rfl (GSpec.plain rfl (spec_loadP1 rfl Tryd.isAgg3 (Get.tmp rfl))) ?_
    first | refine L.op1 rfl rfl (GSpec.plain rfl (fit_i64 (by (first | omega | (have q1 := hx _ (getD_mem' (show i < ix.length by omega)); have q2 := jobs_cost hl (i := (ix.getD i default).toNat) (by omega); have q3 := sum_range hl hx i (by omega); simp only [Int.toNat_natCast]; omega))) (by (first | omega | (have q1 := hx _ (getD_mem' (show i < ix.length by omega)); have q2 := jobs_cost hl (i := (ix.getD i default).toNat) (by omega); have q3 := sum_range hl hx i (by omega); simp only [Int.toNat_natCast]; omega))) (spec_add rfl (Get.tmp rfl) (Get.tmp rfl)))) ?_ | refine L.op1 rfl rfl (GSpec.plain rfl (spec_add rfl (Get.tmp rfl) (Get.tmp rfl))) ?_
    refine L.op1 rfl rfl (GSpec.plain rfl (spec_assign rfl (Get.tmp rfl))) ?_
    refine L.nil ?_
    refine N.blockNormal ?_
    refine N.thenW ?_
    refine W.region ?_
    first | refine L.op1 rfl rfl (GSpec.plain rfl (fit_i64 (by (first | omega | (have q1 := hx _ (getD_mem' (show i < ix.length by omega)); have q2 := jobs_cost hl (i := (ix.getD i default).toNat) (by omega); have q3 := sum_range hl hx i (by omega); simp only [Int.toNat_natCast]; omega))) (by (first | omega | (have q1 := hx _ (getD_mem' (show i < ix.length by omega)); have q2 := jobs_cost hl (i := (ix.getD i default).toNat) (by omega); have q3 := sum_range hl hx i (by omega); simp only [Int.toNat_natCast]; omega))) (spec_add rfl (Get.tmp rfl) (Get.cint rfl)))) ?_ | refine L.op1 rfl rfl (GSpec.plain rfl (spec_add rfl (Get.tmp rfl) (Get.cint rfl))) ?_
    refine L.op1 rfl rfl (GSpec.plain rfl (spec_move rfl (Get.tmp rfl))) ?_
    refine L.nil ?_
    refine N.roundK (i + 1) ?hI1 ?hmu1 ?hs1 ?hk1 ?hp1
    case hs1 => exact (.cons (t := 10) rfl (.weak (t := 5) rfl (eqI (by simp only [Int.toNat_natCast]; exact (sum_step (l := l) (ix := ix) (k := i) (by omega)).symm)) .nil))
    case hk1 => exact (.cons (t := 0) rfl (.cons (t := 4) rfl (.cons (t := 8) rfl (.cons (t := 9) rfl .nil))))
    case hp1 => exact .nil
    all_goals (first | rfl | trivial | omega | (simp_all; done))
  · have ph1 := h1; try simp only [decide_eq_true_eq, decide_eq_false_iff_not, Bool.and_eq_true, Bool.or_eq_true, Bool.and_eq_false_iff, Bool.or_eq_false_iff, Bool.not_eq_true', Bool.not_eq_false', Bool.not_true, Bool.not_false, Int.not_lt, Int.not_le] at ph1
    refine W.exit ?_
    refine N.thenExit ?_
    refine N.thenExit ?_
    refine N.blockExit ?_
    refine N.thenW ?_
    refine W.seq ?_
    refine W.region ?_
    refine L.op1 rfl rfl (GSpec.plain rfl (spec_move rfl (Get.tmp rfl))) ?_
    refine L.op1 rfl rfl (GSpec.plain rfl (spec_assign rfl (Get.tmp rfl))) ?_
    refine L.nil ?_
    refine N.thenW ?_
    refine W.keep (.cons (t := 4) rfl .nil) .refl ?_
    refine W.ret ?_
    refine N.ret () rfl (.tmp (t := 4) (Get.tmp rfl) .nil) (res1 (eqI ?_)) .nil (fun _ _ h => h)
    rw [show i = ix.length by omega, List.take_length]

theorem work_ok (l : List Jb) (ix : List Int) (hl : jobsE l = 0) (hx : inR l.length ix) (hn : ix.length ≤ 1000000) : CallT Tryd.prog 37 [Rp.slice eJ l, Rp.slice eI ix] [] (.one (Rp.int .i64 (sumC l ix))) := by
  refine W.enter (fn := Tryd.f37) (n := 24) Tryd.func37 rfl Tryd.ntmps37 rfl (fun w₀ C₀ => ?_)
  simp only [argS]
  refine W.fact 1 rfl slice_fact fun hxl => ?_
  refine W.seq ?_
  refine W.region ?_
  refine L.op1 rfl rfl (GSpec.plain rfl (spec_assign rfl (Get.cint rfl))) ?_
  refine L.nil ?_
  refine N.thenW ?_
  refine W.seq ?_
  refine W.region ?_
  refine L.op1 rfl rfl (GSpec.plain rfl (spec_assign rfl (Get.cint rfl))) ?_
  refine L.nil ?_
  refine N.thenW ?_
  refine W.seq ?_
  refine W.seq ?_
  refine W.region ?_
  refine L.op1 rfl rfl (GSpec.plain rfl (spec_assign rfl (Get.cint rfl))) ?_
  refine L.nil ?_
  refine N.thenW ?_
  refine W.block ?_
  refine W.loopK (σ := Nat) (.cons (t := 0) rfl (.cons (t := 1) rfl (.cons (t := 4) rfl .nil))) (fun z => [(6, Rp.int .i64 (z : Nat)), (5, Rp.int .i64 (sumC l (ix.take z)))]) (fun z => []) (fun z => z ≤ ix.length) (fun z => ix.length - z) 0 (Nat.zero_le _) (.cons (t := 6) rfl (.cons (t := 5) rfl .nil)) .nil ?_
  intro i hI S' M' hS hM
  try dsimp only at hS hM
  simp only [List.cons_append, List.nil_append] at hS hM
  subst hS hM
  try dsimp only
  refine W.seq ?_
  refine W.seq ?_
  refine W.region ?_
  refine L.op1 rfl rfl (GSpec.plain rfl (spec_move rfl (Get.tmp rfl))) ?_
  refine L.op1 rfl rfl (GSpec.plain rfl (spec_move rfl (Get.tmp rfl))) ?_
  refine L.op1 rfl rfl (GSpec.plain rfl (spec_len rfl Tryd.underlying32 (Get.tmp rfl))) ?_
  refine L.op1 rfl rfl (GSpec.plain rfl (spec_lss rfl (Get.tmp rfl) (Get.tmp rfl))) ?_
  refine L.nil ?_
  refine N.thenW ?_
  refine W.cond (Get.tmp rfl) (fun h1 => ?_) (fun h1 => ?_)
  · have ph1 := h1; try simp only [decide_eq_true_eq, decide_eq_false_iff_not, Bool.and_eq_true, Bool.or_eq_true, Bool.and_eq_false_iff, Bool.or_eq_false_iff, Bool.not_eq_true', Bool.not_eq_false', Bool.not_true, Bool.not_false, Int.not_lt, Int.not_le] at ph1
    refine W.skip ?_
    refine N.thenW ?_
    refine W.seq ?_
    refine W.block ?_
    refine W.region ?_
    refine L.op1 rfl rfl (GSpec.plain rfl (spec_move rfl (Get.tmp rfl))) ?_
    refine L.op1 rfl rfl (GSpec.plain rfl (spec_move rfl (Get.tmp rfl))) ?_
    refine L.op1 rfl rfl (GSpec.plain rfl (spec_move rfl (Get.tmp rfl))) ?_
    refine L.op1 rfl rfl (GSpec.plain rfl (spec_move rfl (Get.tmp rfl))) ?_
    refine L.op1 rfl rfl (GSpec.plain rfl (spec_indexAddrD (E := eI) rfl Tryd.underlying32 Tryd.sizeOf3 (fun _ => rfl) (Get.tmp rfl) (Get.tmp rfl) (by (first | omega | (have q1 := hx _ (getD_mem' (show i < ix.length by omega)); have q2 := jobs_cost hl (i := (ix.getD i default).toNat) (by omega); have q3 := sum_range hl hx i (by omega); simp only [Int.toNat_natCast]; omega))))) ?_
    refine L.op1 rfl rfl (GSpec.plain rfl (spec_loadP1 rfl Tryd.isAgg3 (Get.tmp rfl))) ?_
    refine L.op1 rfl rfl (GSpec.plain rfl (spec_indexAddrD (E := eJ) rfl Tryd.underlying22 Tryd.sizeOf28 (fun _ => rfl) (Get.tmp rfl) (Get.tmp rfl) (by (first | omega | (have q1 := hx _ (getD_mem' (show i < ix.length by omega)); have q2 := jobs_cost hl (i := (ix.getD i default).toNat) (by omega); have q3 := sum_range hl hx i (by omega); simp only [Int.toNat_natCast]; omega))))) ?_
    refine L.op1 rfl rfl (GSpec.plain rfl (spec_fieldAddrP (f := 4) rfl Tryd.underlying28 rfl Tryd.sizeOf3 (Get.tmp rfl) rfl rfl)) ?_
    refine L.op1 rfl rfl (GSpec.plain rfl (spec_loadP1 rfl Tryd.isAgg3 (Get.tmp rfl))) ?_
    first | refine L.op1 rfl rfl (GSpec.plain rfl (fit_i64 (by (first | omega | (have q1 := hx _ (getD_mem' (show i < ix.length by omega)); have q2 := jobs_cost hl (i := (ix.getD i default).toNat) (by omega); have q3 := sum_range hl hx i (by omega); simp only [Int.toNat_natCast]; omega))) (by (first | omega | (have q1 := hx _ (getD_mem' (show i < ix.length by omega)); have q2 := jobs_cost hl (i := (ix.getD i default).toNat) (by omega); have q3 := sum_range hl hx i (by omega); simp only [Int.toNat_natCast]; omega))) (spec_add rfl (Get.tmp rfl) (Get.tmp rfl)))) ?_ | refine L.op1 rfl rfl (GSpec.plain rfl (spec_add rfl (Get.tmp rfl) (Get.tmp rfl))) ?_
    refine L.op1 rfl rfl (GSpec.plain rfl (spec_assign rfl (Get.tmp rfl))) ?_
    refine L.nil ?_
    refine N.blockNormal ?_
    refine N.thenW ?_
    refine W.region ?_
    refine L.op1 rfl rfl (GSpec.plain rfl (spec_move rfl (Get.tmp rfl))) ?_
    first | refine L.op1 rfl rfl (GSpec.plain rfl (fit_i64 (by (first | omega | (have q1 := hx _ (getD_mem' (show i < ix.length by omega)); have q2 := jobs_cost hl (i := (ix.getD i default).toNat) (by omega); have q3 := sum_range hl hx i (by omega); simp only [Int.toNat_natCast]; omega))) (by (first | omega | (have q1 := hx _ (getD_mem' (show i < ix.length by omega)); have q2 := jobs_cost hl (i := (ix.getD i default).toNat) (by omega); have q3 := sum_range hl hx i (by omega); simp only [Int.toNat_natCast]; omega))) (spec_add rfl (Get.tmp rfl) (Get.cint rfl)))) ?_ | refine L.op1 rfl rfl (GSpec.plain rfl (spec_add rfl (Get.tmp rfl) (Get.cint rfl))) ?_
    refine L.op1 rfl rfl (GSpec.plain rfl (spec_assign rfl (Get.tmp rfl))) ?_
    refine L.nil ?_
    refine N.roundK (i + 1) ?hI2 ?hmu2 ?hs2 ?hk2 ?hp2
    case hs2 => exact (.cons (t := 6) rfl (.weak (t := 5) rfl (eqI (by simp only [Int.toNat_natCast]; exact (sum_step (l := l) (ix := ix) (k := i) (by omega)).symm)) .nil))
    case hk2 => exact (.cons (t := 0) rfl (.cons (t := 1) rfl (.cons (t := 4) rfl .nil)))
    case hp2 => exact .nil
    all_goals (first | rfl | trivial | omega | (simp_all; done))
  · have ph1 := h1; try simp only [decide_eq_true_eq, decide_eq_false_iff_not, Bool.and_eq_true, Bool.or_eq_true, Bool.and_eq_false_iff, Bool.or_eq_false_iff, Bool.not_eq_true', Bool.not_eq_false', Bool.not_true, Bool.not_false, Int.not_lt, Int.not_le] at ph1
    refine W.exit ?_
    refine N.thenExit ?_
    refine N.thenExit ?_
    refine N.blockExit ?_
    refine N.thenW ?_
    refine W.keep (.cons (t := 4) rfl (.cons (t := 5) rfl .nil)) .refl ?_
    refine W.seq ?_
    refine W.region ?_
    refine L.op1 rfl rfl (GSpec.plain rfl (spec_move rfl (Get.tmp rfl))) ?_
    refine L.op1 rfl rfl (GSpec.plain rfl (spec_assign rfl (Get.tmp rfl))) ?_
    refine L.nil ?_
    refine N.thenW ?_
    refine W.ret ?_
    refine N.ret () rfl (.tmp (t := 4) (Get.tmp rfl) .nil) (res1 (eqI ?_)) .nil (fun _ _ h => h)
    rw [show i = ix.length by omega, List.take_length]

end Go.Proofs.YtlbhpjigjehffaaDoor
