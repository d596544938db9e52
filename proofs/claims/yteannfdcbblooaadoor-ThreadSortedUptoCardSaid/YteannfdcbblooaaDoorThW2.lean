import Derived.Test.YteannfdcbblooaaDoorThC
set_option linter.unusedSimpArgs false
set_option maxRecDepth 8000
set_option linter.unusedVariables false
namespace Go.Proofs.YteannfdcbblooaaDoor
open Go.Sim
theorem join_ok (l : List Int) (h : numsOk l) (hl : l.length ≤ 16) : CallT Tryd.prog 31 [Rp.slice eI l] [tabG] (.one (Rp.str (joinT l))) := by
  refine W.enter (fn := Tryd.f31) (n := 23) Tryd.func31 rfl Tryd.ntmps31 rfl (fun w₀ C₀ => ?_)
  simp only [argS]
  refine W.seq ?_
  refine W.region ?_
  refine L.op1 rfl rfl (GSpec.plain rfl (spec_assign rfl (Get.cstr (l := []) rfl rfl))) ?_
  refine L.nil ?_
  refine N.thenW ?_
  refine W.seq ?_
  refine W.region ?_
  refine L.op1 rfl rfl (GSpec.plain rfl (spec_assign rfl (Get.cstr (l := []) rfl rfl))) ?_
  refine L.nil ?_
  refine N.thenW ?_
  refine W.seq ?_
  refine W.seq ?_
  refine W.region ?_
  refine L.op1 rfl rfl (GSpec.plain rfl (spec_move rfl (Get.tmp rfl))) ?_
  refine L.op1 rfl rfl (GSpec.plain rfl (spec_len rfl Tryd.underlying47 (Get.tmp rfl))) ?_
  refine L.op1 rfl rfl (GSpec.plain rfl (spec_move rfl (Get.cint rfl))) ?_
  refine L.nil ?_
  refine N.thenW ?_
  refine W.block ?_
  refine W.loopK (σ := Nat) (.cons (t := 2) rfl (.cons (t := 6) rfl (.cons (t := 7) rfl .nil))) (fun z => [(8, Rp.int .i64 (z : Nat)), (3, Rp.str (joinK l z))]) (fun z => []) (fun z => z ≤ l.length) (fun z => l.length - z) 0 (Nat.zero_le _) (.cons (t := 8) rfl (.cons (t := 3) rfl .nil)) (.cons 0 rfl .nil) ?_
  intro i hI S' M' hS hM
  try dsimp only at hS hM
  simp only [List.cons_append, List.nil_append] at hS hM
  subst hS hM
  try dsimp only
  have q1 := join_len h i (by omega)
  refine W.seq ?_
  refine W.region ?_
  refine L.op1 rfl rfl (GSpec.plain rfl (spec_lss rfl (Get.tmp rfl) (Get.tmp rfl))) ?_
  refine L.nil ?_
  refine N.thenW ?_
  refine W.seq ?_
  refine W.cond (Get.tmp rfl) (fun h1 => ?_) (fun h1 => ?_)
  · have ph1 := h1; try simp only [decide_eq_true_eq, decide_eq_false_iff_not, Bool.and_eq_true, Bool.or_eq_true, Bool.and_eq_false_iff, Bool.or_eq_false_iff, Bool.not_eq_true', Bool.not_eq_false', Bool.not_true, Bool.not_false, Int.not_lt, Int.not_le] at ph1
    refine W.skip ?_
    refine N.thenW ?_
    refine W.seq ?_
    refine W.block ?_
    refine W.seq ?_
    refine W.region ?_
    refine L.op1 rfl rfl (GSpec.plain rfl (spec_move rfl (Get.tmp rfl))) ?_
    refine L.op1 rfl rfl (GSpec.plain rfl (spec_indexAddrD (E := eI) rfl Tryd.underlying47 Tryd.sizeOf3 (fun _ => rfl) (Get.tmp rfl) (Get.tmp rfl) (by (first | omega | (have q2 := (fmt_len (h _ (getD_mem' (show i < l.length by omega)))).2; simp only [Int.toNat_natCast, List.length_append, List.length_cons, List.length_nil]; omega))))) ?_
    refine L.op1 rfl rfl (GSpec.plain rfl (spec_loadP1 rfl Tryd.isAgg3 (Get.tmp rfl))) ?_
    refine L.op1 rfl rfl (GSpec.plain rfl (spec_assign rfl (Get.tmp rfl))) ?_
    refine L.op1 rfl rfl (GSpec.plain rfl (spec_assign rfl (Get.tmp rfl))) ?_
    refine L.nil ?_
    refine N.thenW ?_
    refine W.seq ?_
    refine W.seq ?_
    refine W.region ?_
    refine L.op1 rfl rfl (GSpec.plain rfl (spec_move rfl (Get.tmp rfl))) ?_
    refine L.op1 rfl rfl (GSpec.plain rfl (spec_gtr rfl (Get.tmp rfl) (Get.cint rfl))) ?_
    refine L.nil ?_
    refine N.thenW ?_
    refine W.cond (Get.tmp rfl) (fun h2 => ?_) (fun h2 => ?_)
    · have ph2 := h2; try simp only [decide_eq_true_eq, decide_eq_false_iff_not, Bool.and_eq_true, Bool.or_eq_true, Bool.and_eq_false_iff, Bool.or_eq_false_iff, Bool.not_eq_true', Bool.not_eq_false', Bool.not_true, Bool.not_false, Int.not_lt, Int.not_le] at ph2
      refine W.region ?_
      refine L.op1 rfl rfl (GSpec.plain rfl (spec_move rfl (Get.tmp rfl))) ?_
      refine L.op1 rfl rfl (GSpec.plain rfl (spec_addS rfl (Get.tmp rfl) (Get.cstr (l := [46]) rfl rfl) (by (first | omega | (have q2 := (fmt_len (h _ (getD_mem' (show i < l.length by omega)))).2; simp only [Int.toNat_natCast, List.length_append, List.length_cons, List.length_nil]; omega))))) ?_
      refine L.op1 rfl rfl (GSpec.plain rfl (spec_assign rfl (Get.tmp rfl))) ?_
      refine L.nil ?_
      refine N.thenW ?_
      refine W.region ?_
      refine L.op1 rfl rfl (GSpec.plain rfl (spec_move rfl (Get.tmp rfl))) ?_
      refine L.op1 rfl rfl (GSpec.plain rfl (spec_move rfl (Get.tmp rfl))) ?_
      refine L.op1 rfl rfl (GSpec.plain rfl (spec_callG0 (k := 0) rfl Tryd.call39 rfl rfl (format_ok _ (h _ (getD_mem' (by omega)))) (.cons (Get.tmp rfl) .nil))) ?_
      refine L.op1 rfl rfl (GSpec.plain rfl (spec_addS rfl (Get.tmp rfl) (Get.tmp rfl) (by (first | omega | (have q2 := (fmt_len (h _ (getD_mem' (show i < l.length by omega)))).2; simp only [Int.toNat_natCast, List.length_append, List.length_cons, List.length_nil]; omega))))) ?_
      refine L.op1 rfl rfl (GSpec.plain rfl (spec_assign rfl (Get.tmp rfl))) ?_
      refine L.nil ?_
      refine N.blockNormal ?_
      refine N.thenW ?_
      refine W.region ?_
      first | refine L.op1 rfl rfl (GSpec.plain rfl (fit_i64 (by (first | omega | (have q2 := (fmt_len (h _ (getD_mem' (show i < l.length by omega)))).2; simp only [Int.toNat_natCast, List.length_append, List.length_cons, List.length_nil]; omega))) (by (first | omega | (have q2 := (fmt_len (h _ (getD_mem' (show i < l.length by omega)))).2; simp only [Int.toNat_natCast, List.length_append, List.length_cons, List.length_nil]; omega))) (spec_add rfl (Get.tmp rfl) (Get.cint rfl)))) ?_ | refine L.op1 rfl rfl (GSpec.plain rfl (spec_add rfl (Get.tmp rfl) (Get.cint rfl))) ?_
      refine L.op1 rfl rfl (GSpec.plain rfl (spec_move rfl (Get.tmp rfl))) ?_
      refine L.nil ?_
      refine N.roundK (i + 1) ?hI1 ?hmu1 ?hs1 ?hk1 ?hp1
      case hs1 => exact (.cons (t := 8) rfl (.weak (t := 3) rfl (eqS (by first | exact (join_next (by omega)).symm | exact (join_first (by omega)).symm)) .nil))
      case hk1 => exact (.cons (t := 2) rfl (.cons (t := 6) rfl (.cons (t := 7) rfl .nil)))
      case hp1 => exact (.cons 0 rfl .nil)
      all_goals (first | rfl | trivial | omega | (simp_all; done))
    · have ph2 := h2; try simp only [decide_eq_true_eq, decide_eq_false_iff_not, Bool.and_eq_true, Bool.or_eq_true, Bool.and_eq_false_iff, Bool.or_eq_false_iff, Bool.not_eq_true', Bool.not_eq_false', Bool.not_true, Bool.not_false, Int.not_lt, Int.not_le] at ph2
      refine W.skip ?_
      refine N.thenW ?_
      refine W.region ?_
      refine L.op1 rfl rfl (GSpec.plain rfl (spec_move rfl (Get.tmp rfl))) ?_
      refine L.op1 rfl rfl (GSpec.plain rfl (spec_move rfl (Get.tmp rfl))) ?_
      refine L.op1 rfl rfl (GSpec.plain rfl (spec_callG0 (k := 0) rfl Tryd.call39 rfl rfl (format_ok _ (h _ (getD_mem' (by omega)))) (.cons (Get.tmp rfl) .nil))) ?_
      refine L.op1 rfl rfl (GSpec.plain rfl (spec_addS rfl (Get.tmp rfl) (Get.tmp rfl) (by (first | omega | (have q2 := (fmt_len (h _ (getD_mem' (show i < l.length by omega)))).2; simp only [Int.toNat_natCast, List.length_append, List.length_cons, List.length_nil]; omega))))) ?_
      refine L.op1 rfl rfl (GSpec.plain rfl (spec_assign rfl (Get.tmp rfl))) ?_
      refine L.nil ?_
      refine N.blockNormal ?_
      refine N.thenW ?_
      refine W.region ?_
      first | refine L.op1 rfl rfl (GSpec.plain rfl (fit_i64 (by (first | omega | (have q2 := (fmt_len (h _ (getD_mem' (show i < l.length by omega)))).2; simp only [Int.toNat_natCast, List.length_append, List.length_cons, List.length_nil]; omega))) (by (first | omega | (have q2 := (fmt_len (h _ (getD_mem' (show i < l.length by omega)))).2; simp only [Int.toNat_natCast, List.length_append, List.length_cons, List.length_nil]; omega))) (spec_add rfl (Get.tmp rfl) (Get.cint rfl)))) ?_ | refine L.op1 rfl rfl (GSpec.plain rfl (spec_add rfl (Get.tmp rfl) (Get.cint rfl))) ?_
      refine L.op1 rfl rfl (GSpec.plain rfl (spec_move rfl (Get.tmp rfl))) ?_
      refine L.nil ?_
      refine N.roundK (i + 1) ?hI2 ?hmu2 ?hs2 ?hk2 ?hp2
      case hs2 => exact (.cons (t := 8) rfl (.weak (t := 3) rfl (eqS (by first | exact (join_next (by omega)).symm | exact (join_first (by omega)).symm)) .nil))
      case hk2 => exact (.cons (t := 2) rfl (.cons (t := 6) rfl (.cons (t := 7) rfl .nil)))
      case hp2 => exact (.cons 0 rfl .nil)
      all_goals (first | rfl | trivial | omega | (simp_all; done))
  · have ph1 := h1; try simp only [decide_eq_true_eq, decide_eq_false_iff_not, Bool.and_eq_true, Bool.or_eq_true, Bool.and_eq_false_iff, Bool.or_eq_false_iff, Bool.not_eq_true', Bool.not_eq_false', Bool.not_true, Bool.not_false, Int.not_lt, Int.not_le] at ph1
    refine W.exit ?_
    refine N.thenExit ?_
    refine N.thenExit ?_
    refine N.blockExit ?_
    refine N.thenW ?_
    refine W.seq ?_
    refine W.region ?_
    refine L.op1 rfl rfl (GSpec.plain rfl (spec_move rfl (Get.tmp rfl))) ?_
    refine L.op1 rfl rfl (GSpec.plain rfl (spec_assign rfl (Get.tmp rfl))) ?_
    refine L.nil ?_
    refine N.thenW ?_
    refine W.keep (.cons (t := 2) rfl .nil) .refl ?_
    refine W.ret ?_
    refine N.ret () rfl (.tmp (t := 2) (Get.tmp rfl) .nil) (res1 (eqS ?_)) .nil (fun _ _ h => h)
    rw [show i = l.length by omega]; rfl

theorem text_ok (l : List Int) (h : numsOk l) (hl : l.length ≤ 16) : CallT Tryd.prog 32 [Rp.slice eI l] [] (.one (Rp.str (joinT l))) := by
  refine W.enter (fn := Tryd.f32) (n := 29) Tryd.func32 rfl Tryd.ntmps32 rfl (fun w₀ C₀ => ?_)
  simp only [argS]
  refine W.seq ?_
  refine W.region ?_
  refine L.op1 rfl rfl (GSpec.plain rfl (spec_assign rfl (Get.cstr (l := []) rfl rfl))) ?_
  refine L.nil ?_
  refine N.thenW ?_
  refine W.seq ?_
  refine W.region ?_
  refine L.op1 rfl rfl (GSpec.plain rfl (spec_assign rfl (Get.cstr (l := []) rfl rfl))) ?_
  refine L.nil ?_
  refine N.thenW ?_
  refine W.seq ?_
  refine W.seq ?_
  refine W.region ?_
  refine L.op1 rfl rfl (GSpec.plain rfl (spec_assign rfl (Get.cint rfl))) ?_
  refine L.nil ?_
  refine N.thenW ?_
  refine W.block ?_
  refine W.loopK (σ := Nat) (.cons (t := 0) rfl (.cons (t := 2) rfl .nil)) (fun z => [(4, Rp.int .i64 (z : Nat)), (3, Rp.str (joinK l z))]) (fun z => []) (fun z => z ≤ l.length) (fun z => l.length - z) 0 (Nat.zero_le _) (.cons (t := 4) rfl (.cons (t := 3) rfl .nil)) .nil ?_
  intro i hI S' M' hS hM
  try dsimp only at hS hM
  simp only [List.cons_append, List.nil_append] at hS hM
  subst hS hM
  try dsimp only
  have q1 := join_len h i (by omega)
  refine W.seq ?_
  refine W.seq ?_
  refine W.region ?_
  refine L.op1 rfl rfl (GSpec.plain rfl (spec_move rfl (Get.tmp rfl))) ?_
  refine L.op1 rfl rfl (GSpec.plain rfl (spec_move rfl (Get.tmp rfl))) ?_
  refine L.op1 rfl rfl (GSpec.plain rfl (spec_len rfl Tryd.underlying47 (Get.tmp rfl))) ?_
  refine L.op1 rfl rfl (GSpec.plain rfl (spec_lss rfl (Get.tmp rfl) (Get.tmp rfl))) ?_
  refine L.nil ?_
  refine N.thenW ?_
  refine W.cond (Get.tmp rfl) (fun h1 => ?_) (fun h1 => ?_)
  · have ph1 := h1; try simp only [decide_eq_true_eq, decide_eq_false_iff_not, Bool.and_eq_true, Bool.or_eq_true, Bool.and_eq_false_iff, Bool.or_eq_false_iff, Bool.not_eq_true', Bool.not_eq_false', Bool.not_true, Bool.not_false, Int.not_lt, Int.not_le] at ph1
    refine W.skip ?_
    refine N.thenW ?_
    refine W.seq ?_
    refine W.block ?_
    refine W.seq ?_
    refine W.seq ?_
    refine W.region ?_
    refine L.op1 rfl rfl (GSpec.plain rfl (spec_move rfl (Get.tmp rfl))) ?_
    refine L.op1 rfl rfl (GSpec.plain rfl (spec_gtr rfl (Get.tmp rfl) (Get.cint rfl))) ?_
    refine L.nil ?_
    refine N.thenW ?_
    refine W.cond (Get.tmp rfl) (fun h2 => ?_) (fun h2 => ?_)
    · have ph2 := h2; try simp only [decide_eq_true_eq, decide_eq_false_iff_not, Bool.and_eq_true, Bool.or_eq_true, Bool.and_eq_false_iff, Bool.or_eq_false_iff, Bool.not_eq_true', Bool.not_eq_false', Bool.not_true, Bool.not_false, Int.not_lt, Int.not_le] at ph2
      refine W.region ?_
      refine L.op1 rfl rfl (GSpec.plain rfl (spec_move rfl (Get.tmp rfl))) ?_
      refine L.op1 rfl rfl (GSpec.plain rfl (spec_addS rfl (Get.tmp rfl) (Get.cstr (l := [46]) rfl rfl) (by (first | omega | (have q2 := (fmt_len (h _ (getD_mem' (show i < l.length by omega)))).2; simp only [Int.toNat_natCast, List.length_append, List.length_cons, List.length_nil, List.length_take, List.length_drop]; omega))))) ?_
      refine L.op1 rfl rfl (GSpec.plain rfl (spec_assign rfl (Get.tmp rfl))) ?_
      refine L.nil ?_
      refine N.thenW ?_
      refine W.seq ?_
      refine W.region ?_
      refine L.op1 rfl rfl (GSpec.plain rfl (spec_move rfl (Get.tmp rfl))) ?_
      refine L.op1 rfl rfl (GSpec.plain rfl (spec_move rfl (Get.tmp rfl))) ?_
      refine L.op1 rfl rfl (GSpec.plain rfl (spec_indexAddrD (E := eI) rfl Tryd.underlying47 Tryd.sizeOf3 (fun _ => rfl) (Get.tmp rfl) (Get.tmp rfl) (by (first | omega | (have q2 := (fmt_len (h _ (getD_mem' (show i < l.length by omega)))).2; simp only [Int.toNat_natCast, List.length_append, List.length_cons, List.length_nil, List.length_take, List.length_drop]; omega))))) ?_
      refine L.op1 rfl rfl (GSpec.plain rfl (spec_loadP1 rfl Tryd.isAgg3 (Get.tmp rfl))) ?_
      refine L.op1 rfl rfl (GSpec.plain rfl (spec_call rfl Tryd.call42 (numberI_ok _ (h _ (getD_mem' (by omega)))) (.cons (Get.tmp rfl) .nil))) ?_
      refine L.op1 rfl rfl (GSpec.plain rfl (spec_assign rfl (Get.tmp rfl))) ?_
      refine L.nil ?_
      refine N.thenW ?_
      refine W.region ?_
      refine L.op1 rfl rfl (GSpec.plain rfl (spec_move rfl (Get.tmp rfl))) ?_
      refine L.op1 rfl rfl (GSpec.plain rfl (spec_move rfl (Get.tmp rfl))) ?_
      refine L.op1 rfl rfl (GSpec.plain rfl (spec_move rfl (Get.tmp rfl))) ?_
      refine L.op1 rfl rfl (GSpec.plain rfl (spec_lenS rfl Tryd.underlying9 (Get.tmp rfl))) ?_
      first | refine L.op1 rfl rfl (GSpec.plain rfl (fit_i64 (by (first | omega | (have q2 := (fmt_len (h _ (getD_mem' (show i < l.length by omega)))).2; simp only [Int.toNat_natCast, List.length_append, List.length_cons, List.length_nil, List.length_take, List.length_drop]; omega))) (by (first | omega | (have q2 := (fmt_len (h _ (getD_mem' (show i < l.length by omega)))).2; simp only [Int.toNat_natCast, List.length_append, List.length_cons, List.length_nil, List.length_take, List.length_drop]; omega))) (spec_sub rfl (Get.tmp rfl) (Get.cint rfl)))) ?_ | refine L.op1 rfl rfl (GSpec.plain rfl (spec_sub rfl (Get.tmp rfl) (Get.cint rfl))) ?_
      refine L.op1 rfl rfl (GSpec.plain rfl (spec_sliceS rfl Tryd.underlying9 (Get.tmp rfl) .none (.some (Get.tmp rfl) (by (first | omega | (have q2 := (fmt_len (h _ (getD_mem' (show i < l.length by omega)))).2; simp only [Int.toNat_natCast, List.length_append, List.length_cons, List.length_nil, List.length_take, List.length_drop]; omega)))) (by (first | omega | (have q2 := (fmt_len (h _ (getD_mem' (show i < l.length by omega)))).2; simp only [Int.toNat_natCast, List.length_append, List.length_cons, List.length_nil, List.length_take, List.length_drop]; omega))))) ?_
      refine L.op1 rfl rfl (GSpec.plain rfl (spec_addS rfl (Get.tmp rfl) (Get.tmp rfl) (by (first | omega | (have q2 := (fmt_len (h _ (getD_mem' (show i < l.length by omega)))).2; simp only [Int.toNat_natCast, List.length_append, List.length_cons, List.length_nil, List.length_take, List.length_drop]; omega))))) ?_
      refine L.op1 rfl rfl (GSpec.plain rfl (spec_assign rfl (Get.tmp rfl))) ?_
      refine L.nil ?_
      refine N.blockNormal ?_
      refine N.thenW ?_
      refine W.region ?_
      refine L.op1 rfl rfl (GSpec.plain rfl (spec_move rfl (Get.tmp rfl))) ?_
      first | refine L.op1 rfl rfl (GSpec.plain rfl (fit_i64 (by (first | omega | (have q2 := (fmt_len (h _ (getD_mem' (show i < l.length by omega)))).2; simp only [Int.toNat_natCast, List.length_append, List.length_cons, List.length_nil, List.length_take, List.length_drop]; omega))) (by (first | omega | (have q2 := (fmt_len (h _ (getD_mem' (show i < l.length by omega)))).2; simp only [Int.toNat_natCast, List.length_append, List.length_cons, List.length_nil, List.length_take, List.length_drop]; omega))) (spec_add rfl (Get.tmp rfl) (Get.cint rfl)))) ?_ | refine L.op1 rfl rfl (GSpec.plain rfl (spec_add rfl (Get.tmp rfl) (Get.cint rfl))) ?_
      refine L.op1 rfl rfl (GSpec.plain rfl (spec_assign rfl (Get.tmp rfl))) ?_
      refine L.nil ?_
      refine N.roundK (i + 1) ?hI3 ?hmu3 ?hs3 ?hk3 ?hp3
      case hs3 => exact (.cons (t := 4) rfl (.weak (t := 3) rfl (eqS (by first | (rw [cut59]; first | exact (join_next (by omega)).symm | exact (join_first (by omega)).symm))) .nil))
      case hk3 => exact (.cons (t := 0) rfl (.cons (t := 2) rfl .nil))
      case hp3 => exact .nil
      all_goals (first | rfl | trivial | omega | (simp_all; done))
    · have ph2 := h2; try simp only [decide_eq_true_eq, decide_eq_false_iff_not, Bool.and_eq_true, Bool.or_eq_true, Bool.and_eq_false_iff, Bool.or_eq_false_iff, Bool.not_eq_true', Bool.not_eq_false', Bool.not_true, Bool.not_false, Int.not_lt, Int.not_le] at ph2
      refine W.skip ?_
      refine N.thenW ?_
      refine W.seq ?_
      refine W.region ?_
      refine L.op1 rfl rfl (GSpec.plain rfl (spec_move rfl (Get.tmp rfl))) ?_
      refine L.op1 rfl rfl (GSpec.plain rfl (spec_move rfl (Get.tmp rfl))) ?_
      refine L.op1 rfl rfl (GSpec.plain rfl (spec_indexAddrD (E := eI) rfl Tryd.underlying47 Tryd.sizeOf3 (fun _ => rfl) (Get.tmp rfl) (Get.tmp rfl) (by (first | omega | (have q2 := (fmt_len (h _ (getD_mem' (show i < l.length by omega)))).2; simp only [Int.toNat_natCast, List.length_append, List.length_cons, List.length_nil, List.length_take, List.length_drop]; omega))))) ?_
      refine L.op1 rfl rfl (GSpec.plain rfl (spec_loadP1 rfl Tryd.isAgg3 (Get.tmp rfl))) ?_
      refine L.op1 rfl rfl (GSpec.plain rfl (spec_call rfl Tryd.call42 (numberI_ok _ (h _ (getD_mem' (by omega)))) (.cons (Get.tmp rfl) .nil))) ?_
      refine L.op1 rfl rfl (GSpec.plain rfl (spec_assign rfl (Get.tmp rfl))) ?_
      refine L.nil ?_
      refine N.thenW ?_
      refine W.region ?_
      refine L.op1 rfl rfl (GSpec.plain rfl (spec_move rfl (Get.tmp rfl))) ?_
      refine L.op1 rfl rfl (GSpec.plain rfl (spec_move rfl (Get.tmp rfl))) ?_
      refine L.op1 rfl rfl (GSpec.plain rfl (spec_move rfl (Get.tmp rfl))) ?_
      refine L.op1 rfl rfl (GSpec.plain rfl (spec_lenS rfl Tryd.underlying9 (Get.tmp rfl))) ?_
      first | refine L.op1 rfl rfl (GSpec.plain rfl (fit_i64 (by (first | omega | (have q2 := (fmt_len (h _ (getD_mem' (show i < l.length by omega)))).2; simp only [Int.toNat_natCast, List.length_append, List.length_cons, List.length_nil, List.length_take, List.length_drop]; omega))) (by (first | omega | (have q2 := (fmt_len (h _ (getD_mem' (show i < l.length by omega)))).2; simp only [Int.toNat_natCast, List.length_append, List.length_cons, List.length_nil, List.length_take, List.length_drop]; omega))) (spec_sub rfl (Get.tmp rfl) (Get.cint rfl)))) ?_ | refine L.op1 rfl rfl (GSpec.plain rfl (spec_sub rfl (Get.tmp rfl) (Get.cint rfl))) ?_
      refine L.op1 rfl rfl (GSpec.plain rfl (spec_sliceS rfl Tryd.underlying9 (Get.tmp rfl) .none (.some (Get.tmp rfl) (by (first | omega | (have q2 := (fmt_len (h _ (getD_mem' (show i < l.length by omega)))).2; simp only [Int.toNat_natCast, List.length_append, List.length_cons, List.length_nil, List.length_take, List.length_drop]; omega)))) (by (first | omega | (have q2 := (fmt_len (h _ (getD_mem' (show i < l.length by omega)))).2; simp only [Int.toNat_natCast, List.length_append, List.length_cons, List.length_nil, List.length_take, List.length_drop]; omega))))) ?_
      refine L.op1 rfl rfl (GSpec.plain rfl (spec_addS rfl (Get.tmp rfl) (Get.tmp rfl) (by (first | omega | (have q2 := (fmt_len (h _ (getD_mem' (show i < l.length by omega)))).2; simp only [Int.toNat_natCast, List.length_append, List.length_cons, List.length_nil, List.length_take, List.length_drop]; omega))))) ?_
      refine L.op1 rfl rfl (GSpec.plain rfl (spec_assign rfl (Get.tmp rfl))) ?_
      refine L.nil ?_
      refine N.blockNormal ?_
      refine N.thenW ?_
      refine W.region ?_
      refine L.op1 rfl rfl (GSpec.plain rfl (spec_move rfl (Get.tmp rfl))) ?_
      first | refine L.op1 rfl rfl (GSpec.plain rfl (fit_i64 (by (first | omega | (have q2 := (fmt_len (h _ (getD_mem' (show i < l.length by omega)))).2; simp only [Int.toNat_natCast, List.length_append, List.length_cons, List.length_nil, List.length_take, List.length_drop]; omega))) (by (first | omega | (have q2 := (fmt_len (h _ (getD_mem' (show i < l.length by omega)))).2; simp only [Int.toNat_natCast, List.length_append, List.length_cons, List.length_nil, List.length_take, List.length_drop]; omega))) (spec_add rfl (Get.tmp rfl) (Get.cint rfl)))) ?_ | refine L.op1 rfl rfl (GSpec.plain rfl (spec_add rfl (Get.tmp rfl) (Get.cint rfl))) ?_
      refine L.op1 rfl rfl (GSpec.plain rfl (spec_assign rfl (Get.tmp rfl))) ?_
      refine L.nil ?_
      refine N.roundK (i + 1) ?hI4 ?hmu4 ?hs4 ?hk4 ?hp4
      case hs4 => exact (.cons (t := 4) rfl (.weak (t := 3) rfl (eqS (by first | (rw [cut59]; first | exact (join_next (by omega)).symm | exact (join_first (by omega)).symm))) .nil))
      case hk4 => exact (.cons (t := 0) rfl (.cons (t := 2) rfl .nil))
      case hp4 => exact .nil
      all_goals (first | rfl | trivial | omega | (simp_all; done))
  · have ph1 := h1; try simp only [decide_eq_true_eq, decide_eq_false_iff_not, Bool.and_eq_true, Bool.or_eq_true, Bool.and_eq_false_iff, Bool.or_eq_false_iff, Bool.not_eq_true', Bool.not_eq_false', Bool.not_true, Bool.not_false, Int.not_lt, Int.not_le] at ph1
    refine W.exit ?_
    refine N.thenExit ?_
    refine N.thenExit ?_
    refine N.blockExit ?_
    refine N.thenW ?_
    refine W.keep (.cons (t := 2) rfl (.cons (t := 3) rfl .nil)) .refl ?_
    refine W.seq ?_
    refine W.region ?_
    refine L.op1 rfl rfl (GSpec.plain rfl (spec_move rfl (Get.tmp rfl))) ?_
    refine L.op1 rfl rfl (GSpec.plain rfl (spec_assign rfl (Get.tmp rfl))) ?_
    refine L.nil ?_
    refine N.thenW ?_
    refine W.ret ?_
    refine N.ret () rfl (.tmp (t := 2) (Get.tmp rfl) .nil) (res1 (eqS ?_)) .nil (fun _ _ h => h)
    rw [show i = l.length by omega]; rfl

end Go.Proofs.YteannfdcbblooaaDoor
