import Derived.Test.YteannfdcbblooaaDoorThW6
set_option linter.unusedSimpArgs false
set_option maxRecDepth 8000
set_option linter.unusedVariables false
namespace Go.Proofs.YteannfdcbblooaaDoor
open Go.Sim
theorem parent_ok (s : List UInt8) (hs : s.length ≤ 1048576) : CallT Tryd.prog 17 [Rp.str s] [tabG] (.one (Rp.tuple [Rp.str (parentQ (numsP s)).1, Rp.bool (parentQ (numsP s)).2])) := by
  refine W.enter (fn := Tryd.f17) (n := 24) Tryd.func17 rfl Tryd.ntmps17 rfl (fun w₀ C₀ => ?_)
  simp only [argS]
  have hq := okP s
  refine W.seq ?_
  refine W.region ?_
  refine L.op1 rfl rfl (GSpec.plain rfl (spec_assign rfl (Get.cstr (l := []) rfl rfl))) ?_
  refine L.op1 rfl rfl (GSpec.plain rfl (spec_assign rfl Get.cbool)) ?_
  refine L.nil ?_
  refine N.thenW ?_
  refine W.seq ?_
  refine W.region ?_
  refine L.op1 rfl rfl (GSpec.plain rfl (spec_move rfl (Get.tmp rfl))) ?_
  refine L.op1 rfl rfl (GSpec.plain rfl (spec_call rfl Tryd.call28 (numbers_ok _ (by omega)) (.cons (Get.tmp rfl) .nil))) ?_
  refine L.op1 rfl rfl (GSpec.plain rfl (spec_move rfl (Get.tmp rfl))) ?_
  refine L.op1 rfl rfl (GSpec.plain rfl (spec_extract rfl (Get.tmp rfl) rfl)) ?_
  refine L.op1 rfl rfl (GSpec.plain rfl (spec_extract rfl (Get.tmp rfl) rfl)) ?_
  refine L.op1 rfl rfl (GSpec.plain rfl (spec_assign rfl (Get.tmp rfl))) ?_
  refine L.op1 rfl rfl (GSpec.plain rfl (spec_assign rfl (Get.tmp rfl))) ?_
  refine L.nil ?_
  refine N.thenW ?_
  refine W.seq ?_
  refine W.seq ?_
  refine W.region ?_
  refine L.op1 rfl rfl (GSpec.plain rfl (spec_move rfl (Get.tmp rfl))) ?_
  refine L.op1 rfl rfl (GSpec.plain rfl (spec_not rfl (Get.tmp rfl))) ?_
  refine L.op1 rfl rfl (GSpec.plain rfl (spec_move rfl (Get.tmp rfl))) ?_
  refine L.op1 rfl rfl (GSpec.guard rfl rfl rfl fun hg => (spec_move rfl (Get.tmp rfl))) ?_
  refine L.op1 rfl rfl (GSpec.guard rfl rfl rfl fun hg => (spec_len rfl Tryd.underlying47 (Get.opt rfl hg))) ?_
  refine L.op1 rfl rfl (GSpec.guard rfl rfl rfl fun hg => (spec_eql rfl (Get.opt rfl hg) (Get.cint rfl))) ?_
  refine L.op1 rfl rfl (GSpec.plain rfl (spec_or rfl (Get.tmp rfl) (fun hb => (Get.opt rfl hb)))) ?_
  refine L.nil ?_
  refine N.thenW ?_
  refine W.keep (.cons (t := 2) rfl (.cons (t := 3) rfl (.cons (t := 4) rfl (.cons (t := 17) rfl .nil)))) .refl ?_
  refine W.cond (Get.tmp rfl) (fun h1 => ?_) (fun h1 => ?_)
  · have ph1 := h1; try simp only [decide_eq_true_eq, decide_eq_false_iff_not, Bool.and_eq_true, Bool.or_eq_true, Bool.and_eq_false_iff, Bool.or_eq_false_iff, Bool.not_eq_true', Bool.not_eq_false', Bool.not_true, Bool.not_false, Int.not_lt, Int.not_le] at ph1
    refine W.seq ?_
    refine W.region ?_
    refine L.op1 rfl rfl (GSpec.plain rfl (spec_assign rfl (Get.cstr (l := []) rfl rfl))) ?_
    refine L.op1 rfl rfl (GSpec.plain rfl (spec_assign rfl Get.cbool)) ?_
    refine L.nil ?_
    refine N.thenW ?_
    refine W.ret ?_
    refine N.ret () rfl (.tmp (t := 2) (Get.tmp rfl) (.tmp (t := 3) (Get.tmp rfl) .nil)) (res2w (eqS ?_) (eqB ?_)) .nil (fun _ _ h => h)
    all_goals rw [parent_no ph1]
  · have ph1 := h1; simp only [decide_eq_true_eq, decide_eq_false_iff_not, Bool.and_eq_true, Bool.or_eq_true, Bool.and_eq_false_iff, Bool.or_eq_false_iff, Bool.not_eq_true', Bool.not_eq_false', Bool.not_true, Bool.not_false, Int.not_lt, Int.not_le] at ph1
    have hl16 := hq.2 ph1.1
    refine W.skip ?_
    refine N.thenW ?_
    refine W.seq ?_
    refine W.region ?_
    refine L.op1 rfl rfl (GSpec.plain rfl (spec_move rfl (Get.tmp rfl))) ?_
    refine L.op1 rfl rfl (GSpec.plain rfl (spec_move rfl (Get.tmp rfl))) ?_
    refine L.op1 rfl rfl (GSpec.plain rfl (spec_len rfl Tryd.underlying47 (Get.tmp rfl))) ?_
    first | refine L.op1 rfl rfl (GSpec.plain rfl (fit_i64 (by omega) (by omega) (spec_sub rfl (Get.tmp rfl) (Get.cint rfl)))) ?_ | refine L.op1 rfl rfl (GSpec.plain rfl (spec_sub rfl (Get.tmp rfl) (Get.cint rfl))) ?_
    refine L.op1 rfl rfl (GSpec.plain rfl (spec_slice (E := eI) rfl Tryd.underlying47 Tryd.sizeOf3 (fun _ => rfl) (Get.tmp rfl) .none (.some (Get.tmp rfl) (by omega)) (by omega))) ?_
    refine L.op1 rfl rfl (GSpec.plain rfl (spec_callG0 (k := 0) rfl Tryd.call31 rfl rfl (joinP_ok _ hq.1 (by omega)) (.cons (Get.tmp rfl) .nil))) ?_
    refine L.op1 rfl rfl (GSpec.plain rfl (spec_assign rfl (Get.tmp rfl))) ?_
    refine L.op1 rfl rfl (GSpec.plain rfl (spec_assign rfl Get.cbool)) ?_
    refine L.nil ?_
    refine N.thenW ?_
    refine W.keep (.cons (t := 2) rfl (.cons (t := 3) rfl .nil)) .refl ?_
    refine W.ret ?_
    refine N.ret () rfl (.tmp (t := 2) (Get.tmp rfl) (.tmp (t := 3) (Get.tmp rfl) .nil)) (res2w (eqS ?_) (eqB ?_)) .nil (fun _ _ h => h)
    all_goals rw [parent_yes ph1.1 ph1.2]

theorem rparent_ok (s : List UInt8) (hs : s.length ≤ 1048576) : CallT Tryd.prog 18 [Rp.str s] [] (.one (Rp.tuple [Rp.str (parentQ (numsR s)).1, Rp.bool (parentQ (numsR s)).2])) := by
  refine W.enter (fn := Tryd.f18) (n := 24) Tryd.func18 rfl Tryd.ntmps18 rfl (fun w₀ C₀ => ?_)
  simp only [argS]
  have hq := okR s
  refine W.seq ?_
  refine W.region ?_
  refine L.op1 rfl rfl (GSpec.plain rfl (spec_assign rfl (Get.cstr (l := []) rfl rfl))) ?_
  refine L.op1 rfl rfl (GSpec.plain rfl (spec_assign rfl Get.cbool)) ?_
  refine L.nil ?_
  refine N.thenW ?_
  refine W.seq ?_
  refine W.region ?_
  refine L.op1 rfl rfl (GSpec.plain rfl (spec_move rfl (Get.tmp rfl))) ?_
  refine L.op1 rfl rfl (GSpec.plain rfl (spec_call rfl Tryd.call29 (rnumbers_ok _ (by omega)) (.cons (Get.tmp rfl) .nil))) ?_
  refine L.op1 rfl rfl (GSpec.plain rfl (spec_move rfl (Get.tmp rfl))) ?_
  refine L.op1 rfl rfl (GSpec.plain rfl (spec_extract rfl (Get.tmp rfl) rfl)) ?_
  refine L.op1 rfl rfl (GSpec.plain rfl (spec_extract rfl (Get.tmp rfl) rfl)) ?_
  refine L.op1 rfl rfl (GSpec.plain rfl (spec_assign rfl (Get.tmp rfl))) ?_
  refine L.op1 rfl rfl (GSpec.plain rfl (spec_assign rfl (Get.tmp rfl))) ?_
  refine L.nil ?_
  refine N.thenW ?_
  refine W.keep (.cons (t := 2) rfl (.cons (t := 3) rfl (.cons (t := 4) rfl (.cons (t := 5) rfl .nil)))) .refl ?_
  refine W.seq ?_
  refine W.seq ?_
  refine W.region ?_
  refine L.op1 rfl rfl (GSpec.plain rfl (spec_move rfl (Get.tmp rfl))) ?_
  refine L.op1 rfl rfl (GSpec.plain rfl (spec_not rfl (Get.tmp rfl))) ?_
  refine L.op1 rfl rfl (GSpec.plain rfl (spec_move rfl (Get.tmp rfl))) ?_
  refine L.op1 rfl rfl (GSpec.guard rfl rfl rfl fun hg => (spec_move rfl (Get.tmp rfl))) ?_
  refine L.op1 rfl rfl (GSpec.guard rfl rfl rfl fun hg => (spec_len rfl Tryd.underlying47 (Get.opt rfl hg))) ?_
  refine L.op1 rfl rfl (GSpec.guard rfl rfl rfl fun hg => (spec_eql rfl (Get.opt rfl hg) (Get.cint rfl))) ?_
  refine L.op1 rfl rfl (GSpec.plain rfl (spec_or rfl (Get.tmp rfl) (fun hb => (Get.opt rfl hb)))) ?_
  refine L.nil ?_
  refine N.thenW ?_
  refine W.keep (.cons (t := 2) rfl (.cons (t := 3) rfl (.cons (t := 4) rfl (.cons (t := 17) rfl .nil)))) .refl ?_
  refine W.cond (Get.tmp rfl) (fun h1 => ?_) (fun h1 => ?_)
  · have ph1 := h1; try simp only [decide_eq_true_eq, decide_eq_false_iff_not, Bool.and_eq_true, Bool.or_eq_true, Bool.and_eq_false_iff, Bool.or_eq_false_iff, Bool.not_eq_true', Bool.not_eq_false', Bool.not_true, Bool.not_false, Int.not_lt, Int.not_le] at ph1
    refine W.seq ?_
    refine W.region ?_
    refine L.op1 rfl rfl (GSpec.plain rfl (spec_assign rfl (Get.cstr (l := []) rfl rfl))) ?_
    refine L.op1 rfl rfl (GSpec.plain rfl (spec_assign rfl Get.cbool)) ?_
    refine L.nil ?_
    refine N.thenW ?_
    refine W.ret ?_
    refine N.ret () rfl (.tmp (t := 2) (Get.tmp rfl) (.tmp (t := 3) (Get.tmp rfl) .nil)) (res2w (eqS ?_) (eqB ?_)) .nil (fun _ _ h => h)
    all_goals rw [parent_no ph1]
  · have ph1 := h1; simp only [decide_eq_true_eq, decide_eq_false_iff_not, Bool.and_eq_true, Bool.or_eq_true, Bool.and_eq_false_iff, Bool.or_eq_false_iff, Bool.not_eq_true', Bool.not_eq_false', Bool.not_true, Bool.not_false, Int.not_lt, Int.not_le] at ph1
    have hl16 := hq.2 ph1.1
    refine W.skip ?_
    refine N.thenW ?_
    refine W.seq ?_
    refine W.region ?_
    refine L.op1 rfl rfl (GSpec.plain rfl (spec_move rfl (Get.tmp rfl))) ?_
    refine L.op1 rfl rfl (GSpec.plain rfl (spec_move rfl (Get.tmp rfl))) ?_
    refine L.op1 rfl rfl (GSpec.plain rfl (spec_len rfl Tryd.underlying47 (Get.tmp rfl))) ?_
    first | refine L.op1 rfl rfl (GSpec.plain rfl (fit_i64 (by omega) (by omega) (spec_sub rfl (Get.tmp rfl) (Get.cint rfl)))) ?_ | refine L.op1 rfl rfl (GSpec.plain rfl (spec_sub rfl (Get.tmp rfl) (Get.cint rfl))) ?_
    refine L.op1 rfl rfl (GSpec.plain rfl (spec_slice (E := eI) rfl Tryd.underlying47 Tryd.sizeOf3 (fun _ => rfl) (Get.tmp rfl) .none (.some (Get.tmp rfl) (by omega)) (by omega))) ?_
    refine L.op1 rfl rfl (GSpec.plain rfl (spec_call rfl Tryd.call32 (textP_ok _ hq.1 (by omega)) (.cons (Get.tmp rfl) .nil))) ?_
    refine L.op1 rfl rfl (GSpec.plain rfl (spec_assign rfl (Get.tmp rfl))) ?_
    refine L.op1 rfl rfl (GSpec.plain rfl (spec_assign rfl Get.cbool)) ?_
    refine L.nil ?_
    refine N.thenW ?_
    refine W.keep (.cons (t := 2) rfl (.cons (t := 3) rfl .nil)) .refl ?_
    refine W.ret ?_
    refine N.ret () rfl (.tmp (t := 2) (Get.tmp rfl) (.tmp (t := 3) (Get.tmp rfl) .nil)) (res2w (eqS ?_) (eqB ?_)) .nil (fun _ _ h => h)
    all_goals rw [parent_yes ph1.1 ph1.2]

theorem both_ok (a b : List UInt8) (ha : a.length ≤ 1048576) (hb : b.length ≤ 1048576) : CallT Tryd.prog 33 [Rp.str a, Rp.str b] [] (.one (Rp.tuple [Rp.slice eI (numsP a).1, Rp.slice eI (numsP b).1, Rp.bool ((numsP a).2 && (numsP b).2)])) := by
  refine W.enter (fn := Tryd.f33) (n := 27) Tryd.func33 rfl Tryd.ntmps33 rfl (fun w₀ C₀ => ?_)
  simp only [argS]
  refine W.seq ?_
  refine W.region ?_
  refine L.op1 rfl rfl (GSpec.plain rfl (spec_assign rfl (Get.cnil (E := eI)))) ?_
  refine L.op1 rfl rfl (GSpec.plain rfl (spec_assign rfl (Get.cnil (E := eI)))) ?_
  refine L.op1 rfl rfl (GSpec.plain rfl (spec_assign rfl Get.cbool)) ?_
  refine L.nil ?_
  refine N.thenW ?_
  refine W.seq ?_
  refine W.region ?_
  refine L.op1 rfl rfl (GSpec.plain rfl (spec_move rfl (Get.tmp rfl))) ?_
  refine L.op1 rfl rfl (GSpec.plain rfl (spec_call rfl Tryd.call28 (numbers_ok _ (by omega)) (.cons (Get.tmp rfl) .nil))) ?_
  refine L.op1 rfl rfl (GSpec.plain rfl (spec_move rfl (Get.tmp rfl))) ?_
  refine L.op1 rfl rfl (GSpec.plain rfl (spec_extract rfl (Get.tmp rfl) rfl)) ?_
  refine L.op1 rfl rfl (GSpec.plain rfl (spec_extract rfl (Get.tmp rfl) rfl)) ?_
  refine L.op1 rfl rfl (GSpec.plain rfl (spec_assign rfl (Get.tmp rfl))) ?_
  refine L.op1 rfl rfl (GSpec.plain rfl (spec_assign rfl (Get.tmp rfl))) ?_
  refine L.nil ?_
  refine N.thenW ?_
  refine W.keep (.cons (t := 1) rfl (.cons (t := 4) rfl (.cons (t := 5) rfl (.cons (t := 6) rfl (.cons (t := 7) rfl (.cons (t := 8) rfl .nil)))))) .refl ?_
  refine W.seq ?_
  refine W.region ?_
  refine L.op1 rfl rfl (GSpec.plain rfl (spec_move rfl (Get.tmp rfl))) ?_
  refine L.op1 rfl rfl (GSpec.plain rfl (spec_call rfl Tryd.call28 (numbers_ok _ (by omega)) (.cons (Get.tmp rfl) .nil))) ?_
  refine L.op1 rfl rfl (GSpec.plain rfl (spec_move rfl (Get.tmp rfl))) ?_
  refine L.op1 rfl rfl (GSpec.plain rfl (spec_extract rfl (Get.tmp rfl) rfl)) ?_
  refine L.op1 rfl rfl (GSpec.plain rfl (spec_extract rfl (Get.tmp rfl) rfl)) ?_
  refine L.op1 rfl rfl (GSpec.plain rfl (spec_assign rfl (Get.tmp rfl))) ?_
  refine L.op1 rfl rfl (GSpec.plain rfl (spec_assign rfl (Get.tmp rfl))) ?_
  refine L.nil ?_
  refine N.thenW ?_
  refine W.keep (.cons (t := 4) rfl (.cons (t := 5) rfl (.cons (t := 6) rfl (.cons (t := 7) rfl (.cons (t := 8) rfl (.cons (t := 9) rfl (.cons (t := 10) rfl .nil))))))) .refl ?_
  refine W.seq ?_
  refine W.region ?_
  refine L.op1 rfl rfl (GSpec.plain rfl (spec_move rfl (Get.tmp rfl))) ?_
  refine L.op1 rfl rfl (GSpec.plain rfl (spec_move rfl (Get.tmp rfl))) ?_
  refine L.op1 rfl rfl (GSpec.plain rfl (spec_move rfl (Get.tmp rfl))) ?_
  refine L.op1 rfl rfl (GSpec.plain rfl (spec_move rfl (Get.tmp rfl))) ?_
  refine L.op1 rfl rfl (GSpec.guard rfl rfl rfl fun hg => (spec_move rfl (Get.tmp rfl))) ?_
  refine L.op1 rfl rfl (GSpec.plain rfl (spec_and rfl (Get.tmp rfl) (fun hb => (Get.opt rfl hb)))) ?_
  refine L.op1 rfl rfl (GSpec.plain rfl (spec_assign rfl (Get.tmp rfl))) ?_
  refine L.op1 rfl rfl (GSpec.plain rfl (spec_assign rfl (Get.tmp rfl))) ?_
  refine L.op1 rfl rfl (GSpec.plain rfl (spec_assign rfl (Get.tmp rfl))) ?_
  refine L.nil ?_
  refine N.thenW ?_
  refine W.keep (.cons (t := 4) rfl (.cons (t := 5) rfl (.cons (t := 6) rfl .nil))) .refl ?_
  refine W.ret ?_
  refine N.ret () rfl (.tmp (t := 4) (Get.tmp rfl) (.tmp (t := 5) (Get.tmp rfl) (.tmp (t := 6) (Get.tmp rfl) .nil))) (res3w (eqSl ?_) (eqSl ?_) (eqB ?_)) .nil (fun _ _ h => h)
  rfl
  rfl
  rfl

theorem less_ok (a b : List UInt8) (ha : a.length ≤ 1048576) (hb : b.length ≤ 1048576) : CallT Tryd.prog 19 [Rp.str a, Rp.str b] [] (.one (Rp.bool (lessQ (numsP a) (numsP b)))) := by
  refine W.enter (fn := Tryd.f19) (n := 22) Tryd.func19 rfl Tryd.ntmps19 rfl (fun w₀ C₀ => ?_)
  simp only [argS]
  refine W.seq ?_
  refine W.region ?_
  refine L.op1 rfl rfl (GSpec.plain rfl (spec_assign rfl Get.cbool)) ?_
  refine L.nil ?_
  refine N.thenW ?_
  refine W.seq ?_
  refine W.region ?_
  refine L.op1 rfl rfl (GSpec.plain rfl (spec_move rfl (Get.tmp rfl))) ?_
  refine L.op1 rfl rfl (GSpec.plain rfl (spec_move rfl (Get.tmp rfl))) ?_
  refine L.op1 rfl rfl (GSpec.plain rfl (spec_call rfl Tryd.call33 (both_ok _ _ (by first | omega | decide) (by first | omega | decide)) (.cons (Get.tmp rfl) (.cons (Get.tmp rfl) .nil)))) ?_
  refine L.op1 rfl rfl (GSpec.plain rfl (spec_move rfl (Get.tmp rfl))) ?_
  refine L.op1 rfl rfl (GSpec.plain rfl (spec_extract rfl (Get.tmp rfl) rfl)) ?_
  refine L.op1 rfl rfl (GSpec.plain rfl (spec_extract rfl (Get.tmp rfl) rfl)) ?_
  refine L.op1 rfl rfl (GSpec.plain rfl (spec_extract rfl (Get.tmp rfl) rfl)) ?_
  refine L.op1 rfl rfl (GSpec.plain rfl (spec_assign rfl (Get.tmp rfl))) ?_
  refine L.op1 rfl rfl (GSpec.plain rfl (spec_assign rfl (Get.tmp rfl))) ?_
  refine L.op1 rfl rfl (GSpec.plain rfl (spec_assign rfl (Get.tmp rfl))) ?_
  refine L.nil ?_
  refine N.thenW ?_
  refine W.keep (.cons (t := 4) rfl (.cons (t := 5) rfl (.cons (t := 6) rfl (.cons (t := 7) rfl .nil)))) .refl ?_
  refine W.seq ?_
  refine W.region ?_
  refine L.op1 rfl rfl (GSpec.plain rfl (spec_move rfl (Get.tmp rfl))) ?_
  refine L.op1 rfl rfl (GSpec.plain rfl (spec_move rfl (Get.tmp rfl))) ?_
  refine L.op1 rfl rfl (GSpec.guard rfl rfl rfl fun hg => (spec_move rfl (Get.tmp rfl))) ?_
  refine L.op1 rfl rfl (GSpec.guard rfl rfl rfl fun hg => (spec_move rfl (Get.tmp rfl))) ?_
  refine L.op1 rfl rfl (GSpec.guard rfl rfl rfl fun hg => (spec_call rfl Tryd.call34 (compare_ok _ _) (.cons (Get.opt rfl hg) (.cons (Get.opt rfl hg) .nil)))) ?_
  refine L.op1 rfl rfl (GSpec.guard rfl rfl rfl fun hg => (spec_lss rfl (Get.opt rfl hg) (Get.cint rfl))) ?_
  refine L.op1 rfl rfl (GSpec.plain rfl (spec_and rfl (Get.tmp rfl) (fun hb => (Get.opt rfl hb)))) ?_
  refine L.op1 rfl rfl (GSpec.plain rfl (spec_assign rfl (Get.tmp rfl))) ?_
  refine L.nil ?_
  refine N.thenW ?_
  refine W.keep (.cons (t := 4) rfl .nil) .refl ?_
  refine W.ret ?_
  refine N.ret () rfl (.tmp (t := 4) (Get.tmp rfl) .nil) (res1 (eqB ?_)) .nil (fun _ _ h => h)
  rfl

theorem above_ok (a b : List UInt8) (ha : a.length ≤ 1048576) (hb : b.length ≤ 1048576) : CallT Tryd.prog 21 [Rp.str a, Rp.str b] [] (.one (Rp.bool (aboveQ (numsP a) (numsP b)))) := by
  refine W.enter (fn := Tryd.f21) (n := 31) Tryd.func21 rfl Tryd.ntmps21 rfl (fun w₀ C₀ => ?_)
  simp only [argS]
  refine W.seq ?_
  refine W.region ?_
  refine L.op1 rfl rfl (GSpec.plain rfl (spec_assign rfl Get.cbool)) ?_
  refine L.nil ?_
  refine N.thenW ?_
  refine W.seq ?_
  refine W.region ?_
  refine L.op1 rfl rfl (GSpec.plain rfl (spec_move rfl (Get.tmp rfl))) ?_
  refine L.op1 rfl rfl (GSpec.plain rfl (spec_move rfl (Get.tmp rfl))) ?_
  refine L.op1 rfl rfl (GSpec.plain rfl (spec_call rfl Tryd.call33 (both_ok _ _ (by first | omega | decide) (by first | omega | decide)) (.cons (Get.tmp rfl) (.cons (Get.tmp rfl) .nil)))) ?_
  refine L.op1 rfl rfl (GSpec.plain rfl (spec_move rfl (Get.tmp rfl))) ?_
  refine L.op1 rfl rfl (GSpec.plain rfl (spec_extract rfl (Get.tmp rfl) rfl)) ?_
  refine L.op1 rfl rfl (GSpec.plain rfl (spec_extract rfl (Get.tmp rfl) rfl)) ?_
  refine L.op1 rfl rfl (GSpec.plain rfl (spec_extract rfl (Get.tmp rfl) rfl)) ?_
  refine L.op1 rfl rfl (GSpec.plain rfl (spec_assign rfl (Get.tmp rfl))) ?_
  refine L.op1 rfl rfl (GSpec.plain rfl (spec_assign rfl (Get.tmp rfl))) ?_
  refine L.op1 rfl rfl (GSpec.plain rfl (spec_assign rfl (Get.tmp rfl))) ?_
  refine L.nil ?_
  refine N.thenW ?_
  refine W.keep (.cons (t := 4) rfl (.cons (t := 5) rfl (.cons (t := 6) rfl (.cons (t := 7) rfl .nil)))) .refl ?_
  refine W.seq ?_
  refine W.region ?_
  refine L.op1 rfl rfl (GSpec.plain rfl (spec_move rfl (Get.tmp rfl))) ?_
  refine L.op1 rfl rfl (GSpec.plain rfl (spec_move rfl (Get.tmp rfl))) ?_
  refine L.op1 rfl rfl (GSpec.guard rfl rfl rfl fun hg => (spec_move rfl (Get.tmp rfl))) ?_
  refine L.op1 rfl rfl (GSpec.guard rfl rfl rfl fun hg => (spec_len rfl Tryd.underlying47 (Get.opt rfl hg))) ?_
  refine L.op1 rfl rfl (GSpec.guard rfl rfl rfl fun hg => (spec_move rfl (Get.tmp rfl))) ?_
  refine L.op1 rfl rfl (GSpec.guard rfl rfl rfl fun hg => (spec_len rfl Tryd.underlying47 (Get.opt rfl hg))) ?_
  refine L.op1 rfl rfl (GSpec.guard rfl rfl rfl fun hg => (spec_lss rfl (Get.opt rfl hg) (Get.opt rfl hg))) ?_
  refine L.op1 rfl rfl (GSpec.plain rfl (spec_and rfl (Get.tmp rfl) (fun hb => (Get.opt rfl hb)))) ?_
  refine L.op1 rfl rfl (GSpec.plain rfl (spec_move rfl (Get.tmp rfl))) ?_
  refine L.op1 rfl rfl (GSpec.guard rfl rfl rfl fun hg => (spec_move rfl (Get.tmp rfl))) ?_
  refine L.op1 rfl rfl (GSpec.guard rfl rfl rfl fun hg => (spec_move rfl (Get.tmp rfl))) ?_
  refine L.op1 rfl rfl (GSpec.guard rfl rfl rfl fun hg => (spec_move rfl (Get.tmp rfl))) ?_
  refine L.op1 rfl rfl (GSpec.guard rfl rfl rfl fun hg => (spec_len rfl Tryd.underlying47 (Get.opt rfl hg))) ?_
  refine L.op1 rfl rfl (GSpec.guard rfl rfl rfl fun hg => (spec_slice (E := eI) rfl Tryd.underlying47 Tryd.sizeOf3 (fun _ => rfl) (Get.opt rfl hg) .none (.some (Get.opt rfl hg) (by (first | omega | (simp only [decide_eq_true_eq, decide_eq_false_iff_not, Bool.and_eq_true, Bool.or_eq_true, Bool.and_eq_false_iff, Bool.or_eq_false_iff, Bool.not_eq_true', Bool.not_eq_false', Bool.not_true, Bool.not_false, Int.not_lt, Int.not_le] at hg; omega)))) (by (first | omega | (simp only [decide_eq_true_eq, decide_eq_false_iff_not, Bool.and_eq_true, Bool.or_eq_true, Bool.and_eq_false_iff, Bool.or_eq_false_iff, Bool.not_eq_true', Bool.not_eq_false', Bool.not_true, Bool.not_false, Int.not_lt, Int.not_le] at hg; omega))))) ?_
  refine L.op1 rfl rfl (GSpec.guard rfl rfl rfl fun hg => (spec_call rfl Tryd.call35 (equal_ok _ _) (.cons (Get.opt rfl hg) (.cons (Get.opt rfl hg) .nil)))) ?_
  refine L.op1 rfl rfl (GSpec.plain rfl (spec_and rfl (Get.tmp rfl) (fun hb => (Get.opt rfl hb)))) ?_
  refine L.op1 rfl rfl (GSpec.plain rfl (spec_assign rfl (Get.tmp rfl))) ?_
  refine L.nil ?_
  refine N.thenW ?_
  refine W.keep (.cons (t := 4) rfl .nil) .refl ?_
  refine W.ret ?_
  refine N.ret () rfl (.tmp (t := 4) (Get.tmp rfl) .nil) (res1 (eqB ?_)) .nil (fun _ _ h => h)
  simp [aboveQ]

theorem rless_ok (a b : List UInt8) (ha : a.length ≤ 1048576) (hb : b.length ≤ 1048576) : CallT Tryd.prog 20 [Rp.str a, Rp.str b] [] (.one (Rp.bool (lessQ (numsR a) (numsR b)))) := by
  refine W.enter (fn := Tryd.f20) (n := 61) Tryd.func20 rfl Tryd.ntmps20 rfl (fun w₀ C₀ => ?_)
  simp only [argS]
  refine W.seq ?_
  refine W.region ?_
  refine L.op1 rfl rfl (GSpec.plain rfl (spec_assign rfl Get.cbool)) ?_
  refine L.nil ?_
  refine N.thenW ?_
  refine W.seq ?_
  refine W.region ?_
  refine L.op1 rfl rfl (GSpec.plain rfl (spec_move rfl (Get.tmp rfl))) ?_
  refine L.op1 rfl rfl (GSpec.plain rfl (spec_call rfl Tryd.call29 (rnumbers_ok _ (by omega)) (.cons (Get.tmp rfl) .nil))) ?_
  refine L.op1 rfl rfl (GSpec.plain rfl (spec_move rfl (Get.tmp rfl))) ?_
  refine L.op1 rfl rfl (GSpec.plain rfl (spec_extract rfl (Get.tmp rfl) rfl)) ?_
  refine L.op1 rfl rfl (GSpec.plain rfl (spec_extract rfl (Get.tmp rfl) rfl)) ?_
  refine L.op1 rfl rfl (GSpec.plain rfl (spec_assign rfl (Get.tmp rfl))) ?_
  refine L.op1 rfl rfl (GSpec.plain rfl (spec_assign rfl (Get.tmp rfl))) ?_
  refine L.nil ?_
  refine N.thenW ?_
  refine W.seq ?_
  refine W.region ?_
  refine L.op1 rfl rfl (GSpec.plain rfl (spec_move rfl (Get.tmp rfl))) ?_
  refine L.op1 rfl rfl (GSpec.plain rfl (spec_call rfl Tryd.call29 (rnumbers_ok _ (by omega)) (.cons (Get.tmp rfl) .nil))) ?_
  refine L.op1 rfl rfl (GSpec.plain rfl (spec_move rfl (Get.tmp rfl))) ?_
  refine L.op1 rfl rfl (GSpec.plain rfl (spec_extract rfl (Get.tmp rfl) rfl)) ?_
  refine L.op1 rfl rfl (GSpec.plain rfl (spec_extract rfl (Get.tmp rfl) rfl)) ?_
  refine L.op1 rfl rfl (GSpec.plain rfl (spec_assign rfl (Get.tmp rfl))) ?_
  refine L.op1 rfl rfl (GSpec.plain rfl (spec_assign rfl (Get.tmp rfl))) ?_
  refine L.nil ?_
  refine N.thenW ?_
  refine W.keep (.cons (t := 4) rfl (.cons (t := 5) rfl (.cons (t := 6) rfl (.cons (t := 7) rfl (.cons (t := 8) rfl .nil))))) .refl ?_
  refine W.seq ?_
  refine W.seq ?_
  refine W.region ?_
  refine L.op1 rfl rfl (GSpec.plain rfl (spec_move rfl (Get.tmp rfl))) ?_
  refine L.op1 rfl rfl (GSpec.plain rfl (spec_not rfl (Get.tmp rfl))) ?_
  refine L.op1 rfl rfl (GSpec.plain rfl (spec_move rfl (Get.tmp rfl))) ?_
  refine L.op1 rfl rfl (GSpec.guard rfl rfl rfl fun hg => (spec_move rfl (Get.tmp rfl))) ?_
  refine L.op1 rfl rfl (GSpec.guard rfl rfl rfl fun hg => (spec_not rfl (Get.opt rfl hg))) ?_
  refine L.op1 rfl rfl (GSpec.plain rfl (spec_or rfl (Get.tmp rfl) (fun hb => (Get.opt rfl hb)))) ?_
  refine L.nil ?_
  refine N.thenW ?_
  refine W.keep (.cons (t := 4) rfl (.cons (t := 5) rfl (.cons (t := 7) rfl (.cons (t := 25) rfl .nil)))) .refl ?_
  refine W.cond (Get.tmp rfl) (fun h1 => ?_) (fun h1 => ?_)
  · have q0 : (numsR a).2 = false ∨ (numsR b).2 = false := by have h := h1; simpa using h
    refine W.seq ?_
    refine W.region ?_
    refine L.op1 rfl rfl (GSpec.plain rfl (spec_assign rfl Get.cbool)) ?_
    refine L.nil ?_
    refine N.thenW ?_
    refine W.ret ?_
    refine N.ret () rfl (.tmp (t := 4) (Get.tmp rfl) .nil) (res1 (eqB ?_)) .nil (fun _ _ h => h)
    unfold lessQ; rcases q0 with h | h <;> simp [h]
  · have q0 : (numsR a).2 = true ∧ (numsR b).2 = true := by have h := h1; simpa using h
    refine W.skip ?_
    refine N.thenW ?_
    refine W.seq ?_
    refine W.seq ?_
    refine W.region ?_
    refine L.op1 rfl rfl (GSpec.plain rfl (spec_assign rfl (Get.cint rfl))) ?_
    refine L.nil ?_
    refine N.thenW ?_
    refine W.fact 5 rfl slice_fact fun hl5 => ?_
    refine W.block ?_
    -- assigned in the loop, not kept: [4]
    refine W.loopK (σ := Nat) (.cons (t := 5) rfl (.cons (t := 7) rfl .nil)) (fun z => [(9, Rp.int .i64 (z : Nat))]) (fun z => []) (fun z => z ≤ (numsR a).1.length ∧ ∀ j : Nat, j < z → (j < (numsR b).1.length ∧ (numsR a).1.getD j default = (numsR b).1.getD j default)) (fun z => (numsR a).1.length - z) 0 ⟨Nat.zero_le _, fun j hj => by omega⟩ (.cons (t := 9) rfl .nil) .nil ?_
    intro i hI S' M' hS hM
    obtain ⟨hI1, hI2⟩ := hI
    try dsimp only at hS hM
    simp only [List.cons_append, List.nil_append] at hS hM
    subst hS hM
    try dsimp only
    refine W.seq ?_
    refine W.seq ?_
    refine W.region ?_
    refine L.op1 rfl rfl (GSpec.plain rfl (spec_move rfl (Get.tmp rfl))) ?_
    refine L.op1 rfl rfl (GSpec.plain rfl (spec_move rfl (Get.tmp rfl))) ?_
    refine L.op1 rfl rfl (GSpec.plain rfl (spec_len rfl Tryd.underlying47 (Get.tmp rfl))) ?_
    refine L.op1 rfl rfl (GSpec.plain rfl (spec_lss rfl (Get.tmp rfl) (Get.tmp rfl))) ?_
    refine L.op1 rfl rfl (GSpec.plain rfl (spec_move rfl (Get.tmp rfl))) ?_
    refine L.op1 rfl rfl (GSpec.guard rfl rfl rfl fun hg => (spec_move rfl (Get.tmp rfl))) ?_
    refine L.op1 rfl rfl (GSpec.guard rfl rfl rfl fun hg => (spec_move rfl (Get.tmp rfl))) ?_
    refine L.op1 rfl rfl (GSpec.guard rfl rfl rfl fun hg => (spec_len rfl Tryd.underlying47 (Get.opt rfl hg))) ?_
    refine L.op1 rfl rfl (GSpec.guard rfl rfl rfl fun hg => (spec_lss rfl (Get.opt rfl hg) (Get.opt rfl hg))) ?_
    refine L.op1 rfl rfl (GSpec.plain rfl (spec_and rfl (Get.tmp rfl) (fun hb => (Get.opt rfl hb)))) ?_
    refine L.nil ?_
    refine N.thenW ?_
    refine W.cond (Get.tmp rfl) (fun h2 => ?_) (fun h2 => ?_)
    · have ph2 := h2; try simp only [decide_eq_true_eq, decide_eq_false_iff_not, Bool.and_eq_true, Bool.or_eq_true, Bool.and_eq_false_iff, Bool.or_eq_false_iff, Bool.not_eq_true', Bool.not_eq_false', Bool.not_true, Bool.not_false, Int.not_lt, Int.not_le] at ph2
      refine W.skip ?_
      refine N.thenW ?_
      refine W.seq ?_
      refine W.block ?_
      refine W.seq ?_
      apply W.any 9 mixed (by kernel_rfl)
      · apply Head.one rfl rfl (GSpec.plain rfl (spec_move rfl (Get.tmp rfl)))
        apply Head.one rfl rfl (GSpec.plain rfl (spec_move rfl (Get.tmp rfl)))
        apply Head.one rfl rfl (GSpec.plain rfl (spec_indexAddrD (E := eI) rfl Tryd.underlying47 Tryd.sizeOf3 (fun _ => rfl) (Get.tmp rfl) (Get.tmp rfl) (by omega)))
        apply Head.one rfl rfl (GSpec.plain rfl (spec_loadP1 rfl Tryd.isAgg3 (Get.tmp rfl)))
        apply Head.one rfl rfl (GSpec.plain rfl (spec_move rfl (Get.tmp rfl)))
        apply Head.one rfl rfl (GSpec.plain rfl (spec_move rfl (Get.tmp rfl)))
        apply Head.one rfl rfl (GSpec.plain rfl (spec_indexAddrD (E := eI) rfl Tryd.underlying47 Tryd.sizeOf3 (fun _ => rfl) (Get.tmp rfl) (Get.tmp rfl) (by omega)))
        apply Head.one rfl rfl (GSpec.plain rfl (spec_loadP1 rfl Tryd.isAgg3 (Get.tmp rfl)))
        apply Head.one rfl rfl (GSpec.plain rfl (spec_neq rfl (Get.tmp rfl) (Get.tmp rfl)))
        exact Head.nil
      refine Fin.one ?_
      refine Fin.one ?_
      refine Fin.one ?_
      refine Fin.one ?_
      refine Fin.one ?_
      refine Fin.one ?_
      refine Fin.one ?_
      refine Fin.one ?_
      refine Fin.one ?_
      refine Fin.nil ?_
      refine L.nil ?_
      refine N.thenW ?_
      refine W.cond (Get.tmp rfl) (fun h3 => ?_) (fun h3 => ?_)
      · have ph3 := h3; try simp only [decide_eq_true_eq, decide_eq_false_iff_not, Bool.and_eq_true, Bool.or_eq_true, Bool.and_eq_false_iff, Bool.or_eq_false_iff, Bool.not_eq_true', Bool.not_eq_false', Bool.not_true, Bool.not_false, Int.not_lt, Int.not_le] at ph3
        refine W.seq ?_
        apply W.any 10 mixed (by kernel_rfl)
        · apply Head.one rfl rfl (GSpec.plain rfl (spec_move rfl (Get.tmp rfl)))
          apply Head.one rfl rfl (GSpec.plain rfl (spec_move rfl (Get.tmp rfl)))
          apply Head.one rfl rfl (GSpec.plain rfl (spec_indexAddrD (E := eI) rfl Tryd.underlying47 Tryd.sizeOf3 (fun _ => rfl) (Get.tmp rfl) (Get.tmp rfl) (by omega)))
          apply Head.one rfl rfl (GSpec.plain rfl (spec_loadP1 rfl Tryd.isAgg3 (Get.tmp rfl)))
          apply Head.one rfl rfl (GSpec.plain rfl (spec_move rfl (Get.tmp rfl)))
          apply Head.one rfl rfl (GSpec.plain rfl (spec_move rfl (Get.tmp rfl)))
          apply Head.one rfl rfl (GSpec.plain rfl (spec_indexAddrD (E := eI) rfl Tryd.underlying47 Tryd.sizeOf3 (fun _ => rfl) (Get.tmp rfl) (Get.tmp rfl) (by omega)))
          apply Head.one rfl rfl (GSpec.plain rfl (spec_loadP1 rfl Tryd.isAgg3 (Get.tmp rfl)))
          apply Head.one rfl rfl (GSpec.plain rfl (spec_lss rfl (Get.tmp rfl) (Get.tmp rfl)))
          apply Head.one rfl rfl (GSpec.plain rfl (spec_assign rfl (Get.tmp rfl)))
          exact Head.nil
        refine Fin.one ?_
        refine Fin.one ?_
        refine Fin.one ?_
        refine Fin.one ?_
        refine Fin.one ?_
        refine Fin.one ?_
        refine Fin.one ?_
        refine Fin.one ?_
        refine Fin.one ?_
        refine Fin.one ?_
        refine Fin.nil ?_
        refine L.nil ?_
        refine N.thenW ?_
        refine W.ret ?_
        refine N.ret () rfl (.tmp (t := 4) (Get.tmp rfl) .nil) (res1 (eqB ?_)) .nil (fun _ _ h => h)
        exact (less_at q0 hI2 ph2.1 ph2.2 (by simpa using h3)).symm
      · have ph3 := h3; try simp only [decide_eq_true_eq, decide_eq_false_iff_not, Bool.and_eq_true, Bool.or_eq_true, Bool.and_eq_false_iff, Bool.or_eq_false_iff, Bool.not_eq_true', Bool.not_eq_false', Bool.not_true, Bool.not_false, Int.not_lt, Int.not_le] at ph3
        refine W.skip ?_
        refine N.blockNormal ?_
        refine N.thenW ?_
        refine W.region ?_
        refine L.op1 rfl rfl (GSpec.plain rfl (spec_move rfl (Get.tmp rfl))) ?_
        first | refine L.op1 rfl rfl (GSpec.plain rfl (fit_i64 (by omega) (by omega) (spec_add rfl (Get.tmp rfl) (Get.cint rfl)))) ?_ | refine L.op1 rfl rfl (GSpec.plain rfl (spec_add rfl (Get.tmp rfl) (Get.cint rfl))) ?_
        refine L.op1 rfl rfl (GSpec.plain rfl (spec_assign rfl (Get.tmp rfl))) ?_
        refine L.nil ?_
        refine N.roundK (i + 1) ?hI1 ?hmu1 ?hs1 ?hk1 ?hp1
        case hs1 => exact (.cons (t := 9) rfl .nil)
        case hk1 => exact (.cons (t := 5) rfl (.cons (t := 7) rfl .nil))
        case hp1 => exact .nil
        case hI1 => exact ⟨by omega, upto hI2 ⟨by omega, by simpa using h3⟩⟩
        case hmu1 => omega
    · have ph2 := h2; try simp only [decide_eq_true_eq, decide_eq_false_iff_not, Bool.and_eq_true, Bool.or_eq_true, Bool.and_eq_false_iff, Bool.or_eq_false_iff, Bool.not_eq_true', Bool.not_eq_false', Bool.not_true, Bool.not_false, Int.not_lt, Int.not_le] at ph2
      refine W.exit ?_
      refine N.thenExit ?_
      refine N.thenExit ?_
      refine N.blockExit ?_
      refine N.thenW ?_
      refine W.keep (.cons (t := 5) rfl (.cons (t := 7) rfl .nil)) .refl ?_
      refine W.seq ?_
      refine W.region ?_
      refine L.op1 rfl rfl (GSpec.plain rfl (spec_move rfl (Get.tmp rfl))) ?_
      refine L.op1 rfl rfl (GSpec.plain rfl (spec_len rfl Tryd.underlying47 (Get.tmp rfl))) ?_
      refine L.op1 rfl rfl (GSpec.plain rfl (spec_move rfl (Get.tmp rfl))) ?_
      refine L.op1 rfl rfl (GSpec.plain rfl (spec_len rfl Tryd.underlying47 (Get.tmp rfl))) ?_
      refine L.op1 rfl rfl (GSpec.plain rfl (spec_lss rfl (Get.tmp rfl) (Get.tmp rfl))) ?_
      refine L.op1 rfl rfl (GSpec.plain rfl (spec_assign rfl (Get.tmp rfl))) ?_
      refine L.nil ?_
      refine N.thenW ?_
      refine W.keep (.cons (t := 4) rfl .nil) .refl ?_
      refine W.ret ?_
      refine N.ret () rfl (.tmp (t := 4) (Get.tmp rfl) .nil) (res1 (eqB ?_)) .nil (fun _ _ h => h)
      exact (less_end q0 hI2 (by omega) (by have h := h2; simp only [decide_eq_true_eq, decide_eq_false_iff_not, Bool.and_eq_true, Bool.or_eq_true, Bool.and_eq_false_iff, Bool.or_eq_false_iff, Bool.not_eq_true', Bool.not_eq_false', Bool.not_true, Bool.not_false, Int.not_lt, Int.not_le] at h; omega)).symm

theorem rabove_ok (a b : List UInt8) (ha : a.length ≤ 1048576) (hb : b.length ≤ 1048576) : CallT Tryd.prog 22 [Rp.str a, Rp.str b] [] (.one (Rp.bool (aboveQ (numsR a) (numsR b)))) := by
  refine W.enter (fn := Tryd.f22) (n := 38) Tryd.func22 rfl Tryd.ntmps22 rfl (fun w₀ C₀ => ?_)
  simp only [argS]
  refine W.seq ?_
  refine W.region ?_
  refine L.op1 rfl rfl (GSpec.plain rfl (spec_assign rfl Get.cbool)) ?_
  refine L.nil ?_
  refine N.thenW ?_
  refine W.seq ?_
  refine W.region ?_
  refine L.op1 rfl rfl (GSpec.plain rfl (spec_move rfl (Get.tmp rfl))) ?_
  refine L.op1 rfl rfl (GSpec.plain rfl (spec_call rfl Tryd.call29 (rnumbers_ok _ (by omega)) (.cons (Get.tmp rfl) .nil))) ?_
  refine L.op1 rfl rfl (GSpec.plain rfl (spec_move rfl (Get.tmp rfl))) ?_
  refine L.op1 rfl rfl (GSpec.plain rfl (spec_extract rfl (Get.tmp rfl) rfl)) ?_
  refine L.op1 rfl rfl (GSpec.plain rfl (spec_extract rfl (Get.tmp rfl) rfl)) ?_
  refine L.op1 rfl rfl (GSpec.plain rfl (spec_assign rfl (Get.tmp rfl))) ?_
  refine L.op1 rfl rfl (GSpec.plain rfl (spec_assign rfl (Get.tmp rfl))) ?_
  refine L.nil ?_
  refine N.thenW ?_
  refine W.seq ?_
  refine W.region ?_
  refine L.op1 rfl rfl (GSpec.plain rfl (spec_move rfl (Get.tmp rfl))) ?_
  refine L.op1 rfl rfl (GSpec.plain rfl (spec_call rfl Tryd.call29 (rnumbers_ok _ (by omega)) (.cons (Get.tmp rfl) .nil))) ?_
  refine L.op1 rfl rfl (GSpec.plain rfl (spec_move rfl (Get.tmp rfl))) ?_
  refine L.op1 rfl rfl (GSpec.plain rfl (spec_extract rfl (Get.tmp rfl) rfl)) ?_
  refine L.op1 rfl rfl (GSpec.plain rfl (spec_extract rfl (Get.tmp rfl) rfl)) ?_
  refine L.op1 rfl rfl (GSpec.plain rfl (spec_assign rfl (Get.tmp rfl))) ?_
  refine L.op1 rfl rfl (GSpec.plain rfl (spec_assign rfl (Get.tmp rfl))) ?_
  refine L.nil ?_
  refine N.thenW ?_
  refine W.keep (.cons (t := 4) rfl (.cons (t := 5) rfl (.cons (t := 6) rfl (.cons (t := 7) rfl (.cons (t := 8) rfl .nil))))) .refl ?_
  refine W.seq ?_
  refine W.seq ?_
  refine W.region ?_
  refine L.op1 rfl rfl (GSpec.plain rfl (spec_move rfl (Get.tmp rfl))) ?_
  refine L.op1 rfl rfl (GSpec.plain rfl (spec_not rfl (Get.tmp rfl))) ?_
  refine L.op1 rfl rfl (GSpec.plain rfl (spec_move rfl (Get.tmp rfl))) ?_
  refine L.op1 rfl rfl (GSpec.guard rfl rfl rfl fun hg => (spec_move rfl (Get.tmp rfl))) ?_
  refine L.op1 rfl rfl (GSpec.guard rfl rfl rfl fun hg => (spec_not rfl (Get.opt rfl hg))) ?_
  refine L.op1 rfl rfl (GSpec.plain rfl (spec_or rfl (Get.tmp rfl) (fun hb => (Get.opt rfl hb)))) ?_
  refine L.op1 rfl rfl (GSpec.plain rfl (spec_move rfl (Get.tmp rfl))) ?_
  refine L.op1 rfl rfl (GSpec.guard rfl rfl rfl fun hg => (spec_move rfl (Get.tmp rfl))) ?_
  refine L.op1 rfl rfl (GSpec.guard rfl rfl rfl fun hg => (spec_len rfl Tryd.underlying47 (Get.opt rfl hg))) ?_
  refine L.op1 rfl rfl (GSpec.guard rfl rfl rfl fun hg => (spec_move rfl (Get.tmp rfl))) ?_
  refine L.op1 rfl rfl (GSpec.guard rfl rfl rfl fun hg => (spec_len rfl Tryd.underlying47 (Get.opt rfl hg))) ?_
  refine L.op1 rfl rfl (GSpec.guard rfl rfl rfl fun hg => (spec_geq rfl (Get.opt rfl hg) (Get.opt rfl hg))) ?_
  refine L.op1 rfl rfl (GSpec.plain rfl (spec_or rfl (Get.tmp rfl) (fun hb => (Get.opt rfl hb)))) ?_
  refine L.nil ?_
  refine N.thenW ?_
  refine W.keep (.cons (t := 4) rfl (.cons (t := 5) rfl (.cons (t := 7) rfl (.cons (t := 31) rfl .nil)))) .refl ?_
  refine W.cond (Get.tmp rfl) (fun h1 => ?_) (fun h1 => ?_)
  · have q0 : ((numsR a).2 = false ∨ (numsR b).2 = false) ∨ ((numsR b).1.length : Int) ≤ (numsR a).1.length := by have h := h1; simpa using h
    refine W.seq ?_
    refine W.region ?_
    refine L.op1 rfl rfl (GSpec.plain rfl (spec_assign rfl Get.cbool)) ?_
    refine L.nil ?_
    refine N.thenW ?_
    refine W.ret ?_
    refine N.ret () rfl (.tmp (t := 4) (Get.tmp rfl) .nil) (res1 (eqB ?_)) .nil (fun _ _ h => h)
    exact (above_no q0).symm
  · have q0 : ((numsR a).2 = true ∧ (numsR b).2 = true) ∧ ((numsR a).1.length : Int) < (numsR b).1.length := by have h := h1; simpa using h
    refine W.skip ?_
    refine N.thenW ?_
    refine W.seq ?_
    refine W.region ?_
    refine L.op1 rfl rfl (GSpec.plain rfl (spec_move rfl (Get.tmp rfl))) ?_
    refine L.op1 rfl rfl (GSpec.plain rfl (spec_move rfl (Get.tmp rfl))) ?_
    refine L.op1 rfl rfl (GSpec.plain rfl (spec_move rfl (Get.tmp rfl))) ?_
    refine L.op1 rfl rfl (GSpec.plain rfl (spec_len rfl Tryd.underlying47 (Get.tmp rfl))) ?_
    refine L.op1 rfl rfl (GSpec.plain rfl (spec_slice (E := eI) rfl Tryd.underlying47 Tryd.sizeOf3 (fun _ => rfl) (Get.tmp rfl) .none (.some (Get.tmp rfl) (by omega)) (by omega))) ?_
    refine L.op1 rfl rfl (GSpec.plain rfl (spec_call rfl Tryd.call36 (same_ok _ _) (.cons (Get.tmp rfl) (.cons (Get.tmp rfl) .nil)))) ?_
    refine L.op1 rfl rfl (GSpec.plain rfl (spec_assign rfl (Get.tmp rfl))) ?_
    refine L.nil ?_
    refine N.thenW ?_
    refine W.keep (.cons (t := 4) rfl .nil) .refl ?_
    refine W.ret ?_
    refine N.ret () rfl (.tmp (t := 4) (Get.tmp rfl) .nil) (res1 (eqB ?_)) .nil (fun _ _ h => h)
    exact (above_yes q0).symm

theorem stream_ok (x : B64) (s : List UInt8) (hs : s.length ≤ 1048576) : CallT Tryd.prog 23 [Rp.int .u64 (U x), Rp.str s] [tabG] (.one (Rp.tuple [Rp.agg (eRn (streamQ x (numsP s)).1), Rp.int .i64 (streamQ x (numsP s)).2])) := by
  refine W.enter (fn := Tryd.f23) (n := 33) Tryd.func23 rfl Tryd.ntmps23 rfl (fun w₀ C₀ => ?_)
  simp only [argS]
  have hq := okP s
  refine W.seq ?_
  refine W.region ?_
  refine L.box rfl rfl (GSpec.plain rfl (spec_alloc rfl ti34 z34)) (fun r4 => ?_)
  refine L.op1 rfl rfl (GSpec.plain rfl (spec_assign rfl (Get.cint rfl))) ?_
  refine L.nil ?_
  refine N.thenW ?_
  refine W.seq ?_
  refine W.region ?_
  refine L.op1 rfl rfl (GSpec.plain rfl (spec_move rfl (Get.tmp rfl))) ?_
  refine L.op1 rfl rfl (GSpec.plain rfl (spec_call rfl Tryd.call28 (numbers_ok _ (by omega)) (.cons (Get.tmp rfl) .nil))) ?_
  refine L.op1 rfl rfl (GSpec.plain rfl (spec_move rfl (Get.tmp rfl))) ?_
  refine L.op1 rfl rfl (GSpec.plain rfl (spec_extract rfl (Get.tmp rfl) rfl)) ?_
  refine L.op1 rfl rfl (GSpec.plain rfl (spec_extract rfl (Get.tmp rfl) rfl)) ?_
  refine L.op1 rfl rfl (GSpec.plain rfl (spec_assign rfl (Get.tmp rfl))) ?_
  refine L.op1 rfl rfl (GSpec.plain rfl (spec_assign rfl (Get.tmp rfl))) ?_
  refine L.nil ?_
  refine N.thenW ?_
  refine W.seq ?_
  refine W.seq ?_
  refine W.region ?_
  refine L.op1 rfl rfl (GSpec.plain rfl (spec_move rfl (Get.tmp rfl))) ?_
  refine L.op1 rfl rfl (GSpec.plain rfl (spec_not rfl (Get.tmp rfl))) ?_
  refine L.nil ?_
  refine N.thenW ?_
  refine W.keep (.cons (t := 0) rfl (.cons (t := 4) rfl (.cons (t := 5) rfl (.cons (t := 6) rfl (.cons (t := 17) rfl .nil))))) .refl ?_
  refine W.cond (Get.tmp rfl) (fun h1 => ?_) (fun h1 => ?_)
  · have ph1 := h1; try simp only [decide_eq_true_eq, decide_eq_false_iff_not, Bool.and_eq_true, Bool.or_eq_true, Bool.and_eq_false_iff, Bool.or_eq_false_iff, Bool.not_eq_true', Bool.not_eq_false', Bool.not_true, Bool.not_false, Int.not_lt, Int.not_le] at ph1
    refine W.seq ?_
    refine W.region ?_
    refine L.op1 rfl rfl (GSpec.plain rfl (spec_build (Rs := [Rp.int .u64 0, Rp.int .u64 0]) rfl ti34 z34 Tryd.underlying34 pl34 .nil)) ?_
    refine L.storeW (k := 0) rfl rfl rfl Tryd.sizeOf34 (Get.tmp rfl) (Get.tmp rfl) rfl rfl rfl ?_
    refine L.op1 rfl rfl (GSpec.plain rfl (spec_assign rfl (Get.cint rfl))) ?_
    refine L.nil ?_
    refine N.thenW ?_
    refine W.ret ?_
    refine N.ret () rfl (.cellA (k := 0) (Get.tmp (t := 4) rfl) rfl Tryd.isAgg34 Tryd.sizeOf34 rfl (.tmp (t := 5) (Get.tmp rfl) .nil)) (res2w (eqA ?_) (eqI ?_)) .nil (fun _ _ h => h)
    rw [stream_no ph1]; exact zeroR_eq.symm
    rw [stream_no ph1]
  · have ph1 := h1; simp only [decide_eq_true_eq, decide_eq_false_iff_not, Bool.and_eq_true, Bool.or_eq_true, Bool.and_eq_false_iff, Bool.or_eq_false_iff, Bool.not_eq_true', Bool.not_eq_false', Bool.not_true, Bool.not_false, Int.not_lt, Int.not_le] at ph1
    have hl16 := hq.2 ph1
    refine W.skip ?_
    refine N.thenW ?_
    refine W.seq ?_
    refine W.region ?_
    refine L.op1 rfl rfl (GSpec.plain rfl (spec_move rfl (Get.tmp rfl))) ?_
    refine L.op1 rfl rfl (GSpec.plain rfl (spec_call rfl Tryd.call37 (new_ok _) (.cons (Get.tmp rfl) .nil))) ?_
    refine L.box rfl rfl (GSpec.plain rfl (spec_alloc rfl ti34 z34)) (fun r8 => ?_)
    refine L.storeW (k := 0) rfl rfl rfl Tryd.sizeOf34 (Get.tmp rfl) (Get.tmp rfl) rfl rfl rfl ?_
    refine L.nil ?_
    refine N.thenW ?_
    refine W.seq ?_
    refine W.seq ?_
    refine W.region ?_
    refine L.op1 rfl rfl (GSpec.plain rfl (spec_move rfl (Get.tmp rfl))) ?_
    refine L.op1 rfl rfl (GSpec.plain rfl (spec_len rfl Tryd.underlying47 (Get.tmp rfl))) ?_
    refine L.op1 rfl rfl (GSpec.plain rfl (spec_move rfl (Get.cint rfl))) ?_
    refine L.nil ?_
    refine N.thenW ?_
    refine W.block ?_
    refine W.loopK (σ := Nat) (.cons (t := 4) rfl (.cons (t := 5) rfl (.cons (t := 8) rfl (.cons (t := 21) rfl (.cons (t := 22) rfl .nil))))) (fun z => [(23, Rp.int .i64 (z : Nat))]) (fun z => [MF.box r8 34 (eRn (foldR x ((numsP s).1.take z)))]) (fun z => z ≤ (numsP s).1.length) (fun z => (numsP s).1.length - z) 0 (Nat.zero_le _) (.cons (t := 23) rfl .nil) (.cons 0 rfl (.cons 0 rfl (.cons 0 rfl .nil))) ?_
    intro i hI S' M' hS hM
    try dsimp only at hS hM
    simp only [List.cons_append, List.nil_append] at hS hM
    subst hS hM
    try dsimp only
    refine W.seq ?_
    refine W.region ?_
    refine L.op1 rfl rfl (GSpec.plain rfl (spec_lss rfl (Get.tmp rfl) (Get.tmp rfl))) ?_
    refine L.nil ?_
    refine N.thenW ?_
    refine W.seq ?_
    refine W.cond (Get.tmp rfl) (fun h2 => ?_) (fun h2 => ?_)
    · have ph2 := h2; try simp only [decide_eq_true_eq, decide_eq_false_iff_not, Bool.and_eq_true, Bool.or_eq_true, Bool.and_eq_false_iff, Bool.or_eq_false_iff, Bool.not_eq_true', Bool.not_eq_false', Bool.not_true, Bool.not_false, Int.not_lt, Int.not_le] at ph2
      refine W.skip ?_
      refine N.thenW ?_
      refine W.seq ?_
      refine W.block ?_
      refine W.seq ?_
      refine W.region ?_
      refine L.op1 rfl rfl (GSpec.plain rfl (spec_indexAddrD (E := eI) rfl Tryd.underlying47 Tryd.sizeOf3 (fun _ => rfl) (Get.tmp rfl) (Get.tmp rfl) (by omega))) ?_
      refine L.op1 rfl rfl (GSpec.plain rfl (spec_loadP1 rfl Tryd.isAgg3 (Get.tmp rfl))) ?_
      refine L.op1 rfl rfl (GSpec.plain rfl (spec_assign rfl (Get.tmp rfl))) ?_
      refine L.nil ?_
      refine N.thenW ?_
      apply W.any 4 mixed (by kernel_rfl)
      · apply Head.one rfl rfl (GSpec.plain rfl (spec_loadW (k := 0) rfl Tryd.isAgg34 Tryd.sizeOf34 (Get.tmp rfl) rfl rfl))
        apply Head.one rfl rfl (GSpec.plain rfl (spec_move rfl (Get.tmp rfl)))
        apply Head.one rfl rfl (GSpec.plain rfl (spec_callG0 (k := 2) rfl Tryd.call39 rfl rfl (format_ok _ (hq.1 _ (getD_mem' (by omega)))) (.cons (Get.tmp rfl) .nil)))
        apply Head.one rfl rfl (GSpec.plain rfl (spec_call rfl Tryd.call38 (child_ok _ _) (.cons (Get.tmp rfl) (.cons (Get.tmp rfl) .nil))))
        exact Head.nil
      refine Fin.one ?_
      refine Fin.one ?_
      refine Fin.one ?_
      refine Fin.one ?_
      refine Fin.nil ?_
      refine L.storeW (k := 0) rfl rfl rfl Tryd.sizeOf34 (Get.tmp rfl) (Get.tmp rfl) rfl rfl rfl ?_
      refine L.nil ?_
      refine N.blockNormal ?_
      refine N.thenW ?_
      refine W.region ?_
      first | refine L.op1 rfl rfl (GSpec.plain rfl (fit_i64 (by omega) (by omega) (spec_add rfl (Get.tmp rfl) (Get.cint rfl)))) ?_ | refine L.op1 rfl rfl (GSpec.plain rfl (spec_add rfl (Get.tmp rfl) (Get.cint rfl))) ?_
      refine L.op1 rfl rfl (GSpec.plain rfl (spec_move rfl (Get.tmp rfl))) ?_
      refine L.nil ?_
      refine N.roundK (i + 1) ?hI2 ?hmu2 ?hs2 ?hk2 ?hp2
      case hs2 => exact (.cons (t := 23) rfl .nil)
      case hk2 => exact (.cons (t := 4) rfl (.cons (t := 5) rfl (.cons (t := 8) rfl (.cons (t := 21) rfl (.cons (t := 22) rfl .nil)))))
      case hp2 => rw [fold_step x (show i < (numsP s).1.length by omega)]; exact (.cons 0 rfl (.cons 0 rfl (.cons 0 rfl .nil)))
      all_goals (first | rfl | trivial | omega | (simp_all; done))
    · have ph2 := h2; try simp only [decide_eq_true_eq, decide_eq_false_iff_not, Bool.and_eq_true, Bool.or_eq_true, Bool.and_eq_false_iff, Bool.or_eq_false_iff, Bool.not_eq_true', Bool.not_eq_false', Bool.not_true, Bool.not_false, Int.not_lt, Int.not_le] at ph2
      refine W.exit ?_
      refine N.thenExit ?_
      refine N.thenExit ?_
      refine N.blockExit ?_
      refine N.thenW ?_
      refine W.seq ?_
      refine W.region ?_
      refine L.op1 rfl rfl (GSpec.plain rfl (spec_loadW (k := 0) rfl Tryd.isAgg34 Tryd.sizeOf34 (Get.tmp rfl) rfl rfl)) ?_
      refine L.storeW (k := 1) rfl rfl rfl Tryd.sizeOf34 (Get.tmp rfl) (Get.tmp rfl) rfl rfl rfl ?_
      refine L.op1 rfl rfl (GSpec.plain rfl (spec_assign rfl (Get.cint rfl))) ?_
      refine L.nil ?_
      refine N.thenW ?_
      refine W.keep (.cons (t := 4) rfl (.cons (t := 5) rfl .nil)) .refl ?_
      refine W.ret ?_
      refine N.ret () rfl (.cellA (k := 1) (Get.tmp (t := 4) rfl) rfl Tryd.isAgg34 Tryd.sizeOf34 rfl (.tmp (t := 5) (Get.tmp rfl) .nil)) (res2w (eqA ?_) (eqI ?_)) .nil (fun _ _ h => h)
      rw [stream_yes ph1, show i = (numsP s).1.length by omega, List.take_length]
      rw [stream_yes ph1]

theorem rstream_ok (x : B64) (s : List UInt8) (hs : s.length ≤ 1048576) : CallT Tryd.prog 24 [Rp.int .u64 (U x), Rp.str s] [] (.one (Rp.tuple [Rp.agg (eRn (streamQ x (numsR s)).1), Rp.int .i64 (streamQ x (numsR s)).2])) := by
  refine W.enter (fn := Tryd.f24) (n := 35) Tryd.func24 rfl Tryd.ntmps24 rfl (fun w₀ C₀ => ?_)
  simp only [argS]
  have hq := okR s
  refine W.seq ?_
  refine W.region ?_
  refine L.box rfl rfl (GSpec.plain rfl (spec_alloc rfl ti34 z34)) (fun r4 => ?_)
  refine L.op1 rfl rfl (GSpec.plain rfl (spec_assign rfl (Get.cint rfl))) ?_
  refine L.nil ?_
  refine N.thenW ?_
  refine W.seq ?_
  refine W.region ?_
  refine L.op1 rfl rfl (GSpec.plain rfl (spec_move rfl (Get.tmp rfl))) ?_
  refine L.op1 rfl rfl (GSpec.plain rfl (spec_call rfl Tryd.call29 (rnumbers_ok _ (by omega)) (.cons (Get.tmp rfl) .nil))) ?_
  refine L.op1 rfl rfl (GSpec.plain rfl (spec_move rfl (Get.tmp rfl))) ?_
  refine L.op1 rfl rfl (GSpec.plain rfl (spec_extract rfl (Get.tmp rfl) rfl)) ?_
  refine L.op1 rfl rfl (GSpec.plain rfl (spec_extract rfl (Get.tmp rfl) rfl)) ?_
  refine L.op1 rfl rfl (GSpec.plain rfl (spec_assign rfl (Get.tmp rfl))) ?_
  refine L.op1 rfl rfl (GSpec.plain rfl (spec_assign rfl (Get.tmp rfl))) ?_
  refine L.nil ?_
  refine N.thenW ?_
  refine W.keep (.cons (t := 0) rfl (.cons (t := 4) rfl (.cons (t := 5) rfl (.cons (t := 6) rfl (.cons (t := 7) rfl .nil))))) .refl ?_
  refine W.seq ?_
  refine W.seq ?_
  refine W.region ?_
  refine L.op1 rfl rfl (GSpec.plain rfl (spec_move rfl (Get.tmp rfl))) ?_
  refine L.op1 rfl rfl (GSpec.plain rfl (spec_not rfl (Get.tmp rfl))) ?_
  refine L.nil ?_
  refine N.thenW ?_
  refine W.cond (Get.tmp rfl) (fun h1 => ?_) (fun h1 => ?_)
  · have ph1 := h1; try simp only [decide_eq_true_eq, decide_eq_false_iff_not, Bool.and_eq_true, Bool.or_eq_true, Bool.and_eq_false_iff, Bool.or_eq_false_iff, Bool.not_eq_true', Bool.not_eq_false', Bool.not_true, Bool.not_false, Int.not_lt, Int.not_le] at ph1
    refine W.seq ?_
    refine W.region ?_
    refine L.op1 rfl rfl (GSpec.plain rfl (spec_build (Rs := [Rp.int .u64 0, Rp.int .u64 0]) rfl ti34 z34 Tryd.underlying34 pl34 .nil)) ?_
    refine L.storeW (k := 0) rfl rfl rfl Tryd.sizeOf34 (Get.tmp rfl) (Get.tmp rfl) rfl rfl rfl ?_
    refine L.op1 rfl rfl (GSpec.plain rfl (spec_assign rfl (Get.cint rfl))) ?_
    refine L.nil ?_
    refine N.thenW ?_
    refine W.ret ?_
    refine N.ret () rfl (.cellA (k := 0) (Get.tmp (t := 4) rfl) rfl Tryd.isAgg34 Tryd.sizeOf34 rfl (.tmp (t := 5) (Get.tmp rfl) .nil)) (res2w (eqA ?_) (eqI ?_)) .nil (fun _ _ h => h)
    rw [stream_no ph1]; exact zeroR_eq.symm
    rw [stream_no ph1]
  · have ph1 := h1; simp only [decide_eq_true_eq, decide_eq_false_iff_not, Bool.and_eq_true, Bool.or_eq_true, Bool.and_eq_false_iff, Bool.or_eq_false_iff, Bool.not_eq_true', Bool.not_eq_false', Bool.not_true, Bool.not_false, Int.not_lt, Int.not_le] at ph1
    have hl16 := hq.2 ph1
    refine W.skip ?_
    refine N.thenW ?_
    refine W.seq ?_
    refine W.region ?_
    refine L.op1 rfl rfl (GSpec.plain rfl (spec_move rfl (Get.tmp rfl))) ?_
    refine L.op1 rfl rfl (GSpec.plain rfl (spec_call rfl Tryd.call30 (rnew_ok _) (.cons (Get.tmp rfl) .nil))) ?_
    refine L.box rfl rfl (GSpec.plain rfl (spec_alloc rfl ti34 z34)) (fun r8 => ?_)
    refine L.storeW (k := 0) rfl rfl rfl Tryd.sizeOf34 (Get.tmp rfl) (Get.tmp rfl) rfl rfl rfl ?_
    refine L.nil ?_
    refine N.thenW ?_
    refine W.keep (.cons (t := 4) rfl (.cons (t := 5) rfl (.cons (t := 6) rfl (.cons (t := 8) rfl .nil)))) .refl ?_
    refine W.seq ?_
    refine W.seq ?_
    refine W.region ?_
    refine L.op1 rfl rfl (GSpec.plain rfl (spec_assign rfl (Get.cint rfl))) ?_
    refine L.nil ?_
    refine N.thenW ?_
    refine W.block ?_
    refine W.loopK (σ := Nat) (.cons (t := 4) rfl (.cons (t := 5) rfl (.cons (t := 6) rfl (.cons (t := 8) rfl .nil)))) (fun z => [(9, Rp.int .i64 (z : Nat))]) (fun z => [MF.box r8 34 (eRn (foldR x ((numsR s).1.take z)))]) (fun z => z ≤ (numsR s).1.length) (fun z => (numsR s).1.length - z) 0 (Nat.zero_le _) (.cons (t := 9) rfl .nil) (.cons 0 rfl (.cons 0 rfl .nil)) ?_
    intro i hI S' M' hS hM
    try dsimp only at hS hM
    simp only [List.cons_append, List.nil_append] at hS hM
    subst hS hM
    try dsimp only
    refine W.seq ?_
    refine W.seq ?_
    refine W.region ?_
    refine L.op1 rfl rfl (GSpec.plain rfl (spec_move rfl (Get.tmp rfl))) ?_
    refine L.op1 rfl rfl (GSpec.plain rfl (spec_move rfl (Get.tmp rfl))) ?_
    refine L.op1 rfl rfl (GSpec.plain rfl (spec_len rfl Tryd.underlying47 (Get.tmp rfl))) ?_
    refine L.op1 rfl rfl (GSpec.plain rfl (spec_lss rfl (Get.tmp rfl) (Get.tmp rfl))) ?_
    refine L.nil ?_
    refine N.thenW ?_
    refine W.cond (Get.tmp rfl) (fun h2 => ?_) (fun h2 => ?_)
    · have ph2 := h2; try simp only [decide_eq_true_eq, decide_eq_false_iff_not, Bool.and_eq_true, Bool.or_eq_true, Bool.and_eq_false_iff, Bool.or_eq_false_iff, Bool.not_eq_true', Bool.not_eq_false', Bool.not_true, Bool.not_false, Int.not_lt, Int.not_le] at ph2
      refine W.skip ?_
      refine N.thenW ?_
      refine W.seq ?_
      refine W.block ?_
      apply W.any 8 mixed (by kernel_rfl)
      · apply Head.one rfl rfl (GSpec.plain rfl (spec_loadW (k := 0) rfl Tryd.isAgg34 Tryd.sizeOf34 (Get.tmp rfl) rfl rfl))
        apply Head.one rfl rfl (GSpec.plain rfl (spec_move rfl (Get.tmp rfl)))
        apply Head.one rfl rfl (GSpec.plain rfl (spec_move rfl (Get.tmp rfl)))
        apply Head.one rfl rfl (GSpec.plain rfl (spec_move rfl (Get.tmp rfl)))
        first | apply Head.one rfl rfl (GSpec.plain rfl (fit_i64 (by omega) (by omega) (spec_add rfl (Get.tmp rfl) (Get.cint rfl)))) | apply Head.one rfl rfl (GSpec.plain rfl (spec_add rfl (Get.tmp rfl) (Get.cint rfl)))
        apply Head.one rfl rfl (GSpec.plain rfl (spec_slice (E := eI) rfl Tryd.underlying47 Tryd.sizeOf3 (fun _ => rfl) (Get.tmp rfl) (.some (Get.tmp rfl) (by omega)) (.some (Get.tmp rfl) (by omega)) (by omega)))
        apply Head.one rfl rfl (GSpec.plain rfl (spec_call rfl Tryd.call32 (text1_ok _ hq.1 i (by omega)) (.cons (Get.tmp rfl) .nil)))
        apply Head.one rfl rfl (GSpec.plain rfl (spec_call rfl Tryd.call26 (rchild_ok _ _) (.cons (Get.tmp rfl) (.cons (Get.tmp rfl) .nil))))
        exact Head.nil
      refine Fin.one ?_
      refine Fin.one ?_
      refine Fin.one ?_
      refine Fin.one ?_
      refine Fin.one ?_
      refine Fin.one ?_
      refine Fin.one ?_
      refine Fin.one ?_
      refine Fin.nil ?_
      refine L.storeW (k := 0) rfl rfl rfl Tryd.sizeOf34 (Get.tmp rfl) (Get.tmp rfl) rfl rfl rfl ?_
      refine L.nil ?_
      refine N.blockNormal ?_
      refine N.thenW ?_
      refine W.region ?_
      refine L.op1 rfl rfl (GSpec.plain rfl (spec_move rfl (Get.tmp rfl))) ?_
      first | refine L.op1 rfl rfl (GSpec.plain rfl (fit_i64 (by omega) (by omega) (spec_add rfl (Get.tmp rfl) (Get.cint rfl)))) ?_ | refine L.op1 rfl rfl (GSpec.plain rfl (spec_add rfl (Get.tmp rfl) (Get.cint rfl))) ?_
      refine L.op1 rfl rfl (GSpec.plain rfl (spec_assign rfl (Get.tmp rfl))) ?_
      refine L.nil ?_
      refine N.roundK (i + 1) ?hI3 ?hmu3 ?hs3 ?hk3 ?hp3
      case hs3 => exact (.cons (t := 9) rfl .nil)
      case hk3 => exact (.cons (t := 4) rfl (.cons (t := 5) rfl (.cons (t := 6) rfl (.cons (t := 8) rfl .nil))))
      case hp3 => rw [fold_step x (show i < (numsR s).1.length by omega)]; exact (.cons 0 rfl (.cons 0 rfl .nil))
      all_goals (first | rfl | trivial | omega | (simp_all; done))
    · have ph2 := h2; try simp only [decide_eq_true_eq, decide_eq_false_iff_not, Bool.and_eq_true, Bool.or_eq_true, Bool.and_eq_false_iff, Bool.or_eq_false_iff, Bool.not_eq_true', Bool.not_eq_false', Bool.not_true, Bool.not_false, Int.not_lt, Int.not_le] at ph2
      refine W.exit ?_
      refine N.thenExit ?_
      refine N.thenExit ?_
      refine N.blockExit ?_
      refine N.thenW ?_
      refine W.keep (.cons (t := 4) rfl (.cons (t := 5) rfl (.cons (t := 8) rfl .nil))) .refl ?_
      refine W.seq ?_
      refine W.region ?_
      refine L.op1 rfl rfl (GSpec.plain rfl (spec_loadW (k := 0) rfl Tryd.isAgg34 Tryd.sizeOf34 (Get.tmp rfl) rfl rfl)) ?_
      refine L.storeW (k := 1) rfl rfl rfl Tryd.sizeOf34 (Get.tmp rfl) (Get.tmp rfl) rfl rfl rfl ?_
      refine L.op1 rfl rfl (GSpec.plain rfl (spec_assign rfl (Get.cint rfl))) ?_
      refine L.nil ?_
      refine N.thenW ?_
      refine W.ret ?_
      refine N.ret () rfl (.cellA (k := 1) (Get.tmp (t := 4) rfl) rfl Tryd.isAgg34 Tryd.sizeOf34 rfl (.tmp (t := 5) (Get.tmp rfl) .nil)) (res2w (eqA ?_) (eqI ?_)) .nil (fun _ _ h => h)
      rw [stream_yes ph1, show i = (numsR s).1.length by omega, List.take_length]
      rw [stream_yes ph1]

end Go.Proofs.YteannfdcbblooaaDoor
