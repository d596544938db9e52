import Derived.Test.YtlbhpjigjehffaaDoorSdE
set_option linter.unusedSimpArgs false
set_option maxRecDepth 8000
set_option linter.unusedVariables false
namespace Go.Proofs.YtlbhpjigjehffaaDoor
open Go.Sim
theorem stable_ok (n : Nat) (c : Int → Int → Int) (v : Value) (xs : List Int) (hx : inR n xs) (h0 : 1 ≤ xs.length) (h19 : xs.length ≤ 19) : CallT Tryd.prog 47 [Rp.val v, Rp.int .i64 (xs.length : Nat), pC n c] [MF.osl v 3 1 eI xs] (ownX v (insD c 0 (xs.length - 1) xs)) := by
  refine W.enter (fn := Tryd.f47) (n := 63) Tryd.func47 rfl Tryd.ntmps47 rfl (fun w₀ C₀ => ?_)
  simp only [argS]
  refine W.seq ?_
  refine W.region ?_
  refine L.op1 rfl rfl (GSpec.plain rfl (spec_assign rfl (Get.cint rfl))) ?_
  refine L.nil ?_
  refine N.thenW ?_
  refine W.seq ?_
  refine W.region ?_
  refine L.op1 rfl rfl (GSpec.plain rfl (spec_move rfl (Get.tmp rfl))) ?_
  refine L.op1 rfl rfl (GSpec.plain rfl (spec_assign rfl (Get.cint rfl))) ?_
  refine L.op1 rfl rfl (GSpec.plain rfl (spec_assign rfl (Get.tmp rfl))) ?_
  refine L.nil ?_
  refine N.thenW ?_
  refine W.seq ?_
  refine W.block ?_
  refine W.loopK (σ := Unit) (.cons (t := 0) rfl (.cons (t := 1) rfl (.cons (t := 2) rfl (.cons (t := 6) rfl .nil)))) (fun z => [(7, Rp.int .i64 0), (8, Rp.int .i64 20)]) (fun z => []) (fun z => True) (fun z => 0) () trivial (.cons (t := 7) rfl (.cons (t := 8) rfl .nil)) (.cons 0 rfl .nil) ?_
  intro _ hI S' M' hS hM
  try dsimp only at hS hM
  simp only [List.cons_append, List.nil_append] at hS hM
  subst hS hM
  try dsimp only
  refine W.seq ?_
  refine W.seq ?_
  refine W.region ?_
  refine L.op1 rfl rfl (GSpec.plain rfl (spec_move rfl (Get.tmp rfl))) ?_
  refine L.op1 rfl rfl (GSpec.plain rfl (spec_move rfl (Get.tmp rfl))) ?_
  refine L.op1 rfl rfl (GSpec.plain rfl (spec_leq rfl (Get.tmp rfl) (Get.tmp rfl))) ?_
  refine L.nil ?_
  refine N.thenW ?_
  refine W.cond (Get.tmp rfl) (fun h1 => ?_) (fun h1 => ?_)
  · exfalso; have h := of_decide_eq_true h1; omega
  · have ph1 := h1; try simp only [decide_eq_true_eq, decide_eq_false_iff_not, Bool.and_eq_true, Bool.or_eq_true, Bool.and_eq_false_iff, Bool.or_eq_false_iff, Bool.not_eq_true', Bool.not_eq_false', Bool.not_true, Bool.not_false, Int.not_lt, Int.not_le] at ph1
    refine W.exit ?_
    refine N.thenExit ?_
    refine N.thenExit ?_
    refine N.blockExit ?_
    refine N.thenW ?_
    refine W.seq ?_
    refine W.region ?_
    refine L.op1 rfl rfl (GSpec.plain rfl (spec_move rfl (Get.tmp rfl))) ?_
    refine L.op1 rfl rfl (GSpec.plain rfl (spec_move rfl (Get.tmp rfl))) ?_
    refine L.op1 rfl rfl (GSpec.plain rfl (spec_move rfl (Get.tmp rfl))) ?_
    refine L.op1 rfl rfl (GSpec.plain rfl (spec_move rfl (Get.tmp rfl))) ?_
    refine L.call rfl rfl rfl rfl Tryd.call57 (insert0_ok _ _ _ _ (by assumption) (by omega) (by omega)) (.cons 0 rfl .refl) (.cons (Get.tmp rfl) (.cons (Get.tmp rfl) (.cons (Get.tmp rfl) (.cons (Get.tmp rfl) .nil)))) (fun _ => ?_)
    try dsimp only
    refine L.nil ?_
    refine N.thenW ?_
    refine W.keep (.cons (t := 0) rfl (.cons (t := 1) rfl (.cons (t := 2) rfl (.cons (t := 6) rfl (.cons (t := 7) rfl (.cons (t := 8) rfl .nil)))))) .refl ?_
    refine W.block ?_
    -- assigned in the loop, not kept: [7, 8]
    refine W.loopK (σ := Unit) (.cons (t := 0) rfl (.cons (t := 1) rfl (.cons (t := 2) rfl .nil))) (fun z => [(6, Rp.int .i64 20)]) (fun z => []) (fun z => True) (fun z => 0) () trivial (.cons (t := 6) rfl .nil) (.cons 0 rfl .nil) ?_
    intro _ hI S' M' hS hM
    try dsimp only at hS hM
    simp only [List.cons_append, List.nil_append] at hS hM
    subst hS hM
    try dsimp only
    refine W.seq ?_
    refine W.seq ?_
    refine W.region ?_
    refine L.op1 rfl rfl (GSpec.plain rfl (spec_move rfl (Get.tmp rfl))) ?_
    refine L.op1 rfl rfl (GSpec.plain rfl (spec_move rfl (Get.tmp rfl))) ?_
    refine L.op1 rfl rfl (GSpec.plain rfl (spec_lss rfl (Get.tmp rfl) (Get.tmp rfl))) ?_
    refine L.nil ?_
    refine N.thenW ?_
    refine W.cond (Get.tmp rfl) (fun h2 => ?_) (fun h2 => ?_)
    · exfalso; have h := of_decide_eq_true h2; omega
    · have ph2 := h2; try simp only [decide_eq_true_eq, decide_eq_false_iff_not, Bool.and_eq_true, Bool.or_eq_true, Bool.and_eq_false_iff, Bool.or_eq_false_iff, Bool.not_eq_true', Bool.not_eq_false', Bool.not_true, Bool.not_false, Int.not_lt, Int.not_le] at ph2
      refine W.exit ?_
      refine N.thenExit ?_
      refine N.thenExit ?_
      refine N.blockExit ?_
      refine N.ret () rfl .nil res0 (.cons 0 rfl .nil) (fun _ _ h => h)
      skip

theorem sortStable_ok (n : Nat) (c : Int → Int → Int) (v : Value) (xs : List Int) (hx : inR n xs) (h0 : 1 ≤ xs.length) (h19 : xs.length ≤ 19) : CallT Tryd.prog 28 [Rp.val v, pC n c] [MF.osl v 3 1 eI xs] (ownX v (insD c 0 (xs.length - 1) xs)) := by
  refine W.enter (fn := Tryd.f28) (n := 9) Tryd.func28 rfl Tryd.ntmps28 rfl (fun w₀ C₀ => ?_)
  simp only [argS]
  refine W.region ?_
  refine L.op1 rfl rfl (GSpec.plain rfl (spec_move rfl (Get.tmp rfl))) ?_
  refine L.op1 rfl rfl (GSpec.plain rfl (spec_move rfl (Get.tmp rfl))) ?_
  refine L.op1 rfl rfl (GSpec.plain rfl (spec_lenO (k := 0) rfl Tryd.underlying32 (Get.tmp rfl) rfl)) ?_
  refine L.op1 rfl rfl (GSpec.plain rfl (spec_move rfl (Get.tmp rfl))) ?_
  refine L.call rfl rfl rfl rfl Tryd.call47 (stable_ok _ _ _ _ (by assumption) (by omega) (by omega)) (.cons 0 rfl .refl) (.cons (Get.tmp rfl) (.cons (Get.tmp rfl) (.cons (Get.tmp rfl) .nil))) (fun _ => ?_)
  try dsimp only
  refine L.nil ?_
  refine N.ret () rfl .nil res0 (.cons 0 rfl .nil) (fun _ _ h => h)
  skip

theorem order_ok (l : List Jb) (h0 : 1 ≤ l.length) (h19 : l.length ≤ 19) : CallT Tryd.prog 16 [Rp.slice eJ l] [] (.one (Rp.slice eI (ordS l))) := by
  refine W.enter (fn := Tryd.f16) (n := 22) Tryd.func16 rfl Tryd.ntmps16 rfl (fun w₀ C₀ => ?_)
  simp only [argS]
  have hin := iota_in l.length
  have hil := iota_len l.length l.length
  have hz0 := iota_len l.length 0
  refine W.seq ?_
  refine W.region ?_
  refine L.box rfl rfl (GSpec.plain rfl (spec_box rfl (GetC.one (Get.tmp rfl)))) (fun r1 => ?_)
  refine L.op1 rfl rfl (GSpec.plain rfl (spec_assign rfl (Get.cnil (E := eI)))) ?_
  refine L.nil ?_
  refine N.thenW ?_
  refine W.keep (.cons (t := 1) rfl (.cons (t := 2) rfl .nil)) .refl ?_
  refine W.seq ?_
  refine W.region ?_
  refine L.op1 rfl rfl (GSpec.plain rfl (spec_load1 (k := 0) rfl Tryd.isAgg22 (Get.tmp rfl) rfl rfl)) ?_
  refine L.op1 rfl rfl (GSpec.plain rfl (spec_len rfl Tryd.underlying22 (Get.tmp rfl))) ?_
  refine L.op rfl rfl (GSpec.plain rfl (spec_makeSlice (z₀ := (0 : Int)) (E := eI) rfl Tryd.underlying32 ti3 z3 (fun _ => rfl) (Get.tmp rfl) (Get.tmp rfl) (by omega) (by omega) (by omega))) (fun v7 => ?_)
  refine L.op1 rfl rfl (GSpec.plain rfl (spec_assign rfl (Get.tmp rfl))) ?_
  refine L.nil ?_
  refine N.thenW ?_
  refine W.seq ?_
  refine W.seq ?_
  refine W.region ?_
  refine L.op1 rfl rfl (GSpec.plain rfl (spec_move rfl (Get.tmp rfl))) ?_
  refine L.op1 rfl rfl (GSpec.plain rfl (spec_lenO (k := 0) rfl Tryd.underlying32 (Get.tmp rfl) rfl)) ?_
  refine L.op1 rfl rfl (GSpec.plain rfl (spec_move rfl (Get.cint rfl))) ?_
  refine L.nil ?_
  refine N.thenW ?_
  rw [show List.replicate ((l.length : Nat) : Int).toNat (0 : Int) = iota l.length 0 by rw [iota_zero]; rfl]
  refine W.block ?_
  refine W.loopK (σ := Nat) (.cons (t := 1) rfl (.cons (t := 2) rfl (.cons (t := 3) rfl (.cons (t := 9) rfl .nil)))) (fun z => [(10, Rp.int .i64 (z : Nat))]) (fun z => [MF.osl v7 3 1 eI (iota l.length z)]) (fun z => z ≤ l.length) (fun z => l.length - z) 0 (Nat.zero_le _) (.cons (t := 10) rfl .nil) (.cons 0 rfl (.cons 0 rfl .nil)) ?_
  intro i hI S' M' hS hM
  try dsimp only at hS hM
  simp only [List.cons_append, List.nil_append] at hS hM
  subst hS hM
  try dsimp only
  have hzl := iota_len l.length i
  refine W.seq ?_
  refine W.region ?_
  refine L.op1 rfl rfl (GSpec.plain rfl (spec_lss rfl (Get.tmp rfl) (Get.tmp rfl))) ?_
  refine L.nil ?_
  refine N.thenW ?_
  refine W.seq ?_
  refine W.cond (Get.tmp rfl) (fun h1 => ?_) (fun h1 => ?_)
  · have ph1 := h1; try simp only [decide_eq_true_eq, decide_eq_false_iff_not, Bool.and_eq_true, Bool.or_eq_true, Bool.and_eq_false_iff, Bool.or_eq_false_iff, Bool.not_eq_true', Bool.not_eq_false', Bool.not_true, Bool.not_false, Int.not_lt, Int.not_le] at ph1
    refine W.skip ?_
    refine N.thenW ?_
    refine W.seq ?_
    refine W.block ?_
    refine W.seq ?_
    refine W.region ?_
    refine L.op1 rfl rfl (GSpec.plain rfl (spec_move rfl (Get.tmp rfl))) ?_
    refine L.op1 rfl rfl (GSpec.plain rfl (spec_assign rfl (Get.tmp rfl))) ?_
    refine L.nil ?_
    refine N.thenW ?_
    refine W.region ?_
    refine L.op1 rfl rfl (GSpec.plain rfl (spec_move rfl (Get.tmp rfl))) ?_
    refine L.op1 rfl rfl (GSpec.plain rfl (spec_move rfl (Get.tmp rfl))) ?_
    refine L.op1 rfl rfl (GSpec.plain rfl (spec_move rfl (Get.tmp rfl))) ?_
    refine L.op1 rfl rfl (GSpec.plain rfl (spec_indexAddrO (k := 0) (E := eI) rfl Tryd.underlying32 Tryd.sizeOf3 (Get.tmp rfl) (Get.tmp rfl) rfl (by omega))) ?_
    refine L.storeO1 (k := 0) (j := 0) (E := eI) rfl rfl rfl Tryd.sizeOf3 (fun _ => rfl) (Get.tmp rfl) (Get.tmp rfl) rfl rfl (by decide) (getD_some (by omega)) rfl ?_
    refine L.nil ?_
    refine N.blockNormal ?_
    refine N.thenW ?_
    refine W.region ?_
    first | refine L.op1 rfl rfl (GSpec.plain rfl (fit_i64 (by omega) (by omega) (spec_add rfl (Get.tmp rfl) (Get.cint rfl)))) ?_ | refine L.op1 rfl rfl (GSpec.plain rfl (spec_add rfl (Get.tmp rfl) (Get.cint rfl))) ?_
    refine L.op1 rfl rfl (GSpec.plain rfl (spec_move rfl (Get.tmp rfl))) ?_
    refine L.nil ?_
    refine N.roundK (i + 1) ?hI1 ?hmu1 ?hs1 ?hk1 ?hp1
    case hs1 => exact (.cons (t := 10) rfl .nil)
    case hk1 => exact (.cons (t := 1) rfl (.cons (t := 2) rfl (.cons (t := 3) rfl (.cons (t := 9) rfl .nil))))
    case hp1 => rw [iota_set]; exact (.cons 0 rfl (.cons 0 rfl .nil))
    all_goals (first | rfl | trivial | omega | (simp_all; done))
  · have ph1 := h1; try simp only [decide_eq_true_eq, decide_eq_false_iff_not, Bool.and_eq_true, Bool.or_eq_true, Bool.and_eq_false_iff, Bool.or_eq_false_iff, Bool.not_eq_true', Bool.not_eq_false', Bool.not_true, Bool.not_false, Int.not_lt, Int.not_le] at ph1
    refine W.exit ?_
    refine N.thenExit ?_
    refine N.thenExit ?_
    refine N.blockExit ?_
    refine N.thenW ?_
    refine W.pubB 1 1 rfl rfl ?_
    have ei : i = l.length := by omega
    rw [ei]
    refine W.seq ?_
    refine W.region ?_
    refine L.op1 rfl rfl (GSpec.plain rfl (spec_move rfl (Get.tmp rfl))) ?_
    refine L.op1 rfl rfl (GSpec.plain rfl (spec_makeFunc rfl (.cons (Get.tmp rfl) .nil))) ?_
    refine L.call rfl rfl rfl rfl Tryd.call28 (sortStable_ok l.length (cmpF l) _ _ hin (by omega) (by omega)) (.cons 0 rfl .refl) (.cons (Get.tmp rfl) (.cons (Get.weak (Get.tmp rfl) (fn_of_clo Tryd.call29 (fun i => cmpF_ok l _ _ i.2.1 i.2.2))) .nil)) (fun _ => ?_)
    try dsimp only
    refine L.nil ?_
    refine N.thenW ?_
    rw [show (iota l.length l.length).length = l.length from hil]
    refine W.pub (t := 3) (k := 0) rfl rfl (fun _ => rfl) ?_
    refine W.keep (.cons (t := 2) rfl (.cons (t := 3) rfl .nil)) .refl ?_
    refine W.seq ?_
    refine W.region ?_
    refine L.op1 rfl rfl (GSpec.plain rfl (spec_move rfl (Get.tmp rfl))) ?_
    refine L.op1 rfl rfl (GSpec.plain rfl (spec_assign rfl (Get.tmp rfl))) ?_
    refine L.nil ?_
    refine N.thenW ?_
    refine W.ret ?_
    refine N.ret () rfl (.tmp (t := 2) (Get.tmp rfl) .nil) (res1 (eqSl ?_)) .nil (fun _ _ h => h)
    rfl

theorem next_ok (l : List Jb) (h19 : l.length ≤ 19) : CallT Tryd.prog 13 [Rp.slice eJ l] [] (.one (Rp.tuple [Rp.int .i64 (nextE l).1, Rp.bool (nextE l).2])) := by
  refine W.enter (fn := Tryd.f13) (n := 11) Tryd.func13 rfl Tryd.ntmps13 rfl (fun w₀ C₀ => ?_)
  simp only [argS]
  refine W.seq ?_
  refine W.region ?_
  refine L.op1 rfl rfl (GSpec.plain rfl (spec_assign rfl (Get.cint rfl))) ?_
  refine L.op1 rfl rfl (GSpec.plain rfl (spec_assign rfl Get.cbool)) ?_
  refine L.nil ?_
  refine N.thenW ?_
  refine W.seq ?_
  refine W.seq ?_
  refine W.region ?_
  refine L.op1 rfl rfl (GSpec.plain rfl (spec_move rfl (Get.tmp rfl))) ?_
  refine L.op1 rfl rfl (GSpec.plain rfl (spec_len rfl Tryd.underlying22 (Get.tmp rfl))) ?_
  refine L.op1 rfl rfl (GSpec.plain rfl (spec_eql rfl (Get.tmp rfl) (Get.cint rfl))) ?_
  refine L.nil ?_
  refine N.thenW ?_
  refine W.cond (Get.tmp rfl) (fun h1 => ?_) (fun h1 => ?_)
  · have ph1 := h1; try simp only [decide_eq_true_eq, decide_eq_false_iff_not, Bool.and_eq_true, Bool.or_eq_true, Bool.and_eq_false_iff, Bool.or_eq_false_iff, Bool.not_eq_true', Bool.not_eq_false', Bool.not_true, Bool.not_false, Int.not_lt, Int.not_le] at ph1
    refine W.seq ?_
    refine W.region ?_
    refine L.op1 rfl rfl (GSpec.plain rfl (spec_assign rfl (Get.cint rfl))) ?_
    refine L.op1 rfl rfl (GSpec.plain rfl (spec_assign rfl Get.cbool)) ?_
    refine L.nil ?_
    refine N.thenW ?_
    refine W.keep (.cons (t := 0) rfl (.cons (t := 2) rfl (.cons (t := 3) rfl .nil))) .refl ?_
    refine W.ret ?_
    refine N.ret () rfl (.tmp (t := 2) (Get.tmp rfl) (.tmp (t := 3) (Get.tmp rfl) .nil)) (res2w (eqI ?_) (eqB ?_)) .nil (fun _ _ h => h)
    all_goals rw [next_no (by omega)]
  · have ph1 := h1; simp only [decide_eq_true_eq, decide_eq_false_iff_not, Bool.and_eq_true, Bool.or_eq_true, Bool.and_eq_false_iff, Bool.or_eq_false_iff, Bool.not_eq_true', Bool.not_eq_false', Bool.not_true, Bool.not_false, Int.not_lt, Int.not_le] at ph1
    have hol := ordS_len l
    refine W.skip ?_
    refine N.thenW ?_
    refine W.keep (.cons (t := 0) rfl (.cons (t := 2) rfl (.cons (t := 3) rfl .nil))) .refl ?_
    refine W.seq ?_
    refine W.region ?_
    refine L.op1 rfl rfl (GSpec.plain rfl (spec_move rfl (Get.tmp rfl))) ?_
    refine L.op1 rfl rfl (GSpec.plain rfl (spec_call rfl Tryd.call16 (order_ok _ (by omega) (by omega)) (.cons (Get.tmp rfl) .nil))) ?_
    refine L.op1 rfl rfl (GSpec.plain rfl (spec_indexAddrD (E := eI) rfl Tryd.underlying32 Tryd.sizeOf3 (fun _ => rfl) (Get.tmp rfl) (Get.cint rfl) (by omega))) ?_
    refine L.op1 rfl rfl (GSpec.plain rfl (spec_loadP1 rfl Tryd.isAgg3 (Get.tmp rfl))) ?_
    refine L.op1 rfl rfl (GSpec.plain rfl (spec_assign rfl (Get.tmp rfl))) ?_
    refine L.op1 rfl rfl (GSpec.plain rfl (spec_assign rfl Get.cbool)) ?_
    refine L.nil ?_
    refine N.thenW ?_
    refine W.keep (.cons (t := 2) rfl (.cons (t := 3) rfl .nil)) .refl ?_
    refine W.ret ?_
    refine N.ret () rfl (.tmp (t := 2) (Get.tmp rfl) (.tmp (t := 3) (Get.tmp rfl) .nil)) (res2w (eqI ?_) (eqB ?_)) .nil (fun _ _ h => h)
    all_goals rw [next_yes (by omega)]
    all_goals rfl

end Go.Proofs.YtlbhpjigjehffaaDoor
