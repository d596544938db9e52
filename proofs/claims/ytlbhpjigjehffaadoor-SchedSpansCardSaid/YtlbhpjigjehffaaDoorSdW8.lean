import Derived.Test.YtlbhpjigjehffaaDoorSdW7
set_option linter.unusedSimpArgs false
set_option maxRecDepth 8000
set_option linter.unusedVariables false
namespace Go.Proofs.YtlbhpjigjehffaaDoor
open Go.Sim
theorem insert_ok (n : Nat) (c : Int → Int → Int) (v : Value) (a m : Nat) (xs : List Int) (hx : inR n xs) (hm : a + m < xs.length) (hl : xs.length ≤ 1000000) : CallT Tryd.prog 57 [Rp.val v, Rp.int .i64 (a : Nat), Rp.int .i64 ((a + m + 1 : Nat) : Int), pC n c] [MF.osl v 3 1 eI xs] (ownX v (insD c a m xs)) := by
  refine W.enter (fn := Tryd.f57) (n := 53) Tryd.func57 rfl Tryd.ntmps57 rfl (fun w₀ C₀ => ?_)
  simp only [argS]
  refine W.seq ?_
  refine W.region ?_
  refine L.op1 rfl rfl (GSpec.plain rfl (spec_move rfl (Get.tmp rfl))) ?_
  first | refine L.op1 rfl rfl (GSpec.plain rfl (fit_i64 (by (first | omega | (simp only [List.length_set]; omega))) (by (first | omega | (simp only [List.length_set]; omega))) (spec_add rfl (Get.tmp rfl) (Get.cint rfl)))) ?_ | refine L.op1 rfl rfl (GSpec.plain rfl (spec_add rfl (Get.tmp rfl) (Get.cint rfl))) ?_
  refine L.op1 rfl rfl (GSpec.plain rfl (spec_assign rfl (Get.tmp rfl))) ?_
  refine L.nil ?_
  refine N.thenW ?_
  refine W.block ?_
  refine W.loopK (σ := Nat) (.cons (t := 0) rfl (.cons (t := 1) rfl (.cons (t := 2) rfl (.cons (t := 3) rfl .nil)))) (fun z => [(8, Rp.int .i64 ((a + 1 + z : Nat) : Int))]) (fun z => [MF.osl v 3 1 eI (insD c a z xs)]) (fun z => z ≤ m) (fun z => m - z) 0 (Nat.zero_le _) (.weak (t := 8) rfl (eqI (by omega)) .nil) (.cons 0 rfl .nil) ?_
  intro w hI S' M' hS hM
  try dsimp only at hS hM
  simp only [List.cons_append, List.nil_append] at hS hM
  subst hS hM
  try dsimp only
  have hz := insD_in c a w hx (by omega)
  have hzl := insD_len c a w xs
  refine W.seq ?_
  refine W.seq ?_
  refine W.region ?_
  refine L.op1 rfl rfl (GSpec.plain rfl (spec_move rfl (Get.tmp rfl))) ?_
  refine L.op1 rfl rfl (GSpec.plain rfl (spec_move rfl (Get.tmp rfl))) ?_
  refine L.op1 rfl rfl (GSpec.plain rfl (spec_lss rfl (Get.tmp rfl) (Get.tmp rfl))) ?_
  refine L.nil ?_
  refine N.thenW ?_
  refine W.cond (Get.tmp rfl) (fun h1 => ?_) (fun h1 => ?_)
  · have ph1 := h1; try simp only [decide_eq_true_eq, decide_eq_false_iff_not, Bool.and_eq_true, Bool.or_eq_true, Bool.and_eq_false_iff, Bool.or_eq_false_iff, Bool.not_eq_true', Bool.not_eq_false', Bool.not_true, Bool.not_false, Int.not_lt, Int.not_le] at ph1
    refine W.skip ?_
    refine N.thenW ?_
    refine W.seq ?_
    refine W.block ?_
    refine W.seq ?_
    refine W.region ?_
    refine L.op1 rfl rfl (GSpec.plain rfl (spec_move rfl (Get.tmp rfl))) ?_
    refine L.op1 rfl rfl (GSpec.plain rfl (spec_assign rfl (Get.tmp rfl))) ?_
    refine L.nil ?_
    refine N.thenW ?_
    refine W.block ?_
    refine W.loopK (σ := Nat × List Int) (.cons (t := 0) rfl (.cons (t := 1) rfl (.cons (t := 2) rfl (.cons (t := 3) rfl (.cons (t := 8) rfl (.cons (t := 12) rfl (.cons (t := 13) rfl (.cons (t := 14) rfl (.cons (t := 17) rfl .nil))))))))) (fun z => [(9, Rp.int .i64 ((a + z.1 : Nat) : Int))]) (fun z => [MF.osl v 3 1 eI z.2]) (fun z => z.1 ≤ w + 1 ∧ z.2.length = xs.length ∧ inR n z.2 ∧ sink c a z.1 z.2 = sink c a (w + 1) (insD c a w xs)) (fun z => z.1) (w + 1, insD c a w xs) ⟨Nat.le_refl _, hzl, hz, rfl⟩ (.weak (t := 9) rfl (eqI (by omega)) .nil) (.cons 0 rfl .nil) ?_
    intro ⟨k, ys⟩ hI S' M' hS hM
    obtain ⟨hq1, hq2, hq3, hq4⟩ := hI
    try dsimp only at hS hM
    simp only [List.cons_append, List.nil_append] at hS hM
    subst hS hM
    try dsimp only
    try dsimp only at hq1 hq2 hq3 hq4
    refine W.seq ?_
    refine W.seq ?_
    apply W.any 17 mixed (by kernel_rfl)
    · apply Head.one rfl rfl (GSpec.plain rfl (spec_move rfl (Get.tmp rfl)))
      apply Head.one rfl rfl (GSpec.plain rfl (spec_move rfl (Get.tmp rfl)))
      apply Head.one rfl rfl (GSpec.plain rfl (spec_gtr rfl (Get.tmp rfl) (Get.tmp rfl)))
      apply Head.one rfl rfl (GSpec.plain rfl (spec_move rfl (Get.tmp rfl)))
      apply Head.one rfl rfl (GSpec.guard rfl rfl rfl fun hg => (spec_move rfl (Get.tmp rfl)))
      apply Head.one rfl rfl (GSpec.guard rfl rfl rfl fun hg => (spec_move rfl (Get.tmp rfl)))
      apply Head.one rfl rfl (GSpec.guard rfl rfl rfl fun hg => (spec_move rfl (Get.tmp rfl)))
      apply Head.one rfl rfl (GSpec.guard rfl rfl rfl fun hg => (spec_indexAddrO (k := 0) (E := eI) rfl Tryd.underlying32 Tryd.sizeOf3 (Get.opt rfl hg) (Get.opt rfl hg) rfl (by (first | omega | (simp only [decide_eq_true_eq, decide_eq_false_iff_not, Bool.and_eq_true, Bool.or_eq_true, Bool.and_eq_false_iff, Bool.or_eq_false_iff, Bool.not_eq_true', Bool.not_eq_false', Bool.not_true, Bool.not_false, Int.not_lt, Int.not_le] at hg; omega)))))
      apply Head.one rfl rfl (GSpec.guard rfl rfl rfl fun hg => (spec_loadO1 (k := 0) (j := 0) (E := eI) rfl Tryd.isAgg3 (fun _ => rfl) (Get.opt rfl hg) rfl rfl (getD_some (by (first | omega | (simp only [decide_eq_true_eq, decide_eq_false_iff_not, Bool.and_eq_true, Bool.or_eq_true, Bool.and_eq_false_iff, Bool.or_eq_false_iff, Bool.not_eq_true', Bool.not_eq_false', Bool.not_true, Bool.not_false, Int.not_lt, Int.not_le] at hg; omega)))) rfl))
      apply Head.one rfl rfl (GSpec.guard rfl rfl rfl fun hg => (spec_move rfl (Get.tmp rfl)))
      apply Head.one rfl rfl (GSpec.guard rfl rfl rfl fun hg => (spec_move rfl (Get.tmp rfl)))
      first | apply Head.one rfl rfl (GSpec.guard rfl rfl rfl fun hg => (fit_i64 (by (first | omega | (simp only [decide_eq_true_eq, decide_eq_false_iff_not, Bool.and_eq_true, Bool.or_eq_true, Bool.and_eq_false_iff, Bool.or_eq_false_iff, Bool.not_eq_true', Bool.not_eq_false', Bool.not_true, Bool.not_false, Int.not_lt, Int.not_le] at hg; omega))) (by (first | omega | (simp only [decide_eq_true_eq, decide_eq_false_iff_not, Bool.and_eq_true, Bool.or_eq_true, Bool.and_eq_false_iff, Bool.or_eq_false_iff, Bool.not_eq_true', Bool.not_eq_false', Bool.not_true, Bool.not_false, Int.not_lt, Int.not_le] at hg; omega))) (spec_sub rfl (Get.opt rfl hg) (Get.cint rfl)))) | apply Head.one rfl rfl (GSpec.guard rfl rfl rfl fun hg => (spec_sub rfl (Get.opt rfl hg) (Get.cint rfl)))
      apply Head.one rfl rfl (GSpec.guard rfl rfl rfl fun hg => (spec_indexAddrO (k := 0) (E := eI) rfl Tryd.underlying32 Tryd.sizeOf3 (Get.opt rfl hg) (Get.opt rfl hg) rfl (by (first | omega | (simp only [decide_eq_true_eq, decide_eq_false_iff_not, Bool.and_eq_true, Bool.or_eq_true, Bool.and_eq_false_iff, Bool.or_eq_false_iff, Bool.not_eq_true', Bool.not_eq_false', Bool.not_true, Bool.not_false, Int.not_lt, Int.not_le] at hg; omega)))))
      apply Head.one rfl rfl (GSpec.guard rfl rfl rfl fun hg => (spec_loadO1 (k := 0) (j := 0) (E := eI) rfl Tryd.isAgg3 (fun _ => rfl) (Get.opt rfl hg) rfl rfl (getD_some (by (first | omega | (simp only [decide_eq_true_eq, decide_eq_false_iff_not, Bool.and_eq_true, Bool.or_eq_true, Bool.and_eq_false_iff, Bool.or_eq_false_iff, Bool.not_eq_true', Bool.not_eq_false', Bool.not_true, Bool.not_false, Int.not_lt, Int.not_le] at hg; omega)))) rfl))
      apply Head.one rfl rfl (GSpec.guard rfl rfl rfl fun hg => (show Go.Sim.Spec _ _ _ _ (.one (Rp.int .i64 (c (ys.getD (((a + k : Nat) : Int)).toNat default) (ys.getD (((a + k : Nat) : Int) - 1).toNat default)))) from spec_callF (A := fun i : In2 n => [Rp.int .i64 i.1.1, Rp.int .i64 i.1.2]) (X := fun i : In2 n => .one (Rp.int .i64 (c i.1.1 i.1.2))) (⟨(ys.getD (((a + k : Nat) : Int)).toNat default, ys.getD (((a + k : Nat) : Int) - 1).toNat default), hq3 _ (getD_mem' (by simp only [decide_eq_true_eq] at hg; omega)), hq3 _ (getD_mem' (by simp only [decide_eq_true_eq] at hg; omega))⟩ : In2 n) rfl (Get.opt rfl hg) (.cons (Get.opt rfl hg) (.cons (Get.opt rfl hg) .nil))))
      apply Head.one rfl rfl (GSpec.guard rfl rfl rfl fun hg => (spec_lss rfl (Get.opt rfl hg) (Get.cint rfl)))
      apply Head.one rfl rfl (GSpec.plain rfl (spec_and rfl (Get.tmp rfl) (fun hb => (Get.opt rfl hb))))
      exact Head.nil
    refine Fin.one ?_
    refine Fin.one ?_
    refine Fin.one ?_
    refine Fin.one ?_
    refine Fin.one ?_
    refine Fin.one ?_
    refine Fin.one ?_
    refine Fin.one ?_
    refine Fin.one ?_
    refine Fin.one ?_
    refine Fin.one ?_
    refine Fin.one ?_
    refine Fin.one ?_
    refine Fin.one ?_
    refine Fin.one ?_
    refine Fin.one ?_
    refine Fin.one ?_
    refine Fin.nil ?_
    refine L.nil ?_
    refine N.thenW ?_
    refine W.cond (Get.tmp rfl) (fun h2 => ?_) (fun h2 => ?_)
    · have ph2 := h2; simp only [decide_eq_true_eq, decide_eq_false_iff_not, Bool.and_eq_true, Bool.or_eq_true, Bool.and_eq_false_iff, Bool.or_eq_false_iff, Bool.not_eq_true', Bool.not_eq_false', Bool.not_true, Bool.not_false, Int.not_lt, Int.not_le] at ph2
      have hk0 : 0 < k := by omega
      have hc : c (ys.getD (a + k) default) (ys.getD (a + (k - 1)) default) < 0 := by have h := ph2.2; rw [show ((a + k : Nat) : Int).toNat = a + k by omega, show (((a + k : Nat) : Int) - 1).toNat = a + (k - 1) by omega] at h; exact h
      refine W.skip ?_
      refine N.thenW ?_
      refine W.seq ?_
      refine W.block ?_
      apply W.any1 (bs := [false, false, true, true, true, false, false, false, false, false, false, false, false, false, false]) (Mf := []) 15 mixed (by kernel_rfl) (by kernel_rfl) rfl .nil
      · apply Head1.one rfl rfl (GSpec.plain rfl (spec_move rfl (Get.tmp rfl)))
        apply Head1.one rfl rfl (GSpec.plain rfl (spec_move rfl (Get.tmp rfl)))
        apply Head1.flo rfl rfl (GSpec.plain rfl (spec_move rfl (Get.tmp rfl)))
        apply Head1.flo rfl rfl (GSpec.plain rfl (spec_move rfl (Get.tmp rfl)))
        first | apply Head1.flo rfl rfl (GSpec.plain rfl (fit_i64 (by (first | omega | (simp only [List.length_set]; omega))) (by (first | omega | (simp only [List.length_set]; omega))) (spec_sub rfl (Get.tmp rfl) (Get.cint rfl)))) | apply Head1.flo rfl rfl (GSpec.plain rfl (spec_sub rfl (Get.tmp rfl) (Get.cint rfl)))
        apply Head1.one rfl rfl (GSpec.plain rfl (spec_move rfl (Get.tmp rfl)))
        apply Head1.one rfl rfl (GSpec.plain rfl (spec_move rfl (Get.tmp rfl)))
        first | apply Head1.one rfl rfl (GSpec.plain rfl (fit_i64 (by (first | omega | (simp only [List.length_set]; omega))) (by (first | omega | (simp only [List.length_set]; omega))) (spec_sub rfl (Get.tmp rfl) (Get.cint rfl)))) | apply Head1.one rfl rfl (GSpec.plain rfl (spec_sub rfl (Get.tmp rfl) (Get.cint rfl)))
        apply Head1.one rfl rfl (GSpec.plain rfl (spec_indexAddrO (k := 0) (E := eI) rfl Tryd.underlying32 Tryd.sizeOf3 (Get.tmp rfl) (Get.tmp rfl) rfl (by (first | omega | (simp only [List.length_set]; omega)))))
        apply Head1.one rfl rfl (GSpec.plain rfl (spec_loadO1 (k := 0) (j := 0) (E := eI) rfl Tryd.isAgg3 (fun _ => rfl) (Get.tmp rfl) rfl rfl (getD_some (by (first | omega | (simp only [List.length_set]; omega)))) rfl))
        apply Head1.one rfl rfl (GSpec.plain rfl (spec_move rfl (Get.tmp rfl)))
        apply Head1.one rfl rfl (GSpec.plain rfl (spec_move rfl (Get.tmp rfl)))
        apply Head1.one rfl rfl (GSpec.plain rfl (spec_indexAddrO (k := 0) (E := eI) rfl Tryd.underlying32 Tryd.sizeOf3 (Get.tmp rfl) (Get.tmp rfl) rfl (by (first | omega | (simp only [List.length_set]; omega)))))
        apply Head1.one rfl rfl (GSpec.plain rfl (spec_loadO1 (k := 0) (j := 0) (E := eI) rfl Tryd.isAgg3 (fun _ => rfl) (Get.tmp rfl) rfl rfl (getD_some (by (first | omega | (simp only [List.length_set]; omega)))) rfl))
        apply Head1.one rfl rfl (GSpec.plain rfl (spec_indexAddrO (k := 0) (E := eI) rfl Tryd.underlying32 Tryd.sizeOf3 (Get.tmp rfl) (Get.tmp rfl) rfl (by (first | omega | (simp only [List.length_set]; omega)))))
        exact Head1.nil
      · rfl
      refine Fin1.one ?_
      refine Fin1.one ?_
      refine Fin1.flo ?_
      refine Fin1.flo ?_
      refine Fin1.flo ?_
      refine Fin1.one ?_
      refine Fin1.one ?_
      refine Fin1.one ?_
      refine Fin1.one ?_
      refine Fin1.one ?_
      refine Fin1.one ?_
      refine Fin1.one ?_
      refine Fin1.one ?_
      refine Fin1.one ?_
      refine Fin1.one ?_
      refine Fin1.nil (fun X => ?_)
      refine L.storeO1 (k := 0) (j := 0) (E := eI) rfl rfl rfl Tryd.sizeOf3 (fun _ => rfl) (Get.tmp rfl) (Get.tmp rfl) rfl rfl (by decide) (getD_some (by (first | omega | (simp only [List.length_set]; omega)))) rfl ?_
      refine L.nil ?_
      refine Aft.next _ .refl .nil rfl ?_
      refine L.op1 rfl rfl (GSpec.plain rfl (spec_indexAddrO (k := 0) (E := eI) rfl Tryd.underlying32 Tryd.sizeOf3 (Get.tmp rfl) (Get.tmp rfl) rfl (by (first | omega | (simp only [List.length_set]; omega))))) ?_
      refine L.storeO1 (k := 0) (j := 0) (E := eI) rfl rfl rfl Tryd.sizeOf3 (fun _ => rfl) (Get.tmp rfl) (Get.tmp rfl) rfl rfl (by decide) (getD_some (by (first | omega | (simp only [List.length_set]; omega)))) rfl ?_
      refine L.nil ?_
      refine N.blockNormal ?_
      refine N.thenW ?_
      refine W.region ?_
      refine L.op1 rfl rfl (GSpec.plain rfl (spec_move rfl (Get.tmp rfl))) ?_
      first | refine L.op1 rfl rfl (GSpec.plain rfl (fit_i64 (by (first | omega | (simp only [List.length_set]; omega))) (by (first | omega | (simp only [List.length_set]; omega))) (spec_sub rfl (Get.tmp rfl) (Get.cint rfl)))) ?_ | refine L.op1 rfl rfl (GSpec.plain rfl (spec_sub rfl (Get.tmp rfl) (Get.cint rfl))) ?_
      refine L.op1 rfl rfl (GSpec.plain rfl (spec_assign rfl (Get.tmp rfl))) ?_
      refine L.nil ?_
      refine N.roundK (k - 1, swp ys (a + (k - 1))) ?hI1 ?hmu1 ?hs1 ?hk1 ?hp1
      case hs1 => exact (.weak (t := 9) rfl (eqI (by omega)) .nil)
      case hk1 => exact (.cons (t := 0) rfl (.cons (t := 1) rfl (.cons (t := 2) rfl (.cons (t := 3) rfl (.cons (t := 8) rfl (.cons (t := 12) rfl (.cons (t := 13) rfl (.cons (t := 14) rfl (.cons (t := 17) rfl .nil)))))))))
      case hp1 => rw [swp_eq (p := ((a + k : Nat) : Int).toNat) (q := (((a + k : Nat) : Int) - 1).toNat) (by omega) (by omega)]; exact (.cons 0 rfl .nil)
      case hI1 => exact ⟨by dsimp only; omega, by dsimp only; rw [swp_len]; exact hq2, swp_in (j := a + (k - 1)) hq3 (by omega), (sink_go2 hk0 hc).trans hq4⟩
      case hmu1 => dsimp only; omega
    · have hst : k = 0 ∨ ¬ c (ys.getD (a + k) default) (ys.getD (a + (k - 1)) default) < 0 := by cases k with | zero => exact .inl rfl | succ j => right; have h := h2; rw [show ((a + (j + 1) : Nat) : Int).toNat = a + (j + 1) by omega, show (((a + (j + 1) : Nat) : Int) - 1).toNat = a + j by omega] at h; intro q; rw [show j + 1 - 1 = j by omega] at q; rw [decide_eq_true q, decide_eq_true (show ((a : Nat) : Int) < ((a + (j + 1) : Nat) : Int) by omega)] at h; cases h
      have hs := sink_stop hst
      rw [hs] at hq4
      refine W.exit ?_
      refine N.thenExit ?_
      refine N.thenExit ?_
      refine N.blockExit ?_
      refine N.blockNormal ?_
      refine N.thenW ?_
      refine W.region ?_
      refine L.op1 rfl rfl (GSpec.plain rfl (spec_move rfl (Get.tmp rfl))) ?_
      first | refine L.op1 rfl rfl (GSpec.plain rfl (fit_i64 (by (first | omega | (simp only [List.length_set]; omega))) (by (first | omega | (simp only [List.length_set]; omega))) (spec_add rfl (Get.tmp rfl) (Get.cint rfl)))) ?_ | refine L.op1 rfl rfl (GSpec.plain rfl (spec_add rfl (Get.tmp rfl) (Get.cint rfl))) ?_
      refine L.op1 rfl rfl (GSpec.plain rfl (spec_assign rfl (Get.tmp rfl))) ?_
      refine L.nil ?_
      refine N.roundK (w + 1) ?hI2 ?hmu2 ?hs2 ?hk2 ?hp2
      case hs2 => exact (.weak (t := 8) rfl (eqI (by omega)) .nil)
      case hk2 => exact (.cons (t := 0) rfl (.cons (t := 1) rfl (.cons (t := 2) rfl (.cons (t := 3) rfl .nil))))
      case hp2 => rw [show insD c a (w + 1) xs = ys from hq4.symm]; exact (.cons 0 rfl .nil)
      all_goals (first | rfl | trivial | omega | (simp_all; done))
  · have ph1 := h1; try simp only [decide_eq_true_eq, decide_eq_false_iff_not, Bool.and_eq_true, Bool.or_eq_true, Bool.and_eq_false_iff, Bool.or_eq_false_iff, Bool.not_eq_true', Bool.not_eq_false', Bool.not_true, Bool.not_false, Int.not_lt, Int.not_le] at ph1
    refine W.exit ?_
    refine N.thenExit ?_
    refine N.thenExit ?_
    refine N.blockExit ?_
    have ew : w = m := by omega
    subst ew
    refine N.ret () rfl .nil res0 (.cons 0 rfl .nil) (fun _ _ h => h)
    skip

end Go.Proofs.YtlbhpjigjehffaaDoor
