import Derived.Test.YtlbhpjigjehffaaDoorSdW10
set_option linter.unusedSimpArgs false
set_option maxRecDepth 8000
set_option linter.unusedVariables false
namespace Go.Proofs.YtlbhpjigjehffaaDoor
open Go.Sim
theorem assign_ok (l : List Jb) (w : Int) (h0 : 1 ≤ l.length) (h19 : l.length ≤ 19) : CallT Tryd.prog 18 [Rp.slice eJ l, Rp.int .i64 w] [kwG] (.one (Rp.tuple [Rp.slice eII (assignE l w).1, Rp.int .i64 (assignE l w).2])) := by
  refine W.enter (fn := Tryd.f18) (n := 56) Tryd.func18 rfl Tryd.ntmps18 rfl (fun w₀ C₀ => ?_)
  simp only [argS]
  refine W.seq ?_
  refine W.region ?_
  refine L.op1 rfl rfl (GSpec.plain rfl (spec_assign rfl (Get.cnil (E := eV)))) ?_
  refine L.op1 rfl rfl (GSpec.plain rfl (spec_assign rfl (Get.cint rfl))) ?_
  refine L.nil ?_
  refine N.thenW ?_
  refine W.seq ?_
  refine W.seq ?_
  refine W.region ?_
  refine L.op1 rfl rfl (GSpec.plain rfl (spec_move rfl (Get.tmp rfl))) ?_
  refine L.op1 rfl rfl (GSpec.plain rfl (spec_move rfl (Get.tmp rfl))) ?_
  refine L.op1 rfl rfl (GSpec.plain rfl (spec_callG (k := 0) rfl Tryd.call33 rfl (asked_ok _ _) (.cons (Get.tmp rfl) (.cons (Get.tmp rfl) .nil)))) ?_
  refine L.op1 rfl rfl (GSpec.plain rfl (spec_assign rfl (Get.tmp rfl))) ?_
  refine L.nil ?_
  refine N.thenW ?_
  refine W.seq ?_
  refine W.region ?_
  refine L.op1 rfl rfl (GSpec.plain rfl (spec_move rfl (Get.tmp rfl))) ?_
  refine L.op1 rfl rfl (GSpec.plain rfl (spec_neq rfl (Get.tmp rfl) (Get.cint rfl))) ?_
  refine L.nil ?_
  refine N.thenW ?_
  refine W.cond (Get.tmp rfl) (fun h1 => ?_) (fun h1 => ?_)
  · have q0 : askedE l w ≠ 0 := by have h := h1; simpa using h
    refine W.seq ?_
    refine W.region ?_
    refine L.op1 rfl rfl (GSpec.plain rfl (spec_move rfl (Get.tmp rfl))) ?_
    refine L.op1 rfl rfl (GSpec.plain rfl (spec_assign rfl (Get.cnil (E := eII)))) ?_
    refine L.op1 rfl rfl (GSpec.plain rfl (spec_assign rfl (Get.tmp rfl))) ?_
    refine L.nil ?_
    refine N.thenW ?_
    refine W.keep (.cons (t := 0) rfl (.cons (t := 1) rfl (.cons (t := 4) rfl (.cons (t := 5) rfl .nil)))) .refl ?_
    refine W.ret ?_
    refine N.ret () rfl (.tmp (t := 4) (Get.tmp rfl) (.tmp (t := 5) (Get.tmp rfl) .nil)) (res2w (eqSl ?_) (eqI ?_)) .nil (fun _ _ h => h)
    all_goals rw [assign_no q0]
  · have q0 : askedE l w = 0 := by have h := h1; simpa using h
    obtain ⟨hw1, hw2, hok⟩ := asked_yes q0
    have hoi := ordS_in h0
    have hol := ordS_len l
    refine W.skip ?_
    refine N.thenW ?_
    refine W.seq ?_
    refine W.region ?_
    refine L.op1 rfl rfl (GSpec.plain rfl (spec_move rfl (Get.tmp rfl))) ?_
    refine L.op rfl rfl (GSpec.plain rfl (spec_makeSlice (z₀ := (Value.slice none 0 0)) (E := eV) rfl Tryd.underlying34 ti32 z32v (fun _ => rfl) (Get.tmp rfl) (Get.tmp rfl) (by omega) (by omega) (by omega))) (fun v19 => ?_)
    refine L.op1 rfl rfl (GSpec.plain rfl (spec_assign rfl (Get.tmp rfl))) ?_
    refine L.nil ?_
    refine N.thenW ?_
    refine W.keep (.cons (t := 0) rfl (.cons (t := 1) rfl (.cons (t := 4) rfl (.cons (t := 5) rfl (.cons (t := 7) rfl .nil))))) .refl ?_
    refine W.seq ?_
    refine W.region ?_
    refine L.op1 rfl rfl (GSpec.plain rfl (spec_move rfl (Get.tmp rfl))) ?_
    refine L.op rfl rfl (GSpec.plain rfl (spec_makeSlice (z₀ := (0 : Int)) (E := eI) rfl Tryd.underlying32 ti3 z3 (fun _ => rfl) (Get.tmp rfl) (Get.tmp rfl) (by (first | omega | (simp only [List.length_append, List.length_cons, List.length_nil, Int.toNat_natCast]; omega))) (by (first | omega | (simp only [List.length_append, List.length_cons, List.length_nil, Int.toNat_natCast]; omega))) (by (first | omega | (simp only [List.length_append, List.length_cons, List.length_nil, Int.toNat_natCast]; omega))))) (fun v21 => ?_)
    refine L.op1 rfl rfl (GSpec.plain rfl (spec_assign rfl (Get.tmp rfl))) ?_
    refine L.nil ?_
    refine N.thenW ?_
    refine W.seq ?_
    refine W.seq ?_
    refine W.region ?_
    refine L.op1 rfl rfl (GSpec.plain rfl (spec_move rfl (Get.tmp rfl))) ?_
    refine L.op1 rfl rfl (GSpec.plain rfl (spec_call rfl Tryd.call16 (order_ok _ (by omega) (by omega)) (.cons (Get.tmp rfl) .nil))) ?_
    refine L.op1 rfl rfl (GSpec.plain rfl (spec_len rfl Tryd.underlying32 (Get.tmp rfl))) ?_
    refine L.op1 rfl rfl (GSpec.plain rfl (spec_move rfl (Get.cint rfl))) ?_
    refine L.nil ?_
    refine N.thenW ?_
    refine W.many (rows_nil w.toNat).1 (rows_nil w.toNat).2 ?_
    refine W.block ?_
    refine W.loopK (σ := Nat × List Value) (.cons (t := 0) rfl (.cons (t := 4) rfl (.cons (t := 5) rfl (.cons (t := 7) rfl (.cons (t := 8) rfl (.cons (t := 23) rfl (.cons (t := 24) rfl .nil))))))) (fun z => [(25, Rp.int .i64 (z.1 : Nat))]) (fun z => [MF.osl v21 3 1 eI ((runA l w.toNat ((ordS l).take z.1)).busy), MF.osl v19 32 1 eV z.2, MF.many (rowsM 3 1 eI z.2 (runA l w.toNat ((ordS l).take z.1)).rows)]) (fun z => z.1 ≤ (ordS l).length ∧ z.2.length = w.toNat) (fun z => (ordS l).length - z.1) (0, List.replicate w.toNat (Value.slice none 0 0)) ⟨Nat.zero_le _, by simp⟩ (.cons (t := 25) rfl .nil) (.cons 1 rfl (.cons 1 rfl (.cons 0 rfl (.cons 0 rfl .nil)))) ?_
    intro ⟨i, vs⟩ hI S' M' hS hM
    obtain ⟨hI1, hI2⟩ := hI
    try dsimp only at hS hM
    simp only [List.cons_append, List.nil_append] at hS hM
    subst hS hM
    try dsimp only
    try dsimp only at hI1 hI2
    obtain ⟨hrl, hbl⟩ := runA_len l w.toNat ((ordS l).take i)
    have hbr := busy_range hok (w := w.toNat) hoi i hI1
    have hrr := rows_range l w.toNat (ordS l) i hI1 (wAt (runA l w.toNat ((ordS l).take i)).busy)
    refine W.seq ?_
    refine W.region ?_
    refine L.op1 rfl rfl (GSpec.plain rfl (spec_lss rfl (Get.tmp rfl) (Get.tmp rfl))) ?_
    refine L.nil ?_
    refine N.thenW ?_
    refine W.seq ?_
    refine W.cond (Get.tmp rfl) (fun h2 => ?_) (fun h2 => ?_)
    · have ph2 := h2; try simp only [decide_eq_true_eq, decide_eq_false_iff_not, Bool.and_eq_true, Bool.or_eq_true, Bool.and_eq_false_iff, Bool.or_eq_false_iff, Bool.not_eq_true', Bool.not_eq_false', Bool.not_true, Bool.not_false, Int.not_lt, Int.not_le] at ph2
      refine W.skip ?_
      refine N.thenW ?_
      refine W.seq ?_
      refine W.block ?_
      refine W.seq ?_
      refine W.region ?_
      refine L.op1 rfl rfl (GSpec.plain rfl (spec_indexAddrD (E := eI) rfl Tryd.underlying32 Tryd.sizeOf3 (fun _ => rfl) (Get.tmp rfl) (Get.tmp rfl) (by (first | omega | (simp only [List.length_append, List.length_cons, List.length_nil, Int.toNat_natCast]; omega))))) ?_
      refine L.op1 rfl rfl (GSpec.plain rfl (spec_loadP1 rfl Tryd.isAgg3 (Get.tmp rfl))) ?_
      refine L.op1 rfl rfl (GSpec.plain rfl (spec_assign rfl (Get.tmp rfl))) ?_
      refine L.nil ?_
      refine N.thenW ?_
      refine W.seq ?_
      refine W.region ?_
      refine L.op1 rfl rfl (GSpec.plain rfl (spec_move rfl (Get.tmp rfl))) ?_
      refine L.op1 rfl rfl (GSpec.plain rfl (spec_move rfl (Get.tmp rfl))) ?_
      refine L.op1 rfl rfl (GSpec.plain rfl (spec_callB rfl Tryd.call35 (min_ok _ (by omega)) (.cons (Get.tmp rfl) .nil) (.cons (.slice 0 rfl (fun _ => rfl)) .nil))) ?_
      refine L.op1 rfl rfl (GSpec.plain rfl (spec_callB rfl Tryd.call34 (index_ok _ _) (.cons (Get.tmp rfl) (.cons (Get.tmp rfl) .nil)) (.cons (.slice 0 rfl (fun _ => rfl)) (.cons .same .nil)))) ?_
      refine L.op1 rfl rfl (GSpec.plain rfl (spec_assign rfl (Get.tmp rfl))) ?_
      refine L.nil ?_
      refine N.thenW ?_
      obtain ⟨hwe, hwl⟩ := wAt_eq (b := (runA l w.toNat ((ordS l).take i)).busy) (by omega)
      rw [hwe]
      have hin := hoi _ (getD_mem' (show i < (ordS l).length by omega))
      have hcost := jobs_cost hok (i := ((ordS l).getD i default).toNat) (by omega)
      have hbw := hbr (wAt (runA l w.toNat ((ordS l).take i)).busy)
      have hwv : wAt (runA l w.toNat ((ordS l).take i)).busy < vs.length := by omega
      obtain ⟨u, hu⟩ : ∃ u, vs[wAt (runA l w.toNat ((ordS l).take i)).busy]? = some u := ⟨_, List.getElem?_eq_getElem hwv⟩
      have hrow : (runA l w.toNat ((ordS l).take i)).rows[wAt (runA l w.toNat ((ordS l).take i)).busy]? = some ((runA l w.toNat ((ordS l).take i)).rows.getD (wAt (runA l w.toNat ((ordS l).take i)).busy) default) := getD_some (by omega)
      refine W.focus (i := wAt (runA l w.toNat ((ordS l).take i)).busy) (F := MF.osl u 3 1 eI ((runA l w.toNat ((ordS l).take i)).rows.getD (wAt (runA l w.toNat ((ordS l).take i)).busy) default)) (.cons 2 rfl .refl) (rowsM_get hu hrow) ?_
      refine W.seq ?_
      refine W.region ?_
      refine L.op1 rfl rfl (GSpec.plain rfl (spec_move rfl (Get.tmp rfl))) ?_
      refine L.op1 rfl rfl (GSpec.plain rfl (spec_move rfl (Get.tmp rfl))) ?_
      refine L.op1 rfl rfl (GSpec.plain rfl (spec_move rfl (Get.tmp rfl))) ?_
      refine L.op1 rfl rfl (GSpec.plain rfl (spec_move rfl (Get.tmp rfl))) ?_
      refine L.op1 rfl rfl (GSpec.plain rfl (spec_indexAddrO (k := 3) (E := eV) rfl Tryd.underlying34 Tryd.sizeOf32 (Get.tmp rfl) (Get.tmp rfl) rfl (by (first | omega | (simp only [List.length_append, List.length_cons, List.length_nil, Int.toNat_natCast]; omega))))) ?_
      refine L.op1 rfl rfl (GSpec.plain rfl (spec_loadO1 (k := 3) (j := 0) (E := eV) (y := u) rfl Tryd.isAgg32 (fun _ => rfl) (Get.tmp rfl) rfl rfl hu rfl)) ?_
      refine L.op1 rfl rfl (GSpec.plain rfl (spec_move rfl (Get.tmp rfl))) ?_
      refine L.op1 rfl rfl (GSpec.plain rfl (spec_buildSlice1 (E := eI) rfl Tryd.underlying32 ti3 z3 (by decide) (GetC.one (Get.tmp rfl)) (fun _ => rfl))) ?_
      refine L.append (k := 0) (E := eI) rfl rfl rfl rfl Tryd.underlying32 ti3 rfl (by decide) (fun _ => rfl) (Get.tmp rfl) (Get.tmp rfl) rfl (by (simp only [List.length_append, List.length_cons, List.length_nil]; omega)) (by (simp only [List.length_append, List.length_cons, List.length_nil]; omega)) (fun v41 => ?_)
      refine L.op1 rfl rfl (GSpec.plain rfl (spec_indexAddrO (k := 3) (E := eV) rfl Tryd.underlying34 Tryd.sizeOf32 (Get.tmp rfl) (Get.tmp rfl) rfl (by (first | omega | (simp only [List.length_append, List.length_cons, List.length_nil, Int.toNat_natCast]; omega))))) ?_
      refine L.factM 0 rfl osl_one fun hq => ?_
      haveI := One.val hq
      refine L.storeO1 (k := 3) (j := 0) (E := eV) rfl rfl rfl Tryd.sizeOf32 (fun _ => rfl) (Get.tmp rfl) (Get.tmp rfl) rfl rfl (by decide) (getD_some (by (first | omega | (simp only [List.length_append, List.length_cons, List.length_nil, Int.toNat_natCast]; omega)))) rfl ?_
      refine L.nil ?_
      refine N.thenW ?_
      refine W.unfocus (i := wAt (runA l w.toNat ((ordS l).take i)).busy) (Ms := rowsM 3 1 eI vs (runA l w.toNat ((ordS l).take i)).rows) (F := MF.osl v41 3 1 eI ((runA l w.toNat ((ordS l).take i)).rows.getD (wAt (runA l w.toNat ((ordS l).take i)).busy) default ++ [(ordS l).getD i default])) (.cons 0 rfl (.cons 0 rfl .refl)) (by unfold rowsM; simp; omega) ?_
      rw [rowsM_set]
      apply W.any 11 mixed (by kernel_rfl)
      · apply Head.one rfl rfl (GSpec.plain rfl (spec_move rfl (Get.tmp rfl)))
        apply Head.one rfl rfl (GSpec.plain rfl (spec_move rfl (Get.tmp rfl)))
        apply Head.one rfl rfl (GSpec.plain rfl (spec_indexAddrO (k := 1) (E := eI) rfl Tryd.underlying32 Tryd.sizeOf3 (Get.tmp rfl) (Get.tmp rfl) rfl (by (first | omega | (simp only [List.length_append, List.length_cons, List.length_nil, Int.toNat_natCast]; omega)))))
        apply Head.one rfl rfl (GSpec.plain rfl (spec_loadO1 (k := 1) (j := 0) (E := eI) rfl Tryd.isAgg3 (fun _ => rfl) (Get.tmp rfl) rfl rfl (getD_some (by (first | omega | (simp only [List.length_append, List.length_cons, List.length_nil, Int.toNat_natCast]; omega)))) rfl))
        apply Head.one rfl rfl (GSpec.plain rfl (spec_move rfl (Get.tmp rfl)))
        apply Head.one rfl rfl (GSpec.plain rfl (spec_move rfl (Get.tmp rfl)))
        apply Head.one rfl rfl (GSpec.plain rfl (spec_indexAddrD (E := eJ) rfl Tryd.underlying22 Tryd.sizeOf28 (fun _ => rfl) (Get.tmp rfl) (Get.tmp rfl) (by (first | omega | (simp only [List.length_append, List.length_cons, List.length_nil, Int.toNat_natCast]; omega)))))
        apply Head.one rfl rfl (GSpec.plain rfl (spec_fieldAddrP (f := 4) rfl Tryd.underlying28 rfl Tryd.sizeOf3 (Get.tmp rfl) rfl rfl))
        apply Head.one rfl rfl (GSpec.plain rfl (spec_loadP1 rfl Tryd.isAgg3 (Get.tmp rfl)))
        first | apply Head.one rfl rfl (GSpec.plain rfl (fit_i64 (by (first | omega | (simp only [List.length_append, List.length_cons, List.length_nil, Int.toNat_natCast]; omega))) (by (first | omega | (simp only [List.length_append, List.length_cons, List.length_nil, Int.toNat_natCast]; omega))) (spec_add rfl (Get.tmp rfl) (Get.tmp rfl)))) | apply Head.one rfl rfl (GSpec.plain rfl (spec_add rfl (Get.tmp rfl) (Get.tmp rfl)))
        apply Head.one rfl rfl (GSpec.plain rfl (spec_indexAddrO (k := 1) (E := eI) rfl Tryd.underlying32 Tryd.sizeOf3 (Get.tmp rfl) (Get.tmp rfl) rfl (by (first | omega | (simp only [List.length_append, List.length_cons, List.length_nil, Int.toNat_natCast]; omega)))))
        exact Head.nil
      refine Fin.one ?_
      refine Fin.one ?_
      refine Fin.one ?_
      refine Fin.one ?_
      refine Fin.one ?_
      refine Fin.one ?_
      refine Fin.one ?_
      refine Fin.one ?_
      refine Fin.one ?_
      refine Fin.one ?_
      refine Fin.one ?_
      refine Fin.nil ?_
      refine L.storeO1 (k := 1) (j := 0) (E := eI) rfl rfl rfl Tryd.sizeOf3 (fun _ => rfl) (Get.tmp rfl) (Get.tmp rfl) rfl rfl (by decide) (getD_some (by (first | omega | (simp only [List.length_append, List.length_cons, List.length_nil, Int.toNat_natCast]; omega)))) rfl ?_
      refine L.nil ?_
      refine N.blockNormal ?_
      refine N.thenW ?_
      refine W.region ?_
      first | refine L.op1 rfl rfl (GSpec.plain rfl (fit_i64 (by (first | omega | (simp only [List.length_append, List.length_cons, List.length_nil, Int.toNat_natCast]; omega))) (by (first | omega | (simp only [List.length_append, List.length_cons, List.length_nil, Int.toNat_natCast]; omega))) (spec_add rfl (Get.tmp rfl) (Get.cint rfl)))) ?_ | refine L.op1 rfl rfl (GSpec.plain rfl (spec_add rfl (Get.tmp rfl) (Get.cint rfl))) ?_
      refine L.op1 rfl rfl (GSpec.plain rfl (spec_move rfl (Get.tmp rfl))) ?_
      refine L.nil ?_
      refine N.roundK (i + 1, vs.set (wAt (runA l w.toNat ((ordS l).take i)).busy) v41) ?hI1 ?hmu1 ?hs1 ?hk1 ?hp1
      case hs1 => exact (.cons (t := 25) rfl .nil)
      case hk1 => exact (.cons (t := 0) rfl (.cons (t := 4) rfl (.cons (t := 5) rfl (.cons (t := 7) rfl (.cons (t := 8) rfl (.cons (t := 23) rfl (.cons (t := 24) rfl .nil)))))))
      case hp1 => dsimp only; rw [runA_step (show i < (ordS l).length by omega)]; exact (.cons 1 rfl (.cons 1 rfl (.cons 0 rfl (.cons 0 rfl .nil))))
      case hI1 => exact ⟨by dsimp only; omega, by simp; omega⟩
      case hmu1 => dsimp only; omega
    · have ph2 := h2; try simp only [decide_eq_true_eq, decide_eq_false_iff_not, Bool.and_eq_true, Bool.or_eq_true, Bool.and_eq_false_iff, Bool.or_eq_false_iff, Bool.not_eq_true', Bool.not_eq_false', Bool.not_true, Bool.not_false, Int.not_lt, Int.not_le] at ph2
      refine W.exit ?_
      refine N.thenExit ?_
      refine N.thenExit ?_
      refine N.blockExit ?_
      refine N.thenW ?_
      refine W.publish (F := [MF.osl v19 32 1 eV vs, MF.many (rowsM 3 1 eI vs (runA l w.toNat ((ordS l).take i)).rows)]) (R' := Rp.slice eII (runA l w.toNat ((ordS l).take i)).rows) 7 (.cons 1 rfl (.cons 1 rfl .refl)) rfl (fun W C v hf hb h => by rw [show v = v19 from h]; exact rows_slice (T := 3) (T' := 32) (sz := 1) (E := eI) (vs := vs) (rs := (runA l w.toNat ((ordS l).take i)).rows) (fun _ => rfl) (by omega) hf hb) ?_
      refine W.keep (.cons (t := 4) rfl (.cons (t := 5) rfl (.cons (t := 7) rfl .nil))) .refl ?_
      refine W.seq ?_
      refine W.region ?_
      refine L.op1 rfl rfl (GSpec.plain rfl (spec_move rfl (Get.tmp rfl))) ?_
      refine L.op1 rfl rfl (GSpec.plain rfl (spec_assign rfl (Get.tmp rfl))) ?_
      refine L.op1 rfl rfl (GSpec.plain rfl (spec_assign rfl (Get.cint rfl))) ?_
      refine L.nil ?_
      refine N.thenW ?_
      refine W.ret ?_
      refine N.ret () rfl (.tmp (t := 4) (Get.tmp rfl) (.tmp (t := 5) (Get.tmp rfl) .nil)) (res2w (eqSl ?_) (eqI ?_)) .nil (fun _ _ h => h)
      rw [assign_yes q0, show i = (ordS l).length by omega, List.take_length]
      rw [assign_yes q0]

end Go.Proofs.YtlbhpjigjehffaaDoor
