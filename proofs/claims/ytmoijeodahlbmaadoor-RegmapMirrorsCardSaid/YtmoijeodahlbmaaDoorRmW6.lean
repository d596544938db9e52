import Derived.Test.YtmoijeodahlbmaaDoorRmW5
set_option linter.unusedSimpArgs false
set_option maxRecDepth 8000
set_option linter.unusedVariables false
namespace Go.Proofs.YtmoijeodahlbmaaDoor
open Go.Sim
theorem rWrite_ok (m : RMap) (a v : Int) : CallT Tryd.prog 10 [Rp.agg (mR m), Rp.int .i64 a, Rp.int .i64 v] [] (.one (resT (writeD m a v))) := by
  refine W.enter (fn := Tryd.f10) (n := 104) Tryd.func10 rfl Tryd.ntmps10 rfl (fun w₀ C₀ => ?_)
  simp only [argS]
  refine W.seq ?_
  refine W.region ?_
  refine L.box rfl rfl (GSpec.plain rfl (spec_box rfl (GetC.agg (Get.tmp rfl)))) (fun r3 => ?_)
  refine L.box rfl rfl (GSpec.plain rfl (spec_alloc rfl ti25 z25)) (fun r6 => ?_)
  refine L.op1 rfl rfl (GSpec.plain rfl (spec_assign rfl (Get.cint rfl))) ?_
  refine L.nil ?_
  refine N.thenW ?_
  refine W.seq ?_
  refine W.region ?_
  refine L.op1 rfl rfl (GSpec.plain rfl (spec_loadW (k := 1) rfl Tryd.isAgg25 Tryd.sizeOf25 (Get.tmp rfl) rfl rfl)) ?_
  refine L.op1 rfl rfl (GSpec.plain rfl (spec_call rfl Tryd.call19 (rValid_ok _) (.cons (Get.tmp rfl) .nil))) ?_
  refine L.op1 rfl rfl (GSpec.plain rfl (spec_assign rfl (Get.tmp rfl))) ?_
  refine L.nil ?_
  refine N.thenW ?_
  refine W.seq ?_
  refine W.seq ?_
  refine W.region ?_
  refine L.op1 rfl rfl (GSpec.plain rfl (spec_move rfl (Get.tmp rfl))) ?_
  refine L.op1 rfl rfl (GSpec.plain rfl (spec_neq rfl (Get.tmp rfl) (Get.cint rfl))) ?_
  refine L.nil ?_
  refine N.thenW ?_
  refine W.cond (Get.tmp rfl) (fun h1 => ?_) (fun h1 => ?_)
  · have q0 : validE m ≠ 0 := by have h := h1; simpa using h
    refine W.seq ?_
    refine W.region ?_
    refine L.op1 rfl rfl (GSpec.plain rfl (spec_build (Rs := [Rp.slice eR [], Rp.slice eI []]) rfl ti25 z25 Tryd.underlying25 pl25 .nil)) ?_
    refine L.op1 rfl rfl (GSpec.plain rfl (spec_move rfl (Get.tmp rfl))) ?_
    refine L.storeW (k := 0) rfl rfl rfl Tryd.sizeOf25 (Get.tmp rfl) (Get.tmp rfl) rfl rfl rfl ?_
    refine L.op1 rfl rfl (GSpec.plain rfl (spec_assign rfl (Get.tmp rfl))) ?_
    refine L.nil ?_
    refine N.thenW ?_
    refine W.keep (.cons (t := 1) rfl (.cons (t := 2) rfl (.cons (t := 3) rfl (.cons (t := 6) rfl (.cons (t := 7) rfl .nil))))) .refl ?_
    refine W.ret ?_
    refine N.ret () rfl (.cellA (k := 0) (Get.tmp (t := 6) rfl) rfl Tryd.isAgg25 Tryd.sizeOf25 rfl (.tmp (t := 7) (Get.tmp rfl) .nil)) (res2w (eqA ?_) (eqI ?_)) .nil (fun _ _ h => h)
    all_goals (rw [write_e (a := a) (v := v) q0]; try rfl)
  · have q0 : validE m = 0 := by have h := h1; simpa using h
    have hM := valid_ok q0
    have hML := hM.len
    have hM32 := hM.regs.1
    refine W.skip ?_
    refine N.thenW ?_
    refine W.seq ?_
    refine W.seq ?_
    refine W.region ?_
    refine L.op1 rfl rfl (GSpec.plain rfl (spec_move rfl (Get.tmp rfl))) ?_
    refine L.op1 rfl rfl (GSpec.plain rfl (spec_lss rfl (Get.tmp rfl) (Get.cint rfl))) ?_
    refine L.op1 rfl rfl (GSpec.plain rfl (spec_move rfl (Get.tmp rfl))) ?_
    refine L.op1 rfl rfl (GSpec.guard rfl rfl rfl fun hg => (spec_move rfl (Get.tmp rfl))) ?_
    refine L.op1 rfl rfl (GSpec.guard rfl rfl rfl fun hg => (spec_gtr rfl (Get.opt rfl hg) (Get.cint rfl))) ?_
    refine L.op1 rfl rfl (GSpec.plain rfl (spec_or rfl (Get.tmp rfl) (fun hb => (Get.opt rfl hb)))) ?_
    refine L.nil ?_
    refine N.thenW ?_
    refine W.keep (.cons (t := 1) rfl (.cons (t := 2) rfl (.cons (t := 3) rfl (.cons (t := 6) rfl (.cons (t := 7) rfl (.cons (t := 27) rfl .nil)))))) .refl ?_
    refine W.cond (Get.tmp rfl) (fun h2 => ?_) (fun h2 => ?_)
    · have ph2 := h2; try simp only [decide_eq_true_eq, decide_eq_false_iff_not, Bool.and_eq_true, Bool.or_eq_true, Bool.and_eq_false_iff, Bool.or_eq_false_iff, Bool.not_eq_true', Bool.not_eq_false', Bool.not_true, Bool.not_false, Int.not_lt, Int.not_le] at ph2
      refine W.seq ?_
      refine W.region ?_
      refine L.op1 rfl rfl (GSpec.plain rfl (spec_build (Rs := [Rp.slice eR [], Rp.slice eI []]) rfl ti25 z25 Tryd.underlying25 pl25 .nil)) ?_
      refine L.storeW (k := 0) rfl rfl rfl Tryd.sizeOf25 (Get.tmp rfl) (Get.tmp rfl) rfl rfl rfl ?_
      refine L.op1 rfl rfl (GSpec.plain rfl (spec_assign rfl (Get.cint rfl))) ?_
      refine L.nil ?_
      refine N.thenW ?_
      refine W.ret ?_
      refine N.ret () rfl (.cellA (k := 0) (Get.tmp (t := 6) rfl) rfl Tryd.isAgg25 Tryd.sizeOf25 rfl (.tmp (t := 7) (Get.tmp rfl) .nil)) (res2w (eqA ?_) (eqI ?_)) .nil (fun _ _ h => h)
      all_goals (rw [write_1 (a := a) q0 ph2]; try rfl)
    · have ph2 := h2; try simp only [decide_eq_true_eq, decide_eq_false_iff_not, Bool.and_eq_true, Bool.or_eq_true, Bool.and_eq_false_iff, Bool.or_eq_false_iff, Bool.not_eq_true', Bool.not_eq_false', Bool.not_true, Bool.not_false, Int.not_lt, Int.not_le] at ph2
      refine W.skip ?_
      refine N.thenW ?_
      refine W.seq ?_
      refine W.region ?_
      refine L.op1 rfl rfl (GSpec.plain rfl (spec_loadW (k := 1) rfl Tryd.isAgg25 Tryd.sizeOf25 (Get.tmp rfl) rfl rfl)) ?_
      refine L.op1 rfl rfl (GSpec.plain rfl (spec_move rfl (Get.tmp rfl))) ?_
      refine L.op1 rfl rfl (GSpec.plain rfl (spec_call rfl Tryd.call23 (rFind_ok _ _) (.cons (Get.tmp rfl) (.cons (Get.tmp rfl) .nil)))) ?_
      refine L.op1 rfl rfl (GSpec.plain rfl (spec_move rfl (Get.tmp rfl))) ?_
      refine L.op1 rfl rfl (GSpec.plain rfl (spec_extract rfl (Get.tmp rfl) rfl)) ?_
      refine L.op1 rfl rfl (GSpec.plain rfl (spec_extract rfl (Get.tmp rfl) rfl)) ?_
      refine L.op1 rfl rfl (GSpec.plain rfl (spec_assign rfl (Get.tmp rfl))) ?_
      refine L.op1 rfl rfl (GSpec.plain rfl (spec_assign rfl (Get.tmp rfl))) ?_
      refine L.nil ?_
      refine N.thenW ?_
      refine W.keep (.cons (t := 2) rfl (.cons (t := 3) rfl (.cons (t := 6) rfl (.cons (t := 7) rfl (.cons (t := 9) rfl (.cons (t := 10) rfl .nil)))))) .refl ?_
      refine W.seq ?_
      refine W.seq ?_
      refine W.region ?_
      refine L.op1 rfl rfl (GSpec.plain rfl (spec_move rfl (Get.tmp rfl))) ?_
      refine L.op1 rfl rfl (GSpec.plain rfl (spec_not rfl (Get.tmp rfl))) ?_
      refine L.nil ?_
      refine N.thenW ?_
      refine W.cond (Get.tmp rfl) (fun h3 => ?_) (fun h3 => ?_)
      · have q3 := find_snd q0 (by have h := h3; rw [Bool.not_eq_true'] at h; exact h)
        refine W.seq ?_
        refine W.region ?_
        refine L.op1 rfl rfl (GSpec.plain rfl (spec_build (Rs := [Rp.slice eR [], Rp.slice eI []]) rfl ti25 z25 Tryd.underlying25 pl25 .nil)) ?_
        refine L.storeW (k := 0) rfl rfl rfl Tryd.sizeOf25 (Get.tmp rfl) (Get.tmp rfl) rfl rfl rfl ?_
        refine L.op1 rfl rfl (GSpec.plain rfl (spec_assign rfl (Get.cint rfl))) ?_
        refine L.nil ?_
        refine N.thenW ?_
        refine W.ret ?_
        refine N.ret () rfl (.cellA (k := 0) (Get.tmp (t := 6) rfl) rfl Tryd.isAgg25 Tryd.sizeOf25 rfl (.tmp (t := 7) (Get.tmp rfl) .nil)) (res2w (eqA ?_) (eqI ?_)) .nil (fun _ _ h => h)
        all_goals (rw [write_12 (v := v) q0 (by omega) q3]; try rfl)
      · have h0 := h3; rw [Bool.not_eq_false'] at h0
        have hff := find_fst q0 h0
        have q3 := hff.2
        have hix := idxA_at q3
        have hF16 := (hM.flds hix.1 hix.2).1
        have hokF := (hM.flds hix.1 hix.2).ok
        have hokf := hokF.lsbs
        have hvl := hM.vl hix.1 hix.2
        rw [hff.1]
        refine W.skip ?_
        refine N.thenW ?_
        refine W.seq ?_
        refine W.region ?_
        refine L.op1 rfl rfl (GSpec.plain rfl (spec_fieldAddr (f := 0) (off' := 0) rfl Tryd.underlying25 rfl Tryd.sizeOf22 (Get.tmp rfl) rfl)) ?_
        refine L.op1 rfl rfl (GSpec.plain rfl (spec_load1 (k := 1) rfl Tryd.isAgg22 (Get.tmp rfl) rfl rfl)) ?_
        refine L.op1 rfl rfl (GSpec.plain rfl (spec_move rfl (Get.tmp rfl))) ?_
        refine L.op1 rfl rfl (GSpec.plain rfl (spec_indexAddr (y := rg m (idxA m a)) (E := eR) rfl Tryd.underlying22 Tryd.sizeOf49 (fun _ => rfl) (Get.tmp rfl) (Get.tmp rfl) ⟨hix.1, getD_some hix⟩)) ?_
        refine L.op1 rfl rfl (GSpec.plain rfl (spec_loadPA rfl Tryd.isAgg49 Tryd.sizeOf49 (Get.tmp rfl) rfl)) ?_
        refine L.box rfl rfl (GSpec.plain rfl (spec_alloc rfl ti49 z49)) (fun r11 => ?_)
        refine L.storeW (k := 0) rfl rfl rfl Tryd.sizeOf49 (Get.tmp rfl) (Get.tmp rfl) rfl rfl rfl ?_
        refine L.nil ?_
        refine N.thenW ?_
        refine W.keep (.cons (t := 2) rfl (.cons (t := 3) rfl (.cons (t := 6) rfl (.cons (t := 7) rfl (.cons (t := 9) rfl (.cons (t := 11) rfl .nil)))))) .refl ?_
        refine W.seq ?_
        refine W.seq ?_
        refine W.region ?_
        refine L.op1 rfl rfl (GSpec.plain rfl (spec_loadW (k := 0) rfl Tryd.isAgg49 Tryd.sizeOf49 (Get.tmp rfl) rfl rfl)) ?_
        refine L.op1 rfl rfl (GSpec.plain rfl (spec_call rfl Tryd.call36 (every_ok _ _ _) (.cons (Get.tmp rfl) (.cons (Get.cint rfl) (.cons (Get.cint rfl) .nil))))) ?_
        refine L.nil ?_
        refine N.thenW ?_
        refine W.cond (Get.tmp rfl) (fun h4 => ?_) (fun h4 => ?_)
        · have ph4 := h4; try simp only [decide_eq_true_eq, decide_eq_false_iff_not, Bool.and_eq_true, Bool.or_eq_true, Bool.and_eq_false_iff, Bool.or_eq_false_iff, Bool.not_eq_true', Bool.not_eq_false', Bool.not_true, Bool.not_false, Int.not_lt, Int.not_le] at ph4
          refine W.seq ?_
          refine W.region ?_
          refine L.op1 rfl rfl (GSpec.plain rfl (spec_build (Rs := [Rp.slice eR [], Rp.slice eI []]) rfl ti25 z25 Tryd.underlying25 pl25 .nil)) ?_
          refine L.storeW (k := 1) rfl rfl rfl Tryd.sizeOf25 (Get.tmp rfl) (Get.tmp rfl) rfl rfl rfl ?_
          refine L.op1 rfl rfl (GSpec.plain rfl (spec_assign rfl (Get.cint rfl))) ?_
          refine L.nil ?_
          refine N.thenW ?_
          refine W.ret ?_
          refine N.ret () rfl (.cellA (k := 1) (Get.tmp (t := 6) rfl) rfl Tryd.isAgg25 Tryd.sizeOf25 rfl (.tmp (t := 7) (Get.tmp rfl) .nil)) (res2w (eqA ?_) (eqI ?_)) .nil (fun _ _ h => h)
          all_goals (rw [write_17 (v := v) q0 (by omega) q3 h4]; try rfl)
        · have ph4 := h4; try simp only [decide_eq_true_eq, decide_eq_false_iff_not, Bool.and_eq_true, Bool.or_eq_true, Bool.and_eq_false_iff, Bool.or_eq_false_iff, Bool.not_eq_true', Bool.not_eq_false', Bool.not_true, Bool.not_false, Int.not_lt, Int.not_le] at ph4
          refine W.skip ?_
          refine N.thenW ?_
          refine W.seq ?_
          refine W.region ?_
          refine L.op1 rfl rfl (GSpec.plain rfl (spec_loadW (k := 2) rfl Tryd.isAgg25 Tryd.sizeOf25 (Get.tmp rfl) rfl rfl)) ?_
          refine L.op1 rfl rfl (GSpec.plain rfl (spec_fieldAddr (f := 1) (off' := 1) rfl Tryd.underlying25 rfl Tryd.sizeOf23 (Get.tmp rfl) rfl)) ?_
          refine L.op1 rfl rfl (GSpec.plain rfl (spec_load1 (k := 2) rfl Tryd.isAgg23 (Get.tmp rfl) rfl rfl)) ?_
          refine L.op rfl rfl (GSpec.plain rfl (spec_call rfl Tryd.call37 (copied2_ok m m.vals hM.regs (by omega)) (.cons (Get.tmp rfl) (.cons (Get.tmp rfl) .nil)))) (fun v49 => ?_)
          try dsimp only
          refine L.box rfl rfl (GSpec.plain rfl (spec_alloc rfl ti25 z25)) (fun r12 => ?_)
          refine L.storeW (k := 0) rfl rfl rfl Tryd.sizeOf25 (Get.tmp rfl) (Get.tmp rfl) rfl rfl rfl ?_
          refine L.nil ?_
          refine N.thenW ?_
          refine W.keep (.cons (t := 2) rfl (.cons (t := 3) rfl (.cons (t := 6) rfl (.cons (t := 7) rfl (.cons (t := 9) rfl (.cons (t := 11) rfl (.cons (t := 12) rfl .nil))))))) .refl ?_
          refine W.seq ?_
          refine W.region ?_
          refine L.op1 rfl rfl (GSpec.plain rfl (spec_fieldAddr (f := 1) (off' := 1) rfl Tryd.underlying25 rfl Tryd.sizeOf23 (Get.tmp rfl) rfl)) ?_
          refine L.op1 rfl rfl (GSpec.plain rfl (spec_load1 (k := 4) rfl Tryd.isAgg23 (Get.tmp rfl) rfl rfl)) ?_
          refine L.op1 rfl rfl (GSpec.plain rfl (spec_move rfl (Get.tmp rfl))) ?_
          refine L.op1 rfl rfl (GSpec.plain rfl (spec_indexAddr (y := vl m (idxA m a)) (E := eI) rfl Tryd.underlying23 Tryd.sizeOf3 (fun _ => rfl) (Get.tmp rfl) (Get.tmp rfl) ⟨hix.1, getD_some (by omega)⟩)) ?_
          refine L.op1 rfl rfl (GSpec.plain rfl (spec_loadP1 rfl Tryd.isAgg3 (Get.tmp rfl))) ?_
          refine L.op1 rfl rfl (GSpec.plain rfl (spec_assign rfl (Get.tmp rfl))) ?_
          refine L.nil ?_
          refine N.thenW ?_
          refine W.keep (.cons (t := 2) rfl (.cons (t := 6) rfl (.cons (t := 7) rfl (.cons (t := 9) rfl (.cons (t := 11) rfl (.cons (t := 12) rfl (.cons (t := 13) rfl .nil))))))) .refl ?_
          refine W.seq ?_
          refine W.seq ?_
          refine W.region ?_
          refine L.op1 rfl rfl (GSpec.plain rfl (spec_assign rfl (Get.cint rfl))) ?_
          refine L.nil ?_
          refine N.thenW ?_
          refine W.block ?_
          refine W.loopK (σ := Nat) (.cons (t := 2) rfl (.cons (t := 6) rfl (.cons (t := 7) rfl (.cons (t := 9) rfl (.cons (t := 11) rfl (.cons (t := 12) rfl .nil)))))) (fun z => [(14, Rp.int .i64 (z : Nat)), (13, Rp.int .i64 (((rg m (idxA m a)).flds.take z).foldl (wr v) (vl m (idxA m a))))]) (fun z => []) (fun z => z ≤ (rg m (idxA m a)).flds.length) (fun z => (rg m (idxA m a)).flds.length - z) 0 (Nat.zero_le _) (.cons (t := 14) rfl (.cons (t := 13) rfl .nil)) (.cons 0 rfl (.cons 0 rfl (.cons 0 rfl (.cons 0 rfl (.cons 0 rfl .nil))))) ?_
          intro i hI S' M' hS hM
          try dsimp only at hS hM
          simp only [List.cons_append, List.nil_append] at hS hM
          subst hS hM
          try dsimp only
          refine W.seq ?_
          refine W.seq ?_
          refine W.region ?_
          refine L.op1 rfl rfl (GSpec.plain rfl (spec_move rfl (Get.tmp rfl))) ?_
          refine L.op1 rfl rfl (GSpec.plain rfl (spec_fieldAddr (f := 2) (off' := 2) rfl Tryd.underlying49 rfl Tryd.sizeOf47 (Get.tmp rfl) rfl)) ?_
          refine L.op1 rfl rfl (GSpec.plain rfl (spec_load1 (k := 2) rfl Tryd.isAgg47 (Get.tmp rfl) rfl rfl)) ?_
          refine L.op1 rfl rfl (GSpec.plain rfl (spec_len rfl Tryd.underlying47 (Get.tmp rfl))) ?_
          refine L.op1 rfl rfl (GSpec.plain rfl (spec_lss rfl (Get.tmp rfl) (Get.tmp rfl))) ?_
          refine L.nil ?_
          refine N.thenW ?_
          refine W.cond (Get.tmp rfl) (fun h5 => ?_) (fun h5 => ?_)
          · have ph5 := h5; try simp only [decide_eq_true_eq, decide_eq_false_iff_not, Bool.and_eq_true, Bool.or_eq_true, Bool.and_eq_false_iff, Bool.or_eq_false_iff, Bool.not_eq_true', Bool.not_eq_false', Bool.not_true, Bool.not_false, Int.not_lt, Int.not_le] at ph5
            refine W.skip ?_
            refine N.thenW ?_
            refine W.seq ?_
            refine W.block ?_
            refine W.seq ?_
            refine W.region ?_
            refine L.op1 rfl rfl (GSpec.plain rfl (spec_fieldAddr (f := 2) (off' := 2) rfl Tryd.underlying49 rfl Tryd.sizeOf47 (Get.tmp rfl) rfl)) ?_
            refine L.op1 rfl rfl (GSpec.plain rfl (spec_load1 (k := 2) rfl Tryd.isAgg47 (Get.tmp rfl) rfl rfl)) ?_
            refine L.op1 rfl rfl (GSpec.plain rfl (spec_move rfl (Get.tmp rfl))) ?_
            refine L.op1 rfl rfl (GSpec.plain rfl (spec_indexAddr (y := (rg m (idxA m a)).flds.getD i default) (E := eF) rfl Tryd.underlying47 Tryd.sizeOf51 (fun _ => rfl) (Get.tmp rfl) (Get.tmp rfl) ⟨by omega, getD_some (by omega)⟩)) ?_
            refine L.op1 rfl rfl (GSpec.plain rfl (spec_loadPA rfl Tryd.isAgg51 Tryd.sizeOf51 (Get.tmp rfl) rfl)) ?_
            refine L.op1 rfl rfl (GSpec.plain rfl (spec_call rfl Tryd.call38 (bits_ok _ (hokf _ (getD_mem' (by omega)))) (.cons (Get.tmp rfl) .nil))) ?_
            refine L.op1 rfl rfl (GSpec.plain rfl (spec_assign rfl (Get.tmp rfl))) ?_
            refine L.nil ?_
            refine N.thenW ?_
            refine W.seq ?_
            refine W.region ?_
            refine L.op1 rfl rfl (GSpec.plain rfl (spec_fieldAddr (f := 2) (off' := 2) rfl Tryd.underlying49 rfl Tryd.sizeOf47 (Get.tmp rfl) rfl)) ?_
            refine L.op1 rfl rfl (GSpec.plain rfl (spec_load1 (k := 2) rfl Tryd.isAgg47 (Get.tmp rfl) rfl rfl)) ?_
            refine L.op1 rfl rfl (GSpec.plain rfl (spec_move rfl (Get.tmp rfl))) ?_
            refine L.op1 rfl rfl (GSpec.plain rfl (spec_indexAddr (y := (rg m (idxA m a)).flds.getD i default) (E := eF) rfl Tryd.underlying47 Tryd.sizeOf51 (fun _ => rfl) (Get.tmp rfl) (Get.tmp rfl) ⟨by omega, getD_some (by omega)⟩)) ?_
            refine L.op1 rfl rfl (GSpec.plain rfl (spec_fieldAddrP (f := 3) rfl Tryd.underlying51 rfl Tryd.sizeOf3 (Get.tmp rfl) rfl rfl)) ?_
            refine L.op1 rfl rfl (GSpec.plain rfl (spec_loadP1 rfl Tryd.isAgg3 (Get.tmp rfl))) ?_
            refine L.nil ?_
            refine N.thenW ?_
            refine W.block ?_
            refine W.seq ?_
            refine W.seq ?_
            refine W.region ?_
            refine L.op1 rfl rfl (GSpec.plain rfl (spec_eql rfl (Get.tmp rfl) (Get.cint rfl))) ?_
            refine L.op1 rfl rfl (GSpec.plain rfl (spec_assign rfl (Get.tmp rfl))) ?_
            refine L.nil ?_
            refine N.thenW ?_
            refine W.cond (Get.tmp rfl) (fun h6 => ?_) (fun h6 => ?_)
            · have ph6 := h6; try simp only [decide_eq_true_eq, decide_eq_false_iff_not, Bool.and_eq_true, Bool.or_eq_true, Bool.and_eq_false_iff, Bool.or_eq_false_iff, Bool.not_eq_true', Bool.not_eq_false', Bool.not_true, Bool.not_false, Int.not_lt, Int.not_le] at ph6
              refine W.skip ?_
              refine N.thenW ?_
              refine W.cond (Get.tmp rfl) (fun h7 => ?_) (fun h7 => ?_)
              · have ph7 := h7; try simp only [decide_eq_true_eq, decide_eq_false_iff_not, Bool.and_eq_true, Bool.or_eq_true, Bool.and_eq_false_iff, Bool.or_eq_false_iff, Bool.not_eq_true', Bool.not_eq_false', Bool.not_true, Bool.not_false, Int.not_lt, Int.not_le] at ph7
                refine W.region ?_
                refine L.op1 rfl rfl (GSpec.plain rfl (spec_move rfl (Get.tmp rfl))) ?_
                refine L.op1 rfl rfl (GSpec.plain rfl (spec_move rfl (Get.tmp rfl))) ?_
                refine L.op1 rfl rfl (GSpec.plain rfl (spec_bits rfl (by simp) (Get.tmp rfl) (Get.tmp rfl))) ?_
                refine L.op1 rfl rfl (GSpec.plain rfl (spec_move rfl (Get.tmp rfl))) ?_
                refine L.op1 rfl rfl (GSpec.plain rfl (spec_move rfl (Get.tmp rfl))) ?_
                refine L.op1 rfl rfl (GSpec.plain rfl (spec_bits rfl (by simp) (Get.tmp rfl) (Get.tmp rfl))) ?_
                refine L.op1 rfl rfl (GSpec.plain rfl (spec_bits rfl (by simp) (Get.tmp rfl) (Get.tmp rfl))) ?_
                refine L.op1 rfl rfl (GSpec.plain rfl (spec_assign rfl (Get.tmp rfl))) ?_
                refine L.nil ?_
                refine N.blockNormal ?_
                refine N.blockNormal ?_
                refine N.thenW ?_
                refine W.region ?_
                refine L.op1 rfl rfl (GSpec.plain rfl (spec_move rfl (Get.tmp rfl))) ?_
                first | refine L.op1 rfl rfl (GSpec.plain rfl (fit_i64 (by omega) (by omega) (spec_add rfl (Get.tmp rfl) (Get.cint rfl)))) ?_ | refine L.op1 rfl rfl (GSpec.plain rfl (spec_add rfl (Get.tmp rfl) (Get.cint rfl))) ?_
                refine L.op1 rfl rfl (GSpec.plain rfl (spec_assign rfl (Get.tmp rfl))) ?_
                refine L.nil ?_
                refine N.roundK (i + 1) ?hI1 ?hmu1 ?hs1 ?hk1 ?hp1
                case hs1 => exact (.cons (t := 14) rfl (.weak (t := 13) rfl (eqI (by rw [wr_step (show i < (rg m (idxA m a)).flds.length by omega)]; unfold wr; first | (rw [if_pos (by omega)]; done) | (rw [if_neg (by omega), if_pos (by omega)]; done) | (rw [if_neg (by omega), if_neg (by omega), if_pos (by omega)]; done) | (rw [if_neg (by omega), if_neg (by omega), if_neg (by omega)]; done))) .nil))
                case hk1 => exact (.cons (t := 2) rfl (.cons (t := 6) rfl (.cons (t := 7) rfl (.cons (t := 9) rfl (.cons (t := 11) rfl (.cons (t := 12) rfl .nil))))))
                case hp1 => exact (.cons 0 rfl (.cons 0 rfl (.cons 0 rfl (.cons 0 rfl (.cons 0 rfl .nil)))))
                all_goals (first | rfl | trivial | omega | (simp_all; done))
              · have ph7 := h7; try simp only [decide_eq_true_eq, decide_eq_false_iff_not, Bool.and_eq_true, Bool.or_eq_true, Bool.and_eq_false_iff, Bool.or_eq_false_iff, Bool.not_eq_true', Bool.not_eq_false', Bool.not_true, Bool.not_false, Int.not_lt, Int.not_le] at ph7
                refine W.seq ?_
                refine W.region ?_
                refine L.op1 rfl rfl (GSpec.plain rfl (spec_eql rfl (Get.tmp rfl) (Get.cint rfl))) ?_
                refine L.op1 rfl rfl (GSpec.plain rfl (spec_assign rfl (Get.tmp rfl))) ?_
                refine L.nil ?_
                refine N.thenW ?_
                refine W.cond (Get.tmp rfl) (fun h8 => ?_) (fun h8 => ?_)
                · have ph8 := h8; try simp only [decide_eq_true_eq, decide_eq_false_iff_not, Bool.and_eq_true, Bool.or_eq_true, Bool.and_eq_false_iff, Bool.or_eq_false_iff, Bool.not_eq_true', Bool.not_eq_false', Bool.not_true, Bool.not_false, Int.not_lt, Int.not_le] at ph8
                  refine W.region ?_
                  refine L.op1 rfl rfl (GSpec.plain rfl (spec_move rfl (Get.tmp rfl))) ?_
                  refine L.op1 rfl rfl (GSpec.plain rfl (spec_move rfl (Get.tmp rfl))) ?_
                  refine L.op1 rfl rfl (GSpec.plain rfl (spec_move rfl (Get.tmp rfl))) ?_
                  refine L.op1 rfl rfl (GSpec.plain rfl (spec_bits rfl (by simp) (Get.tmp rfl) (Get.tmp rfl))) ?_
                  refine L.op1 rfl rfl (GSpec.plain rfl (spec_bits rfl (by simp) (Get.tmp rfl) (Get.tmp rfl))) ?_
                  refine L.op1 rfl rfl (GSpec.plain rfl (spec_assign rfl (Get.tmp rfl))) ?_
                  refine L.nil ?_
                  refine N.blockNormal ?_
                  refine N.blockNormal ?_
                  refine N.thenW ?_
                  refine W.region ?_
                  refine L.op1 rfl rfl (GSpec.plain rfl (spec_move rfl (Get.tmp rfl))) ?_
                  first | refine L.op1 rfl rfl (GSpec.plain rfl (fit_i64 (by omega) (by omega) (spec_add rfl (Get.tmp rfl) (Get.cint rfl)))) ?_ | refine L.op1 rfl rfl (GSpec.plain rfl (spec_add rfl (Get.tmp rfl) (Get.cint rfl))) ?_
                  refine L.op1 rfl rfl (GSpec.plain rfl (spec_assign rfl (Get.tmp rfl))) ?_
                  refine L.nil ?_
                  refine N.roundK (i + 1) ?hI2 ?hmu2 ?hs2 ?hk2 ?hp2
                  case hs2 => exact (.cons (t := 14) rfl (.weak (t := 13) rfl (eqI (by rw [wr_step (show i < (rg m (idxA m a)).flds.length by omega)]; unfold wr; first | (rw [if_pos (by omega)]; done) | (rw [if_neg (by omega), if_pos (by omega)]; done) | (rw [if_neg (by omega), if_neg (by omega), if_pos (by omega)]; done) | (rw [if_neg (by omega), if_neg (by omega), if_neg (by omega)]; done))) .nil))
                  case hk2 => exact (.cons (t := 2) rfl (.cons (t := 6) rfl (.cons (t := 7) rfl (.cons (t := 9) rfl (.cons (t := 11) rfl (.cons (t := 12) rfl .nil))))))
                  case hp2 => exact (.cons 0 rfl (.cons 0 rfl (.cons 0 rfl (.cons 0 rfl (.cons 0 rfl .nil)))))
                  all_goals (first | rfl | trivial | omega | (simp_all; done))
                · have ph8 := h8; try simp only [decide_eq_true_eq, decide_eq_false_iff_not, Bool.and_eq_true, Bool.or_eq_true, Bool.and_eq_false_iff, Bool.or_eq_false_iff, Bool.not_eq_true', Bool.not_eq_false', Bool.not_true, Bool.not_false, Int.not_lt, Int.not_le] at ph8
                  refine W.seq ?_
                  refine W.region ?_
                  refine L.op1 rfl rfl (GSpec.plain rfl (spec_eql rfl (Get.tmp rfl) (Get.cint rfl))) ?_
                  refine L.op1 rfl rfl (GSpec.plain rfl (spec_assign rfl (Get.tmp rfl))) ?_
                  refine L.nil ?_
                  refine N.thenW ?_
                  refine W.cond (Get.tmp rfl) (fun h9 => ?_) (fun h9 => ?_)
                  · have ph9 := h9; try simp only [decide_eq_true_eq, decide_eq_false_iff_not, Bool.and_eq_true, Bool.or_eq_true, Bool.and_eq_false_iff, Bool.or_eq_false_iff, Bool.not_eq_true', Bool.not_eq_false', Bool.not_true, Bool.not_false, Int.not_lt, Int.not_le] at ph9
                    refine W.region ?_
                    refine L.op1 rfl rfl (GSpec.plain rfl (spec_move rfl (Get.tmp rfl))) ?_
                    refine L.op1 rfl rfl (GSpec.plain rfl (spec_move rfl (Get.tmp rfl))) ?_
                    refine L.op1 rfl rfl (GSpec.plain rfl (spec_move rfl (Get.tmp rfl))) ?_
                    refine L.op1 rfl rfl (GSpec.plain rfl (spec_bits rfl (by simp) (Get.tmp rfl) (Get.tmp rfl))) ?_
                    refine L.op1 rfl rfl (GSpec.plain rfl (spec_bits rfl (by simp) (Get.tmp rfl) (Get.tmp rfl))) ?_
                    refine L.op1 rfl rfl (GSpec.plain rfl (spec_assign rfl (Get.tmp rfl))) ?_
                    refine L.nil ?_
                    refine N.blockNormal ?_
                    refine N.blockNormal ?_
                    refine N.thenW ?_
                    refine W.region ?_
                    refine L.op1 rfl rfl (GSpec.plain rfl (spec_move rfl (Get.tmp rfl))) ?_
                    first | refine L.op1 rfl rfl (GSpec.plain rfl (fit_i64 (by omega) (by omega) (spec_add rfl (Get.tmp rfl) (Get.cint rfl)))) ?_ | refine L.op1 rfl rfl (GSpec.plain rfl (spec_add rfl (Get.tmp rfl) (Get.cint rfl))) ?_
                    refine L.op1 rfl rfl (GSpec.plain rfl (spec_assign rfl (Get.tmp rfl))) ?_
                    refine L.nil ?_
                    refine N.roundK (i + 1) ?hI3 ?hmu3 ?hs3 ?hk3 ?hp3
                    case hs3 => exact (.cons (t := 14) rfl (.weak (t := 13) rfl (eqI (by rw [wr_step (show i < (rg m (idxA m a)).flds.length by omega)]; unfold wr; first | (rw [if_pos (by omega)]; done) | (rw [if_neg (by omega), if_pos (by omega)]; done) | (rw [if_neg (by omega), if_neg (by omega), if_pos (by omega)]; done) | (rw [if_neg (by omega), if_neg (by omega), if_neg (by omega)]; done))) .nil))
                    case hk3 => exact (.cons (t := 2) rfl (.cons (t := 6) rfl (.cons (t := 7) rfl (.cons (t := 9) rfl (.cons (t := 11) rfl (.cons (t := 12) rfl .nil))))))
                    case hp3 => exact (.cons 0 rfl (.cons 0 rfl (.cons 0 rfl (.cons 0 rfl (.cons 0 rfl .nil)))))
                    all_goals (first | rfl | trivial | omega | (simp_all; done))
                  · have ph9 := h9; try simp only [decide_eq_true_eq, decide_eq_false_iff_not, Bool.and_eq_true, Bool.or_eq_true, Bool.and_eq_false_iff, Bool.or_eq_false_iff, Bool.not_eq_true', Bool.not_eq_false', Bool.not_true, Bool.not_false, Int.not_lt, Int.not_le] at ph9
                    refine W.skip ?_
                    refine N.blockNormal ?_
                    refine N.blockNormal ?_
                    refine N.thenW ?_
                    refine W.region ?_
                    refine L.op1 rfl rfl (GSpec.plain rfl (spec_move rfl (Get.tmp rfl))) ?_
                    first | refine L.op1 rfl rfl (GSpec.plain rfl (fit_i64 (by omega) (by omega) (spec_add rfl (Get.tmp rfl) (Get.cint rfl)))) ?_ | refine L.op1 rfl rfl (GSpec.plain rfl (spec_add rfl (Get.tmp rfl) (Get.cint rfl))) ?_
                    refine L.op1 rfl rfl (GSpec.plain rfl (spec_assign rfl (Get.tmp rfl))) ?_
                    refine L.nil ?_
                    refine N.roundK (i + 1) ?hI4 ?hmu4 ?hs4 ?hk4 ?hp4
                    case hs4 => exact (.cons (t := 14) rfl (.weak (t := 13) rfl (eqI (by rw [wr_step (show i < (rg m (idxA m a)).flds.length by omega)]; unfold wr; first | (rw [if_pos (by omega)]; done) | (rw [if_neg (by omega), if_pos (by omega)]; done) | (rw [if_neg (by omega), if_neg (by omega), if_pos (by omega)]; done) | (rw [if_neg (by omega), if_neg (by omega), if_neg (by omega)]; done))) .nil))
                    case hk4 => exact (.cons (t := 2) rfl (.cons (t := 6) rfl (.cons (t := 7) rfl (.cons (t := 9) rfl (.cons (t := 11) rfl (.cons (t := 12) rfl .nil))))))
                    case hp4 => exact (.cons 0 rfl (.cons 0 rfl (.cons 0 rfl (.cons 0 rfl (.cons 0 rfl .nil)))))
                    all_goals (first | rfl | trivial | omega | (simp_all; done))
            · have ph6 := h6; try simp only [decide_eq_true_eq, decide_eq_false_iff_not, Bool.and_eq_true, Bool.or_eq_true, Bool.and_eq_false_iff, Bool.or_eq_false_iff, Bool.not_eq_true', Bool.not_eq_false', Bool.not_true, Bool.not_false, Int.not_lt, Int.not_le] at ph6
              refine W.region ?_
              refine L.op1 rfl rfl (GSpec.plain rfl (spec_eql rfl (Get.tmp rfl) (Get.cint rfl))) ?_
              refine L.op1 rfl rfl (GSpec.plain rfl (spec_assign rfl (Get.tmp rfl))) ?_
              refine L.nil ?_
              refine N.thenW ?_
              refine W.cond (Get.tmp rfl) (fun h10 => ?_) (fun h10 => ?_)
              · have ph10 := h10; try simp only [decide_eq_true_eq, decide_eq_false_iff_not, Bool.and_eq_true, Bool.or_eq_true, Bool.and_eq_false_iff, Bool.or_eq_false_iff, Bool.not_eq_true', Bool.not_eq_false', Bool.not_true, Bool.not_false, Int.not_lt, Int.not_le] at ph10
                refine W.region ?_
                refine L.op1 rfl rfl (GSpec.plain rfl (spec_move rfl (Get.tmp rfl))) ?_
                refine L.op1 rfl rfl (GSpec.plain rfl (spec_move rfl (Get.tmp rfl))) ?_
                refine L.op1 rfl rfl (GSpec.plain rfl (spec_bits rfl (by simp) (Get.tmp rfl) (Get.tmp rfl))) ?_
                refine L.op1 rfl rfl (GSpec.plain rfl (spec_move rfl (Get.tmp rfl))) ?_
                refine L.op1 rfl rfl (GSpec.plain rfl (spec_move rfl (Get.tmp rfl))) ?_
                refine L.op1 rfl rfl (GSpec.plain rfl (spec_bits rfl (by simp) (Get.tmp rfl) (Get.tmp rfl))) ?_
                refine L.op1 rfl rfl (GSpec.plain rfl (spec_bits rfl (by simp) (Get.tmp rfl) (Get.tmp rfl))) ?_
                refine L.op1 rfl rfl (GSpec.plain rfl (spec_assign rfl (Get.tmp rfl))) ?_
                refine L.nil ?_
                refine N.blockNormal ?_
                refine N.blockNormal ?_
                refine N.thenW ?_
                refine W.region ?_
                refine L.op1 rfl rfl (GSpec.plain rfl (spec_move rfl (Get.tmp rfl))) ?_
                first | refine L.op1 rfl rfl (GSpec.plain rfl (fit_i64 (by omega) (by omega) (spec_add rfl (Get.tmp rfl) (Get.cint rfl)))) ?_ | refine L.op1 rfl rfl (GSpec.plain rfl (spec_add rfl (Get.tmp rfl) (Get.cint rfl))) ?_
                refine L.op1 rfl rfl (GSpec.plain rfl (spec_assign rfl (Get.tmp rfl))) ?_
                refine L.nil ?_
                refine N.roundK (i + 1) ?hI5 ?hmu5 ?hs5 ?hk5 ?hp5
                case hs5 => exact (.cons (t := 14) rfl (.weak (t := 13) rfl (eqI (by rw [wr_step (show i < (rg m (idxA m a)).flds.length by omega)]; unfold wr; first | (rw [if_pos (by omega)]; done) | (rw [if_neg (by omega), if_pos (by omega)]; done) | (rw [if_neg (by omega), if_neg (by omega), if_pos (by omega)]; done) | (rw [if_neg (by omega), if_neg (by omega), if_neg (by omega)]; done))) .nil))
                case hk5 => exact (.cons (t := 2) rfl (.cons (t := 6) rfl (.cons (t := 7) rfl (.cons (t := 9) rfl (.cons (t := 11) rfl (.cons (t := 12) rfl .nil))))))
                case hp5 => exact (.cons 0 rfl (.cons 0 rfl (.cons 0 rfl (.cons 0 rfl (.cons 0 rfl .nil)))))
                all_goals (first | rfl | trivial | omega | (simp_all; done))
              · have ph10 := h10; try simp only [decide_eq_true_eq, decide_eq_false_iff_not, Bool.and_eq_true, Bool.or_eq_true, Bool.and_eq_false_iff, Bool.or_eq_false_iff, Bool.not_eq_true', Bool.not_eq_false', Bool.not_true, Bool.not_false, Int.not_lt, Int.not_le] at ph10
                refine W.seq ?_
                refine W.region ?_
                refine L.op1 rfl rfl (GSpec.plain rfl (spec_eql rfl (Get.tmp rfl) (Get.cint rfl))) ?_
                refine L.op1 rfl rfl (GSpec.plain rfl (spec_assign rfl (Get.tmp rfl))) ?_
                refine L.nil ?_
                refine N.thenW ?_
                refine W.cond (Get.tmp rfl) (fun h11 => ?_) (fun h11 => ?_)
                · have ph11 := h11; try simp only [decide_eq_true_eq, decide_eq_false_iff_not, Bool.and_eq_true, Bool.or_eq_true, Bool.and_eq_false_iff, Bool.or_eq_false_iff, Bool.not_eq_true', Bool.not_eq_false', Bool.not_true, Bool.not_false, Int.not_lt, Int.not_le] at ph11
                  refine W.region ?_
                  refine L.op1 rfl rfl (GSpec.plain rfl (spec_move rfl (Get.tmp rfl))) ?_
                  refine L.op1 rfl rfl (GSpec.plain rfl (spec_move rfl (Get.tmp rfl))) ?_
                  refine L.op1 rfl rfl (GSpec.plain rfl (spec_move rfl (Get.tmp rfl))) ?_
                  refine L.op1 rfl rfl (GSpec.plain rfl (spec_bits rfl (by simp) (Get.tmp rfl) (Get.tmp rfl))) ?_
                  refine L.op1 rfl rfl (GSpec.plain rfl (spec_bits rfl (by simp) (Get.tmp rfl) (Get.tmp rfl))) ?_
                  refine L.op1 rfl rfl (GSpec.plain rfl (spec_assign rfl (Get.tmp rfl))) ?_
                  refine L.nil ?_
                  refine N.blockNormal ?_
                  refine N.blockNormal ?_
                  refine N.thenW ?_
                  refine W.region ?_
                  refine L.op1 rfl rfl (GSpec.plain rfl (spec_move rfl (Get.tmp rfl))) ?_
                  first | refine L.op1 rfl rfl (GSpec.plain rfl (fit_i64 (by omega) (by omega) (spec_add rfl (Get.tmp rfl) (Get.cint rfl)))) ?_ | refine L.op1 rfl rfl (GSpec.plain rfl (spec_add rfl (Get.tmp rfl) (Get.cint rfl))) ?_
                  refine L.op1 rfl rfl (GSpec.plain rfl (spec_assign rfl (Get.tmp rfl))) ?_
                  refine L.nil ?_
                  refine N.roundK (i + 1) ?hI6 ?hmu6 ?hs6 ?hk6 ?hp6
                  case hs6 => exact (.cons (t := 14) rfl (.weak (t := 13) rfl (eqI (by rw [wr_step (show i < (rg m (idxA m a)).flds.length by omega)]; unfold wr; first | (rw [if_pos (by omega)]; done) | (rw [if_neg (by omega), if_pos (by omega)]; done) | (rw [if_neg (by omega), if_neg (by omega), if_pos (by omega)]; done) | (rw [if_neg (by omega), if_neg (by omega), if_neg (by omega)]; done))) .nil))
                  case hk6 => exact (.cons (t := 2) rfl (.cons (t := 6) rfl (.cons (t := 7) rfl (.cons (t := 9) rfl (.cons (t := 11) rfl (.cons (t := 12) rfl .nil))))))
                  case hp6 => exact (.cons 0 rfl (.cons 0 rfl (.cons 0 rfl (.cons 0 rfl (.cons 0 rfl .nil)))))
                  all_goals (first | rfl | trivial | omega | (simp_all; done))
                · have ph11 := h11; try simp only [decide_eq_true_eq, decide_eq_false_iff_not, Bool.and_eq_true, Bool.or_eq_true, Bool.and_eq_false_iff, Bool.or_eq_false_iff, Bool.not_eq_true', Bool.not_eq_false', Bool.not_true, Bool.not_false, Int.not_lt, Int.not_le] at ph11
                  refine W.seq ?_
                  refine W.region ?_
                  refine L.op1 rfl rfl (GSpec.plain rfl (spec_eql rfl (Get.tmp rfl) (Get.cint rfl))) ?_
                  refine L.op1 rfl rfl (GSpec.plain rfl (spec_assign rfl (Get.tmp rfl))) ?_
                  refine L.nil ?_
                  refine N.thenW ?_
                  refine W.cond (Get.tmp rfl) (fun h12 => ?_) (fun h12 => ?_)
                  · have ph12 := h12; try simp only [decide_eq_true_eq, decide_eq_false_iff_not, Bool.and_eq_true, Bool.or_eq_true, Bool.and_eq_false_iff, Bool.or_eq_false_iff, Bool.not_eq_true', Bool.not_eq_false', Bool.not_true, Bool.not_false, Int.not_lt, Int.not_le] at ph12
                    refine W.region ?_
                    refine L.op1 rfl rfl (GSpec.plain rfl (spec_move rfl (Get.tmp rfl))) ?_
                    refine L.op1 rfl rfl (GSpec.plain rfl (spec_move rfl (Get.tmp rfl))) ?_
                    refine L.op1 rfl rfl (GSpec.plain rfl (spec_move rfl (Get.tmp rfl))) ?_
                    refine L.op1 rfl rfl (GSpec.plain rfl (spec_bits rfl (by simp) (Get.tmp rfl) (Get.tmp rfl))) ?_
                    refine L.op1 rfl rfl (GSpec.plain rfl (spec_bits rfl (by simp) (Get.tmp rfl) (Get.tmp rfl))) ?_
                    refine L.op1 rfl rfl (GSpec.plain rfl (spec_assign rfl (Get.tmp rfl))) ?_
                    refine L.nil ?_
                    refine N.blockNormal ?_
                    refine N.blockNormal ?_
                    refine N.thenW ?_
                    refine W.region ?_
                    refine L.op1 rfl rfl (GSpec.plain rfl (spec_move rfl (Get.tmp rfl))) ?_
                    first | refine L.op1 rfl rfl (GSpec.plain rfl (fit_i64 (by omega) (by omega) (spec_add rfl (Get.tmp rfl) (Get.cint rfl)))) ?_ | refine L.op1 rfl rfl (GSpec.plain rfl (spec_add rfl (Get.tmp rfl) (Get.cint rfl))) ?_
                    refine L.op1 rfl rfl (GSpec.plain rfl (spec_assign rfl (Get.tmp rfl))) ?_
                    refine L.nil ?_
                    refine N.roundK (i + 1) ?hI7 ?hmu7 ?hs7 ?hk7 ?hp7
                    case hs7 => exact (.cons (t := 14) rfl (.weak (t := 13) rfl (eqI (by rw [wr_step (show i < (rg m (idxA m a)).flds.length by omega)]; unfold wr; first | (rw [if_pos (by omega)]; done) | (rw [if_neg (by omega), if_pos (by omega)]; done) | (rw [if_neg (by omega), if_neg (by omega), if_pos (by omega)]; done) | (rw [if_neg (by omega), if_neg (by omega), if_neg (by omega)]; done))) .nil))
                    case hk7 => exact (.cons (t := 2) rfl (.cons (t := 6) rfl (.cons (t := 7) rfl (.cons (t := 9) rfl (.cons (t := 11) rfl (.cons (t := 12) rfl .nil))))))
                    case hp7 => exact (.cons 0 rfl (.cons 0 rfl (.cons 0 rfl (.cons 0 rfl (.cons 0 rfl .nil)))))
                    all_goals (first | rfl | trivial | omega | (simp_all; done))
                  · have ph12 := h12; try simp only [decide_eq_true_eq, decide_eq_false_iff_not, Bool.and_eq_true, Bool.or_eq_true, Bool.and_eq_false_iff, Bool.or_eq_false_iff, Bool.not_eq_true', Bool.not_eq_false', Bool.not_true, Bool.not_false, Int.not_lt, Int.not_le] at ph12
                    refine W.skip ?_
                    refine N.blockNormal ?_
                    refine N.blockNormal ?_
                    refine N.thenW ?_
                    refine W.region ?_
                    refine L.op1 rfl rfl (GSpec.plain rfl (spec_move rfl (Get.tmp rfl))) ?_
                    first | refine L.op1 rfl rfl (GSpec.plain rfl (fit_i64 (by omega) (by omega) (spec_add rfl (Get.tmp rfl) (Get.cint rfl)))) ?_ | refine L.op1 rfl rfl (GSpec.plain rfl (spec_add rfl (Get.tmp rfl) (Get.cint rfl))) ?_
                    refine L.op1 rfl rfl (GSpec.plain rfl (spec_assign rfl (Get.tmp rfl))) ?_
                    refine L.nil ?_
                    refine N.roundK (i + 1) ?hI8 ?hmu8 ?hs8 ?hk8 ?hp8
                    case hs8 => exact (.cons (t := 14) rfl (.weak (t := 13) rfl (eqI (by rw [wr_step (show i < (rg m (idxA m a)).flds.length by omega)]; unfold wr; first | (rw [if_pos (by omega)]; done) | (rw [if_neg (by omega), if_pos (by omega)]; done) | (rw [if_neg (by omega), if_neg (by omega), if_pos (by omega)]; done) | (rw [if_neg (by omega), if_neg (by omega), if_neg (by omega)]; done))) .nil))
                    case hk8 => exact (.cons (t := 2) rfl (.cons (t := 6) rfl (.cons (t := 7) rfl (.cons (t := 9) rfl (.cons (t := 11) rfl (.cons (t := 12) rfl .nil))))))
                    case hp8 => exact (.cons 0 rfl (.cons 0 rfl (.cons 0 rfl (.cons 0 rfl (.cons 0 rfl .nil)))))
                    all_goals (first | rfl | trivial | omega | (simp_all; done))
          · have ph5 := h5; try simp only [decide_eq_true_eq, decide_eq_false_iff_not, Bool.and_eq_true, Bool.or_eq_true, Bool.and_eq_false_iff, Bool.or_eq_false_iff, Bool.not_eq_true', Bool.not_eq_false', Bool.not_true, Bool.not_false, Int.not_lt, Int.not_le] at ph5
            refine W.exit ?_
            refine N.thenExit ?_
            refine N.thenExit ?_
            refine N.blockExit ?_
            refine N.thenW ?_
            refine W.keep (.cons (t := 6) rfl (.cons (t := 7) rfl (.cons (t := 9) rfl (.cons (t := 12) rfl (.cons (t := 13) rfl .nil))))) .refl ?_
            refine W.seq ?_
            refine W.region ?_
            refine L.op1 rfl rfl (GSpec.plain rfl (spec_fieldAddr (f := 1) (off' := 1) rfl Tryd.underlying25 rfl Tryd.sizeOf23 (Get.tmp rfl) rfl)) ?_
            refine L.op1 rfl rfl (GSpec.plain rfl (spec_load1 (k := 0) rfl Tryd.isAgg23 (Get.tmp rfl) rfl rfl)) ?_
            refine L.op1 rfl rfl (GSpec.plain rfl (spec_move rfl (Get.tmp rfl))) ?_
            refine L.op1 rfl rfl (GSpec.plain rfl (spec_move rfl (Get.tmp rfl))) ?_
            refine L.op1 rfl rfl (GSpec.plain rfl (spec_indexAddrO (k := 1) (E := eI) rfl Tryd.underlying23 Tryd.sizeOf3 (Get.tmp rfl) (Get.tmp rfl) rfl (by omega))) ?_
            refine L.storeO1 (k := 1) (j := 0) (E := eI) rfl rfl rfl Tryd.sizeOf3 (fun _ => rfl) (Get.tmp rfl) (Get.tmp rfl) rfl rfl (by decide) (getD_some (by omega)) rfl ?_
            refine L.nil ?_
            refine N.thenW ?_
            refine W.pubBox (off := 1) 1 0 rfl rfl rfl (fun _ => rfl) ?_
            refine W.keep (.cons (t := 6) rfl (.cons (t := 7) rfl (.cons (t := 12) rfl .nil))) .refl ?_
            refine W.seq ?_
            refine W.region ?_
            refine L.op1 rfl rfl (GSpec.plain rfl (spec_loadW (k := 0) rfl Tryd.isAgg25 Tryd.sizeOf25 (Get.tmp rfl) rfl rfl)) ?_
            refine L.storeW (k := 2) rfl rfl rfl Tryd.sizeOf25 (Get.tmp rfl) (Get.tmp rfl) rfl rfl rfl ?_
            refine L.op1 rfl rfl (GSpec.plain rfl (spec_assign rfl (Get.cint rfl))) ?_
            refine L.nil ?_
            refine N.thenW ?_
            refine W.ret ?_
            refine N.ret () rfl (.cellA (k := 2) (Get.tmp (t := 6) rfl) rfl Tryd.isAgg25 Tryd.sizeOf25 rfl (.tmp (t := 7) (Get.tmp rfl) .nil)) (res2w (eqA ?_) (eqI ?_)) .nil (fun _ _ h => h)
            rw [take_all (show (rg m (idxA m a)).flds.length ≤ i by omega)]
            all_goals (rw [write_0 (v := v) q0 (by omega) q3 h4]; try rfl)

theorem pRead_ok (m : RMap) (a : Int) : CallT Tryd.prog 16 [Rp.agg (mR m), Rp.int .i64 a] [kwG] (.one (rdT (readD m a))) := by
  refine W.enter (fn := Tryd.f16) (n := 62) Tryd.func16 rfl Tryd.ntmps16 rfl (fun w₀ C₀ => ?_)
  simp only [argS]
  refine W.seq ?_
  refine W.region ?_
  refine L.box rfl rfl (GSpec.plain rfl (spec_box rfl (GetC.agg (Get.tmp rfl)))) (fun r2 => ?_)
  refine L.op1 rfl rfl (GSpec.plain rfl (spec_assign rfl (Get.cint rfl))) ?_
  refine L.box rfl rfl (GSpec.plain rfl (spec_alloc rfl ti25 z25)) (fun r5 => ?_)
  refine L.op1 rfl rfl (GSpec.plain rfl (spec_assign rfl (Get.cint rfl))) ?_
  refine L.nil ?_
  refine N.thenW ?_
  refine W.seq ?_
  refine W.seq ?_
  refine W.region ?_
  refine L.op1 rfl rfl (GSpec.plain rfl (spec_loadW (k := 1) rfl Tryd.isAgg25 Tryd.sizeOf25 (Get.tmp rfl) rfl rfl)) ?_
  refine L.op1 rfl rfl (GSpec.plain rfl (spec_callG (k := 2) rfl Tryd.call24 rfl (pValid_ok _) (.cons (Get.tmp rfl) .nil))) ?_
  refine L.op1 rfl rfl (GSpec.plain rfl (spec_assign rfl (Get.tmp rfl))) ?_
  refine L.nil ?_
  refine N.thenW ?_
  refine W.keep (.cons (t := 1) rfl (.cons (t := 2) rfl (.cons (t := 4) rfl (.cons (t := 5) rfl (.cons (t := 6) rfl (.cons (t := 7) rfl .nil)))))) .refl ?_
  refine W.seq ?_
  refine W.region ?_
  refine L.op1 rfl rfl (GSpec.plain rfl (spec_move rfl (Get.tmp rfl))) ?_
  refine L.op1 rfl rfl (GSpec.plain rfl (spec_neq rfl (Get.tmp rfl) (Get.cint rfl))) ?_
  refine L.nil ?_
  refine N.thenW ?_
  refine W.cond (Get.tmp rfl) (fun h1 => ?_) (fun h1 => ?_)
  · have q0 : validE m ≠ 0 := by have h := h1; simpa using h
    refine W.seq ?_
    refine W.region ?_
    refine L.op1 rfl rfl (GSpec.plain rfl (spec_build (Rs := [Rp.slice eR [], Rp.slice eI []]) rfl ti25 z25 Tryd.underlying25 pl25 .nil)) ?_
    refine L.op1 rfl rfl (GSpec.plain rfl (spec_move rfl (Get.tmp rfl))) ?_
    refine L.op1 rfl rfl (GSpec.plain rfl (spec_assign rfl (Get.cint rfl))) ?_
    refine L.storeW (k := 0) rfl rfl rfl Tryd.sizeOf25 (Get.tmp rfl) (Get.tmp rfl) rfl rfl rfl ?_
    refine L.op1 rfl rfl (GSpec.plain rfl (spec_assign rfl (Get.tmp rfl))) ?_
    refine L.nil ?_
    refine N.thenW ?_
    refine W.keep (.cons (t := 1) rfl (.cons (t := 2) rfl (.cons (t := 4) rfl (.cons (t := 5) rfl (.cons (t := 6) rfl .nil))))) .refl ?_
    refine W.ret ?_
    refine N.ret () rfl (.tmp (t := 4) (Get.tmp rfl) (.cellA (k := 0) (Get.tmp (t := 5) rfl) rfl Tryd.isAgg25 Tryd.sizeOf25 rfl (.tmp (t := 6) (Get.tmp rfl) .nil))) (res3w (eqI ?_) (eqA ?_) (eqI ?_)) .nil (fun _ _ h => h)
    all_goals (rw [read_e (a := a) q0]; try rfl)
  · have q0 : validE m = 0 := by have h := h1; simpa using h
    have hM := valid_ok q0
    have hML := hM.len
    have hM32 := hM.regs.1
    refine W.skip ?_
    refine N.thenW ?_
    refine W.seq ?_
    refine W.region ?_
    refine L.op1 rfl rfl (GSpec.plain rfl (spec_loadW (k := 1) rfl Tryd.isAgg25 Tryd.sizeOf25 (Get.tmp rfl) rfl rfl)) ?_
    refine L.op1 rfl rfl (GSpec.plain rfl (spec_move rfl (Get.tmp rfl))) ?_
    refine L.op1 rfl rfl (GSpec.plain rfl (spec_call rfl Tryd.call32 (index_ok _ _) (.cons (Get.tmp rfl) (.cons (Get.tmp rfl) .nil)))) ?_
    refine L.op1 rfl rfl (GSpec.plain rfl (spec_assign rfl (Get.tmp rfl))) ?_
    refine L.nil ?_
    refine N.thenW ?_
    refine W.keep (.cons (t := 2) rfl (.cons (t := 4) rfl (.cons (t := 5) rfl (.cons (t := 6) rfl (.cons (t := 8) rfl .nil))))) .refl ?_
    refine W.seq ?_
    refine W.block ?_
    refine W.seq ?_
    refine W.region ?_
    refine L.op1 rfl rfl (GSpec.plain rfl (spec_move rfl (Get.tmp rfl))) ?_
    refine L.op1 rfl rfl (GSpec.plain rfl (spec_lss rfl (Get.tmp rfl) (Get.cint rfl))) ?_
    refine L.op1 rfl rfl (GSpec.plain rfl (spec_assign rfl (Get.tmp rfl))) ?_
    refine L.nil ?_
    refine N.thenW ?_
    refine W.cond (Get.tmp rfl) (fun h2 => ?_) (fun h2 => ?_)
    · have ph2 := h2; try simp only [decide_eq_true_eq, decide_eq_false_iff_not, Bool.and_eq_true, Bool.or_eq_true, Bool.and_eq_false_iff, Bool.or_eq_false_iff, Bool.not_eq_true', Bool.not_eq_false', Bool.not_true, Bool.not_false, Int.not_lt, Int.not_le] at ph2
      refine W.seq ?_
      refine W.region ?_
      refine L.op1 rfl rfl (GSpec.plain rfl (spec_build (Rs := [Rp.slice eR [], Rp.slice eI []]) rfl ti25 z25 Tryd.underlying25 pl25 .nil)) ?_
      refine L.op1 rfl rfl (GSpec.plain rfl (spec_assign rfl (Get.cint rfl))) ?_
      refine L.storeW (k := 0) rfl rfl rfl Tryd.sizeOf25 (Get.tmp rfl) (Get.tmp rfl) rfl rfl rfl ?_
      refine L.op1 rfl rfl (GSpec.plain rfl (spec_assign rfl (Get.cint rfl))) ?_
      refine L.nil ?_
      refine N.thenW ?_
      refine W.keep (.cons (t := 2) rfl (.cons (t := 4) rfl (.cons (t := 5) rfl (.cons (t := 6) rfl (.cons (t := 8) rfl .nil))))) .refl ?_
      refine W.ret ?_
      refine N.ret () rfl (.tmp (t := 4) (Get.tmp rfl) (.cellA (k := 0) (Get.tmp (t := 5) rfl) rfl Tryd.isAgg25 Tryd.sizeOf25 rfl (.tmp (t := 6) (Get.tmp rfl) .nil))) (res3w (eqI ?_) (eqA ?_) (eqI ?_)) .nil (fun _ _ h => h)
      all_goals (rw [read_12 q0 ph2]; try rfl)
    · have ph2 := h2; simp only [decide_eq_true_eq, decide_eq_false_iff_not, Bool.and_eq_true, Bool.or_eq_true, Bool.and_eq_false_iff, Bool.or_eq_false_iff, Bool.not_eq_true', Bool.not_eq_false', Bool.not_true, Bool.not_false, Int.not_lt, Int.not_le] at ph2
      have q3 : ¬ idxA m a < 0 := by omega
      have hix := idxA_at q3
      have hokf := (hM.flds hix.1 hix.2).ok.lsbs
      refine W.seq ?_
      refine W.region ?_
      refine L.op1 rfl rfl (GSpec.plain rfl (spec_fieldAddr (f := 0) (off' := 0) rfl Tryd.underlying25 rfl Tryd.sizeOf22 (Get.tmp rfl) rfl)) ?_
      refine L.op1 rfl rfl (GSpec.plain rfl (spec_load1 (k := 1) rfl Tryd.isAgg22 (Get.tmp rfl) rfl rfl)) ?_
      refine L.op1 rfl rfl (GSpec.plain rfl (spec_move rfl (Get.tmp rfl))) ?_
      refine L.op1 rfl rfl (GSpec.plain rfl (spec_indexAddr (y := rg m (idxA m a)) (E := eR) rfl Tryd.underlying22 Tryd.sizeOf49 (fun _ => rfl) (Get.tmp rfl) (Get.tmp rfl) ⟨hix.1, getD_some hix⟩)) ?_
      refine L.op1 rfl rfl (GSpec.plain rfl (spec_loadPA rfl Tryd.isAgg49 Tryd.sizeOf49 (Get.tmp rfl) rfl)) ?_
      refine L.op1 rfl rfl (GSpec.plain rfl (spec_buildSlice1 (y := 2) (E := eI) rfl Tryd.underlying23 ti3 z3 (by decide) (GetC.one (Get.cint rfl)) (fun _ => rfl))) ?_
      refine L.op1 rfl rfl (GSpec.plain rfl (spec_call rfl Tryd.call33 (refuses_ok _ _) (.cons (Get.tmp rfl) (.cons (Get.tmp rfl) .nil)))) ?_
      refine L.op1 rfl rfl (GSpec.plain rfl (spec_assign rfl (Get.tmp rfl))) ?_
      refine L.nil ?_
      refine N.thenW ?_
      refine W.keep (.cons (t := 2) rfl (.cons (t := 4) rfl (.cons (t := 5) rfl (.cons (t := 6) rfl (.cons (t := 8) rfl (.cons (t := 23) rfl .nil)))))) .refl ?_
      refine W.cond (Get.tmp rfl) (fun h3 => ?_) (fun h3 => ?_)
      · have ph3 := h3; try simp only [decide_eq_true_eq, decide_eq_false_iff_not, Bool.and_eq_true, Bool.or_eq_true, Bool.and_eq_false_iff, Bool.or_eq_false_iff, Bool.not_eq_true', Bool.not_eq_false', Bool.not_true, Bool.not_false, Int.not_lt, Int.not_le] at ph3
        refine W.seq ?_
        refine W.region ?_
        refine L.op1 rfl rfl (GSpec.plain rfl (spec_build (Rs := [Rp.slice eR [], Rp.slice eI []]) rfl ti25 z25 Tryd.underlying25 pl25 .nil)) ?_
        refine L.op1 rfl rfl (GSpec.plain rfl (spec_assign rfl (Get.cint rfl))) ?_
        refine L.storeW (k := 0) rfl rfl rfl Tryd.sizeOf25 (Get.tmp rfl) (Get.tmp rfl) rfl rfl rfl ?_
        refine L.op1 rfl rfl (GSpec.plain rfl (spec_assign rfl (Get.cint rfl))) ?_
        refine L.nil ?_
        refine N.thenW ?_
        refine W.ret ?_
        refine N.ret () rfl (.tmp (t := 4) (Get.tmp rfl) (.cellA (k := 0) (Get.tmp (t := 5) rfl) rfl Tryd.isAgg25 Tryd.sizeOf25 rfl (.tmp (t := 6) (Get.tmp rfl) .nil))) (res3w (eqI ?_) (eqA ?_) (eqI ?_)) .nil (fun _ _ h => h)
        all_goals (rw [read_17 q0 q3 h3]; try rfl)
      · have ph3 := h3; try simp only [decide_eq_true_eq, decide_eq_false_iff_not, Bool.and_eq_true, Bool.or_eq_true, Bool.and_eq_false_iff, Bool.or_eq_false_iff, Bool.not_eq_true', Bool.not_eq_false', Bool.not_true, Bool.not_false, Int.not_lt, Int.not_le] at ph3
        refine W.skip ?_
        refine N.blockNormal ?_
        refine N.thenW ?_
        refine W.seq ?_
        refine W.region ?_
        refine L.op1 rfl rfl (GSpec.plain rfl (spec_loadW (k := 1) rfl Tryd.isAgg25 Tryd.sizeOf25 (Get.tmp rfl) rfl rfl)) ?_
        refine L.op rfl rfl (GSpec.plain rfl (spec_call rfl Tryd.call34 (copied_ok m hM.regs (by omega)) (.cons (Get.tmp rfl) .nil))) (fun v33 => ?_)
        try dsimp only
        refine L.box rfl rfl (GSpec.plain rfl (spec_alloc rfl ti25 z25)) (fun r9 => ?_)
        refine L.storeW (k := 0) rfl rfl rfl Tryd.sizeOf25 (Get.tmp rfl) (Get.tmp rfl) rfl rfl rfl ?_
        refine L.nil ?_
        refine N.thenW ?_
        refine W.seq ?_
        apply W.any 14 mixed (by kernel_rfl)
        · apply Head.one rfl rfl (GSpec.plain rfl (spec_fieldAddr (f := 1) (off' := 1) rfl Tryd.underlying25 rfl Tryd.sizeOf23 (Get.tmp rfl) rfl))
          apply Head.one rfl rfl (GSpec.plain rfl (spec_load1 (k := 0) rfl Tryd.isAgg23 (Get.tmp rfl) rfl rfl))
          apply Head.one rfl rfl (GSpec.plain rfl (spec_move rfl (Get.tmp rfl)))
          apply Head.one rfl rfl (GSpec.plain rfl (spec_indexAddrO (k := 1) (E := eI) rfl Tryd.underlying23 Tryd.sizeOf3 (Get.tmp rfl) (Get.tmp rfl) rfl (by omega)))
          apply Head.one rfl rfl (GSpec.plain rfl (spec_loadO1 (k := 1) (j := 0) (E := eI) rfl Tryd.isAgg3 (fun _ => rfl) (Get.tmp rfl) rfl rfl (vl_some (by omega)) rfl))
          apply Head.one rfl rfl (GSpec.plain rfl (spec_fieldAddr (f := 0) (off' := 0) rfl Tryd.underlying25 rfl Tryd.sizeOf22 (Get.tmp rfl) rfl))
          apply Head.one rfl rfl (GSpec.plain rfl (spec_load1 (k := 3) rfl Tryd.isAgg22 (Get.tmp rfl) rfl rfl))
          apply Head.one rfl rfl (GSpec.plain rfl (spec_move rfl (Get.tmp rfl)))
          apply Head.one rfl rfl (GSpec.plain rfl (spec_indexAddr (y := rg m (idxA m a)) (E := eR) rfl Tryd.underlying22 Tryd.sizeOf49 (fun _ => rfl) (Get.tmp rfl) (Get.tmp rfl) ⟨hix.1, getD_some hix⟩))
          apply Head.one rfl rfl (GSpec.plain rfl (spec_loadPA rfl Tryd.isAgg49 Tryd.sizeOf49 (Get.tmp rfl) rfl))
          apply Head.one rfl rfl (GSpec.plain rfl (spec_buildSlice1 (y := 5) (E := eI) rfl Tryd.underlying23 ti3 z3 (by decide) (GetC.one (Get.cint rfl)) (fun _ => rfl)))
          apply Head.one rfl rfl (GSpec.plain rfl (spec_call rfl Tryd.call41 (access_ok _ _ hokf) (.cons (Get.tmp rfl) (.cons (Get.tmp rfl) .nil))))
          apply Head.one rfl rfl (GSpec.plain rfl (spec_bits rfl (by simp) (Get.tmp rfl) (Get.tmp rfl)))
          apply Head.one rfl rfl (GSpec.plain rfl (spec_indexAddrO (k := 1) (E := eI) rfl Tryd.underlying23 Tryd.sizeOf3 (Get.tmp rfl) (Get.tmp rfl) rfl (by omega)))
          exact Head.nil
        refine Fin.one ?_
        refine Fin.one ?_
        refine Fin.one ?_
        refine Fin.one ?_
        refine Fin.one ?_
        refine Fin.one ?_
        refine Fin.one ?_
        refine Fin.one ?_
        refine Fin.one ?_
        refine Fin.one ?_
        refine Fin.one ?_
        refine Fin.one ?_
        refine Fin.one ?_
        refine Fin.one ?_
        refine Fin.nil ?_
        refine L.storeO1 (k := 1) (j := 0) (E := eI) rfl rfl rfl Tryd.sizeOf3 (fun _ => rfl) (Get.tmp rfl) (Get.tmp rfl) rfl rfl (by decide) (getD_some (by omega)) rfl ?_
        refine L.nil ?_
        refine N.thenW ?_
        refine W.pubBox (off := 1) 1 0 rfl rfl rfl (fun _ => rfl) ?_
        refine W.keep (.cons (t := 2) rfl (.cons (t := 4) rfl (.cons (t := 5) rfl (.cons (t := 6) rfl (.cons (t := 8) rfl (.cons (t := 9) rfl .nil)))))) .refl ?_
        refine W.seq ?_
        apply W.any 15 mixed (by kernel_rfl)
        · apply Head.one rfl rfl (GSpec.plain rfl (spec_fieldAddr (f := 1) (off' := 1) rfl Tryd.underlying25 rfl Tryd.sizeOf23 (Get.tmp rfl) rfl))
          apply Head.one rfl rfl (GSpec.plain rfl (spec_load1 (k := 2) rfl Tryd.isAgg23 (Get.tmp rfl) rfl rfl))
          apply Head.one rfl rfl (GSpec.plain rfl (spec_move rfl (Get.tmp rfl)))
          apply Head.one rfl rfl (GSpec.plain rfl (spec_indexAddr (y := vl m (idxA m a)) (E := eI) rfl Tryd.underlying23 Tryd.sizeOf3 (fun _ => rfl) (Get.tmp rfl) (Get.tmp rfl) ⟨hix.1, getD_some (by omega)⟩))
          apply Head.one rfl rfl (GSpec.plain rfl (spec_loadP1 rfl Tryd.isAgg3 (Get.tmp rfl)))
          apply Head.one rfl rfl (GSpec.plain rfl (spec_fieldAddr (f := 0) (off' := 0) rfl Tryd.underlying25 rfl Tryd.sizeOf22 (Get.tmp rfl) rfl))
          apply Head.one rfl rfl (GSpec.plain rfl (spec_load1 (k := 2) rfl Tryd.isAgg22 (Get.tmp rfl) rfl rfl))
          apply Head.one rfl rfl (GSpec.plain rfl (spec_move rfl (Get.tmp rfl)))
          apply Head.one rfl rfl (GSpec.plain rfl (spec_indexAddr (y := rg m (idxA m a)) (E := eR) rfl Tryd.underlying22 Tryd.sizeOf49 (fun _ => rfl) (Get.tmp rfl) (Get.tmp rfl) ⟨hix.1, getD_some hix⟩))
          apply Head.one rfl rfl (GSpec.plain rfl (spec_loadPA rfl Tryd.isAgg49 Tryd.sizeOf49 (Get.tmp rfl) rfl))
          apply Head.one rfl rfl (GSpec.plain rfl (spec_buildSlice1 (y := 2) (E := eI) rfl Tryd.underlying23 ti3 z3 (by decide) (GetC.one (Get.cint rfl)) (fun _ => rfl)))
          apply Head.one rfl rfl (GSpec.plain rfl (spec_call rfl Tryd.call41 (access_ok _ _ hokf) (.cons (Get.tmp rfl) (.cons (Get.tmp rfl) .nil))))
          apply Head.one rfl rfl (GSpec.plain rfl (spec_bits rfl (by simp) (Get.tmp rfl) (Get.tmp rfl)))
          apply Head.one rfl rfl (GSpec.plain rfl (spec_loadW (k := 0) rfl Tryd.isAgg25 Tryd.sizeOf25 (Get.tmp rfl) rfl rfl))
          apply Head.one rfl rfl (GSpec.plain rfl (spec_assign rfl (Get.tmp rfl)))
          exact Head.nil
        refine Fin.one ?_
        refine Fin.one ?_
        refine Fin.one ?_
        refine Fin.one ?_
        refine Fin.one ?_
        refine Fin.one ?_
        refine Fin.one ?_
        refine Fin.one ?_
        refine Fin.one ?_
        refine Fin.one ?_
        refine Fin.one ?_
        refine Fin.one ?_
        refine Fin.one ?_
        refine Fin.one ?_
        refine Fin.one ?_
        refine Fin.nil ?_
        refine L.storeW (k := 1) rfl rfl rfl Tryd.sizeOf25 (Get.tmp rfl) (Get.tmp rfl) rfl rfl rfl ?_
        refine L.op1 rfl rfl (GSpec.plain rfl (spec_assign rfl (Get.cint rfl))) ?_
        refine L.nil ?_
        refine N.thenW ?_
        refine W.keep (.cons (t := 4) rfl (.cons (t := 5) rfl (.cons (t := 6) rfl .nil))) .refl ?_
        refine W.ret ?_
        refine N.ret () rfl (.tmp (t := 4) (Get.tmp rfl) (.cellA (k := 1) (Get.tmp (t := 5) rfl) rfl Tryd.isAgg25 Tryd.sizeOf25 rfl (.tmp (t := 6) (Get.tmp rfl) .nil))) (res3w (eqI ?_) (eqA ?_) (eqI ?_)) .nil (fun _ _ h => h)
        all_goals (rw [read_0 q0 q3 h3]; try rfl)

end Go.Proofs.YtmoijeodahlbmaaDoor
