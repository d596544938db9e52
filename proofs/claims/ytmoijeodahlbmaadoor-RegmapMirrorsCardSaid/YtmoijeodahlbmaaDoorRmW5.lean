import Derived.Test.YtmoijeodahlbmaaDoorRmW4
set_option linter.unusedSimpArgs false
set_option maxRecDepth 8000
set_option linter.unusedVariables false
namespace Go.Proofs.YtmoijeodahlbmaaDoor
open Go.Sim
theorem written_ok (r : Rg) (o v : Int) (hok : lsbs r.flds) : CallT Tryd.prog 35 [Rp.agg (eR r), Rp.int .i64 o, Rp.int .i64 v] [] (.one (Rp.int .i64 (writtenI r.flds o v))) := by
  refine W.enter (fn := Tryd.f35) (n := 54) Tryd.func35 rfl Tryd.ntmps35 rfl (fun w₀ C₀ => ?_)
  simp only [argS]
  refine W.fact 0 rfl reg_fact fun hr => ?_
  refine W.seq ?_
  refine W.region ?_
  refine L.box rfl rfl (GSpec.plain rfl (spec_box rfl (GetC.agg (Get.tmp rfl)))) (fun r3 => ?_)
  refine L.op1 rfl rfl (GSpec.plain rfl (spec_assign rfl (Get.cint rfl))) ?_
  refine L.nil ?_
  refine N.thenW ?_
  refine W.seq ?_
  refine W.region ?_
  refine L.op1 rfl rfl (GSpec.plain rfl (spec_move rfl (Get.tmp rfl))) ?_
  refine L.op1 rfl rfl (GSpec.plain rfl (spec_assign rfl (Get.tmp rfl))) ?_
  refine L.nil ?_
  refine N.thenW ?_
  refine W.seq ?_
  refine W.seq ?_
  refine W.region ?_
  refine L.op1 rfl rfl (GSpec.plain rfl (spec_fieldAddr (f := 2) (off' := 2) rfl Tryd.underlying49 rfl Tryd.sizeOf47 (Get.tmp rfl) rfl)) ?_
  refine L.op1 rfl rfl (GSpec.plain rfl (spec_load1 (k := 0) rfl Tryd.isAgg47 (Get.tmp rfl) rfl rfl)) ?_
  refine L.op1 rfl rfl (GSpec.plain rfl (spec_len rfl Tryd.underlying47 (Get.tmp rfl))) ?_
  refine L.op1 rfl rfl (GSpec.plain rfl (spec_move rfl (Get.cint rfl))) ?_
  refine L.nil ?_
  refine N.thenW ?_
  refine W.block ?_
  refine W.loopK (σ := Nat) (.cons (t := 2) rfl (.cons (t := 6) rfl (.cons (t := 13) rfl (.cons (t := 14) rfl .nil)))) (fun z => [(15, Rp.int .i64 (z : Nat)), (7, Rp.int .i64 ((r.flds.take z).foldl (wr v) o))]) (fun z => []) (fun z => z ≤ r.flds.length) (fun z => r.flds.length - z) 0 (Nat.zero_le _) (.cons (t := 15) rfl (.cons (t := 7) rfl .nil)) (.cons 0 rfl .nil) ?_
  intro i hI S' M' hS hM
  try dsimp only at hS hM
  simp only [List.cons_append, List.nil_append] at hS hM
  subst hS hM
  try dsimp only
  have hr2 := hr.2
  refine W.seq ?_
  refine W.region ?_
  refine L.op1 rfl rfl (GSpec.plain rfl (spec_lss rfl (Get.tmp rfl) (Get.tmp rfl))) ?_
  refine L.nil ?_
  refine N.thenW ?_
  refine W.seq ?_
  refine W.cond (Get.tmp rfl) (fun h1 => ?_) (fun h1 => ?_)
  · have ph1 := h1; try simp only [decide_eq_true_eq, decide_eq_false_iff_not, Bool.and_eq_true, Bool.or_eq_true, Bool.and_eq_false_iff, Bool.or_eq_false_iff, Bool.not_eq_true', Bool.not_eq_false', Bool.not_true, Bool.not_false, Int.not_lt, Int.not_le] at ph1
    refine W.skip ?_
    refine N.thenW ?_
    refine W.seq ?_
    refine W.block ?_
    refine W.seq ?_
    refine W.region ?_
    refine L.op1 rfl rfl (GSpec.plain rfl (spec_indexAddr (y := r.flds.getD i default) (E := eF) rfl Tryd.underlying47 Tryd.sizeOf51 (fun _ => rfl) (Get.tmp rfl) (Get.tmp rfl) ⟨by omega, getD_some (by omega)⟩)) ?_
    refine L.op1 rfl rfl (GSpec.plain rfl (spec_loadPA rfl Tryd.isAgg51 Tryd.sizeOf51 (Get.tmp rfl) rfl)) ?_
    refine L.box rfl rfl (GSpec.plain rfl (spec_alloc rfl ti51 z51)) (fun r9 => ?_)
    refine L.storeW (k := 0) rfl rfl rfl Tryd.sizeOf51 (Get.tmp rfl) (Get.tmp rfl) rfl rfl rfl ?_
    refine L.nil ?_
    refine N.thenW ?_
    refine W.seq ?_
    refine W.region ?_
    refine L.op1 rfl rfl (GSpec.plain rfl (spec_loadW (k := 0) rfl Tryd.isAgg51 Tryd.sizeOf51 (Get.tmp rfl) rfl rfl)) ?_
    refine L.op1 rfl rfl (GSpec.plain rfl (spec_call rfl Tryd.call47 (fmask_ok _ (hok _ (getD_mem' (by omega)))) (.cons (Get.tmp rfl) .nil))) ?_
    refine L.op1 rfl rfl (GSpec.plain rfl (spec_assign rfl (Get.tmp rfl))) ?_
    refine L.nil ?_
    refine N.thenW ?_
    refine W.seq ?_
    refine W.region ?_
    refine L.op1 rfl rfl (GSpec.plain rfl (spec_fieldAddr (f := 3) (off' := 3) rfl Tryd.underlying51 rfl Tryd.sizeOf3 (Get.tmp rfl) rfl)) ?_
    refine L.op1 rfl rfl (GSpec.plain rfl (spec_load1 (k := 0) rfl Tryd.isAgg3 (Get.tmp rfl) rfl rfl)) ?_
    refine L.nil ?_
    refine N.thenW ?_
    refine W.block ?_
    refine W.seq ?_
    refine W.block ?_
    refine W.block ?_
    refine W.seq ?_
    refine W.block ?_
    refine W.seq ?_
    refine W.block ?_
    refine W.seq ?_
    refine W.block ?_
    refine W.block ?_
    refine W.seq ?_
    refine W.seq ?_
    refine W.seq ?_
    refine W.region ?_
    refine L.op1 rfl rfl (GSpec.plain rfl (spec_eql rfl (Get.tmp rfl) (Get.cint rfl))) ?_
    refine L.op1 rfl rfl (GSpec.plain rfl (spec_assign rfl (Get.tmp rfl))) ?_
    refine L.nil ?_
    refine N.thenW ?_
    refine W.cond (Get.tmp rfl) (fun h2 => ?_) (fun h2 => ?_)
    · have ph2 := h2; try simp only [decide_eq_true_eq, decide_eq_false_iff_not, Bool.and_eq_true, Bool.or_eq_true, Bool.and_eq_false_iff, Bool.or_eq_false_iff, Bool.not_eq_true', Bool.not_eq_false', Bool.not_true, Bool.not_false, Int.not_lt, Int.not_le] at ph2
      refine W.exit ?_
      refine N.thenExit ?_
      refine N.thenExit ?_
      refine N.blockExit ?_
      refine N.blockNormal ?_
      refine N.thenW ?_
      refine W.seq ?_
      refine W.region ?_
      refine L.op1 rfl rfl (GSpec.plain rfl (spec_move rfl (Get.tmp rfl))) ?_
      refine L.op1 rfl rfl (GSpec.plain rfl (spec_move rfl (Get.tmp rfl))) ?_
      refine L.op1 rfl rfl (GSpec.plain rfl (spec_bits rfl (by simp) (Get.tmp rfl) (Get.tmp rfl))) ?_
      refine L.op1 rfl rfl (GSpec.plain rfl (spec_move rfl (Get.tmp rfl))) ?_
      refine L.op1 rfl rfl (GSpec.plain rfl (spec_move rfl (Get.tmp rfl))) ?_
      refine L.op1 rfl rfl (GSpec.plain rfl (spec_bits rfl (by simp) (Get.tmp rfl) (Get.tmp rfl))) ?_
      refine L.op1 rfl rfl (GSpec.plain rfl (spec_bits rfl (by simp) (Get.tmp rfl) (Get.tmp rfl))) ?_
      refine L.op1 rfl rfl (GSpec.plain rfl (spec_assign rfl (Get.tmp rfl))) ?_
      refine L.nil ?_
      refine N.thenW ?_
      refine W.exit ?_
      refine N.blockMiss rfl ?_
      refine N.thenExit ?_
      refine N.blockMiss rfl ?_
      refine N.thenExit ?_
      refine N.blockMiss rfl ?_
      refine N.blockMiss rfl ?_
      refine N.thenExit ?_
      refine N.blockExit ?_
      refine N.blockNormal ?_
      refine N.thenW ?_
      refine W.region ?_
      first | refine L.op1 rfl rfl (GSpec.plain rfl (fit_i64 (by omega) (by omega) (spec_add rfl (Get.tmp rfl) (Get.cint rfl)))) ?_ | refine L.op1 rfl rfl (GSpec.plain rfl (spec_add rfl (Get.tmp rfl) (Get.cint rfl))) ?_
      refine L.op1 rfl rfl (GSpec.plain rfl (spec_move rfl (Get.tmp rfl))) ?_
      refine L.nil ?_
      refine N.roundK (i + 1) ?hI1 ?hmu1 ?hs1 ?hk1 ?hp1
      case hs1 => exact (.cons (t := 15) rfl (.weak (t := 7) rfl (eqI (by rw [wr_step (show i < r.flds.length by omega)]; unfold wr; first | (rw [if_pos (by omega)]; done) | (rw [if_neg (by omega), if_pos (by omega)]; done) | (rw [if_neg (by omega), if_neg (by omega), if_pos (by omega)]; done) | (rw [if_neg (by omega), if_neg (by omega), if_neg (by omega)]; done))) .nil))
      case hk1 => exact (.cons (t := 2) rfl (.cons (t := 6) rfl (.cons (t := 13) rfl (.cons (t := 14) rfl .nil))))
      case hp1 => exact (.cons 1 rfl .nil)
      all_goals (first | rfl | trivial | omega | (simp_all; done))
    · have ph2 := h2; try simp only [decide_eq_true_eq, decide_eq_false_iff_not, Bool.and_eq_true, Bool.or_eq_true, Bool.and_eq_false_iff, Bool.or_eq_false_iff, Bool.not_eq_true', Bool.not_eq_false', Bool.not_true, Bool.not_false, Int.not_lt, Int.not_le] at ph2
      refine W.skip ?_
      refine N.thenW ?_
      refine W.seq ?_
      refine W.seq ?_
      refine W.region ?_
      refine L.op1 rfl rfl (GSpec.plain rfl (spec_eql rfl (Get.tmp rfl) (Get.cint rfl))) ?_
      refine L.op1 rfl rfl (GSpec.plain rfl (spec_assign rfl (Get.tmp rfl))) ?_
      refine L.nil ?_
      refine N.thenW ?_
      refine W.cond (Get.tmp rfl) (fun h3 => ?_) (fun h3 => ?_)
      · have ph3 := h3; try simp only [decide_eq_true_eq, decide_eq_false_iff_not, Bool.and_eq_true, Bool.or_eq_true, Bool.and_eq_false_iff, Bool.or_eq_false_iff, Bool.not_eq_true', Bool.not_eq_false', Bool.not_true, Bool.not_false, Int.not_lt, Int.not_le] at ph3
        refine W.exit ?_
        refine N.thenExit ?_
        refine N.thenExit ?_
        refine N.blockMiss rfl ?_
        refine N.blockExit ?_
        refine N.thenW ?_
        refine W.seq ?_
        refine W.region ?_
        refine L.op1 rfl rfl (GSpec.plain rfl (spec_move rfl (Get.tmp rfl))) ?_
        refine L.op1 rfl rfl (GSpec.plain rfl (spec_move rfl (Get.tmp rfl))) ?_
        refine L.op1 rfl rfl (GSpec.plain rfl (spec_bits rfl (by simp) (Get.tmp rfl) (Get.tmp rfl))) ?_
        refine L.op1 rfl rfl (GSpec.plain rfl (spec_move rfl (Get.tmp rfl))) ?_
        refine L.op1 rfl rfl (GSpec.plain rfl (spec_move rfl (Get.tmp rfl))) ?_
        refine L.op1 rfl rfl (GSpec.plain rfl (spec_bits rfl (by simp) (Get.tmp rfl) (Get.tmp rfl))) ?_
        refine L.op1 rfl rfl (GSpec.plain rfl (spec_bits rfl (by simp) (Get.tmp rfl) (Get.tmp rfl))) ?_
        refine L.op1 rfl rfl (GSpec.plain rfl (spec_assign rfl (Get.tmp rfl))) ?_
        refine L.nil ?_
        refine N.thenW ?_
        refine W.exit ?_
        refine N.blockMiss rfl ?_
        refine N.thenExit ?_
        refine N.blockMiss rfl ?_
        refine N.thenExit ?_
        refine N.blockMiss rfl ?_
        refine N.blockMiss rfl ?_
        refine N.thenExit ?_
        refine N.blockExit ?_
        refine N.blockNormal ?_
        refine N.thenW ?_
        refine W.region ?_
        first | refine L.op1 rfl rfl (GSpec.plain rfl (fit_i64 (by omega) (by omega) (spec_add rfl (Get.tmp rfl) (Get.cint rfl)))) ?_ | refine L.op1 rfl rfl (GSpec.plain rfl (spec_add rfl (Get.tmp rfl) (Get.cint rfl))) ?_
        refine L.op1 rfl rfl (GSpec.plain rfl (spec_move rfl (Get.tmp rfl))) ?_
        refine L.nil ?_
        refine N.roundK (i + 1) ?hI2 ?hmu2 ?hs2 ?hk2 ?hp2
        case hs2 => exact (.cons (t := 15) rfl (.weak (t := 7) rfl (eqI (by rw [wr_step (show i < r.flds.length by omega)]; unfold wr; first | (rw [if_pos (by omega)]; done) | (rw [if_neg (by omega), if_pos (by omega)]; done) | (rw [if_neg (by omega), if_neg (by omega), if_pos (by omega)]; done) | (rw [if_neg (by omega), if_neg (by omega), if_neg (by omega)]; done))) .nil))
        case hk2 => exact (.cons (t := 2) rfl (.cons (t := 6) rfl (.cons (t := 13) rfl (.cons (t := 14) rfl .nil))))
        case hp2 => exact (.cons 1 rfl .nil)
        all_goals (first | rfl | trivial | omega | (simp_all; done))
      · have ph3 := h3; try simp only [decide_eq_true_eq, decide_eq_false_iff_not, Bool.and_eq_true, Bool.or_eq_true, Bool.and_eq_false_iff, Bool.or_eq_false_iff, Bool.not_eq_true', Bool.not_eq_false', Bool.not_true, Bool.not_false, Int.not_lt, Int.not_le] at ph3
        refine W.skip ?_
        refine N.thenW ?_
        refine W.seq ?_
        refine W.seq ?_
        refine W.region ?_
        refine L.op1 rfl rfl (GSpec.plain rfl (spec_eql rfl (Get.tmp rfl) (Get.cint rfl))) ?_
        refine L.op1 rfl rfl (GSpec.plain rfl (spec_assign rfl (Get.tmp rfl))) ?_
        refine L.nil ?_
        refine N.thenW ?_
        refine W.cond (Get.tmp rfl) (fun h4 => ?_) (fun h4 => ?_)
        · have ph4 := h4; try simp only [decide_eq_true_eq, decide_eq_false_iff_not, Bool.and_eq_true, Bool.or_eq_true, Bool.and_eq_false_iff, Bool.or_eq_false_iff, Bool.not_eq_true', Bool.not_eq_false', Bool.not_true, Bool.not_false, Int.not_lt, Int.not_le] at ph4
          refine W.exit ?_
          refine N.thenExit ?_
          refine N.thenExit ?_
          refine N.blockMiss rfl ?_
          refine N.blockMiss rfl ?_
          refine N.thenExit ?_
          refine N.blockExit ?_
          refine N.thenW ?_
          refine W.seq ?_
          refine W.region ?_
          refine L.op1 rfl rfl (GSpec.plain rfl (spec_move rfl (Get.tmp rfl))) ?_
          refine L.op1 rfl rfl (GSpec.plain rfl (spec_move rfl (Get.tmp rfl))) ?_
          refine L.op1 rfl rfl (GSpec.plain rfl (spec_move rfl (Get.tmp rfl))) ?_
          refine L.op1 rfl rfl (GSpec.plain rfl (spec_bits rfl (by simp) (Get.tmp rfl) (Get.tmp rfl))) ?_
          refine L.op1 rfl rfl (GSpec.plain rfl (spec_bits rfl (by simp) (Get.tmp rfl) (Get.tmp rfl))) ?_
          refine L.op1 rfl rfl (GSpec.plain rfl (spec_assign rfl (Get.tmp rfl))) ?_
          refine L.nil ?_
          refine N.thenW ?_
          refine W.exit ?_
          refine N.blockMiss rfl ?_
          refine N.thenExit ?_
          refine N.blockMiss rfl ?_
          refine N.blockMiss rfl ?_
          refine N.thenExit ?_
          refine N.blockExit ?_
          refine N.blockNormal ?_
          refine N.thenW ?_
          refine W.region ?_
          first | refine L.op1 rfl rfl (GSpec.plain rfl (fit_i64 (by omega) (by omega) (spec_add rfl (Get.tmp rfl) (Get.cint rfl)))) ?_ | refine L.op1 rfl rfl (GSpec.plain rfl (spec_add rfl (Get.tmp rfl) (Get.cint rfl))) ?_
          refine L.op1 rfl rfl (GSpec.plain rfl (spec_move rfl (Get.tmp rfl))) ?_
          refine L.nil ?_
          refine N.roundK (i + 1) ?hI3 ?hmu3 ?hs3 ?hk3 ?hp3
          case hs3 => exact (.cons (t := 15) rfl (.weak (t := 7) rfl (eqI (by rw [wr_step (show i < r.flds.length by omega)]; unfold wr; first | (rw [if_pos (by omega)]; done) | (rw [if_neg (by omega), if_pos (by omega)]; done) | (rw [if_neg (by omega), if_neg (by omega), if_pos (by omega)]; done) | (rw [if_neg (by omega), if_neg (by omega), if_neg (by omega)]; done))) .nil))
          case hk3 => exact (.cons (t := 2) rfl (.cons (t := 6) rfl (.cons (t := 13) rfl (.cons (t := 14) rfl .nil))))
          case hp3 => exact (.cons 1 rfl .nil)
          all_goals (first | rfl | trivial | omega | (simp_all; done))
        · have ph4 := h4; try simp only [decide_eq_true_eq, decide_eq_false_iff_not, Bool.and_eq_true, Bool.or_eq_true, Bool.and_eq_false_iff, Bool.or_eq_false_iff, Bool.not_eq_true', Bool.not_eq_false', Bool.not_true, Bool.not_false, Int.not_lt, Int.not_le] at ph4
          refine W.skip ?_
          refine N.thenW ?_
          refine W.seq ?_
          refine W.seq ?_
          refine W.region ?_
          refine L.op1 rfl rfl (GSpec.plain rfl (spec_eql rfl (Get.tmp rfl) (Get.cint rfl))) ?_
          refine L.op1 rfl rfl (GSpec.plain rfl (spec_assign rfl (Get.tmp rfl))) ?_
          refine L.nil ?_
          refine N.thenW ?_
          refine W.cond (Get.tmp rfl) (fun h5 => ?_) (fun h5 => ?_)
          · have ph5 := h5; try simp only [decide_eq_true_eq, decide_eq_false_iff_not, Bool.and_eq_true, Bool.or_eq_true, Bool.and_eq_false_iff, Bool.or_eq_false_iff, Bool.not_eq_true', Bool.not_eq_false', Bool.not_true, Bool.not_false, Int.not_lt, Int.not_le] at ph5
            refine W.exit ?_
            refine N.thenExit ?_
            refine N.thenExit ?_
            refine N.blockMiss rfl ?_
            refine N.blockMiss rfl ?_
            refine N.thenExit ?_
            refine N.blockMiss rfl ?_
            refine N.thenExit ?_
            refine N.blockExit ?_
            refine N.thenW ?_
            refine W.seq ?_
            refine W.region ?_
            refine L.op1 rfl rfl (GSpec.plain rfl (spec_move rfl (Get.tmp rfl))) ?_
            refine L.op1 rfl rfl (GSpec.plain rfl (spec_move rfl (Get.tmp rfl))) ?_
            refine L.op1 rfl rfl (GSpec.plain rfl (spec_move rfl (Get.tmp rfl))) ?_
            refine L.op1 rfl rfl (GSpec.plain rfl (spec_bits rfl (by simp) (Get.tmp rfl) (Get.tmp rfl))) ?_
            refine L.op1 rfl rfl (GSpec.plain rfl (spec_bits rfl (by simp) (Get.tmp rfl) (Get.tmp rfl))) ?_
            refine L.op1 rfl rfl (GSpec.plain rfl (spec_assign rfl (Get.tmp rfl))) ?_
            refine L.nil ?_
            refine N.thenW ?_
            refine W.exit ?_
            refine N.blockMiss rfl ?_
            refine N.blockMiss rfl ?_
            refine N.thenExit ?_
            refine N.blockExit ?_
            refine N.blockNormal ?_
            refine N.thenW ?_
            refine W.region ?_
            first | refine L.op1 rfl rfl (GSpec.plain rfl (fit_i64 (by omega) (by omega) (spec_add rfl (Get.tmp rfl) (Get.cint rfl)))) ?_ | refine L.op1 rfl rfl (GSpec.plain rfl (spec_add rfl (Get.tmp rfl) (Get.cint rfl))) ?_
            refine L.op1 rfl rfl (GSpec.plain rfl (spec_move rfl (Get.tmp rfl))) ?_
            refine L.nil ?_
            refine N.roundK (i + 1) ?hI4 ?hmu4 ?hs4 ?hk4 ?hp4
            case hs4 => exact (.cons (t := 15) rfl (.weak (t := 7) rfl (eqI (by rw [wr_step (show i < r.flds.length by omega)]; unfold wr; first | (rw [if_pos (by omega)]; done) | (rw [if_neg (by omega), if_pos (by omega)]; done) | (rw [if_neg (by omega), if_neg (by omega), if_pos (by omega)]; done) | (rw [if_neg (by omega), if_neg (by omega), if_neg (by omega)]; done))) .nil))
            case hk4 => exact (.cons (t := 2) rfl (.cons (t := 6) rfl (.cons (t := 13) rfl (.cons (t := 14) rfl .nil))))
            case hp4 => exact (.cons 1 rfl .nil)
            all_goals (first | rfl | trivial | omega | (simp_all; done))
          · have ph5 := h5; try simp only [decide_eq_true_eq, decide_eq_false_iff_not, Bool.and_eq_true, Bool.or_eq_true, Bool.and_eq_false_iff, Bool.or_eq_false_iff, Bool.not_eq_true', Bool.not_eq_false', Bool.not_true, Bool.not_false, Int.not_lt, Int.not_le] at ph5
            refine W.skip ?_
            refine N.thenW ?_
            refine W.seq ?_
            refine W.seq ?_
            refine W.region ?_
            refine L.op1 rfl rfl (GSpec.plain rfl (spec_eql rfl (Get.tmp rfl) (Get.cint rfl))) ?_
            refine L.op1 rfl rfl (GSpec.plain rfl (spec_assign rfl (Get.tmp rfl))) ?_
            refine L.nil ?_
            refine N.thenW ?_
            refine W.cond (Get.tmp rfl) (fun h6 => ?_) (fun h6 => ?_)
            · have ph6 := h6; try simp only [decide_eq_true_eq, decide_eq_false_iff_not, Bool.and_eq_true, Bool.or_eq_true, Bool.and_eq_false_iff, Bool.or_eq_false_iff, Bool.not_eq_true', Bool.not_eq_false', Bool.not_true, Bool.not_false, Int.not_lt, Int.not_le] at ph6
              refine W.exit ?_
              refine N.thenExit ?_
              refine N.thenExit ?_
              refine N.blockMiss rfl ?_
              refine N.blockMiss rfl ?_
              refine N.thenExit ?_
              refine N.blockMiss rfl ?_
              refine N.thenExit ?_
              refine N.blockMiss rfl ?_
              refine N.thenExit ?_
              refine N.blockExit ?_
              refine N.blockNormal ?_
              refine N.thenW ?_
              refine W.exit ?_
              refine N.blockExit ?_
              refine N.blockNormal ?_
              refine N.thenW ?_
              refine W.region ?_
              first | refine L.op1 rfl rfl (GSpec.plain rfl (fit_i64 (by omega) (by omega) (spec_add rfl (Get.tmp rfl) (Get.cint rfl)))) ?_ | refine L.op1 rfl rfl (GSpec.plain rfl (spec_add rfl (Get.tmp rfl) (Get.cint rfl))) ?_
              refine L.op1 rfl rfl (GSpec.plain rfl (spec_move rfl (Get.tmp rfl))) ?_
              refine L.nil ?_
              refine N.roundK (i + 1) ?hI5 ?hmu5 ?hs5 ?hk5 ?hp5
              case hs5 => exact (.cons (t := 15) rfl (.weak (t := 7) rfl (eqI (by rw [wr_step (show i < r.flds.length by omega)]; unfold wr; first | (rw [if_pos (by omega)]; done) | (rw [if_neg (by omega), if_pos (by omega)]; done) | (rw [if_neg (by omega), if_neg (by omega), if_pos (by omega)]; done) | (rw [if_neg (by omega), if_neg (by omega), if_neg (by omega)]; done))) .nil))
              case hk5 => exact (.cons (t := 2) rfl (.cons (t := 6) rfl (.cons (t := 13) rfl (.cons (t := 14) rfl .nil))))
              case hp5 => exact (.cons 1 rfl .nil)
              all_goals (first | rfl | trivial | omega | (simp_all; done))
            · have ph6 := h6; try simp only [decide_eq_true_eq, decide_eq_false_iff_not, Bool.and_eq_true, Bool.or_eq_true, Bool.and_eq_false_iff, Bool.or_eq_false_iff, Bool.not_eq_true', Bool.not_eq_false', Bool.not_true, Bool.not_false, Int.not_lt, Int.not_le] at ph6
              refine W.skip ?_
              refine N.thenW ?_
              refine W.seq ?_
              refine W.region ?_
              refine L.op1 rfl rfl (GSpec.plain rfl (spec_eql rfl (Get.tmp rfl) (Get.cint rfl))) ?_
              refine L.op1 rfl rfl (GSpec.plain rfl (spec_assign rfl (Get.tmp rfl))) ?_
              refine L.nil ?_
              refine N.thenW ?_
              refine W.cond (Get.tmp rfl) (fun h7 => ?_) (fun h7 => ?_)
              · have ph7 := h7; try simp only [decide_eq_true_eq, decide_eq_false_iff_not, Bool.and_eq_true, Bool.or_eq_true, Bool.and_eq_false_iff, Bool.or_eq_false_iff, Bool.not_eq_true', Bool.not_eq_false', Bool.not_true, Bool.not_false, Int.not_lt, Int.not_le] at ph7
                refine W.exit ?_
                refine N.thenExit ?_
                refine N.blockMiss rfl ?_
                refine N.blockMiss rfl ?_
                refine N.thenExit ?_
                refine N.blockMiss rfl ?_
                refine N.thenExit ?_
                refine N.blockMiss rfl ?_
                refine N.thenExit ?_
                refine N.blockMiss rfl ?_
                refine N.blockExit ?_
                refine N.thenW ?_
                refine W.exit ?_
                refine N.blockExit ?_
                refine N.blockNormal ?_
                refine N.thenW ?_
                refine W.region ?_
                first | refine L.op1 rfl rfl (GSpec.plain rfl (fit_i64 (by omega) (by omega) (spec_add rfl (Get.tmp rfl) (Get.cint rfl)))) ?_ | refine L.op1 rfl rfl (GSpec.plain rfl (spec_add rfl (Get.tmp rfl) (Get.cint rfl))) ?_
                refine L.op1 rfl rfl (GSpec.plain rfl (spec_move rfl (Get.tmp rfl))) ?_
                refine L.nil ?_
                refine N.roundK (i + 1) ?hI6 ?hmu6 ?hs6 ?hk6 ?hp6
                case hs6 => exact (.cons (t := 15) rfl (.weak (t := 7) rfl (eqI (by rw [wr_step (show i < r.flds.length by omega)]; unfold wr; first | (rw [if_pos (by omega)]; done) | (rw [if_neg (by omega), if_pos (by omega)]; done) | (rw [if_neg (by omega), if_neg (by omega), if_pos (by omega)]; done) | (rw [if_neg (by omega), if_neg (by omega), if_neg (by omega)]; done))) .nil))
                case hk6 => exact (.cons (t := 2) rfl (.cons (t := 6) rfl (.cons (t := 13) rfl (.cons (t := 14) rfl .nil))))
                case hp6 => exact (.cons 1 rfl .nil)
                all_goals (first | rfl | trivial | omega | (simp_all; done))
              · have ph7 := h7; try simp only [decide_eq_true_eq, decide_eq_false_iff_not, Bool.and_eq_true, Bool.or_eq_true, Bool.and_eq_false_iff, Bool.or_eq_false_iff, Bool.not_eq_true', Bool.not_eq_false', Bool.not_true, Bool.not_false, Int.not_lt, Int.not_le] at ph7
                refine W.skip ?_
                refine N.thenW ?_
                refine W.exit ?_
                refine N.blockMiss rfl ?_
                refine N.blockMiss rfl ?_
                refine N.thenExit ?_
                refine N.blockMiss rfl ?_
                refine N.thenExit ?_
                refine N.blockMiss rfl ?_
                refine N.thenExit ?_
                refine N.blockMiss rfl ?_
                refine N.blockMiss rfl ?_
                refine N.thenExit ?_
                refine N.blockExit ?_
                refine N.blockNormal ?_
                refine N.thenW ?_
                refine W.region ?_
                first | refine L.op1 rfl rfl (GSpec.plain rfl (fit_i64 (by omega) (by omega) (spec_add rfl (Get.tmp rfl) (Get.cint rfl)))) ?_ | refine L.op1 rfl rfl (GSpec.plain rfl (spec_add rfl (Get.tmp rfl) (Get.cint rfl))) ?_
                refine L.op1 rfl rfl (GSpec.plain rfl (spec_move rfl (Get.tmp rfl))) ?_
                refine L.nil ?_
                refine N.roundK (i + 1) ?hI7 ?hmu7 ?hs7 ?hk7 ?hp7
                case hs7 => exact (.cons (t := 15) rfl (.weak (t := 7) rfl (eqI (by rw [wr_step (show i < r.flds.length by omega)]; unfold wr; first | (rw [if_pos (by omega)]; done) | (rw [if_neg (by omega), if_pos (by omega)]; done) | (rw [if_neg (by omega), if_neg (by omega), if_pos (by omega)]; done) | (rw [if_neg (by omega), if_neg (by omega), if_neg (by omega)]; done))) .nil))
                case hk7 => exact (.cons (t := 2) rfl (.cons (t := 6) rfl (.cons (t := 13) rfl (.cons (t := 14) rfl .nil))))
                case hp7 => exact (.cons 1 rfl .nil)
                all_goals (first | rfl | trivial | omega | (simp_all; done))
  · have ph1 := h1; try simp only [decide_eq_true_eq, decide_eq_false_iff_not, Bool.and_eq_true, Bool.or_eq_true, Bool.and_eq_false_iff, Bool.or_eq_false_iff, Bool.not_eq_true', Bool.not_eq_false', Bool.not_true, Bool.not_false, Int.not_lt, Int.not_le] at ph1
    refine W.exit ?_
    refine N.thenExit ?_
    refine N.thenExit ?_
    refine N.blockExit ?_
    refine N.thenW ?_
    refine W.seq ?_
    refine W.region ?_
    refine L.op1 rfl rfl (GSpec.plain rfl (spec_move rfl (Get.tmp rfl))) ?_
    refine L.op1 rfl rfl (GSpec.plain rfl (spec_assign rfl (Get.tmp rfl))) ?_
    refine L.nil ?_
    refine N.thenW ?_
    refine W.keep (.cons (t := 6) rfl .nil) .refl ?_
    refine W.ret ?_
    refine N.ret () rfl (.tmp (t := 6) (Get.tmp rfl) .nil) (res1 (eqI ?_)) .nil (fun _ _ h => h)
    rw [take_all (show r.flds.length ≤ i by omega)]; rfl

theorem every_ok (r : Rg) (a b : Int) : CallT Tryd.prog 36 [Rp.agg (eR r), Rp.int .i64 a, Rp.int .i64 b] [] (.one (Rp.bool (refB r.flds [a, b]))) := by
  refine W.enter (fn := Tryd.f36) (n := 37) Tryd.func36 rfl Tryd.ntmps36 rfl (fun w₀ C₀ => ?_)
  simp only [argS]
  refine W.fact 0 rfl reg_fact fun hr => ?_
  refine W.seq ?_
  refine W.region ?_
  refine L.box rfl rfl (GSpec.plain rfl (spec_box rfl (GetC.agg (Get.tmp rfl)))) (fun r3 => ?_)
  refine L.op1 rfl rfl (GSpec.plain rfl (spec_assign rfl Get.cbool)) ?_
  refine L.nil ?_
  refine N.thenW ?_
  refine W.seq ?_
  refine W.seq ?_
  refine W.region ?_
  refine L.op1 rfl rfl (GSpec.plain rfl (spec_assign rfl (Get.cint rfl))) ?_
  refine L.nil ?_
  refine N.thenW ?_
  refine W.block ?_
  -- assigned in the loop, not kept: [6]
  refine W.loopK (σ := Nat) (.cons (t := 1) rfl (.cons (t := 2) rfl (.cons (t := 3) rfl .nil))) (fun z => [(7, Rp.int .i64 (z : Nat))]) (fun z => []) (fun z => z ≤ r.flds.length ∧ ∀ j : Nat, j < z → ([a, b].any fun p => decide ((r.flds.getD j default).acc = p)) = true) (fun z => r.flds.length - z) 0 ⟨Nat.zero_le _, fun j hj => by omega⟩ (.cons (t := 7) rfl .nil) (.cons 0 rfl .nil) ?_
  intro i hI S' M' hS hM
  obtain ⟨hI1, hI2⟩ := hI
  try dsimp only at hS hM
  simp only [List.cons_append, List.nil_append] at hS hM
  subst hS hM
  try dsimp only
  have hr2 := hr.2
  refine W.seq ?_
  refine W.seq ?_
  refine W.region ?_
  refine L.op1 rfl rfl (GSpec.plain rfl (spec_move rfl (Get.tmp rfl))) ?_
  refine L.op1 rfl rfl (GSpec.plain rfl (spec_fieldAddr (f := 2) (off' := 2) rfl Tryd.underlying49 rfl Tryd.sizeOf47 (Get.tmp rfl) rfl)) ?_
  refine L.op1 rfl rfl (GSpec.plain rfl (spec_load1 (k := 0) rfl Tryd.isAgg47 (Get.tmp rfl) rfl rfl)) ?_
  refine L.op1 rfl rfl (GSpec.plain rfl (spec_len rfl Tryd.underlying47 (Get.tmp rfl))) ?_
  refine L.op1 rfl rfl (GSpec.plain rfl (spec_lss rfl (Get.tmp rfl) (Get.tmp rfl))) ?_
  refine L.nil ?_
  refine N.thenW ?_
  refine W.cond (Get.tmp rfl) (fun h1 => ?_) (fun h1 => ?_)
  · have ph1 := h1; try simp only [decide_eq_true_eq, decide_eq_false_iff_not, Bool.and_eq_true, Bool.or_eq_true, Bool.and_eq_false_iff, Bool.or_eq_false_iff, Bool.not_eq_true', Bool.not_eq_false', Bool.not_true, Bool.not_false, Int.not_lt, Int.not_le] at ph1
    refine W.skip ?_
    refine N.thenW ?_
    refine W.seq ?_
    refine W.block ?_
    refine W.seq ?_
    refine W.region ?_
    refine L.op1 rfl rfl (GSpec.plain rfl (spec_fieldAddr (f := 2) (off' := 2) rfl Tryd.underlying49 rfl Tryd.sizeOf47 (Get.tmp rfl) rfl)) ?_
    refine L.op1 rfl rfl (GSpec.plain rfl (spec_load1 (k := 0) rfl Tryd.isAgg47 (Get.tmp rfl) rfl rfl)) ?_
    refine L.op1 rfl rfl (GSpec.plain rfl (spec_move rfl (Get.tmp rfl))) ?_
    refine L.op1 rfl rfl (GSpec.plain rfl (spec_indexAddr (y := r.flds.getD i default) (E := eF) rfl Tryd.underlying47 Tryd.sizeOf51 (fun _ => rfl) (Get.tmp rfl) (Get.tmp rfl) ⟨by omega, getD_some (by omega)⟩)) ?_
    refine L.op1 rfl rfl (GSpec.plain rfl (spec_fieldAddrP (f := 3) rfl Tryd.underlying51 rfl Tryd.sizeOf3 (Get.tmp rfl) rfl rfl)) ?_
    refine L.op1 rfl rfl (GSpec.plain rfl (spec_loadP1 rfl Tryd.isAgg3 (Get.tmp rfl))) ?_
    refine L.op1 rfl rfl (GSpec.plain rfl (spec_move rfl (Get.tmp rfl))) ?_
    refine L.op1 rfl rfl (GSpec.plain rfl (spec_neq rfl (Get.tmp rfl) (Get.tmp rfl))) ?_
    refine L.op1 rfl rfl (GSpec.plain rfl (spec_move rfl (Get.tmp rfl))) ?_
    refine L.op1 rfl rfl (GSpec.guard rfl rfl rfl fun hg => (spec_fieldAddr (f := 2) (off' := 2) rfl Tryd.underlying49 rfl Tryd.sizeOf47 (Get.tmp rfl) rfl)) ?_
    refine L.op1 rfl rfl (GSpec.guard rfl rfl rfl fun hg => (spec_load1 (k := 0) rfl Tryd.isAgg47 (Get.opt rfl hg) rfl rfl)) ?_
    refine L.op1 rfl rfl (GSpec.guard rfl rfl rfl fun hg => (spec_move rfl (Get.tmp rfl))) ?_
    refine L.op1 rfl rfl (GSpec.guard rfl rfl rfl fun hg => (spec_indexAddr (y := r.flds.getD i default) (E := eF) rfl Tryd.underlying47 Tryd.sizeOf51 (fun _ => rfl) (Get.opt rfl hg) (Get.opt rfl hg) ⟨by omega, getD_some (by omega)⟩)) ?_
    refine L.op1 rfl rfl (GSpec.guard rfl rfl rfl fun hg => (spec_fieldAddrP (f := 3) rfl Tryd.underlying51 rfl Tryd.sizeOf3 (Get.opt rfl hg) rfl rfl)) ?_
    refine L.op1 rfl rfl (GSpec.guard rfl rfl rfl fun hg => (spec_loadP1 rfl Tryd.isAgg3 (Get.opt rfl hg))) ?_
    refine L.op1 rfl rfl (GSpec.guard rfl rfl rfl fun hg => (spec_move rfl (Get.tmp rfl))) ?_
    refine L.op1 rfl rfl (GSpec.guard rfl rfl rfl fun hg => (spec_neq rfl (Get.opt rfl hg) (Get.opt rfl hg))) ?_
    refine L.op1 rfl rfl (GSpec.plain rfl (spec_and rfl (Get.tmp rfl) (fun hb => (Get.opt rfl hb)))) ?_
    refine L.nil ?_
    refine N.thenW ?_
    refine W.cond (Get.tmp rfl) (fun h2 => ?_) (fun h2 => ?_)
    · have ph2 := h2; try simp only [decide_eq_true_eq, decide_eq_false_iff_not, Bool.and_eq_true, Bool.or_eq_true, Bool.and_eq_false_iff, Bool.or_eq_false_iff, Bool.not_eq_true', Bool.not_eq_false', Bool.not_true, Bool.not_false, Int.not_lt, Int.not_le] at ph2
      refine W.seq ?_
      refine W.region ?_
      refine L.op1 rfl rfl (GSpec.plain rfl (spec_assign rfl Get.cbool)) ?_
      refine L.nil ?_
      refine N.thenW ?_
      refine W.ret ?_
      refine N.ret () rfl (.tmp (t := 6) (Get.tmp rfl) .nil) (res1 (eqB ?_)) .nil (fun _ _ h => h)
      exact (ref_no (i := i) (by omega) (by simp only [List.any_cons, List.any_nil, Bool.or_false, Bool.or_eq_false_iff, decide_eq_false_iff_not]; omega)).symm
    · have ph2 := h2; try simp only [decide_eq_true_eq, decide_eq_false_iff_not, Bool.and_eq_true, Bool.or_eq_true, Bool.and_eq_false_iff, Bool.or_eq_false_iff, Bool.not_eq_true', Bool.not_eq_false', Bool.not_true, Bool.not_false, Int.not_lt, Int.not_le] at ph2
      refine W.skip ?_
      refine N.blockNormal ?_
      refine N.thenW ?_
      refine W.region ?_
      refine L.op1 rfl rfl (GSpec.plain rfl (spec_move rfl (Get.tmp rfl))) ?_
      first | refine L.op1 rfl rfl (GSpec.plain rfl (fit_i64 (by omega) (by omega) (spec_add rfl (Get.tmp rfl) (Get.cint rfl)))) ?_ | refine L.op1 rfl rfl (GSpec.plain rfl (spec_add rfl (Get.tmp rfl) (Get.cint rfl))) ?_
      refine L.op1 rfl rfl (GSpec.plain rfl (spec_assign rfl (Get.tmp rfl))) ?_
      refine L.nil ?_
      refine N.roundK (i + 1) ?hI8 ?hmu8 ?hs8 ?hk8 ?hp8
      case hs8 => exact (.cons (t := 7) rfl .nil)
      case hk8 => exact (.cons (t := 1) rfl (.cons (t := 2) rfl (.cons (t := 3) rfl .nil)))
      case hp8 => exact (.cons 0 rfl .nil)
      case hI8 => exact ⟨by omega, upto hI2 (by simp only [List.any_cons, List.any_nil, Bool.or_false, Bool.or_eq_true, decide_eq_true_eq]; rcases ph2 with h | h; exact .inl (by omega); exact .inr (by omega))⟩
      case hmu8 => omega
  · have ph1 := h1; try simp only [decide_eq_true_eq, decide_eq_false_iff_not, Bool.and_eq_true, Bool.or_eq_true, Bool.and_eq_false_iff, Bool.or_eq_false_iff, Bool.not_eq_true', Bool.not_eq_false', Bool.not_true, Bool.not_false, Int.not_lt, Int.not_le] at ph1
    refine W.exit ?_
    refine N.thenExit ?_
    refine N.thenExit ?_
    refine N.blockExit ?_
    refine N.thenW ?_
    refine W.keep (.cons (t := 3) rfl .nil) .refl ?_
    refine W.seq ?_
    refine W.region ?_
    refine L.op1 rfl rfl (GSpec.plain rfl (spec_fieldAddr (f := 2) (off' := 2) rfl Tryd.underlying49 rfl Tryd.sizeOf47 (Get.tmp rfl) rfl)) ?_
    refine L.op1 rfl rfl (GSpec.plain rfl (spec_load1 (k := 0) rfl Tryd.isAgg47 (Get.tmp rfl) rfl rfl)) ?_
    refine L.op1 rfl rfl (GSpec.plain rfl (spec_len rfl Tryd.underlying47 (Get.tmp rfl))) ?_
    refine L.op1 rfl rfl (GSpec.plain rfl (spec_gtr rfl (Get.tmp rfl) (Get.cint rfl))) ?_
    refine L.op1 rfl rfl (GSpec.plain rfl (spec_assign rfl (Get.tmp rfl))) ?_
    refine L.nil ?_
    refine N.thenW ?_
    refine W.ret ?_
    refine N.ret () rfl (.tmp (t := 6) (Get.tmp rfl) .nil) (res1 (eqB ?_)) .nil (fun _ _ h => h)
    rw [ref_all fun j hj => hI2 j (by omega)]; exact decide_eq_decide.2 (by omega)

theorem pFind_ok (m : RMap) (a : Int) : CallT Tryd.prog 22 [Rp.agg (mR m), Rp.int .i64 a] [kwG] (.one (Rp.tuple [Rp.int .i64 (findD m a).1, Rp.bool (findD m a).2])) := by
  refine W.enter (fn := Tryd.f22) (n := 18) Tryd.func22 rfl Tryd.ntmps22 rfl (fun w₀ C₀ => ?_)
  simp only [argS]
  refine W.seq ?_
  refine W.region ?_
  refine L.box rfl rfl (GSpec.plain rfl (spec_box rfl (GetC.agg (Get.tmp rfl)))) (fun r2 => ?_)
  refine L.op1 rfl rfl (GSpec.plain rfl (spec_assign rfl (Get.cint rfl))) ?_
  refine L.op1 rfl rfl (GSpec.plain rfl (spec_assign rfl Get.cbool)) ?_
  refine L.nil ?_
  refine N.thenW ?_
  refine W.seq ?_
  refine W.region ?_
  refine L.op1 rfl rfl (GSpec.plain rfl (spec_loadW (k := 0) rfl Tryd.isAgg25 Tryd.sizeOf25 (Get.tmp rfl) rfl rfl)) ?_
  refine L.op1 rfl rfl (GSpec.plain rfl (spec_move rfl (Get.tmp rfl))) ?_
  refine L.op1 rfl rfl (GSpec.plain rfl (spec_call rfl Tryd.call32 (index_ok _ _) (.cons (Get.tmp rfl) (.cons (Get.tmp rfl) .nil)))) ?_
  refine L.op1 rfl rfl (GSpec.plain rfl (spec_assign rfl (Get.tmp rfl))) ?_
  refine L.nil ?_
  refine N.thenW ?_
  refine W.keep (.cons (t := 2) rfl (.cons (t := 4) rfl (.cons (t := 5) rfl (.cons (t := 6) rfl .nil)))) .refl ?_
  refine W.seq ?_
  refine W.seq ?_
  refine W.region ?_
  refine L.op1 rfl rfl (GSpec.plain rfl (spec_loadW (k := 0) rfl Tryd.isAgg25 Tryd.sizeOf25 (Get.tmp rfl) rfl rfl)) ?_
  refine L.op1 rfl rfl (GSpec.plain rfl (spec_callG (k := 1) rfl Tryd.call24 rfl (pValid_ok _) (.cons (Get.tmp rfl) .nil))) ?_
  refine L.op1 rfl rfl (GSpec.plain rfl (spec_neq rfl (Get.tmp rfl) (Get.cint rfl))) ?_
  refine L.op1 rfl rfl (GSpec.plain rfl (spec_move rfl (Get.tmp rfl))) ?_
  refine L.op1 rfl rfl (GSpec.guard rfl rfl rfl fun hg => (spec_move rfl (Get.tmp rfl))) ?_
  refine L.op1 rfl rfl (GSpec.guard rfl rfl rfl fun hg => (spec_lss rfl (Get.opt rfl hg) (Get.cint rfl))) ?_
  refine L.op1 rfl rfl (GSpec.plain rfl (spec_or rfl (Get.tmp rfl) (fun hb => (Get.opt rfl hb)))) ?_
  refine L.nil ?_
  refine N.thenW ?_
  refine W.keep (.cons (t := 4) rfl (.cons (t := 5) rfl (.cons (t := 6) rfl (.cons (t := 16) rfl .nil)))) .refl ?_
  refine W.cond (Get.tmp rfl) (fun h1 => ?_) (fun h1 => ?_)
  · have ph1 := h1; try simp only [decide_eq_true_eq, decide_eq_false_iff_not, Bool.and_eq_true, Bool.or_eq_true, Bool.and_eq_false_iff, Bool.or_eq_false_iff, Bool.not_eq_true', Bool.not_eq_false', Bool.not_true, Bool.not_false, Int.not_lt, Int.not_le] at ph1
    refine W.seq ?_
    refine W.region ?_
    refine L.op1 rfl rfl (GSpec.plain rfl (spec_assign rfl (Get.cint rfl))) ?_
    refine L.op1 rfl rfl (GSpec.plain rfl (spec_assign rfl Get.cbool)) ?_
    refine L.nil ?_
    refine N.thenW ?_
    refine W.ret ?_
    have hw : findD m a = (0, false) := by rcases ph1 with h | h; exact find_bad (by simpa using h); exact find_neg h
    refine N.ret () rfl (.tmp (t := 4) (Get.tmp rfl) (.tmp (t := 5) (Get.tmp rfl) .nil)) (res2w (eqI ?_) (eqB ?_)) .nil (fun _ _ h => h)
    all_goals (rw [hw])
  · have ph1 := h1; try simp only [decide_eq_true_eq, decide_eq_false_iff_not, Bool.and_eq_true, Bool.or_eq_true, Bool.and_eq_false_iff, Bool.or_eq_false_iff, Bool.not_eq_true', Bool.not_eq_false', Bool.not_true, Bool.not_false, Int.not_lt, Int.not_le] at ph1
    refine W.skip ?_
    refine N.thenW ?_
    refine W.seq ?_
    refine W.region ?_
    refine L.op1 rfl rfl (GSpec.plain rfl (spec_move rfl (Get.tmp rfl))) ?_
    refine L.op1 rfl rfl (GSpec.plain rfl (spec_assign rfl (Get.tmp rfl))) ?_
    refine L.op1 rfl rfl (GSpec.plain rfl (spec_assign rfl Get.cbool)) ?_
    refine L.nil ?_
    refine N.thenW ?_
    refine W.ret ?_
    refine N.ret () rfl (.tmp (t := 4) (Get.tmp rfl) (.tmp (t := 5) (Get.tmp rfl) .nil)) (res2w (eqI ?_) (eqB ?_)) .nil (fun _ _ h => h)
    all_goals (rw [find_idx (m := m) (a := a) (by have h := ph1.1; simpa using h) (by omega)]; try rfl)

theorem rFind_ok (m : RMap) (a : Int) : CallT Tryd.prog 23 [Rp.agg (mR m), Rp.int .i64 a] [] (.one (Rp.tuple [Rp.int .i64 (findD m a).1, Rp.bool (findD m a).2])) := by
  refine W.enter (fn := Tryd.f23) (n := 26) Tryd.func23 rfl Tryd.ntmps23 rfl (fun w₀ C₀ => ?_)
  simp only [argS]
  refine W.fact 0 rfl map_fact fun hm => ?_
  refine W.seq ?_
  refine W.region ?_
  refine L.box rfl rfl (GSpec.plain rfl (spec_box rfl (GetC.agg (Get.tmp rfl)))) (fun r2 => ?_)
  refine L.op1 rfl rfl (GSpec.plain rfl (spec_assign rfl (Get.cint rfl))) ?_
  refine L.op1 rfl rfl (GSpec.plain rfl (spec_assign rfl Get.cbool)) ?_
  refine L.nil ?_
  refine N.thenW ?_
  refine W.keep (.cons (t := 1) rfl (.cons (t := 2) rfl (.cons (t := 4) rfl (.cons (t := 5) rfl .nil)))) .refl ?_
  refine W.seq ?_
  refine W.seq ?_
  refine W.region ?_
  refine L.op1 rfl rfl (GSpec.plain rfl (spec_loadW (k := 0) rfl Tryd.isAgg25 Tryd.sizeOf25 (Get.tmp rfl) rfl rfl)) ?_
  refine L.op1 rfl rfl (GSpec.plain rfl (spec_call rfl Tryd.call19 (rValid_ok _) (.cons (Get.tmp rfl) .nil))) ?_
  refine L.op1 rfl rfl (GSpec.plain rfl (spec_neq rfl (Get.tmp rfl) (Get.cint rfl))) ?_
  refine L.nil ?_
  refine N.thenW ?_
  refine W.cond (Get.tmp rfl) (fun h1 => ?_) (fun h1 => ?_)
  · have q0 : validE m ≠ 0 := by have h := h1; simpa using h
    refine W.seq ?_
    refine W.region ?_
    refine L.op1 rfl rfl (GSpec.plain rfl (spec_assign rfl (Get.cint rfl))) ?_
    refine L.op1 rfl rfl (GSpec.plain rfl (spec_assign rfl Get.cbool)) ?_
    refine L.nil ?_
    refine N.thenW ?_
    refine W.ret ?_
    refine N.ret () rfl (.tmp (t := 4) (Get.tmp rfl) (.tmp (t := 5) (Get.tmp rfl) .nil)) (res2w (eqI ?_) (eqB ?_)) .nil (fun _ _ h => h)
    all_goals (rw [find_bad (a := a) q0]; try rfl)
  · have q0 : validE m = 0 := by have h := h1; simpa using h
    have hm1 := hm.1
    refine W.skip ?_
    refine N.thenW ?_
    refine W.seq ?_
    refine W.seq ?_
    refine W.region ?_
    refine L.op1 rfl rfl (GSpec.plain rfl (spec_assign rfl (Get.cint rfl))) ?_
    refine L.nil ?_
    refine N.thenW ?_
    refine W.block ?_
    -- assigned in the loop, not kept: [4, 5]
    refine W.loopK (σ := Nat) (.cons (t := 1) rfl (.cons (t := 2) rfl .nil)) (fun z => [(6, Rp.int .i64 (z : Nat))]) (fun z => []) (fun z => z ≤ m.regs.length ∧ ∀ j : Nat, j < z → decide ((m.regs.getD j default).addr = a) = false) (fun z => m.regs.length - z) 0 ⟨Nat.zero_le _, fun j hj => by omega⟩ (.cons (t := 6) rfl .nil) (.cons 0 rfl .nil) ?_
    intro i hI S' M' hS hM
    obtain ⟨hI1, hI2⟩ := hI
    try dsimp only at hS hM
    simp only [List.cons_append, List.nil_append] at hS hM
    subst hS hM
    try dsimp only
    refine W.seq ?_
    refine W.seq ?_
    refine W.region ?_
    refine L.op1 rfl rfl (GSpec.plain rfl (spec_move rfl (Get.tmp rfl))) ?_
    refine L.op1 rfl rfl (GSpec.plain rfl (spec_fieldAddr (f := 0) (off' := 0) rfl Tryd.underlying25 rfl Tryd.sizeOf22 (Get.tmp rfl) rfl)) ?_
    refine L.op1 rfl rfl (GSpec.plain rfl (spec_load1 (k := 0) rfl Tryd.isAgg22 (Get.tmp rfl) rfl rfl)) ?_
    refine L.op1 rfl rfl (GSpec.plain rfl (spec_len rfl Tryd.underlying22 (Get.tmp rfl))) ?_
    refine L.op1 rfl rfl (GSpec.plain rfl (spec_lss rfl (Get.tmp rfl) (Get.tmp rfl))) ?_
    refine L.nil ?_
    refine N.thenW ?_
    refine W.cond (Get.tmp rfl) (fun h2 => ?_) (fun h2 => ?_)
    · have ph2 := h2; try simp only [decide_eq_true_eq, decide_eq_false_iff_not, Bool.and_eq_true, Bool.or_eq_true, Bool.and_eq_false_iff, Bool.or_eq_false_iff, Bool.not_eq_true', Bool.not_eq_false', Bool.not_true, Bool.not_false, Int.not_lt, Int.not_le] at ph2
      refine W.skip ?_
      refine N.thenW ?_
      refine W.seq ?_
      refine W.block ?_
      refine W.seq ?_
      refine W.region ?_
      refine L.op1 rfl rfl (GSpec.plain rfl (spec_fieldAddr (f := 0) (off' := 0) rfl Tryd.underlying25 rfl Tryd.sizeOf22 (Get.tmp rfl) rfl)) ?_
      refine L.op1 rfl rfl (GSpec.plain rfl (spec_load1 (k := 0) rfl Tryd.isAgg22 (Get.tmp rfl) rfl rfl)) ?_
      refine L.op1 rfl rfl (GSpec.plain rfl (spec_move rfl (Get.tmp rfl))) ?_
      refine L.op1 rfl rfl (GSpec.plain rfl (spec_indexAddr (y := m.regs.getD i default) (E := eR) rfl Tryd.underlying22 Tryd.sizeOf49 (fun _ => rfl) (Get.tmp rfl) (Get.tmp rfl) ⟨by omega, getD_some (by omega)⟩)) ?_
      refine L.op1 rfl rfl (GSpec.plain rfl (spec_fieldAddrP (f := 1) rfl Tryd.underlying49 rfl Tryd.sizeOf3 (Get.tmp rfl) rfl rfl)) ?_
      refine L.op1 rfl rfl (GSpec.plain rfl (spec_loadP1 rfl Tryd.isAgg3 (Get.tmp rfl))) ?_
      refine L.op1 rfl rfl (GSpec.plain rfl (spec_move rfl (Get.tmp rfl))) ?_
      refine L.op1 rfl rfl (GSpec.plain rfl (spec_eql rfl (Get.tmp rfl) (Get.tmp rfl))) ?_
      refine L.nil ?_
      refine N.thenW ?_
      refine W.cond (Get.tmp rfl) (fun h3 => ?_) (fun h3 => ?_)
      · have ph3 := h3; try simp only [decide_eq_true_eq, decide_eq_false_iff_not, Bool.and_eq_true, Bool.or_eq_true, Bool.and_eq_false_iff, Bool.or_eq_false_iff, Bool.not_eq_true', Bool.not_eq_false', Bool.not_true, Bool.not_false, Int.not_lt, Int.not_le] at ph3
        refine W.seq ?_
        refine W.region ?_
        refine L.op1 rfl rfl (GSpec.plain rfl (spec_move rfl (Get.tmp rfl))) ?_
        refine L.op1 rfl rfl (GSpec.plain rfl (spec_assign rfl (Get.tmp rfl))) ?_
        refine L.op1 rfl rfl (GSpec.plain rfl (spec_assign rfl Get.cbool)) ?_
        refine L.nil ?_
        refine N.thenW ?_
        refine W.ret ?_
        refine N.ret () rfl (.tmp (t := 4) (Get.tmp rfl) (.tmp (t := 5) (Get.tmp rfl) .nil)) (res2w (eqI ?_) (eqB ?_)) .nil (fun _ _ h => h)
        all_goals (rw [find_iff (m := m) (a := a) (i := i) q0 (by omega) ph3 hI2]; try rfl)
      · have ph3 := h3; try simp only [decide_eq_true_eq, decide_eq_false_iff_not, Bool.and_eq_true, Bool.or_eq_true, Bool.and_eq_false_iff, Bool.or_eq_false_iff, Bool.not_eq_true', Bool.not_eq_false', Bool.not_true, Bool.not_false, Int.not_lt, Int.not_le] at ph3
        refine W.skip ?_
        refine N.blockNormal ?_
        refine N.thenW ?_
        refine W.region ?_
        refine L.op1 rfl rfl (GSpec.plain rfl (spec_move rfl (Get.tmp rfl))) ?_
        first | refine L.op1 rfl rfl (GSpec.plain rfl (fit_i64 (by omega) (by omega) (spec_add rfl (Get.tmp rfl) (Get.cint rfl)))) ?_ | refine L.op1 rfl rfl (GSpec.plain rfl (spec_add rfl (Get.tmp rfl) (Get.cint rfl))) ?_
        refine L.op1 rfl rfl (GSpec.plain rfl (spec_assign rfl (Get.tmp rfl))) ?_
        refine L.nil ?_
        refine N.roundK (i + 1) ?hI9 ?hmu9 ?hs9 ?hk9 ?hp9
        case hs9 => exact (.cons (t := 6) rfl .nil)
        case hk9 => exact (.cons (t := 1) rfl (.cons (t := 2) rfl .nil))
        case hp9 => exact (.cons 0 rfl .nil)
        case hI9 => exact ⟨by omega, upto hI2 h3⟩
        case hmu9 => omega
    · have ph2 := h2; try simp only [decide_eq_true_eq, decide_eq_false_iff_not, Bool.and_eq_true, Bool.or_eq_true, Bool.and_eq_false_iff, Bool.or_eq_false_iff, Bool.not_eq_true', Bool.not_eq_false', Bool.not_true, Bool.not_false, Int.not_lt, Int.not_le] at ph2
      refine W.exit ?_
      refine N.thenExit ?_
      refine N.thenExit ?_
      refine N.blockExit ?_
      refine N.thenW ?_
      refine W.keep .nil .refl ?_
      refine W.seq ?_
      refine W.region ?_
      refine L.op1 rfl rfl (GSpec.plain rfl (spec_assign rfl (Get.cint rfl))) ?_
      refine L.op1 rfl rfl (GSpec.plain rfl (spec_assign rfl Get.cbool)) ?_
      refine L.nil ?_
      refine N.thenW ?_
      refine W.ret ?_
      refine N.ret () rfl (.tmp (t := 4) (Get.tmp rfl) (.tmp (t := 5) (Get.tmp rfl) .nil)) (res2w (eqI ?_) (eqB ?_)) .nil (fun _ _ h => h)
      all_goals (rw [find_no (m := m) (a := a) fun j hj => hI2 j (by omega)]; try rfl)

theorem pWrite_ok (m : RMap) (a v : Int) : CallT Tryd.prog 9 [Rp.agg (mR m), Rp.int .i64 a, Rp.int .i64 v] [kwG] (.one (resT (writeD m a v))) := by
  refine W.enter (fn := Tryd.f9) (n := 60) Tryd.func9 rfl Tryd.ntmps9 rfl (fun w₀ C₀ => ?_)
  simp only [argS]
  refine W.seq ?_
  refine W.region ?_
  refine L.box rfl rfl (GSpec.plain rfl (spec_box rfl (GetC.agg (Get.tmp rfl)))) (fun r3 => ?_)
  refine L.box rfl rfl (GSpec.plain rfl (spec_alloc rfl ti25 z25)) (fun r6 => ?_)
  refine L.op1 rfl rfl (GSpec.plain rfl (spec_assign rfl (Get.cint rfl))) ?_
  refine L.nil ?_
  refine N.thenW ?_
  refine W.seq ?_
  refine W.seq ?_
  refine W.region ?_
  refine L.op1 rfl rfl (GSpec.plain rfl (spec_loadW (k := 1) rfl Tryd.isAgg25 Tryd.sizeOf25 (Get.tmp rfl) rfl rfl)) ?_
  refine L.op1 rfl rfl (GSpec.plain rfl (spec_callG (k := 2) rfl Tryd.call24 rfl (pValid_ok _) (.cons (Get.tmp rfl) .nil))) ?_
  refine L.op1 rfl rfl (GSpec.plain rfl (spec_assign rfl (Get.tmp rfl))) ?_
  refine L.nil ?_
  refine N.thenW ?_
  refine W.seq ?_
  refine W.region ?_
  refine L.op1 rfl rfl (GSpec.plain rfl (spec_move rfl (Get.tmp rfl))) ?_
  refine L.op1 rfl rfl (GSpec.plain rfl (spec_neq rfl (Get.tmp rfl) (Get.cint rfl))) ?_
  refine L.nil ?_
  refine N.thenW ?_
  refine W.cond (Get.tmp rfl) (fun h1 => ?_) (fun h1 => ?_)
  · have q0 : validE m ≠ 0 := by have h := h1; simpa using h
    refine W.seq ?_
    refine W.region ?_
    refine L.op1 rfl rfl (GSpec.plain rfl (spec_build (Rs := [Rp.slice eR [], Rp.slice eI []]) rfl ti25 z25 Tryd.underlying25 pl25 .nil)) ?_
    refine L.op1 rfl rfl (GSpec.plain rfl (spec_move rfl (Get.tmp rfl))) ?_
    refine L.storeW (k := 0) rfl rfl rfl Tryd.sizeOf25 (Get.tmp rfl) (Get.tmp rfl) rfl rfl rfl ?_
    refine L.op1 rfl rfl (GSpec.plain rfl (spec_assign rfl (Get.tmp rfl))) ?_
    refine L.nil ?_
    refine N.thenW ?_
    refine W.keep (.cons (t := 1) rfl (.cons (t := 2) rfl (.cons (t := 3) rfl (.cons (t := 6) rfl (.cons (t := 7) rfl .nil))))) .refl ?_
    refine W.ret ?_
    refine N.ret () rfl (.cellA (k := 0) (Get.tmp (t := 6) rfl) rfl Tryd.isAgg25 Tryd.sizeOf25 rfl (.tmp (t := 7) (Get.tmp rfl) .nil)) (res2w (eqA ?_) (eqI ?_)) .nil (fun _ _ h => h)
    all_goals (rw [write_e (a := a) (v := v) q0]; try rfl)
  · have q0 : validE m = 0 := by have h := h1; simpa using h
    have hM := valid_ok q0
    have hML := hM.len
    have hM32 := hM.regs.1
    refine W.skip ?_
    refine N.thenW ?_
    refine W.seq ?_
    refine W.region ?_
    refine L.op1 rfl rfl (GSpec.plain rfl (spec_loadW (k := 1) rfl Tryd.isAgg25 Tryd.sizeOf25 (Get.tmp rfl) rfl rfl)) ?_
    refine L.op1 rfl rfl (GSpec.plain rfl (spec_move rfl (Get.tmp rfl))) ?_
    refine L.op1 rfl rfl (GSpec.plain rfl (spec_call rfl Tryd.call32 (index_ok _ _) (.cons (Get.tmp rfl) (.cons (Get.tmp rfl) .nil)))) ?_
    refine L.op1 rfl rfl (GSpec.plain rfl (spec_assign rfl (Get.tmp rfl))) ?_
    refine L.nil ?_
    refine N.thenW ?_
    refine W.keep (.cons (t := 2) rfl (.cons (t := 3) rfl (.cons (t := 6) rfl (.cons (t := 7) rfl (.cons (t := 9) rfl .nil))))) .refl ?_
    refine W.seq ?_
    refine W.block ?_
    refine W.seq ?_
    refine W.region ?_
    refine L.op1 rfl rfl (GSpec.plain rfl (spec_move rfl (Get.tmp rfl))) ?_
    refine L.op1 rfl rfl (GSpec.plain rfl (spec_lss rfl (Get.tmp rfl) (Get.cint rfl))) ?_
    refine L.op1 rfl rfl (GSpec.plain rfl (spec_move rfl (Get.tmp rfl))) ?_
    refine L.op1 rfl rfl (GSpec.guard rfl rfl rfl fun hg => (spec_move rfl (Get.tmp rfl))) ?_
    refine L.op1 rfl rfl (GSpec.guard rfl rfl rfl fun hg => (spec_gtr rfl (Get.opt rfl hg) (Get.cint rfl))) ?_
    refine L.op1 rfl rfl (GSpec.plain rfl (spec_or rfl (Get.tmp rfl) (fun hb => (Get.opt rfl hb)))) ?_
    refine L.op1 rfl rfl (GSpec.plain rfl (spec_assign rfl (Get.tmp rfl))) ?_
    refine L.nil ?_
    refine N.thenW ?_
    refine W.keep (.cons (t := 2) rfl (.cons (t := 3) rfl (.cons (t := 6) rfl (.cons (t := 7) rfl (.cons (t := 9) rfl (.cons (t := 20) rfl .nil)))))) .refl ?_
    refine W.cond (Get.tmp rfl) (fun h2 => ?_) (fun h2 => ?_)
    · have ph2 := h2; try simp only [decide_eq_true_eq, decide_eq_false_iff_not, Bool.and_eq_true, Bool.or_eq_true, Bool.and_eq_false_iff, Bool.or_eq_false_iff, Bool.not_eq_true', Bool.not_eq_false', Bool.not_true, Bool.not_false, Int.not_lt, Int.not_le] at ph2
      refine W.seq ?_
      refine W.region ?_
      refine L.op1 rfl rfl (GSpec.plain rfl (spec_build (Rs := [Rp.slice eR [], Rp.slice eI []]) rfl ti25 z25 Tryd.underlying25 pl25 .nil)) ?_
      refine L.storeW (k := 0) rfl rfl rfl Tryd.sizeOf25 (Get.tmp rfl) (Get.tmp rfl) rfl rfl rfl ?_
      refine L.op1 rfl rfl (GSpec.plain rfl (spec_assign rfl (Get.cint rfl))) ?_
      refine L.nil ?_
      refine N.thenW ?_
      refine W.ret ?_
      refine N.ret () rfl (.cellA (k := 0) (Get.tmp (t := 6) rfl) rfl Tryd.isAgg25 Tryd.sizeOf25 rfl (.tmp (t := 7) (Get.tmp rfl) .nil)) (res2w (eqA ?_) (eqI ?_)) .nil (fun _ _ h => h)
      all_goals (rw [write_1 (a := a) q0 ph2]; try rfl)
    · have ph2 := h2; try simp only [decide_eq_true_eq, decide_eq_false_iff_not, Bool.and_eq_true, Bool.or_eq_true, Bool.and_eq_false_iff, Bool.or_eq_false_iff, Bool.not_eq_true', Bool.not_eq_false', Bool.not_true, Bool.not_false, Int.not_lt, Int.not_le] at ph2
      refine W.seq ?_
      refine W.region ?_
      refine L.op1 rfl rfl (GSpec.plain rfl (spec_move rfl (Get.tmp rfl))) ?_
      refine L.op1 rfl rfl (GSpec.plain rfl (spec_lss rfl (Get.tmp rfl) (Get.cint rfl))) ?_
      refine L.op1 rfl rfl (GSpec.plain rfl (spec_assign rfl (Get.tmp rfl))) ?_
      refine L.nil ?_
      refine N.thenW ?_
      refine W.cond (Get.tmp rfl) (fun h3 => ?_) (fun h3 => ?_)
      · have ph3 := h3; try simp only [decide_eq_true_eq, decide_eq_false_iff_not, Bool.and_eq_true, Bool.or_eq_true, Bool.and_eq_false_iff, Bool.or_eq_false_iff, Bool.not_eq_true', Bool.not_eq_false', Bool.not_true, Bool.not_false, Int.not_lt, Int.not_le] at ph3
        refine W.seq ?_
        refine W.region ?_
        refine L.op1 rfl rfl (GSpec.plain rfl (spec_build (Rs := [Rp.slice eR [], Rp.slice eI []]) rfl ti25 z25 Tryd.underlying25 pl25 .nil)) ?_
        refine L.storeW (k := 0) rfl rfl rfl Tryd.sizeOf25 (Get.tmp rfl) (Get.tmp rfl) rfl rfl rfl ?_
        refine L.op1 rfl rfl (GSpec.plain rfl (spec_assign rfl (Get.cint rfl))) ?_
        refine L.nil ?_
        refine N.thenW ?_
        refine W.keep (.cons (t := 2) rfl (.cons (t := 3) rfl (.cons (t := 6) rfl (.cons (t := 7) rfl (.cons (t := 9) rfl .nil))))) .refl ?_
        refine W.ret ?_
        refine N.ret () rfl (.cellA (k := 0) (Get.tmp (t := 6) rfl) rfl Tryd.isAgg25 Tryd.sizeOf25 rfl (.tmp (t := 7) (Get.tmp rfl) .nil)) (res2w (eqA ?_) (eqI ?_)) .nil (fun _ _ h => h)
        all_goals (rw [write_12 (v := v) q0 (by omega) ph3]; try rfl)
      · have ph3 := h3; simp only [decide_eq_true_eq, decide_eq_false_iff_not, Bool.and_eq_true, Bool.or_eq_true, Bool.and_eq_false_iff, Bool.or_eq_false_iff, Bool.not_eq_true', Bool.not_eq_false', Bool.not_true, Bool.not_false, Int.not_lt, Int.not_le] at ph3
        have q3 : ¬ idxA m a < 0 := by omega
        have hix := idxA_at q3
        have hokf := (hM.flds hix.1 hix.2).ok.lsbs
        refine W.seq ?_
        refine W.region ?_
        refine L.op1 rfl rfl (GSpec.plain rfl (spec_fieldAddr (f := 0) (off' := 0) rfl Tryd.underlying25 rfl Tryd.sizeOf22 (Get.tmp rfl) rfl)) ?_
        refine L.op1 rfl rfl (GSpec.plain rfl (spec_load1 (k := 1) rfl Tryd.isAgg22 (Get.tmp rfl) rfl rfl)) ?_
        refine L.op1 rfl rfl (GSpec.plain rfl (spec_move rfl (Get.tmp rfl))) ?_
        refine L.op1 rfl rfl (GSpec.plain rfl (spec_indexAddr (y := rg m (idxA m a)) (E := eR) rfl Tryd.underlying22 Tryd.sizeOf49 (fun _ => rfl) (Get.tmp rfl) (Get.tmp rfl) ⟨hix.1, getD_some hix⟩)) ?_
        refine L.op1 rfl rfl (GSpec.plain rfl (spec_loadPA rfl Tryd.isAgg49 Tryd.sizeOf49 (Get.tmp rfl) rfl)) ?_
        refine L.op1 rfl rfl (GSpec.plain rfl (spec_buildSliceN (xs := [1, 5]) (E := eI) rfl Tryd.underlying23 ti3 z3 (by first | decide | simp) rfl (.cons (GetC.one (Get.cint rfl)) rfl rfl rfl (.cons (GetC.one (Get.cint rfl)) rfl rfl rfl .nil)) rfl rfl)) ?_
        refine L.op1 rfl rfl (GSpec.plain rfl (spec_call rfl Tryd.call33 (refuses_ok _ _) (.cons (Get.tmp rfl) (.cons (Get.tmp rfl) .nil)))) ?_
        refine L.op1 rfl rfl (GSpec.plain rfl (spec_assign rfl (Get.tmp rfl))) ?_
        refine L.nil ?_
        refine N.thenW ?_
        refine W.keep (.cons (t := 2) rfl (.cons (t := 3) rfl (.cons (t := 6) rfl (.cons (t := 7) rfl (.cons (t := 9) rfl (.cons (t := 32) rfl .nil)))))) .refl ?_
        refine W.cond (Get.tmp rfl) (fun h4 => ?_) (fun h4 => ?_)
        · have ph4 := h4; try simp only [decide_eq_true_eq, decide_eq_false_iff_not, Bool.and_eq_true, Bool.or_eq_true, Bool.and_eq_false_iff, Bool.or_eq_false_iff, Bool.not_eq_true', Bool.not_eq_false', Bool.not_true, Bool.not_false, Int.not_lt, Int.not_le] at ph4
          refine W.seq ?_
          refine W.region ?_
          refine L.op1 rfl rfl (GSpec.plain rfl (spec_build (Rs := [Rp.slice eR [], Rp.slice eI []]) rfl ti25 z25 Tryd.underlying25 pl25 .nil)) ?_
          refine L.storeW (k := 0) rfl rfl rfl Tryd.sizeOf25 (Get.tmp rfl) (Get.tmp rfl) rfl rfl rfl ?_
          refine L.op1 rfl rfl (GSpec.plain rfl (spec_assign rfl (Get.cint rfl))) ?_
          refine L.nil ?_
          refine N.thenW ?_
          refine W.ret ?_
          refine N.ret () rfl (.cellA (k := 0) (Get.tmp (t := 6) rfl) rfl Tryd.isAgg25 Tryd.sizeOf25 rfl (.tmp (t := 7) (Get.tmp rfl) .nil)) (res2w (eqA ?_) (eqI ?_)) .nil (fun _ _ h => h)
          all_goals (rw [write_17 (v := v) q0 (by omega) q3 h4]; try rfl)
        · have ph4 := h4; try simp only [decide_eq_true_eq, decide_eq_false_iff_not, Bool.and_eq_true, Bool.or_eq_true, Bool.and_eq_false_iff, Bool.or_eq_false_iff, Bool.not_eq_true', Bool.not_eq_false', Bool.not_true, Bool.not_false, Int.not_lt, Int.not_le] at ph4
          refine W.skip ?_
          refine N.blockNormal ?_
          refine N.thenW ?_
          refine W.seq ?_
          refine W.region ?_
          refine L.op1 rfl rfl (GSpec.plain rfl (spec_loadW (k := 1) rfl Tryd.isAgg25 Tryd.sizeOf25 (Get.tmp rfl) rfl rfl)) ?_
          refine L.op rfl rfl (GSpec.plain rfl (spec_call rfl Tryd.call34 (copied_ok m hM.regs (by omega)) (.cons (Get.tmp rfl) .nil))) (fun v42 => ?_)
          try dsimp only
          refine L.box rfl rfl (GSpec.plain rfl (spec_alloc rfl ti25 z25)) (fun r10 => ?_)
          refine L.storeW (k := 0) rfl rfl rfl Tryd.sizeOf25 (Get.tmp rfl) (Get.tmp rfl) rfl rfl rfl ?_
          refine L.nil ?_
          refine N.thenW ?_
          refine W.seq ?_
          apply W.any 16 mixed (by kernel_rfl)
          · apply Head.one rfl rfl (GSpec.plain rfl (spec_fieldAddr (f := 1) (off' := 1) rfl Tryd.underlying25 rfl Tryd.sizeOf23 (Get.tmp rfl) rfl))
            apply Head.one rfl rfl (GSpec.plain rfl (spec_load1 (k := 0) rfl Tryd.isAgg23 (Get.tmp rfl) rfl rfl))
            apply Head.one rfl rfl (GSpec.plain rfl (spec_move rfl (Get.tmp rfl)))
            apply Head.one rfl rfl (GSpec.plain rfl (spec_fieldAddr (f := 0) (off' := 0) rfl Tryd.underlying25 rfl Tryd.sizeOf22 (Get.tmp rfl) rfl))
            apply Head.one rfl rfl (GSpec.plain rfl (spec_load1 (k := 3) rfl Tryd.isAgg22 (Get.tmp rfl) rfl rfl))
            apply Head.one rfl rfl (GSpec.plain rfl (spec_move rfl (Get.tmp rfl)))
            apply Head.one rfl rfl (GSpec.plain rfl (spec_indexAddr (y := rg m (idxA m a)) (E := eR) rfl Tryd.underlying22 Tryd.sizeOf49 (fun _ => rfl) (Get.tmp rfl) (Get.tmp rfl) ⟨hix.1, getD_some hix⟩))
            apply Head.one rfl rfl (GSpec.plain rfl (spec_loadPA rfl Tryd.isAgg49 Tryd.sizeOf49 (Get.tmp rfl) rfl))
            apply Head.one rfl rfl (GSpec.plain rfl (spec_fieldAddr (f := 1) (off' := 1) rfl Tryd.underlying25 rfl Tryd.sizeOf23 (Get.tmp rfl) rfl))
            apply Head.one rfl rfl (GSpec.plain rfl (spec_load1 (k := 3) rfl Tryd.isAgg23 (Get.tmp rfl) rfl rfl))
            apply Head.one rfl rfl (GSpec.plain rfl (spec_move rfl (Get.tmp rfl)))
            apply Head.one rfl rfl (GSpec.plain rfl (spec_indexAddr (y := vl m (idxA m a)) (E := eI) rfl Tryd.underlying23 Tryd.sizeOf3 (fun _ => rfl) (Get.tmp rfl) (Get.tmp rfl) ⟨hix.1, getD_some (by omega)⟩))
            apply Head.one rfl rfl (GSpec.plain rfl (spec_loadP1 rfl Tryd.isAgg3 (Get.tmp rfl)))
            apply Head.one rfl rfl (GSpec.plain rfl (spec_move rfl (Get.tmp rfl)))
            apply Head.one rfl rfl (GSpec.plain rfl (spec_call rfl Tryd.call35 (written_ok _ _ _ hokf) (.cons (Get.tmp rfl) (.cons (Get.tmp rfl) (.cons (Get.tmp rfl) .nil)))))
            apply Head.one rfl rfl (GSpec.plain rfl (spec_indexAddrO (k := 1) (E := eI) rfl Tryd.underlying23 Tryd.sizeOf3 (Get.tmp rfl) (Get.tmp rfl) rfl (by omega)))
            exact Head.nil
          refine Fin.one ?_
          refine Fin.one ?_
          refine Fin.one ?_
          refine Fin.one ?_
          refine Fin.one ?_
          refine Fin.one ?_
          refine Fin.one ?_
          refine Fin.one ?_
          refine Fin.one ?_
          refine Fin.one ?_
          refine Fin.one ?_
          refine Fin.one ?_
          refine Fin.one ?_
          refine Fin.one ?_
          refine Fin.one ?_
          refine Fin.one ?_
          refine Fin.nil ?_
          refine L.storeO1 (k := 1) (j := 0) (E := eI) rfl rfl rfl Tryd.sizeOf3 (fun _ => rfl) (Get.tmp rfl) (Get.tmp rfl) rfl rfl (by decide) (getD_some (by omega)) rfl ?_
          refine L.nil ?_
          refine N.thenW ?_
          refine W.pubBox (off := 1) 1 0 rfl rfl rfl (fun _ => rfl) ?_
          refine W.keep (.cons (t := 6) rfl (.cons (t := 7) rfl (.cons (t := 10) rfl .nil))) .refl ?_
          refine W.seq ?_
          refine W.region ?_
          refine L.op1 rfl rfl (GSpec.plain rfl (spec_loadW (k := 0) rfl Tryd.isAgg25 Tryd.sizeOf25 (Get.tmp rfl) rfl rfl)) ?_
          refine L.storeW (k := 1) rfl rfl rfl Tryd.sizeOf25 (Get.tmp rfl) (Get.tmp rfl) rfl rfl rfl ?_
          refine L.op1 rfl rfl (GSpec.plain rfl (spec_assign rfl (Get.cint rfl))) ?_
          refine L.nil ?_
          refine N.thenW ?_
          refine W.ret ?_
          refine N.ret () rfl (.cellA (k := 1) (Get.tmp (t := 6) rfl) rfl Tryd.isAgg25 Tryd.sizeOf25 rfl (.tmp (t := 7) (Get.tmp rfl) .nil)) (res2w (eqA ?_) (eqI ?_)) .nil (fun _ _ h => h)
          all_goals (rw [write_0 (v := v) q0 (by omega) q3 h4]; try rfl)

end Go.Proofs.YtmoijeodahlbmaaDoor
