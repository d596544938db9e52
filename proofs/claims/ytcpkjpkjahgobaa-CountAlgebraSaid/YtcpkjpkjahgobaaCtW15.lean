import Derived.Test.YtcpkjpkjahgobaaCtW14
set_option linter.unusedSimpArgs false
set_option maxRecDepth 8000
set_option linter.unusedVariables false
namespace Go.Proofs.Ytcpkjpkjahgobaa
open Go.Sim
theorem Index_ok (l : List Node) (f n : Int) (sb : List Bool) : CallT Try.prog 17 [Rp.agg (dagR l), Rp.int .i64 f, Rp.int .i64 n, Rp.slice eB sb] [] (.one (outI (indexD l f n sb))) := by
  refine W.enter (fn := Try.f17) (n := 70) Try.func17 rfl Try.ntmps17 rfl (fun w₀ C₀ => ?_)
  simp only [argS]
  refine W.fact 3 rfl slice_fact fun hsb => ?_
  refine W.seq ?_
  refine W.region ?_
  refine L.box rfl rfl (GSpec.plain rfl (spec_box rfl (GetC.agg (Get.tmp rfl)))) (fun r4 => ?_)
  refine L.op1 rfl rfl (GSpec.plain rfl (spec_assign rfl (Get.cint rfl))) ?_
  refine L.op1 rfl rfl (GSpec.plain rfl (spec_assign rfl (Get.cint rfl))) ?_
  refine L.nil ?_
  refine N.thenW ?_
  refine W.seq ?_
  refine W.seq ?_
  refine W.region ?_
  refine L.op1 rfl rfl (GSpec.plain rfl (spec_loadW (k := 0) rfl Try.isAgg24 Try.sizeOf24 (Get.tmp rfl) rfl rfl)) ?_
  refine L.op1 rfl rfl (GSpec.plain rfl (spec_move rfl (Get.tmp rfl))) ?_
  refine L.op1 rfl rfl (GSpec.plain rfl (spec_move rfl (Get.tmp rfl))) ?_
  refine L.op1 rfl rfl (GSpec.plain rfl (spec_call rfl Try.call28 (fits_ok _ _ _) (.cons (Get.tmp rfl) (.cons (Get.tmp rfl) (.cons (Get.tmp rfl) .nil))))) ?_
  refine L.op1 rfl rfl (GSpec.plain rfl (spec_not rfl (Get.tmp rfl))) ?_
  refine L.op1 rfl rfl (GSpec.plain rfl (spec_move rfl (Get.tmp rfl))) ?_
  refine L.op1 rfl rfl (GSpec.guard rfl rfl rfl fun hg => (spec_move rfl (Get.tmp rfl))) ?_
  refine L.op1 rfl rfl (GSpec.guard rfl rfl rfl fun hg => (spec_len rfl Try.underlying33 (Get.opt rfl hg))) ?_
  refine L.op1 rfl rfl (GSpec.guard rfl rfl rfl fun hg => (spec_move rfl (Get.tmp rfl))) ?_
  refine L.op1 rfl rfl (GSpec.guard rfl rfl rfl fun hg => (spec_neq rfl (Get.opt rfl hg) (Get.opt rfl hg))) ?_
  refine L.op1 rfl rfl (GSpec.plain rfl (spec_or rfl (Get.tmp rfl) (fun hb => (Get.opt rfl hb)))) ?_
  refine L.nil ?_
  refine N.thenW ?_
  refine W.keep (.cons (t := 1) rfl (.cons (t := 2) rfl (.cons (t := 3) rfl (.cons (t := 4) rfl (.cons (t := 8) rfl (.cons (t := 9) rfl (.cons (t := 27) rfl .nil))))))) .refl ?_
  refine W.cond (Get.tmp rfl) (fun h1 => ?_) (fun h1 => ?_)
  · have ph1 := h1; try simp only [decide_eq_true_eq, decide_eq_false_iff_not, Bool.and_eq_true, Bool.or_eq_true, Bool.and_eq_false_iff, Bool.or_eq_false_iff, Bool.not_eq_true', Bool.not_eq_false', Bool.not_true, Bool.not_false, Int.not_lt, Int.not_le] at ph1
    refine W.seq ?_
    refine W.region ?_
    refine L.op1 rfl rfl (GSpec.plain rfl (spec_assign rfl (Get.cint rfl))) ?_
    refine L.op1 rfl rfl (GSpec.plain rfl (spec_assign rfl (Get.cint rfl))) ?_
    refine L.nil ?_
    refine N.thenW ?_
    refine W.ret ?_
    refine N.ret () rfl (.tmp (t := 8) (Get.tmp rfl) (.tmp (t := 9) (Get.tmp rfl) .nil)) (res2w (eqI ?_) (eqI ?_)) .nil (fun _ _ h => h)
    unfold indexD; rw [if_neg (fun hh => by rw [hh.1] at h1; simp [hh.2] at h1)]
    unfold indexD; rw [if_neg (fun hh => by rw [hh.1] at h1; simp [hh.2] at h1)]
  · simp only [decide_eq_true_eq, decide_eq_false_iff_not, Bool.and_eq_true, Bool.or_eq_true, Bool.and_eq_false_iff, Bool.or_eq_false_iff, Bool.not_eq_true', Bool.not_eq_false', Bool.not_true, Bool.not_false, Int.not_lt, Int.not_le] at h1
    have hF := fits_iff.1 h1.1
    have hn0 := hF.n0; have hn20 := hF.n20
    have hbl := h1.2
    refine W.skip ?_
    refine N.thenW ?_
    refine W.seq ?_
    refine W.seq ?_
    refine W.region ?_
    refine L.op1 rfl rfl (GSpec.plain rfl (spec_loadW (k := 0) rfl Try.isAgg24 Try.sizeOf24 (Get.tmp rfl) rfl rfl)) ?_
    refine L.op1 rfl rfl (GSpec.plain rfl (spec_move rfl (Get.tmp rfl))) ?_
    refine L.op1 rfl rfl (GSpec.plain rfl (spec_move rfl (Get.tmp rfl))) ?_
    refine L.op1 rfl rfl (GSpec.plain rfl (spec_call rfl Try.call36 (dEval_ok _ _ _) (.cons (Get.tmp rfl) (.cons (Get.tmp rfl) (.cons (Get.tmp rfl) .nil))))) ?_
    refine L.op1 rfl rfl (GSpec.plain rfl (spec_not rfl (Get.tmp rfl))) ?_
    refine L.nil ?_
    refine N.thenW ?_
    refine W.cond (Get.tmp rfl) (fun h2 => ?_) (fun h2 => ?_)
    · have ph2 := h2; try simp only [decide_eq_true_eq, decide_eq_false_iff_not, Bool.and_eq_true, Bool.or_eq_true, Bool.and_eq_false_iff, Bool.or_eq_false_iff, Bool.not_eq_true', Bool.not_eq_false', Bool.not_true, Bool.not_false, Int.not_lt, Int.not_le] at ph2
      refine W.seq ?_
      refine W.region ?_
      refine L.op1 rfl rfl (GSpec.plain rfl (spec_assign rfl (Get.cint rfl))) ?_
      refine L.op1 rfl rfl (GSpec.plain rfl (spec_assign rfl (Get.cint rfl))) ?_
      refine L.nil ?_
      refine N.thenW ?_
      refine W.keep (.cons (t := 1) rfl (.cons (t := 2) rfl (.cons (t := 3) rfl (.cons (t := 4) rfl (.cons (t := 8) rfl (.cons (t := 9) rfl .nil)))))) .refl ?_
      refine W.ret ?_
      refine N.ret () rfl (.tmp (t := 8) (Get.tmp rfl) (.tmp (t := 9) (Get.tmp rfl) .nil)) (res2w (eqI ?_) (eqI ?_)) .nil (fun _ _ h => h)
      unfold indexD; rw [if_pos ⟨fits_iff.2 hF, hbl⟩, if_neg (by simpa using h2)]
      unfold indexD; rw [if_pos ⟨fits_iff.2 hF, hbl⟩, if_neg (by simpa using h2)]
    · have hev : evalD l f sb = true := by simpa using h2
      refine W.skip ?_
      refine N.thenW ?_
      refine W.keep (.cons (t := 1) rfl (.cons (t := 2) rfl (.cons (t := 3) rfl (.cons (t := 4) rfl (.cons (t := 8) rfl (.cons (t := 9) rfl .nil)))))) .refl ?_
      refine W.seq ?_
      refine W.region ?_
      refine L.op1 rfl rfl (GSpec.plain rfl (spec_loadW (k := 0) rfl Try.isAgg24 Try.sizeOf24 (Get.tmp rfl) rfl rfl)) ?_
      refine L.op1 rfl rfl (GSpec.plain rfl (spec_move rfl (Get.tmp rfl))) ?_
      refine L.op1 rfl rfl (GSpec.plain rfl (spec_build (Rs := [_, _]) rfl ti54 z54 Try.underlying54 pl54 (.cons (GetC.agg (Get.tmp rfl)) rfl rfl rfl (.cons (GetC.one (Get.tmp rfl)) rfl rfl rfl .nil)))) ?_
      refine L.box rfl rfl (GSpec.plain rfl (spec_alloc rfl ti54 z54)) (fun r10 => ?_)
      refine L.storeW (k := 0) rfl rfl rfl Try.sizeOf54 (Get.tmp rfl) (Get.tmp rfl) rfl rfl rfl ?_
      refine L.nil ?_
      refine N.thenW ?_
      refine W.seq ?_
      refine W.region ?_
      refine L.op1 rfl rfl (GSpec.plain rfl (spec_assign rfl (Get.cint rfl))) ?_
      refine L.nil ?_
      refine N.thenW ?_
      refine W.seq ?_
      refine W.seq ?_
      refine W.region ?_
      refine L.op1 rfl rfl (GSpec.plain rfl (spec_move rfl (Get.tmp rfl))) ?_
      refine L.op1 rfl rfl (GSpec.plain rfl (spec_len rfl Try.underlying33 (Get.tmp rfl))) ?_
      refine L.op1 rfl rfl (GSpec.plain rfl (spec_move rfl (Get.cint rfl))) ?_
      refine L.nil ?_
      refine N.thenW ?_
      refine W.block ?_
      refine W.loopK (σ := Nat) (.cons (t := 4) rfl (.cons (t := 8) rfl (.cons (t := 9) rfl (.cons (t := 10) rfl (.cons (t := 36) rfl (.cons (t := 37) rfl .nil)))))) (fun z => [(38, Rp.int .i64 (z : Nat)), (1, Rp.int .i64 (idxS l n f sb z).1), (11, Rp.int .i64 (idxS l n f sb z).2)]) (fun z => []) (fun z => (z : Int) ≤ n) (fun z => n.toNat - z) 0 hn0 (.cons (t := 38) rfl (.cons (t := 1) rfl (.cons (t := 11) rfl .nil))) (.cons 0 rfl (.cons 0 rfl .nil)) ?_
      intro i hI S' M' hS hM
      try dsimp only at hS hM
      simp only [List.cons_append, List.nil_append] at hS hM
      subst hS hM
      try dsimp only
      refine W.seq ?_
      refine W.region ?_
      refine L.op1 rfl rfl (GSpec.plain rfl (spec_lss rfl (Get.tmp rfl) (Get.tmp rfl))) ?_
      refine L.nil ?_
      refine N.thenW ?_
      refine W.seq ?_
      refine W.cond (Get.tmp rfl) (fun h3 => ?_) (fun h3 => ?_)
      · have hin : (i : Int) < n := by have := of_decide_eq_true h3; omega
        have hA := idx_at (bits := sb) hF i (by omega)
        have hok := hA.fit.ok; unfold okNode at hok
        have hB0 := hA.branch hin false
        have hB1 := hA.branch hin true
        have hfr := hB0.fit.from (level := (i : Int) + 1) (by omega) (by have := hB0.lvl; omega)
        have n20 := hF.n20
        have hkk := idx_k (bits := sb) hF i (by omega)
        refine W.skip ?_
        refine N.thenW ?_
        refine W.seq ?_
        refine W.block ?_
        refine W.seq ?_
        refine W.region ?_
        refine L.op1 rfl rfl (GSpec.plain rfl (spec_move rfl (Get.tmp rfl))) ?_
        refine L.op1 rfl rfl (GSpec.plain rfl (spec_indexAddrD (E := eB) rfl Try.underlying33 Try.sizeOf4 (fun _ => rfl) (Get.tmp rfl) (Get.tmp rfl) (by omega))) ?_
        refine L.op1 rfl rfl (GSpec.plain rfl (spec_loadP1 rfl Try.isAgg4 (Get.tmp rfl))) ?_
        refine L.op1 rfl rfl (GSpec.plain rfl (spec_assign rfl (Get.tmp rfl))) ?_
        refine L.op1 rfl rfl (GSpec.plain rfl (spec_assign rfl (Get.tmp rfl))) ?_
        refine L.nil ?_
        refine N.thenW ?_
        refine W.seq ?_
        refine W.region ?_
        refine L.op1 rfl rfl (GSpec.plain rfl (spec_move rfl (Get.tmp rfl))) ?_
        refine L.op1 rfl rfl (GSpec.plain rfl (spec_move rfl (Get.tmp rfl))) ?_
        refine L.op1 rfl rfl (GSpec.plain rfl (spec_assign rfl (Get.tmp rfl))) ?_
        refine L.op1 rfl rfl (GSpec.plain rfl (spec_assign rfl (Get.tmp rfl))) ?_
        refine L.nil ?_
        refine N.thenW ?_
        refine W.seq ?_
        refine W.seq ?_
        refine W.region ?_
        refine L.op1 rfl rfl (GSpec.plain rfl (spec_fieldAddr (f := 0) (off' := 0) rfl Try.underlying24 rfl Try.sizeOf22 (Get.tmp rfl) rfl)) ?_
        refine L.op1 rfl rfl (GSpec.plain rfl (spec_load1 (k := 1) rfl Try.isAgg22 (Get.tmp rfl) rfl rfl)) ?_
        refine L.op1 rfl rfl (GSpec.plain rfl (spec_move rfl (Get.tmp rfl))) ?_
        refine L.op1 rfl rfl (GSpec.plain rfl (spec_indexAddrD (E := eN) rfl Try.underlying22 Try.sizeOf50 (fun _ => rfl) (Get.tmp rfl) (Get.tmp rfl) (by omega))) ?_
        refine L.op1 rfl rfl (GSpec.plain rfl (spec_loadPA rfl Try.isAgg50 Try.sizeOf50 (Get.tmp rfl) rfl)) ?_
        refine L.box rfl rfl (GSpec.plain rfl (spec_alloc rfl ti50 z50)) (fun r16 => ?_)
        refine L.storeW (k := 0) rfl rfl rfl Try.sizeOf50 (Get.tmp rfl) (Get.tmp rfl) rfl rfl rfl ?_
        refine L.nil ?_
        refine N.thenW ?_
        refine W.seq ?_
        refine W.region ?_
        refine L.op1 rfl rfl (GSpec.plain rfl (spec_fieldAddr (f := 0) (off' := 0) rfl Try.underlying50 rfl Try.sizeOf3 (Get.tmp rfl) rfl)) ?_
        refine L.op1 rfl rfl (GSpec.plain rfl (spec_load1 (k := 0) rfl Try.isAgg3 (Get.tmp rfl) rfl rfl)) ?_
        refine L.op1 rfl rfl (GSpec.plain rfl (spec_move rfl (Get.tmp rfl))) ?_
        refine L.op1 rfl rfl (GSpec.plain rfl (spec_eql rfl (Get.tmp rfl) (Get.tmp rfl))) ?_
        refine L.nil ?_
        refine N.thenW ?_
        refine W.cond (Get.tmp rfl) (fun h4 => ?_) (fun h4 => ?_)
        · have hlv : (nd l (idxS l n f sb i).1).level = i := of_decide_eq_true h4
          have elo := branch_kid hA hin hlv false
          have ehi := branch_kid hA hin hlv true
          simp only [Bool.false_eq_true, if_false] at elo
          simp only [if_true] at ehi
          rw [elo] at hB0 hfr
          rw [ehi] at hB1
          apply W.any 6 mixed (by kernel_rfl)
          · apply Head.one rfl rfl (GSpec.plain rfl (spec_fieldAddr (f := 1) (off' := 1) rfl Try.underlying50 rfl Try.sizeOf3 (Get.tmp rfl) rfl))
            apply Head.one rfl rfl (GSpec.plain rfl (spec_load1 (k := 0) rfl Try.isAgg3 (Get.tmp rfl) rfl rfl))
            apply Head.one rfl rfl (GSpec.plain rfl (spec_fieldAddr (f := 2) (off' := 2) rfl Try.underlying50 rfl Try.sizeOf3 (Get.tmp rfl) rfl))
            apply Head.one rfl rfl (GSpec.plain rfl (spec_load1 (k := 0) rfl Try.isAgg3 (Get.tmp rfl) rfl rfl))
            apply Head.one rfl rfl (GSpec.plain rfl (spec_assign rfl (Get.tmp rfl)))
            apply Head.one rfl rfl (GSpec.plain rfl (spec_assign rfl (Get.tmp rfl)))
            exact Head.nil
          refine Fin.one ?_
          refine Fin.one ?_
          refine Fin.one ?_
          refine Fin.one ?_
          refine Fin.one ?_
          refine Fin.one ?_
          refine Fin.nil ?_
          refine L.nil ?_
          refine N.thenW ?_
          refine W.seq ?_
          refine W.region ?_
          refine L.op1 rfl rfl (GSpec.plain rfl (spec_move rfl (Get.tmp rfl))) ?_
          refine L.op1 rfl rfl (GSpec.plain rfl (spec_assign rfl (Get.tmp rfl))) ?_
          refine L.nil ?_
          refine N.thenW ?_
          refine W.seq ?_
          refine W.region ?_
          refine L.op1 rfl rfl (GSpec.plain rfl (spec_move rfl (Get.tmp rfl))) ?_
          refine L.nil ?_
          refine N.thenW ?_
          refine W.cond (Get.tmp rfl) (fun h5 => ?_) (fun h5 => ?_)
          · have en := idx_yes (l := l) (n := n) (f := f) (z := i) (show sb.getD i default = true from h5)
            rw [elo, ehi] at en
            refine W.seq ?_
            refine W.region ?_
            refine L.op1 rfl rfl (GSpec.plain rfl (spec_move rfl (Get.tmp rfl))) ?_
            refine L.op1 rfl rfl (GSpec.plain rfl (spec_loadW (k := 1) rfl Try.isAgg54 Try.sizeOf54 (Get.tmp rfl) rfl rfl)) ?_
            refine L.op1 rfl rfl (GSpec.plain rfl (spec_move rfl (Get.tmp rfl))) ?_
            refine L.op1 rfl rfl (GSpec.plain rfl (spec_move rfl (Get.tmp rfl))) ?_
            first | refine L.op1 rfl rfl (GSpec.plain rfl (fit_i64 (by omega) (by omega) (spec_add rfl (Get.tmp rfl) (Get.cint rfl)))) ?_ | refine L.op1 rfl rfl (GSpec.plain rfl (spec_add rfl (Get.tmp rfl) (Get.cint rfl))) ?_
            refine L.op1 rfl rfl (GSpec.plain rfl (spec_call rfl Try.call29 (from_ok l n _ ((i : Int) + 1) hB0.fit (by omega) (by have := hB0.lvl; omega)) (.cons (Get.tmp rfl) (.cons (Get.tmp rfl) (.cons (Get.tmp rfl) .nil))))) ?_
            first | refine L.op1 rfl rfl (GSpec.plain rfl (fit_i64 (by omega) (by omega) (spec_add rfl (Get.tmp rfl) (Get.tmp rfl)))) ?_ | refine L.op1 rfl rfl (GSpec.plain rfl (spec_add rfl (Get.tmp rfl) (Get.tmp rfl))) ?_
            refine L.op1 rfl rfl (GSpec.plain rfl (spec_assign rfl (Get.tmp rfl))) ?_
            refine L.nil ?_
            refine N.thenW ?_
            refine W.region ?_
            refine L.op1 rfl rfl (GSpec.plain rfl (spec_move rfl (Get.tmp rfl))) ?_
            refine L.op1 rfl rfl (GSpec.plain rfl (spec_assign rfl (Get.tmp rfl))) ?_
            refine L.nil ?_
            refine N.blockNormal ?_
            refine N.thenW ?_
            refine W.region ?_
            first | refine L.op1 rfl rfl (GSpec.plain rfl (fit_i64 (by omega) (by omega) (spec_add rfl (Get.tmp rfl) (Get.cint rfl)))) ?_ | refine L.op1 rfl rfl (GSpec.plain rfl (spec_add rfl (Get.tmp rfl) (Get.cint rfl))) ?_
            refine L.op1 rfl rfl (GSpec.plain rfl (spec_move rfl (Get.tmp rfl))) ?_
            refine L.nil ?_
            refine N.roundK (i + 1) ?hI1 ?hmu1 ?hs1 ?hk1 ?hp1
            case hs1 => exact (.cons (t := 38) rfl (.weak (t := 1) rfl (eqI (by first | (rw [en]; done) | (rw [en]; rfl))) (.weak (t := 11) rfl (eqI (by first | (rw [en]; done) | (rw [en]; rfl))) .nil)))
            case hk1 => exact (.cons (t := 4) rfl (.cons (t := 8) rfl (.cons (t := 9) rfl (.cons (t := 10) rfl (.cons (t := 36) rfl (.cons (t := 37) rfl .nil))))))
            case hp1 => exact (.cons 1 rfl (.cons 1 rfl .nil))
            all_goals (first | rfl | trivial | omega | (simp_all; done))
          · have en := idx_no (l := l) (n := n) (f := f) (z := i) (show sb.getD i default = false from h5)
            rw [elo] at en
            refine W.skip ?_
            refine N.blockNormal ?_
            refine N.thenW ?_
            refine W.region ?_
            first | refine L.op1 rfl rfl (GSpec.plain rfl (fit_i64 (by omega) (by omega) (spec_add rfl (Get.tmp rfl) (Get.cint rfl)))) ?_ | refine L.op1 rfl rfl (GSpec.plain rfl (spec_add rfl (Get.tmp rfl) (Get.cint rfl))) ?_
            refine L.op1 rfl rfl (GSpec.plain rfl (spec_move rfl (Get.tmp rfl))) ?_
            refine L.nil ?_
            refine N.roundK (i + 1) ?hI2 ?hmu2 ?hs2 ?hk2 ?hp2
            case hs2 => exact (.cons (t := 38) rfl (.weak (t := 1) rfl (eqI (by first | (rw [en]; done) | (rw [en]; rfl))) (.weak (t := 11) rfl (eqI (by first | (rw [en]; done) | (rw [en]; rfl))) .nil)))
            case hk2 => exact (.cons (t := 4) rfl (.cons (t := 8) rfl (.cons (t := 9) rfl (.cons (t := 10) rfl (.cons (t := 36) rfl (.cons (t := 37) rfl .nil))))))
            case hp2 => exact (.cons 1 rfl (.cons 1 rfl .nil))
            all_goals (first | rfl | trivial | omega | (simp_all; done))
        · have hlv : ¬ (nd l (idxS l n f sb i).1).level = i := of_decide_eq_false h4
          have elo := branch_same hA hin hlv false
          have ehi := branch_same hA hin hlv true
          rw [elo] at hB0 hfr
          rw [ehi] at hB1
          refine W.skip ?_
          refine N.thenW ?_
          refine W.seq ?_
          refine W.region ?_
          refine L.op1 rfl rfl (GSpec.plain rfl (spec_move rfl (Get.tmp rfl))) ?_
          refine L.op1 rfl rfl (GSpec.plain rfl (spec_assign rfl (Get.tmp rfl))) ?_
          refine L.nil ?_
          refine N.thenW ?_
          refine W.seq ?_
          refine W.region ?_
          refine L.op1 rfl rfl (GSpec.plain rfl (spec_move rfl (Get.tmp rfl))) ?_
          refine L.nil ?_
          refine N.thenW ?_
          refine W.cond (Get.tmp rfl) (fun h6 => ?_) (fun h6 => ?_)
          · have en := idx_yes (l := l) (n := n) (f := f) (z := i) (show sb.getD i default = true from h6)
            rw [elo, ehi] at en
            refine W.seq ?_
            refine W.region ?_
            refine L.op1 rfl rfl (GSpec.plain rfl (spec_move rfl (Get.tmp rfl))) ?_
            refine L.op1 rfl rfl (GSpec.plain rfl (spec_loadW (k := 1) rfl Try.isAgg54 Try.sizeOf54 (Get.tmp rfl) rfl rfl)) ?_
            refine L.op1 rfl rfl (GSpec.plain rfl (spec_move rfl (Get.tmp rfl))) ?_
            refine L.op1 rfl rfl (GSpec.plain rfl (spec_move rfl (Get.tmp rfl))) ?_
            first | refine L.op1 rfl rfl (GSpec.plain rfl (fit_i64 (by omega) (by omega) (spec_add rfl (Get.tmp rfl) (Get.cint rfl)))) ?_ | refine L.op1 rfl rfl (GSpec.plain rfl (spec_add rfl (Get.tmp rfl) (Get.cint rfl))) ?_
            refine L.op1 rfl rfl (GSpec.plain rfl (spec_call rfl Try.call29 (from_ok l n _ ((i : Int) + 1) hB0.fit (by omega) (by have := hB0.lvl; omega)) (.cons (Get.tmp rfl) (.cons (Get.tmp rfl) (.cons (Get.tmp rfl) .nil))))) ?_
            first | refine L.op1 rfl rfl (GSpec.plain rfl (fit_i64 (by omega) (by omega) (spec_add rfl (Get.tmp rfl) (Get.tmp rfl)))) ?_ | refine L.op1 rfl rfl (GSpec.plain rfl (spec_add rfl (Get.tmp rfl) (Get.tmp rfl))) ?_
            refine L.op1 rfl rfl (GSpec.plain rfl (spec_assign rfl (Get.tmp rfl))) ?_
            refine L.nil ?_
            refine N.thenW ?_
            refine W.region ?_
            refine L.op1 rfl rfl (GSpec.plain rfl (spec_move rfl (Get.tmp rfl))) ?_
            refine L.op1 rfl rfl (GSpec.plain rfl (spec_assign rfl (Get.tmp rfl))) ?_
            refine L.nil ?_
            refine N.blockNormal ?_
            refine N.thenW ?_
            refine W.region ?_
            first | refine L.op1 rfl rfl (GSpec.plain rfl (fit_i64 (by omega) (by omega) (spec_add rfl (Get.tmp rfl) (Get.cint rfl)))) ?_ | refine L.op1 rfl rfl (GSpec.plain rfl (spec_add rfl (Get.tmp rfl) (Get.cint rfl))) ?_
            refine L.op1 rfl rfl (GSpec.plain rfl (spec_move rfl (Get.tmp rfl))) ?_
            refine L.nil ?_
            refine N.roundK (i + 1) ?hI3 ?hmu3 ?hs3 ?hk3 ?hp3
            case hs3 => exact (.cons (t := 38) rfl (.weak (t := 1) rfl (eqI (by first | (rw [en]; done) | (rw [en]; rfl))) (.weak (t := 11) rfl (eqI (by first | (rw [en]; done) | (rw [en]; rfl))) .nil)))
            case hk3 => exact (.cons (t := 4) rfl (.cons (t := 8) rfl (.cons (t := 9) rfl (.cons (t := 10) rfl (.cons (t := 36) rfl (.cons (t := 37) rfl .nil))))))
            case hp3 => exact (.cons 1 rfl (.cons 1 rfl .nil))
            all_goals (first | rfl | trivial | omega | (simp_all; done))
          · have en := idx_no (l := l) (n := n) (f := f) (z := i) (show sb.getD i default = false from h6)
            rw [elo] at en
            refine W.skip ?_
            refine N.blockNormal ?_
            refine N.thenW ?_
            refine W.region ?_
            first | refine L.op1 rfl rfl (GSpec.plain rfl (fit_i64 (by omega) (by omega) (spec_add rfl (Get.tmp rfl) (Get.cint rfl)))) ?_ | refine L.op1 rfl rfl (GSpec.plain rfl (spec_add rfl (Get.tmp rfl) (Get.cint rfl))) ?_
            refine L.op1 rfl rfl (GSpec.plain rfl (spec_move rfl (Get.tmp rfl))) ?_
            refine L.nil ?_
            refine N.roundK (i + 1) ?hI4 ?hmu4 ?hs4 ?hk4 ?hp4
            case hs4 => exact (.cons (t := 38) rfl (.weak (t := 1) rfl (eqI (by first | (rw [en]; done) | (rw [en]; rfl))) (.weak (t := 11) rfl (eqI (by first | (rw [en]; done) | (rw [en]; rfl))) .nil)))
            case hk4 => exact (.cons (t := 4) rfl (.cons (t := 8) rfl (.cons (t := 9) rfl (.cons (t := 10) rfl (.cons (t := 36) rfl (.cons (t := 37) rfl .nil))))))
            case hp4 => exact (.cons 1 rfl (.cons 1 rfl .nil))
            all_goals (first | rfl | trivial | omega | (simp_all; done))
      · have ph3 := h3; try simp only [decide_eq_true_eq, decide_eq_false_iff_not, Bool.and_eq_true, Bool.or_eq_true, Bool.and_eq_false_iff, Bool.or_eq_false_iff, Bool.not_eq_true', Bool.not_eq_false', Bool.not_true, Bool.not_false, Int.not_lt, Int.not_le] at ph3
        refine W.exit ?_
        refine N.thenExit ?_
        refine N.thenExit ?_
        refine N.blockExit ?_
        refine N.thenW ?_
        refine W.keep (.cons (t := 8) rfl (.cons (t := 9) rfl (.cons (t := 11) rfl .nil))) .refl ?_
        refine W.seq ?_
        refine W.region ?_
        refine L.op1 rfl rfl (GSpec.plain rfl (spec_move rfl (Get.tmp rfl))) ?_
        refine L.op1 rfl rfl (GSpec.plain rfl (spec_assign rfl (Get.tmp rfl))) ?_
        refine L.op1 rfl rfl (GSpec.plain rfl (spec_assign rfl (Get.cint rfl))) ?_
        refine L.nil ?_
        refine N.thenW ?_
        refine W.ret ?_
        refine N.ret () rfl (.tmp (t := 8) (Get.tmp rfl) (.tmp (t := 9) (Get.tmp rfl) .nil)) (res2w (eqI ?_) (eqI ?_)) .nil (fun _ _ h => h)
        unfold indexD; rw [if_pos ⟨fits_iff.2 hF, hbl⟩, if_pos hev]; rw [show i = n.toNat by omega]
        unfold indexD; rw [if_pos ⟨fits_iff.2 hF, hbl⟩, if_pos hev]

end Go.Proofs.Ytcpkjpkjahgobaa
