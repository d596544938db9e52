import Derived.Test.YtcpkjpkjahgobaaCtW13
set_option linter.unusedSimpArgs false
set_option maxRecDepth 8000
set_option linter.unusedVariables false
namespace Go.Proofs.Ytcpkjpkjahgobaa
open Go.Sim
theorem Nth_ok (l : List Node) (f n k : Int) : CallT Try.prog 15 [Rp.agg (dagR l), Rp.int .i64 f, Rp.int .i64 n, Rp.int .i64 k] [] (.one (outL (nthD l f n k))) := by
  refine W.enter (fn := Try.f15) (n := 73) Try.func15 rfl Try.ntmps15 rfl (fun w₀ C₀ => ?_)
  simp only [argS]
  refine W.fact 3 rfl int_fact fun hik => ?_
  simp only [InR] at hik
  refine W.seq ?_
  refine W.region ?_
  refine L.box rfl rfl (GSpec.plain rfl (spec_box rfl (GetC.agg (Get.tmp rfl)))) (fun r4 => ?_)
  refine L.op1 rfl rfl (GSpec.plain rfl (spec_assign rfl (Get.cnil (E := eB)))) ?_
  refine L.op1 rfl rfl (GSpec.plain rfl (spec_assign rfl (Get.cint rfl))) ?_
  refine L.nil ?_
  refine N.thenW ?_
  refine W.seq ?_
  refine W.seq ?_
  refine W.region ?_
  refine L.op1 rfl rfl (GSpec.plain rfl (spec_loadW (k := 0) rfl Try.isAgg24 Try.sizeOf24 (Get.tmp rfl) rfl rfl)) ?_
  refine L.op1 rfl rfl (GSpec.plain rfl (spec_move rfl (Get.tmp rfl))) ?_
  refine L.op1 rfl rfl (GSpec.plain rfl (spec_move rfl (Get.tmp rfl))) ?_
  refine L.op1 rfl rfl (GSpec.plain rfl (spec_call rfl Try.call28 (fits_ok _ _ _) (.cons (Get.tmp rfl) (.cons (Get.tmp rfl) (.cons (Get.tmp rfl) .nil))))) ?_
  refine L.op1 rfl rfl (GSpec.plain rfl (spec_not rfl (Get.tmp rfl))) ?_
  refine L.nil ?_
  refine N.thenW ?_
  refine W.cond (Get.tmp rfl) (fun h1 => ?_) (fun h1 => ?_)
  · have ph1 := h1; try simp only [decide_eq_true_eq, decide_eq_false_iff_not, Bool.and_eq_true, Bool.or_eq_true, Bool.and_eq_false_iff, Bool.or_eq_false_iff, Bool.not_eq_true', Bool.not_eq_false', Bool.not_true, Bool.not_false, Int.not_lt, Int.not_le] at ph1
    refine W.seq ?_
    refine W.region ?_
    refine L.op1 rfl rfl (GSpec.plain rfl (spec_assign rfl (Get.cnil (E := eB)))) ?_
    refine L.op1 rfl rfl (GSpec.plain rfl (spec_assign rfl (Get.cint rfl))) ?_
    refine L.nil ?_
    refine N.thenW ?_
    refine W.ret ?_
    refine N.ret () rfl (.tmp (t := 8) (Get.tmp rfl) (.tmp (t := 9) (Get.tmp rfl) .nil)) (res2w (eqSl ?_) (eqI ?_)) .nil (fun _ _ h => h)
    unfold nthD; rw [if_neg (by simpa using h1)]
    unfold nthD; rw [if_neg (by simpa using h1)]
  · have hF := fits_iff.1 (by simpa using h1)
    have hn0 := hF.n0; have hn20 := hF.n20
    refine W.skip ?_
    refine N.thenW ?_
    refine W.seq ?_
    refine W.region ?_
    refine L.op1 rfl rfl (GSpec.plain rfl (spec_loadW (k := 0) rfl Try.isAgg24 Try.sizeOf24 (Get.tmp rfl) rfl rfl)) ?_
    refine L.op1 rfl rfl (GSpec.plain rfl (spec_move rfl (Get.tmp rfl))) ?_
    refine L.op1 rfl rfl (GSpec.plain rfl (spec_build (Rs := [_, _]) rfl ti54 z54 Try.underlying54 pl54 (.cons (GetC.agg (Get.tmp rfl)) rfl rfl rfl (.cons (GetC.one (Get.tmp rfl)) rfl rfl rfl .nil)))) ?_
    refine L.box rfl rfl (GSpec.plain rfl (spec_alloc rfl ti54 z54)) (fun r10 => ?_)
    refine L.storeW (k := 0) rfl rfl rfl Try.sizeOf54 (Get.tmp rfl) (Get.tmp rfl) rfl rfl rfl ?_
    refine L.nil ?_
    refine N.thenW ?_
    refine W.seq ?_
    refine W.seq ?_
    refine W.region ?_
    refine L.op1 rfl rfl (GSpec.plain rfl (spec_move rfl (Get.tmp rfl))) ?_
    refine L.op1 rfl rfl (GSpec.plain rfl (spec_lss rfl (Get.tmp rfl) (Get.cint rfl))) ?_
    refine L.op1 rfl rfl (GSpec.plain rfl (spec_move rfl (Get.tmp rfl))) ?_
    refine L.op1 rfl rfl (GSpec.guard rfl rfl rfl fun hg => (spec_move rfl (Get.tmp rfl))) ?_
    refine L.op1 rfl rfl (GSpec.guard rfl rfl rfl fun hg => (spec_loadW (k := 0) rfl Try.isAgg54 Try.sizeOf54 (Get.tmp rfl) rfl rfl)) ?_
    refine L.op1 rfl rfl (GSpec.guard rfl rfl rfl fun hg => (spec_move rfl (Get.tmp rfl))) ?_
    refine L.op1 rfl rfl (GSpec.guard rfl rfl rfl fun hg => (spec_call rfl Try.call29 (from_ok l n f 0 hF (by decide) hF.lvl0.1) (.cons (Get.opt rfl hg) (.cons (Get.opt rfl hg) (.cons (Get.cint rfl) .nil))))) ?_
    refine L.op1 rfl rfl (GSpec.guard rfl rfl rfl fun hg => (spec_geq rfl (Get.opt rfl hg) (Get.opt rfl hg))) ?_
    refine L.op1 rfl rfl (GSpec.plain rfl (spec_or rfl (Get.tmp rfl) (fun hb => (Get.opt rfl hb)))) ?_
    refine L.nil ?_
    refine N.thenW ?_
    refine W.keep (.cons (t := 1) rfl (.cons (t := 2) rfl (.cons (t := 3) rfl (.cons (t := 4) rfl (.cons (t := 8) rfl (.cons (t := 9) rfl (.cons (t := 10) rfl (.cons (t := 33) rfl .nil)))))))) .refl ?_
    refine W.cond (Get.tmp rfl) (fun h2 => ?_) (fun h2 => ?_)
    · have ph2 := h2; try simp only [decide_eq_true_eq, decide_eq_false_iff_not, Bool.and_eq_true, Bool.or_eq_true, Bool.and_eq_false_iff, Bool.or_eq_false_iff, Bool.not_eq_true', Bool.not_eq_false', Bool.not_true, Bool.not_false, Int.not_lt, Int.not_le] at ph2
      refine W.seq ?_
      refine W.region ?_
      refine L.op1 rfl rfl (GSpec.plain rfl (spec_assign rfl (Get.cnil (E := eB)))) ?_
      refine L.op1 rfl rfl (GSpec.plain rfl (spec_assign rfl (Get.cint rfl))) ?_
      refine L.nil ?_
      refine N.thenW ?_
      refine W.ret ?_
      refine N.ret () rfl (.tmp (t := 8) (Get.tmp rfl) (.tmp (t := 9) (Get.tmp rfl) .nil)) (res2w (eqSl ?_) (eqI ?_)) .nil (fun _ _ h => h)
      unfold nthD; rw [if_pos (fits_iff.2 hF), if_pos (by simpa using h2)]
      unfold nthD; rw [if_pos (fits_iff.2 hF), if_pos (by simpa using h2)]
    · have hk2 : 0 ≤ k ∧ k < fromD l n f 0 := by simp only [decide_eq_true_eq, decide_eq_false_iff_not, Bool.and_eq_true, Bool.or_eq_true, Bool.and_eq_false_iff, Bool.or_eq_false_iff, Bool.not_eq_true', Bool.not_eq_false', Bool.not_true, Bool.not_false, Int.not_lt, Int.not_le] at h2; omega
      refine W.skip ?_
      refine N.thenW ?_
      refine W.seq ?_
      refine W.region ?_
      refine L.op1 rfl rfl (GSpec.plain rfl (spec_move rfl (Get.tmp rfl))) ?_
      refine L.op rfl rfl (GSpec.plain rfl (spec_makeSlice (z₀ := false) (E := eB) rfl Try.underlying33 ti4 z4 (fun _ => rfl) (Get.tmp rfl) (Get.tmp rfl) (by omega) (by omega) (by omega))) (fun v35 => ?_)
      refine L.op1 rfl rfl (GSpec.plain rfl (spec_assign rfl (Get.tmp rfl))) ?_
      refine L.nil ?_
      refine N.thenW ?_
      refine W.seq ?_
      refine W.seq ?_
      refine W.region ?_
      refine L.op1 rfl rfl (GSpec.plain rfl (spec_move rfl (Get.tmp rfl))) ?_
      refine L.op1 rfl rfl (GSpec.plain rfl (spec_move rfl (Get.cint rfl))) ?_
      refine L.nil ?_
      refine N.thenW ?_
      refine W.block ?_
      refine W.loopK (σ := Nat) (.cons (t := 4) rfl (.cons (t := 8) rfl (.cons (t := 9) rfl (.cons (t := 10) rfl (.cons (t := 11) rfl (.cons (t := 36) rfl .nil)))))) (fun z => [(37, Rp.int .i64 (z : Nat)), (1, Rp.int .i64 (nthS l n f k z).1), (3, Rp.int .i64 (nthS l n f k z).2.1)]) (fun z => [MF.osl v35 4 1 eB (outS l n f k z)]) (fun z => (z : Int) ≤ n) (fun z => n.toNat - z) 0 hn0 (.cons (t := 37) rfl (.cons (t := 1) rfl (.cons (t := 3) rfl .nil))) (.cons 0 rfl (.cons 0 rfl (.cons 0 rfl .nil))) ?_
      intro i hI S' M' hS hM
      try dsimp only at hS hM
      simp only [List.cons_append, List.nil_append] at hS hM
      subst hS hM
      try dsimp only
      refine W.seq ?_
      refine W.region ?_
      refine L.op1 rfl rfl (GSpec.plain rfl (spec_lss rfl (Get.tmp rfl) (Get.tmp rfl))) ?_
      refine L.nil ?_
      refine N.thenW ?_
      refine W.seq ?_
      refine W.cond (Get.tmp rfl) (fun h3 => ?_) (fun h3 => ?_)
      · have hin : (i : Int) < n := of_decide_eq_true h3
        have hA := nth_at (k := k) hF i (by omega)
        have hok := hA.fit.ok; unfold okNode at hok
        have hB0 := hA.branch hin false
        have hB1 := hA.branch hin true
        have hfr := hB0.fit.from (level := (i : Int) + 1) (by omega) (by have := hB0.lvl; omega)
        have n20 := hF.n20
        have hkk := nth_k hF hk2.1 i (by omega)
        have hol := out_len (l := l) (f := f) (k := k) (z := i) hI
        refine W.skip ?_
        refine N.thenW ?_
        refine W.seq ?_
        refine W.block ?_
        refine W.seq ?_
        refine W.region ?_
        refine L.op1 rfl rfl (GSpec.plain rfl (spec_move rfl (Get.tmp rfl))) ?_
        refine L.op1 rfl rfl (GSpec.plain rfl (spec_assign rfl (Get.tmp rfl))) ?_
        refine L.nil ?_
        refine N.thenW ?_
        refine W.seq ?_
        refine W.region ?_
        refine L.op1 rfl rfl (GSpec.plain rfl (spec_move rfl (Get.tmp rfl))) ?_
        refine L.op1 rfl rfl (GSpec.plain rfl (spec_move rfl (Get.tmp rfl))) ?_
        refine L.op1 rfl rfl (GSpec.plain rfl (spec_assign rfl (Get.tmp rfl))) ?_
        refine L.op1 rfl rfl (GSpec.plain rfl (spec_assign rfl (Get.tmp rfl))) ?_
        refine L.nil ?_
        refine N.thenW ?_
        refine W.seq ?_
        refine W.seq ?_
        refine W.region ?_
        refine L.op1 rfl rfl (GSpec.plain rfl (spec_fieldAddr (f := 0) (off' := 0) rfl Try.underlying24 rfl Try.sizeOf22 (Get.tmp rfl) rfl)) ?_
        refine L.op1 rfl rfl (GSpec.plain rfl (spec_load1 (k := 2) rfl Try.isAgg22 (Get.tmp rfl) rfl rfl)) ?_
        refine L.op1 rfl rfl (GSpec.plain rfl (spec_move rfl (Get.tmp rfl))) ?_
        refine L.op1 rfl rfl (GSpec.plain rfl (spec_indexAddrD (E := eN) rfl Try.underlying22 Try.sizeOf50 (fun _ => rfl) (Get.tmp rfl) (Get.tmp rfl) (by omega))) ?_
        refine L.op1 rfl rfl (GSpec.plain rfl (spec_loadPA rfl Try.isAgg50 Try.sizeOf50 (Get.tmp rfl) rfl)) ?_
        refine L.box rfl rfl (GSpec.plain rfl (spec_alloc rfl ti50 z50)) (fun r15 => ?_)
        refine L.storeW (k := 0) rfl rfl rfl Try.sizeOf50 (Get.tmp rfl) (Get.tmp rfl) rfl rfl rfl ?_
        refine L.nil ?_
        refine N.thenW ?_
        refine W.seq ?_
        refine W.region ?_
        refine L.op1 rfl rfl (GSpec.plain rfl (spec_fieldAddr (f := 0) (off' := 0) rfl Try.underlying50 rfl Try.sizeOf3 (Get.tmp rfl) rfl)) ?_
        refine L.op1 rfl rfl (GSpec.plain rfl (spec_load1 (k := 0) rfl Try.isAgg3 (Get.tmp rfl) rfl rfl)) ?_
        refine L.op1 rfl rfl (GSpec.plain rfl (spec_move rfl (Get.tmp rfl))) ?_
        refine L.op1 rfl rfl (GSpec.plain rfl (spec_eql rfl (Get.tmp rfl) (Get.tmp rfl))) ?_
        refine L.nil ?_
        refine N.thenW ?_
        refine W.cond (Get.tmp rfl) (fun h4 => ?_) (fun h4 => ?_)
        · have hlv : (nd l (nthS l n f k i).1).level = i := of_decide_eq_true h4
          have elo := branch_kid hA hin hlv false
          have ehi := branch_kid hA hin hlv true
          simp only [Bool.false_eq_true, if_false] at elo
          simp only [if_true] at ehi
          rw [elo] at hB0 hfr
          rw [ehi] at hB1
          apply W.any 6 mixed (by kernel_rfl)
          · apply Head.one rfl rfl (GSpec.plain rfl (spec_fieldAddr (f := 1) (off' := 1) rfl Try.underlying50 rfl Try.sizeOf3 (Get.tmp rfl) rfl))
            apply Head.one rfl rfl (GSpec.plain rfl (spec_load1 (k := 0) rfl Try.isAgg3 (Get.tmp rfl) rfl rfl))
            apply Head.one rfl rfl (GSpec.plain rfl (spec_fieldAddr (f := 2) (off' := 2) rfl Try.underlying50 rfl Try.sizeOf3 (Get.tmp rfl) rfl))
            apply Head.one rfl rfl (GSpec.plain rfl (spec_load1 (k := 0) rfl Try.isAgg3 (Get.tmp rfl) rfl rfl))
            apply Head.one rfl rfl (GSpec.plain rfl (spec_assign rfl (Get.tmp rfl)))
            apply Head.one rfl rfl (GSpec.plain rfl (spec_assign rfl (Get.tmp rfl)))
            exact Head.nil
          refine Fin.one ?_
          refine Fin.one ?_
          refine Fin.one ?_
          refine Fin.one ?_
          refine Fin.one ?_
          refine Fin.one ?_
          refine Fin.nil ?_
          refine L.nil ?_
          refine N.thenW ?_
          refine W.seq ?_
          refine W.region ?_
          refine L.op1 rfl rfl (GSpec.plain rfl (spec_move rfl (Get.tmp rfl))) ?_
          refine L.op1 rfl rfl (GSpec.plain rfl (spec_assign rfl (Get.tmp rfl))) ?_
          refine L.nil ?_
          refine N.thenW ?_
          refine W.seq ?_
          refine W.region ?_
          refine L.op1 rfl rfl (GSpec.plain rfl (spec_loadW (k := 2) rfl Try.isAgg54 Try.sizeOf54 (Get.tmp rfl) rfl rfl)) ?_
          refine L.op1 rfl rfl (GSpec.plain rfl (spec_move rfl (Get.tmp rfl))) ?_
          refine L.op1 rfl rfl (GSpec.plain rfl (spec_move rfl (Get.tmp rfl))) ?_
          first | refine L.op1 rfl rfl (GSpec.plain rfl (fit_i64 (by omega) (by omega) (spec_add rfl (Get.tmp rfl) (Get.cint rfl)))) ?_ | refine L.op1 rfl rfl (GSpec.plain rfl (spec_add rfl (Get.tmp rfl) (Get.cint rfl))) ?_
          refine L.op1 rfl rfl (GSpec.plain rfl (spec_call rfl Try.call29 (from_ok l n _ ((i : Int) + 1) hB0.fit (by omega) (by have := hB0.lvl; omega)) (.cons (Get.tmp rfl) (.cons (Get.tmp rfl) (.cons (Get.tmp rfl) .nil))))) ?_
          refine L.op1 rfl rfl (GSpec.plain rfl (spec_assign rfl (Get.tmp rfl))) ?_
          refine L.nil ?_
          refine N.thenW ?_
          refine W.seq ?_
          refine W.region ?_
          refine L.op1 rfl rfl (GSpec.plain rfl (spec_move rfl (Get.tmp rfl))) ?_
          refine L.op1 rfl rfl (GSpec.plain rfl (spec_move rfl (Get.tmp rfl))) ?_
          refine L.op1 rfl rfl (GSpec.plain rfl (spec_geq rfl (Get.tmp rfl) (Get.tmp rfl))) ?_
          refine L.nil ?_
          refine N.thenW ?_
          refine W.cond (Get.tmp rfl) (fun h5 => ?_) (fun h5 => ?_)
          · have en := nth_yes (z := i) (show fromD l n (branchD l (nthS l n f k i).1 i false) (i + 1 : Nat) ≤ (nthS l n f k i).2.1 by rw [elo]; exact of_decide_eq_true h5)
            rw [elo, ehi] at en
            refine W.seq ?_
            refine W.region ?_
            refine L.op1 rfl rfl (GSpec.plain rfl (spec_move rfl (Get.tmp rfl))) ?_
            refine L.op1 rfl rfl (GSpec.plain rfl (spec_move rfl (Get.tmp rfl))) ?_
            first | refine L.op1 rfl rfl (GSpec.plain rfl (fit_i64 (by omega) (by omega) (spec_sub rfl (Get.tmp rfl) (Get.tmp rfl)))) ?_ | refine L.op1 rfl rfl (GSpec.plain rfl (spec_sub rfl (Get.tmp rfl) (Get.tmp rfl))) ?_
            refine L.op1 rfl rfl (GSpec.plain rfl (spec_assign rfl (Get.tmp rfl))) ?_
            refine L.nil ?_
            refine N.thenW ?_
            refine W.region ?_
            refine L.op1 rfl rfl (GSpec.plain rfl (spec_move rfl (Get.tmp rfl))) ?_
            refine L.op1 rfl rfl (GSpec.plain rfl (spec_move rfl (Get.tmp rfl))) ?_
            refine L.op1 rfl rfl (GSpec.plain rfl (spec_move rfl (Get.tmp rfl))) ?_
            refine L.op1 rfl rfl (GSpec.plain rfl (spec_assign rfl (Get.tmp rfl))) ?_
            refine L.op1 rfl rfl (GSpec.plain rfl (spec_indexAddrO (k := 1) (E := eB) rfl Try.underlying33 Try.sizeOf4 (Get.tmp rfl) (Get.tmp rfl) rfl (by omega))) ?_
            refine L.storeO1 (k := 1) (j := 0) (E := eB) rfl rfl rfl Try.sizeOf4 (fun _ => rfl) (Get.tmp rfl) Get.cbool rfl rfl (by decide) (getD_some (by omega)) rfl ?_
            refine L.nil ?_
            refine N.blockNormal ?_
            refine N.thenW ?_
            refine W.region ?_
            first | refine L.op1 rfl rfl (GSpec.plain rfl (fit_i64 (by omega) (by omega) (spec_add rfl (Get.tmp rfl) (Get.cint rfl)))) ?_ | refine L.op1 rfl rfl (GSpec.plain rfl (spec_add rfl (Get.tmp rfl) (Get.cint rfl))) ?_
            refine L.op1 rfl rfl (GSpec.plain rfl (spec_move rfl (Get.tmp rfl))) ?_
            refine L.nil ?_
            refine N.roundK (i + 1) ?hI1 ?hmu1 ?hs1 ?hk1 ?hp1
            case hs1 => exact (.cons (t := 37) rfl (.weak (t := 1) rfl (eqI (by first | (rw [en]; done) | (rw [en]; rfl))) (.weak (t := 3) rfl (eqI (by first | (rw [en]; done) | (rw [en]; rfl))) .nil)))
            case hk1 => exact (.cons (t := 4) rfl (.cons (t := 8) rfl (.cons (t := 9) rfl (.cons (t := 10) rfl (.cons (t := 11) rfl (.cons (t := 36) rfl .nil))))))
            case hp1 => rw [out_yes hin en]; exact (.cons 1 rfl (.cons 1 rfl (.cons 1 rfl .nil)))
            all_goals (first | rfl | trivial | omega | (simp_all; done))
          · have en := nth_no (z := i) (show ¬ fromD l n (branchD l (nthS l n f k i).1 i false) (i + 1 : Nat) ≤ (nthS l n f k i).2.1 by rw [elo]; exact of_decide_eq_false h5)
            rw [elo] at en
            refine W.skip ?_
            refine N.blockNormal ?_
            refine N.thenW ?_
            refine W.region ?_
            first | refine L.op1 rfl rfl (GSpec.plain rfl (fit_i64 (by omega) (by omega) (spec_add rfl (Get.tmp rfl) (Get.cint rfl)))) ?_ | refine L.op1 rfl rfl (GSpec.plain rfl (spec_add rfl (Get.tmp rfl) (Get.cint rfl))) ?_
            refine L.op1 rfl rfl (GSpec.plain rfl (spec_move rfl (Get.tmp rfl))) ?_
            refine L.nil ?_
            refine N.roundK (i + 1) ?hI2 ?hmu2 ?hs2 ?hk2 ?hp2
            case hs2 => exact (.cons (t := 37) rfl (.weak (t := 1) rfl (eqI (by first | (rw [en]; done) | (rw [en]; rfl))) (.weak (t := 3) rfl (eqI (by first | (rw [en]; done) | (rw [en]; rfl))) .nil)))
            case hk2 => exact (.cons (t := 4) rfl (.cons (t := 8) rfl (.cons (t := 9) rfl (.cons (t := 10) rfl (.cons (t := 11) rfl (.cons (t := 36) rfl .nil))))))
            case hp2 => rw [out_no hin en]; exact (.cons 1 rfl (.cons 1 rfl (.cons 1 rfl .nil)))
            all_goals (first | rfl | trivial | omega | (simp_all; done))
        · have hlv : ¬ (nd l (nthS l n f k i).1).level = i := of_decide_eq_false h4
          have elo := branch_same hA hin hlv false
          have ehi := branch_same hA hin hlv true
          rw [elo] at hB0 hfr
          rw [ehi] at hB1
          refine W.skip ?_
          refine N.thenW ?_
          refine W.seq ?_
          refine W.region ?_
          refine L.op1 rfl rfl (GSpec.plain rfl (spec_move rfl (Get.tmp rfl))) ?_
          refine L.op1 rfl rfl (GSpec.plain rfl (spec_assign rfl (Get.tmp rfl))) ?_
          refine L.nil ?_
          refine N.thenW ?_
          refine W.seq ?_
          refine W.region ?_
          refine L.op1 rfl rfl (GSpec.plain rfl (spec_loadW (k := 2) rfl Try.isAgg54 Try.sizeOf54 (Get.tmp rfl) rfl rfl)) ?_
          refine L.op1 rfl rfl (GSpec.plain rfl (spec_move rfl (Get.tmp rfl))) ?_
          refine L.op1 rfl rfl (GSpec.plain rfl (spec_move rfl (Get.tmp rfl))) ?_
          first | refine L.op1 rfl rfl (GSpec.plain rfl (fit_i64 (by omega) (by omega) (spec_add rfl (Get.tmp rfl) (Get.cint rfl)))) ?_ | refine L.op1 rfl rfl (GSpec.plain rfl (spec_add rfl (Get.tmp rfl) (Get.cint rfl))) ?_
          refine L.op1 rfl rfl (GSpec.plain rfl (spec_call rfl Try.call29 (from_ok l n _ ((i : Int) + 1) hB0.fit (by omega) (by have := hB0.lvl; omega)) (.cons (Get.tmp rfl) (.cons (Get.tmp rfl) (.cons (Get.tmp rfl) .nil))))) ?_
          refine L.op1 rfl rfl (GSpec.plain rfl (spec_assign rfl (Get.tmp rfl))) ?_
          refine L.nil ?_
          refine N.thenW ?_
          refine W.seq ?_
          refine W.region ?_
          refine L.op1 rfl rfl (GSpec.plain rfl (spec_move rfl (Get.tmp rfl))) ?_
          refine L.op1 rfl rfl (GSpec.plain rfl (spec_move rfl (Get.tmp rfl))) ?_
          refine L.op1 rfl rfl (GSpec.plain rfl (spec_geq rfl (Get.tmp rfl) (Get.tmp rfl))) ?_
          refine L.nil ?_
          refine N.thenW ?_
          refine W.cond (Get.tmp rfl) (fun h6 => ?_) (fun h6 => ?_)
          · have en := nth_yes (z := i) (show fromD l n (branchD l (nthS l n f k i).1 i false) (i + 1 : Nat) ≤ (nthS l n f k i).2.1 by rw [elo]; exact of_decide_eq_true h6)
            rw [elo, ehi] at en
            refine W.seq ?_
            refine W.region ?_
            refine L.op1 rfl rfl (GSpec.plain rfl (spec_move rfl (Get.tmp rfl))) ?_
            refine L.op1 rfl rfl (GSpec.plain rfl (spec_move rfl (Get.tmp rfl))) ?_
            first | refine L.op1 rfl rfl (GSpec.plain rfl (fit_i64 (by omega) (by omega) (spec_sub rfl (Get.tmp rfl) (Get.tmp rfl)))) ?_ | refine L.op1 rfl rfl (GSpec.plain rfl (spec_sub rfl (Get.tmp rfl) (Get.tmp rfl))) ?_
            refine L.op1 rfl rfl (GSpec.plain rfl (spec_assign rfl (Get.tmp rfl))) ?_
            refine L.nil ?_
            refine N.thenW ?_
            refine W.region ?_
            refine L.op1 rfl rfl (GSpec.plain rfl (spec_move rfl (Get.tmp rfl))) ?_
            refine L.op1 rfl rfl (GSpec.plain rfl (spec_move rfl (Get.tmp rfl))) ?_
            refine L.op1 rfl rfl (GSpec.plain rfl (spec_move rfl (Get.tmp rfl))) ?_
            refine L.op1 rfl rfl (GSpec.plain rfl (spec_assign rfl (Get.tmp rfl))) ?_
            refine L.op1 rfl rfl (GSpec.plain rfl (spec_indexAddrO (k := 1) (E := eB) rfl Try.underlying33 Try.sizeOf4 (Get.tmp rfl) (Get.tmp rfl) rfl (by omega))) ?_
            refine L.storeO1 (k := 1) (j := 0) (E := eB) rfl rfl rfl Try.sizeOf4 (fun _ => rfl) (Get.tmp rfl) Get.cbool rfl rfl (by decide) (getD_some (by omega)) rfl ?_
            refine L.nil ?_
            refine N.blockNormal ?_
            refine N.thenW ?_
            refine W.region ?_
            first | refine L.op1 rfl rfl (GSpec.plain rfl (fit_i64 (by omega) (by omega) (spec_add rfl (Get.tmp rfl) (Get.cint rfl)))) ?_ | refine L.op1 rfl rfl (GSpec.plain rfl (spec_add rfl (Get.tmp rfl) (Get.cint rfl))) ?_
            refine L.op1 rfl rfl (GSpec.plain rfl (spec_move rfl (Get.tmp rfl))) ?_
            refine L.nil ?_
            refine N.roundK (i + 1) ?hI3 ?hmu3 ?hs3 ?hk3 ?hp3
            case hs3 => exact (.cons (t := 37) rfl (.weak (t := 1) rfl (eqI (by first | (rw [en]; done) | (rw [en]; rfl))) (.weak (t := 3) rfl (eqI (by first | (rw [en]; done) | (rw [en]; rfl))) .nil)))
            case hk3 => exact (.cons (t := 4) rfl (.cons (t := 8) rfl (.cons (t := 9) rfl (.cons (t := 10) rfl (.cons (t := 11) rfl (.cons (t := 36) rfl .nil))))))
            case hp3 => rw [out_yes hin en]; exact (.cons 1 rfl (.cons 1 rfl (.cons 1 rfl .nil)))
            all_goals (first | rfl | trivial | omega | (simp_all; done))
          · have en := nth_no (z := i) (show ¬ fromD l n (branchD l (nthS l n f k i).1 i false) (i + 1 : Nat) ≤ (nthS l n f k i).2.1 by rw [elo]; exact of_decide_eq_false h6)
            rw [elo] at en
            refine W.skip ?_
            refine N.blockNormal ?_
            refine N.thenW ?_
            refine W.region ?_
            first | refine L.op1 rfl rfl (GSpec.plain rfl (fit_i64 (by omega) (by omega) (spec_add rfl (Get.tmp rfl) (Get.cint rfl)))) ?_ | refine L.op1 rfl rfl (GSpec.plain rfl (spec_add rfl (Get.tmp rfl) (Get.cint rfl))) ?_
            refine L.op1 rfl rfl (GSpec.plain rfl (spec_move rfl (Get.tmp rfl))) ?_
            refine L.nil ?_
            refine N.roundK (i + 1) ?hI4 ?hmu4 ?hs4 ?hk4 ?hp4
            case hs4 => exact (.cons (t := 37) rfl (.weak (t := 1) rfl (eqI (by first | (rw [en]; done) | (rw [en]; rfl))) (.weak (t := 3) rfl (eqI (by first | (rw [en]; done) | (rw [en]; rfl))) .nil)))
            case hk4 => exact (.cons (t := 4) rfl (.cons (t := 8) rfl (.cons (t := 9) rfl (.cons (t := 10) rfl (.cons (t := 11) rfl (.cons (t := 36) rfl .nil))))))
            case hp4 => rw [out_no hin en]; exact (.cons 1 rfl (.cons 1 rfl (.cons 1 rfl .nil)))
            all_goals (first | rfl | trivial | omega | (simp_all; done))
      · have ph3 := h3; try simp only [decide_eq_true_eq, decide_eq_false_iff_not, Bool.and_eq_true, Bool.or_eq_true, Bool.and_eq_false_iff, Bool.or_eq_false_iff, Bool.not_eq_true', Bool.not_eq_false', Bool.not_true, Bool.not_false, Int.not_lt, Int.not_le] at ph3
        refine W.exit ?_
        refine N.thenExit ?_
        refine N.thenExit ?_
        refine N.blockExit ?_
        refine N.thenW ?_
        refine W.keep (.cons (t := 8) rfl (.cons (t := 9) rfl (.cons (t := 11) rfl .nil))) .refl ?_
        refine W.seq ?_
        refine W.region ?_
        refine L.op1 rfl rfl (GSpec.plain rfl (spec_move rfl (Get.tmp rfl))) ?_
        refine L.op1 rfl rfl (GSpec.plain rfl (spec_assign rfl (Get.tmp rfl))) ?_
        refine L.op1 rfl rfl (GSpec.plain rfl (spec_assign rfl (Get.cint rfl))) ?_
        refine L.nil ?_
        refine N.thenW ?_
        refine W.ret ?_
        refine N.pub (t := 8) (k := 0) rfl rfl (fun _ => rfl) ?_
        refine N.ret () rfl (.tmp (t := 8) (Get.tmp rfl) (.tmp (t := 9) (Get.tmp rfl) .nil)) (res2w (eqSl ?_) (eqI ?_)) .nil (fun _ _ h => h)
        unfold nthD; rw [if_pos (fits_iff.2 hF), if_neg (by omega)]; exact out_all (by omega)
        unfold nthD; rw [if_pos (fits_iff.2 hF), if_neg (by omega)]

end Go.Proofs.Ytcpkjpkjahgobaa
