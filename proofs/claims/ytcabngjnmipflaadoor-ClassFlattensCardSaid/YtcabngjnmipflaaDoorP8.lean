/- Lemmas for the claim, part 8: rules for walks, contracts of functions, the data they compute. No conditions. -/
import Derived.Test.YtcabngjnmipflaaDoorP7
import Derived.Test.YtcabngjnmipflaaDoorP6
import Derived.Test.YtcabngjnmipflaaDoorP5
import Derived.Test.YtcabngjnmipflaaDoorP2
import Derived.Test.YtcabngjnmipflaaDoorP3
import Derived.Test.YtcabngjnmipflaaDoorP4
import Derived.SizedLaws
import Derived.Test.YtcabngjnmipflaaDoorRows
set_option linter.unusedSimpArgs false
set_option maxRecDepth 8000
set_option linter.unusedVariables false
namespace Go.Proofs.YtcabngjnmipflaaDoor
open Go.Sim
theorem classFlattens_ok (src : List Cl) (s : List UInt8) (hok : ∀ c ∈ src, ClOk c) : CallT Tryd.prog 7 [Rp.slice eC src, Rp.str s] [kwG] (.one (Rp.bool true)) := by
  refine W.enter (fn := Tryd.f7) (n := 168) Tryd.func7 rfl Tryd.ntmps7 rfl (fun w₀ C₀ => ?_)
  simp only [argS]
  refine W.seq ?_
  refine W.region ?_
  refine L.op1 rfl rfl (GSpec.plain rfl (spec_assign rfl Get.cbool)) ?_
  refine L.nil ?_
  refine N.thenW ?_
  refine W.seq ?_
  refine W.seq ?_
  refine W.region ?_
  refine L.op1 rfl rfl (GSpec.plain rfl (spec_move rfl (Get.tmp rfl))) ?_
  refine L.op rfl rfl (GSpec.plain rfl (spec_call rfl Tryd.call17 (few_ok _) (.cons (Get.tmp rfl) .nil))) (fun b19 => ?_)
  try dsimp only
  refine L.op1 rfl rfl (GSpec.plain rfl (spec_not rfl (Get.tmp rfl))) ?_
  refine L.nil ?_
  refine N.thenW ?_
  refine W.cond (Get.tmp rfl) (fun h1 => ?_) (fun h1 => ?_)
  · have ph1 := h1; try simp only [decide_eq_true_eq, decide_eq_false_iff_not, Bool.and_eq_true, Bool.or_eq_true, Bool.and_eq_false_iff, Bool.or_eq_false_iff, Bool.not_eq_true', Bool.not_eq_false', Bool.not_true, Bool.not_false, Int.not_lt, Int.not_le] at ph1
    refine W.seq ?_
    refine W.region ?_
    refine L.op1 rfl rfl (GSpec.plain rfl (spec_callG (k := 0) rfl Tryd.call10 rfl (awake_ok ) .nil)) ?_
    refine L.op1 rfl rfl (GSpec.plain rfl (spec_assign rfl (Get.tmp rfl))) ?_
    refine L.nil ?_
    refine N.thenW ?_
    refine W.ret ?_
    refine N.ret () rfl (.tmp (t := 4) (Get.tmp rfl) .nil) (res1 (eqB ?_)) .nil (fun _ _ h => h)
    rfl
  · have ph1 := h1; try simp only [decide_eq_true_eq, decide_eq_false_iff_not, Bool.and_eq_true, Bool.or_eq_true, Bool.and_eq_false_iff, Bool.or_eq_false_iff, Bool.not_eq_true', Bool.not_eq_false', Bool.not_true, Bool.not_false, Int.not_lt, Int.not_le] at ph1
    refine W.skip ?_
    refine N.thenW ?_
    refine W.seq ?_
    refine W.region ?_
    refine L.op1 rfl rfl (GSpec.plain rfl (spec_move rfl (Get.tmp rfl))) ?_
    refine L.op1 rfl rfl (GSpec.plain rfl (spec_move rfl (Get.tmp rfl))) ?_
    refine L.op1 rfl rfl (GSpec.plain rfl (spec_callG (k := 0) rfl Tryd.call20 rfl (FlattenX_ok _ _ (by assumption)) (.cons (Get.tmp rfl) (.cons (Get.tmp rfl) .nil)))) ?_
    refine L.op1 rfl rfl (GSpec.plain rfl (spec_move rfl (Get.tmp rfl))) ?_
    refine L.op1 rfl rfl (GSpec.plain rfl (spec_extract rfl (Get.tmp rfl) rfl)) ?_
    refine L.op1 rfl rfl (GSpec.plain rfl (spec_extract rfl (Get.tmp rfl) rfl)) ?_
    refine L.box rfl rfl (GSpec.plain rfl (spec_alloc rfl ti25 z25)) (fun r5 => ?_)
    refine L.storeW (k := 0) rfl rfl rfl Tryd.sizeOf25 (Get.tmp rfl) (Get.tmp rfl) rfl rfl rfl ?_
    refine L.op1 rfl rfl (GSpec.plain rfl (spec_assign rfl (Get.tmp rfl))) ?_
    refine L.nil ?_
    refine N.thenW ?_
    refine W.keep (.cons (t := 0) rfl (.cons (t := 1) rfl (.cons (t := 4) rfl (.cons (t := 5) rfl (.cons (t := 6) rfl .nil))))) .refl ?_
    refine W.seq ?_
    refine W.seq ?_
    refine W.region ?_
    refine L.op1 rfl rfl (GSpec.plain rfl (spec_move rfl (Get.tmp rfl))) ?_
    refine L.op1 rfl rfl (GSpec.plain rfl (spec_neq rfl (Get.tmp rfl) (Get.cint rfl))) ?_
    refine L.nil ?_
    refine N.thenW ?_
    refine W.cond (Get.tmp rfl) (fun h2 => ?_) (fun h2 => ?_)
    · have hc : (lineE src s).2 ≠ 0 := by have h := h2; simpa using h
      refine W.seq ?_
      refine W.region ?_
      refine L.op1 rfl rfl (GSpec.plain rfl (spec_loadW (k := 0) rfl Tryd.isAgg25 Tryd.sizeOf25 (Get.tmp rfl) rfl rfl)) ?_
      refine L.op1 rfl rfl (GSpec.plain rfl (spec_build (Rs := [Rp.str [], Rp.str [], Rp.slice eF [], Rp.slice eBk []]) rfl ti25 z25 Tryd.underlying25 pl25 .nil)) ?_
      refine L.op1 rfl rfl (GSpec.plain rfl (spec_call rfl Tryd.call22 (sameC_ok _ default) (.cons (Get.tmp rfl) (.cons (Get.tmp rfl) .nil)))) ?_
      refine L.op1 rfl rfl (GSpec.plain rfl (spec_move rfl (Get.tmp rfl))) ?_
      refine L.op1 rfl rfl (GSpec.guard rfl rfl rfl fun hg => (spec_callG (k := 1) rfl Tryd.call10 rfl (awake_ok ) .nil)) ?_
      refine L.op1 rfl rfl (GSpec.plain rfl (spec_and rfl (Get.tmp rfl) (fun hb => (Get.opt rfl hb)))) ?_
      refine L.op1 rfl rfl (GSpec.plain rfl (spec_assign rfl (Get.tmp rfl))) ?_
      refine L.nil ?_
      refine N.thenW ?_
      refine W.keep (.cons (t := 0) rfl (.cons (t := 1) rfl (.cons (t := 4) rfl (.cons (t := 5) rfl .nil)))) .refl ?_
      refine W.ret ?_
      refine N.ret () rfl (.tmp (t := 4) (Get.tmp rfl) .nil) (res1 (eqB ?_)) .nil (fun _ _ h => h)
      unfold flatL; rw [if_pos hc]; simp
    · have hc : (lineE src s).2 = 0 := by have h := h2; simpa using h
      have hL := flat_law hok hc
      have hoc : ∀ x ∈ [(flatL (lineE src s))], ClOk x := fun x hx => by rw [List.mem_singleton.1 hx]; exact hL.ok
      have ho1 := hL.ok.1
      obtain ⟨pf, hpf⟩ := hL.fields
      have hpl := len_app hpf
      refine W.skip ?_
      refine N.thenW ?_
      refine W.seq ?_
      refine W.region ?_
      refine L.op1 rfl rfl (GSpec.plain rfl (spec_loadW (k := 0) rfl Tryd.isAgg25 Tryd.sizeOf25 (Get.tmp rfl) rfl rfl)) ?_
      refine L.op1 rfl rfl (GSpec.plain rfl (spec_buildSlice1 (y := (flatL (lineE src s))) (E := eC) rfl Tryd.underlying38 ti25 z25 (by decide) (GetC.agg (Get.tmp rfl)) (fun _ => rfl))) ?_
      refine L.op1 rfl rfl (GSpec.plain rfl (spec_assign rfl (Get.tmp rfl))) ?_
      refine L.nil ?_
      refine N.thenW ?_
      refine W.seq ?_
      refine W.region ?_
      refine L.op1 rfl rfl (GSpec.plain rfl (spec_move rfl (Get.tmp rfl))) ?_
      refine L.op1 rfl rfl (GSpec.plain rfl (spec_move rfl (Get.tmp rfl))) ?_
      refine L.op1 rfl rfl (GSpec.plain rfl (spec_callG (k := 1) rfl Tryd.call20 rfl (FlattenX_ok _ _ hoc) (.cons (Get.tmp rfl) (.cons (Get.tmp rfl) .nil)))) ?_
      refine L.op1 rfl rfl (GSpec.plain rfl (spec_move rfl (Get.tmp rfl))) ?_
      refine L.op1 rfl rfl (GSpec.plain rfl (spec_extract rfl (Get.tmp rfl) rfl)) ?_
      refine L.op1 rfl rfl (GSpec.plain rfl (spec_extract rfl (Get.tmp rfl) rfl)) ?_
      refine L.box rfl rfl (GSpec.plain rfl (spec_alloc rfl ti25 z25)) (fun r8 => ?_)
      refine L.storeW (k := 0) rfl rfl rfl Tryd.sizeOf25 (Get.tmp rfl) (Get.tmp rfl) rfl rfl rfl ?_
      refine L.op1 rfl rfl (GSpec.plain rfl (spec_assign rfl (Get.tmp rfl))) ?_
      refine L.nil ?_
      refine N.thenW ?_
      refine W.keep (.cons (t := 0) rfl (.cons (t := 1) rfl (.cons (t := 4) rfl (.cons (t := 5) rfl (.cons (t := 7) rfl (.cons (t := 8) rfl (.cons (t := 9) rfl .nil))))))) .refl ?_
      refine W.seq ?_
      refine W.region ?_
      refine L.op1 rfl rfl (GSpec.plain rfl (spec_move rfl (Get.tmp rfl))) ?_
      refine L.op1 rfl rfl (GSpec.plain rfl (spec_move rfl (Get.tmp rfl))) ?_
      refine L.op1 rfl rfl (GSpec.plain rfl (spec_call rfl Tryd.call23 (findX_ok _ _ (by assumption)) (.cons (Get.tmp rfl) (.cons (Get.tmp rfl) .nil)))) ?_
      refine L.op1 rfl rfl (GSpec.plain rfl (spec_move rfl (Get.tmp rfl))) ?_
      refine L.op1 rfl rfl (GSpec.plain rfl (spec_extract rfl (Get.tmp rfl) rfl)) ?_
      refine L.op1 rfl rfl (GSpec.plain rfl (spec_extract rfl (Get.tmp rfl) rfl)) ?_
      refine L.box rfl rfl (GSpec.plain rfl (spec_alloc rfl ti25 z25)) (fun r10 => ?_)
      refine L.storeW (k := 0) rfl rfl rfl Tryd.sizeOf25 (Get.tmp rfl) (Get.tmp rfl) rfl rfl rfl ?_
      refine L.op1 rfl rfl (GSpec.plain rfl (spec_assign rfl (Get.tmp rfl))) ?_
      refine L.nil ?_
      refine N.thenW ?_
      refine W.keep (.cons (t := 0) rfl (.cons (t := 4) rfl (.cons (t := 5) rfl (.cons (t := 7) rfl (.cons (t := 8) rfl (.cons (t := 9) rfl (.cons (t := 10) rfl (.cons (t := 11) rfl .nil)))))))) .refl ?_
      refine W.seq ?_
      refine W.seq ?_
      refine W.region ?_
      refine L.op1 rfl rfl (GSpec.plain rfl (spec_move rfl (Get.tmp rfl))) ?_
      refine L.op1 rfl rfl (GSpec.plain rfl (spec_callG (k := 3) rfl Tryd.call25 rfl (check_ok _ hoc) (.cons (Get.tmp rfl) .nil))) ?_
      refine L.op1 rfl rfl (GSpec.plain rfl (spec_neq rfl (Get.tmp rfl) (Get.cint rfl))) ?_
      refine L.op1 rfl rfl (GSpec.plain rfl (spec_move rfl (Get.tmp rfl))) ?_
      refine L.op1 rfl rfl (GSpec.guard rfl rfl rfl fun hg => (spec_move rfl (Get.tmp rfl))) ?_
      refine L.op1 rfl rfl (GSpec.guard rfl rfl rfl fun hg => (spec_neq rfl (Get.opt rfl hg) (Get.cint rfl))) ?_
      refine L.op1 rfl rfl (GSpec.plain rfl (spec_or rfl (Get.tmp rfl) (fun hb => (Get.opt rfl hb)))) ?_
      refine L.op1 rfl rfl (GSpec.plain rfl (spec_move rfl (Get.tmp rfl))) ?_
      refine L.op1 rfl rfl (GSpec.guard rfl rfl rfl fun hg => (spec_loadW (k := 2) rfl Tryd.isAgg25 Tryd.sizeOf25 (Get.tmp rfl) rfl rfl)) ?_
      refine L.op1 rfl rfl (GSpec.guard rfl rfl rfl fun hg => (spec_loadW (k := 1) rfl Tryd.isAgg25 Tryd.sizeOf25 (Get.tmp rfl) rfl rfl)) ?_
      refine L.op1 rfl rfl (GSpec.guard rfl rfl rfl fun hg => (spec_call rfl Tryd.call22 (sameC_ok _ _) (.cons (Get.opt rfl hg) (.cons (Get.opt rfl hg) .nil)))) ?_
      refine L.op1 rfl rfl (GSpec.guard rfl rfl rfl fun hg => (spec_not rfl (Get.opt rfl hg))) ?_
      refine L.op1 rfl rfl (GSpec.plain rfl (spec_or rfl (Get.tmp rfl) (fun hb => (Get.opt rfl hb)))) ?_
      refine L.op1 rfl rfl (GSpec.plain rfl (spec_move rfl (Get.tmp rfl))) ?_
      refine L.op1 rfl rfl (GSpec.guard rfl rfl rfl fun hg => (spec_move rfl (Get.tmp rfl))) ?_
      refine L.op1 rfl rfl (GSpec.guard rfl rfl rfl fun hg => (spec_not rfl (Get.opt rfl hg))) ?_
      refine L.op1 rfl rfl (GSpec.plain rfl (spec_or rfl (Get.tmp rfl) (fun hb => (Get.opt rfl hb)))) ?_
      refine L.op1 rfl rfl (GSpec.plain rfl (spec_move rfl (Get.tmp rfl))) ?_
      refine L.op1 rfl rfl (GSpec.guard rfl rfl rfl fun hg => (spec_fieldAddr (f := 1) (off' := 1) rfl Tryd.underlying25 rfl Tryd.sizeOf9 (Get.tmp rfl) rfl)) ?_
      refine L.op1 rfl rfl (GSpec.guard rfl rfl rfl fun hg => (spec_load1 (k := 2) rfl Tryd.isAgg9 (Get.opt rfl hg) rfl rfl)) ?_
      refine L.op1 rfl rfl (GSpec.guard rfl rfl rfl fun hg => (spec_neqS rfl (Get.opt rfl hg) (Get.cstr (l := []) rfl rfl))) ?_
      refine L.op1 rfl rfl (GSpec.plain rfl (spec_or rfl (Get.tmp rfl) (fun hb => (Get.opt rfl hb)))) ?_
      refine L.op1 rfl rfl (GSpec.plain rfl (spec_move rfl (Get.tmp rfl))) ?_
      refine L.op1 rfl rfl (GSpec.guard rfl rfl rfl fun hg => (spec_fieldAddr (f := 2) (off' := 2) rfl Tryd.underlying25 rfl Tryd.sizeOf22 (Get.tmp rfl) rfl)) ?_
      refine L.op1 rfl rfl (GSpec.guard rfl rfl rfl fun hg => (spec_load1 (k := 2) rfl Tryd.isAgg22 (Get.opt rfl hg) rfl rfl)) ?_
      refine L.op1 rfl rfl (GSpec.guard rfl rfl rfl fun hg => (spec_len rfl Tryd.underlying22 (Get.opt rfl hg))) ?_
      refine L.op1 rfl rfl (GSpec.guard rfl rfl rfl fun hg => (spec_fieldAddr (f := 2) (off' := 2) rfl Tryd.underlying25 rfl Tryd.sizeOf22 (Get.tmp rfl) rfl)) ?_
      refine L.op1 rfl rfl (GSpec.guard rfl rfl rfl fun hg => (spec_load1 (k := 0) rfl Tryd.isAgg22 (Get.opt rfl hg) rfl rfl)) ?_
      refine L.op1 rfl rfl (GSpec.guard rfl rfl rfl fun hg => (spec_len rfl Tryd.underlying22 (Get.opt rfl hg))) ?_
      refine L.op1 rfl rfl (GSpec.guard rfl rfl rfl fun hg => (spec_lss rfl (Get.opt rfl hg) (Get.opt rfl hg))) ?_
      refine L.op1 rfl rfl (GSpec.plain rfl (spec_or rfl (Get.tmp rfl) (fun hb => (Get.opt rfl hb)))) ?_
      refine L.nil ?_
      refine N.thenW ?_
      refine W.keep (.cons (t := 0) rfl (.cons (t := 4) rfl (.cons (t := 5) rfl (.cons (t := 10) rfl (.cons (t := 80) rfl .nil))))) .refl ?_
      refine W.cond (Get.tmp rfl) (fun h3 => ?_) (fun h3 => ?_)
      · exfalso; have h := h3; rw [hL.check, hL.flat, hL.line, hL.known, hL.parent] at h; simp at h; omega
      · have ph3 := h3; try simp only [decide_eq_true_eq, decide_eq_false_iff_not, Bool.and_eq_true, Bool.or_eq_true, Bool.and_eq_false_iff, Bool.or_eq_false_iff, Bool.not_eq_true', Bool.not_eq_false', Bool.not_true, Bool.not_false, Int.not_lt, Int.not_le] at ph3
        refine W.skip ?_
        refine N.thenW ?_
        refine W.seq ?_
        refine W.seq ?_
        refine W.region ?_
        refine L.op1 rfl rfl (GSpec.plain rfl (spec_assign rfl (Get.cint rfl))) ?_
        refine L.nil ?_
        refine N.thenW ?_
        refine W.block ?_
        -- assigned in the loop, not kept: [4]
        refine W.loopK (σ := Nat) (.cons (t := 0) rfl (.cons (t := 5) rfl (.cons (t := 10) rfl .nil))) (fun z => [(12, Rp.int .i64 (z : Nat))]) (fun z => []) (fun z => z ≤ (findC src s).1.fields.length) (fun z => (findC src s).1.fields.length - z) 0 (Nat.zero_le _) (.cons (t := 12) rfl .nil) (.cons 0 rfl (.cons 0 rfl (.cons 0 rfl (.cons 0 rfl .nil)))) ?_
        intro i hI S' M' hS hM
        try dsimp only at hS hM
        simp only [List.cons_append, List.nil_append] at hS hM
        subst hS hM
        try dsimp only
        refine W.seq ?_
        refine W.seq ?_
        refine W.region ?_
        refine L.op1 rfl rfl (GSpec.plain rfl (spec_move rfl (Get.tmp rfl))) ?_
        refine L.op1 rfl rfl (GSpec.plain rfl (spec_fieldAddr (f := 2) (off' := 2) rfl Tryd.underlying25 rfl Tryd.sizeOf22 (Get.tmp rfl) rfl)) ?_
        refine L.op1 rfl rfl (GSpec.plain rfl (spec_load1 (k := 0) rfl Tryd.isAgg22 (Get.tmp rfl) rfl rfl)) ?_
        refine L.op1 rfl rfl (GSpec.plain rfl (spec_len rfl Tryd.underlying22 (Get.tmp rfl))) ?_
        refine L.op1 rfl rfl (GSpec.plain rfl (spec_lss rfl (Get.tmp rfl) (Get.tmp rfl))) ?_
        refine L.nil ?_
        refine N.thenW ?_
        refine W.cond (Get.tmp rfl) (fun h4 => ?_) (fun h4 => ?_)
        · have ph4 := h4; try simp only [decide_eq_true_eq, decide_eq_false_iff_not, Bool.and_eq_true, Bool.or_eq_true, Bool.and_eq_false_iff, Bool.or_eq_false_iff, Bool.not_eq_true', Bool.not_eq_false', Bool.not_true, Bool.not_false, Int.not_lt, Int.not_le] at ph4
          refine W.skip ?_
          refine N.thenW ?_
          refine W.seq ?_
          refine W.block ?_
          refine W.seq ?_
          apply W.any 19 mixed (by kernel_rfl)
          · apply Head.one rfl rfl (GSpec.plain rfl (spec_fieldAddr (f := 2) (off' := 2) rfl Tryd.underlying25 rfl Tryd.sizeOf22 (Get.tmp rfl) rfl))
            apply Head.one rfl rfl (GSpec.plain rfl (spec_load1 (k := 2) rfl Tryd.isAgg22 (Get.tmp rfl) rfl rfl))
            apply Head.one rfl rfl (GSpec.plain rfl (spec_fieldAddr (f := 2) (off' := 2) rfl Tryd.underlying25 rfl Tryd.sizeOf22 (Get.tmp rfl) rfl))
            apply Head.one rfl rfl (GSpec.plain rfl (spec_load1 (k := 2) rfl Tryd.isAgg22 (Get.tmp rfl) rfl rfl))
            apply Head.one rfl rfl (GSpec.plain rfl (spec_len rfl Tryd.underlying22 (Get.tmp rfl)))
            apply Head.one rfl rfl (GSpec.plain rfl (spec_fieldAddr (f := 2) (off' := 2) rfl Tryd.underlying25 rfl Tryd.sizeOf22 (Get.tmp rfl) rfl))
            apply Head.one rfl rfl (GSpec.plain rfl (spec_load1 (k := 0) rfl Tryd.isAgg22 (Get.tmp rfl) rfl rfl))
            apply Head.one rfl rfl (GSpec.plain rfl (spec_len rfl Tryd.underlying22 (Get.tmp rfl)))
            first | apply Head.one rfl rfl (GSpec.plain rfl (fit_i64 (by (first | omega | (simp only [Int.toNat_natCast]; omega))) (by (first | omega | (simp only [Int.toNat_natCast]; omega))) (spec_sub rfl (Get.tmp rfl) (Get.tmp rfl)))) | apply Head.one rfl rfl (GSpec.plain rfl (spec_sub rfl (Get.tmp rfl) (Get.tmp rfl)))
            apply Head.one rfl rfl (GSpec.plain rfl (spec_move rfl (Get.tmp rfl)))
            first | apply Head.one rfl rfl (GSpec.plain rfl (fit_i64 (by (first | omega | (simp only [Int.toNat_natCast]; omega))) (by (first | omega | (simp only [Int.toNat_natCast]; omega))) (spec_add rfl (Get.tmp rfl) (Get.tmp rfl)))) | apply Head.one rfl rfl (GSpec.plain rfl (spec_add rfl (Get.tmp rfl) (Get.tmp rfl)))
            apply Head.one rfl rfl (GSpec.plain rfl (spec_indexAddrD (E := eF) rfl Tryd.underlying22 Tryd.sizeOf27 (fun _ => rfl) (Get.tmp rfl) (Get.tmp rfl) (by (first | omega | (simp only [Int.toNat_natCast]; omega)))))
            apply Head.one rfl rfl (GSpec.plain rfl (spec_loadPA rfl Tryd.isAgg27 Tryd.sizeOf27 (Get.tmp rfl) rfl))
            apply Head.one rfl rfl (GSpec.plain rfl (spec_fieldAddr (f := 2) (off' := 2) rfl Tryd.underlying25 rfl Tryd.sizeOf22 (Get.tmp rfl) rfl))
            apply Head.one rfl rfl (GSpec.plain rfl (spec_load1 (k := 0) rfl Tryd.isAgg22 (Get.tmp rfl) rfl rfl))
            apply Head.one rfl rfl (GSpec.plain rfl (spec_move rfl (Get.tmp rfl)))
            apply Head.one rfl rfl (GSpec.plain rfl (spec_indexAddrD (E := eF) rfl Tryd.underlying22 Tryd.sizeOf27 (fun _ => rfl) (Get.tmp rfl) (Get.tmp rfl) (by (first | omega | (simp only [Int.toNat_natCast]; omega)))))
            apply Head.one rfl rfl (GSpec.plain rfl (spec_loadPA rfl Tryd.isAgg27 Tryd.sizeOf27 (Get.tmp rfl) rfl))
            apply Head.one rfl rfl (GSpec.plain rfl (neq27 rfl (Get.tmp rfl) (Get.tmp rfl)))
            exact Head.nil
          refine Fin.one ?_
          refine Fin.one ?_
          refine Fin.one ?_
          refine Fin.one ?_
          refine Fin.one ?_
          refine Fin.one ?_
          refine Fin.one ?_
          refine Fin.one ?_
          refine Fin.one ?_
          refine Fin.one ?_
          refine Fin.one ?_
          refine Fin.one ?_
          refine Fin.one ?_
          refine Fin.one ?_
          refine Fin.one ?_
          refine Fin.one ?_
          refine Fin.one ?_
          refine Fin.one ?_
          refine Fin.one ?_
          refine Fin.nil ?_
          refine L.nil ?_
          refine N.thenW ?_
          refine W.cond (Get.tmp rfl) (fun h5 => ?_) (fun h5 => ?_)
          · exfalso; have h := h5; rw [tail_at hpf (show i < (findC src s).1.fields.length by omega)] at h; simp at h
          · have ph5 := h5; try simp only [decide_eq_true_eq, decide_eq_false_iff_not, Bool.and_eq_true, Bool.or_eq_true, Bool.and_eq_false_iff, Bool.or_eq_false_iff, Bool.not_eq_true', Bool.not_eq_false', Bool.not_true, Bool.not_false, Int.not_lt, Int.not_le] at ph5
            refine W.skip ?_
            refine N.blockNormal ?_
            refine N.thenW ?_
            refine W.region ?_
            refine L.op1 rfl rfl (GSpec.plain rfl (spec_move rfl (Get.tmp rfl))) ?_
            first | refine L.op1 rfl rfl (GSpec.plain rfl (fit_i64 (by (first | omega | (simp only [Int.toNat_natCast]; omega))) (by (first | omega | (simp only [Int.toNat_natCast]; omega))) (spec_add rfl (Get.tmp rfl) (Get.cint rfl)))) ?_ | refine L.op1 rfl rfl (GSpec.plain rfl (spec_add rfl (Get.tmp rfl) (Get.cint rfl))) ?_
            refine L.op1 rfl rfl (GSpec.plain rfl (spec_assign rfl (Get.tmp rfl))) ?_
            refine L.nil ?_
            refine N.roundK (i + 1) ?hI1 ?hmu1 ?hs1 ?hk1 ?hp1
            case hs1 => exact (.cons (t := 12) rfl .nil)
            case hk1 => exact (.cons (t := 0) rfl (.cons (t := 5) rfl (.cons (t := 10) rfl .nil)))
            case hp1 => exact (.cons 0 rfl (.cons 0 rfl (.cons 0 rfl (.cons 0 rfl .nil))))
            all_goals (first | rfl | trivial | omega | (simp_all; done))
        · have ph4 := h4; try simp only [decide_eq_true_eq, decide_eq_false_iff_not, Bool.and_eq_true, Bool.or_eq_true, Bool.and_eq_false_iff, Bool.or_eq_false_iff, Bool.not_eq_true', Bool.not_eq_false', Bool.not_true, Bool.not_false, Int.not_lt, Int.not_le] at ph4
          refine W.exit ?_
          refine N.thenExit ?_
          refine N.thenExit ?_
          refine N.blockExit ?_
          refine N.thenW ?_
          refine W.keep (.cons (t := 0) rfl (.cons (t := 5) rfl (.cons (t := 10) rfl .nil))) .refl ?_
          refine W.seq ?_
          refine W.seq ?_
          refine W.region ?_
          refine L.op1 rfl rfl (GSpec.plain rfl (spec_fieldAddr (f := 1) (off' := 1) rfl Tryd.underlying25 rfl Tryd.sizeOf9 (Get.tmp rfl) rfl)) ?_
          refine L.op1 rfl rfl (GSpec.plain rfl (spec_load1 (k := 0) rfl Tryd.isAgg9 (Get.tmp rfl) rfl rfl)) ?_
          refine L.op1 rfl rfl (GSpec.plain rfl (spec_eqlS rfl (Get.tmp rfl) (Get.cstr (l := []) rfl rfl))) ?_
          refine L.nil ?_
          refine N.thenW ?_
          refine W.cond (Get.tmp rfl) (fun h6 => ?_) (fun h6 => ?_)
          · have hp : (findC src s).1.parent = [] := by have h := h6; simpa using h
            refine W.seq ?_
            refine W.region ?_
            refine L.op1 rfl rfl (GSpec.plain rfl (spec_fieldAddr (f := 2) (off' := 2) rfl Tryd.underlying25 rfl Tryd.sizeOf22 (Get.tmp rfl) rfl)) ?_
            refine L.op1 rfl rfl (GSpec.plain rfl (spec_load1 (k := 2) rfl Tryd.isAgg22 (Get.tmp rfl) rfl rfl)) ?_
            refine L.op1 rfl rfl (GSpec.plain rfl (spec_len rfl Tryd.underlying22 (Get.tmp rfl))) ?_
            refine L.op1 rfl rfl (GSpec.plain rfl (spec_fieldAddr (f := 2) (off' := 2) rfl Tryd.underlying25 rfl Tryd.sizeOf22 (Get.tmp rfl) rfl)) ?_
            refine L.op1 rfl rfl (GSpec.plain rfl (spec_load1 (k := 0) rfl Tryd.isAgg22 (Get.tmp rfl) rfl rfl)) ?_
            refine L.op1 rfl rfl (GSpec.plain rfl (spec_len rfl Tryd.underlying22 (Get.tmp rfl))) ?_
            refine L.op1 rfl rfl (GSpec.plain rfl (spec_eql rfl (Get.tmp rfl) (Get.tmp rfl))) ?_
            refine L.op1 rfl rfl (GSpec.plain rfl (spec_move rfl (Get.tmp rfl))) ?_
            refine L.op1 rfl rfl (GSpec.guard rfl rfl rfl fun hg => (spec_callG (k := 3) rfl Tryd.call10 rfl (awake_ok ) .nil)) ?_
            refine L.op1 rfl rfl (GSpec.plain rfl (spec_and rfl (Get.tmp rfl) (fun hb => (Get.opt rfl hb)))) ?_
            refine L.op1 rfl rfl (GSpec.plain rfl (spec_assign rfl (Get.tmp rfl))) ?_
            refine L.nil ?_
            refine N.thenW ?_
            refine W.keep (.cons (t := 0) rfl (.cons (t := 4) rfl (.cons (t := 5) rfl (.cons (t := 10) rfl .nil)))) .refl ?_
            refine W.ret ?_
            refine N.ret () rfl (.tmp (t := 4) (Get.tmp rfl) .nil) (res1 (eqB ?_)) .nil (fun _ _ h => h)
            rw [hL.root hp]; simp
          · have hp : (findC src s).1.parent ≠ [] := by have h := h6; simpa using h
            obtain ⟨hu1, hu2, vw, hu3⟩ := hL.up hp
            have hul := len_app hu2
            have hvl := len_app hu3
            refine W.skip ?_
            refine N.thenW ?_
            refine W.seq ?_
            refine W.region ?_
            refine L.op1 rfl rfl (GSpec.plain rfl (spec_move rfl (Get.tmp rfl))) ?_
            refine L.op1 rfl rfl (GSpec.plain rfl (spec_fieldAddr (f := 1) (off' := 1) rfl Tryd.underlying25 rfl Tryd.sizeOf9 (Get.tmp rfl) rfl)) ?_
            refine L.op1 rfl rfl (GSpec.plain rfl (spec_load1 (k := 0) rfl Tryd.isAgg9 (Get.tmp rfl) rfl rfl)) ?_
            refine L.op1 rfl rfl (GSpec.plain rfl (spec_callG (k := 3) rfl Tryd.call20 rfl (FlattenX_ok _ _ (by assumption)) (.cons (Get.tmp rfl) (.cons (Get.tmp rfl) .nil)))) ?_
            refine L.op1 rfl rfl (GSpec.plain rfl (spec_move rfl (Get.tmp rfl))) ?_
            refine L.op1 rfl rfl (GSpec.plain rfl (spec_extract rfl (Get.tmp rfl) rfl)) ?_
            refine L.op1 rfl rfl (GSpec.plain rfl (spec_extract rfl (Get.tmp rfl) rfl)) ?_
            refine L.box rfl rfl (GSpec.plain rfl (spec_alloc rfl ti25 z25)) (fun r13 => ?_)
            refine L.storeW (k := 0) rfl rfl rfl Tryd.sizeOf25 (Get.tmp rfl) (Get.tmp rfl) rfl rfl rfl ?_
            refine L.op1 rfl rfl (GSpec.plain rfl (spec_assign rfl (Get.tmp rfl))) ?_
            refine L.nil ?_
            refine N.thenW ?_
            refine W.keep (.cons (t := 5) rfl (.cons (t := 10) rfl (.cons (t := 13) rfl (.cons (t := 14) rfl .nil)))) .refl ?_
            refine W.seq ?_
            refine W.seq ?_
            refine W.region ?_
            refine L.op1 rfl rfl (GSpec.plain rfl (spec_move rfl (Get.tmp rfl))) ?_
            refine L.op1 rfl rfl (GSpec.plain rfl (spec_neq rfl (Get.tmp rfl) (Get.cint rfl))) ?_
            refine L.op1 rfl rfl (GSpec.plain rfl (spec_move rfl (Get.tmp rfl))) ?_
            refine L.op1 rfl rfl (GSpec.guard rfl rfl rfl fun hg => (spec_fieldAddr (f := 2) (off' := 2) rfl Tryd.underlying25 rfl Tryd.sizeOf22 (Get.tmp rfl) rfl)) ?_
            refine L.op1 rfl rfl (GSpec.guard rfl rfl rfl fun hg => (spec_load1 (k := 0) rfl Tryd.isAgg22 (Get.opt rfl hg) rfl rfl)) ?_
            refine L.op1 rfl rfl (GSpec.guard rfl rfl rfl fun hg => (spec_len rfl Tryd.underlying22 (Get.opt rfl hg))) ?_
            refine L.op1 rfl rfl (GSpec.guard rfl rfl rfl fun hg => (spec_fieldAddr (f := 2) (off' := 2) rfl Tryd.underlying25 rfl Tryd.sizeOf22 (Get.tmp rfl) rfl)) ?_
            refine L.op1 rfl rfl (GSpec.guard rfl rfl rfl fun hg => (spec_load1 (k := 1) rfl Tryd.isAgg22 (Get.opt rfl hg) rfl rfl)) ?_
            refine L.op1 rfl rfl (GSpec.guard rfl rfl rfl fun hg => (spec_len rfl Tryd.underlying22 (Get.opt rfl hg))) ?_
            first | refine L.op1 rfl rfl (GSpec.guard rfl rfl rfl fun hg => (fit_i64 (by (first | omega | (simp only [decide_eq_true_eq, decide_eq_false_iff_not, Bool.and_eq_true, Bool.or_eq_true, Bool.and_eq_false_iff, Bool.or_eq_false_iff, Bool.not_eq_true', Bool.not_eq_false', Bool.not_true, Bool.not_false, Int.not_lt, Int.not_le] at hg; omega))) (by (first | omega | (simp only [decide_eq_true_eq, decide_eq_false_iff_not, Bool.and_eq_true, Bool.or_eq_true, Bool.and_eq_false_iff, Bool.or_eq_false_iff, Bool.not_eq_true', Bool.not_eq_false', Bool.not_true, Bool.not_false, Int.not_lt, Int.not_le] at hg; omega))) (spec_add rfl (Get.opt rfl hg) (Get.opt rfl hg)))) ?_ | refine L.op1 rfl rfl (GSpec.guard rfl rfl rfl fun hg => (spec_add rfl (Get.opt rfl hg) (Get.opt rfl hg))) ?_
            refine L.op1 rfl rfl (GSpec.guard rfl rfl rfl fun hg => (spec_fieldAddr (f := 2) (off' := 2) rfl Tryd.underlying25 rfl Tryd.sizeOf22 (Get.tmp rfl) rfl)) ?_
            refine L.op1 rfl rfl (GSpec.guard rfl rfl rfl fun hg => (spec_load1 (k := 3) rfl Tryd.isAgg22 (Get.opt rfl hg) rfl rfl)) ?_
            refine L.op1 rfl rfl (GSpec.guard rfl rfl rfl fun hg => (spec_len rfl Tryd.underlying22 (Get.opt rfl hg))) ?_
            refine L.op1 rfl rfl (GSpec.guard rfl rfl rfl fun hg => (spec_neq rfl (Get.opt rfl hg) (Get.opt rfl hg))) ?_
            refine L.op1 rfl rfl (GSpec.plain rfl (spec_or rfl (Get.tmp rfl) (fun hb => (Get.opt rfl hb)))) ?_
            refine L.nil ?_
            refine N.thenW ?_
            refine W.keep (.cons (t := 5) rfl (.cons (t := 13) rfl (.cons (t := 141) rfl .nil))) .refl ?_
            refine W.cond (Get.tmp rfl) (fun h7 => ?_) (fun h7 => ?_)
            · exfalso; have h := h7; rw [hu1] at h; simp at h; omega
            · have ph7 := h7; try simp only [decide_eq_true_eq, decide_eq_false_iff_not, Bool.and_eq_true, Bool.or_eq_true, Bool.and_eq_false_iff, Bool.or_eq_false_iff, Bool.not_eq_true', Bool.not_eq_false', Bool.not_true, Bool.not_false, Int.not_lt, Int.not_le] at ph7
              refine W.skip ?_
              refine N.thenW ?_
              refine W.seq ?_
              refine W.region ?_
              refine L.op1 rfl rfl (GSpec.plain rfl (spec_loadW (k := 0) rfl Tryd.isAgg25 Tryd.sizeOf25 (Get.tmp rfl) rfl rfl)) ?_
              refine L.op1 rfl rfl (GSpec.plain rfl (spec_callG (k := 4) rfl Tryd.call11 rfl (varsX_ok _) (.cons (Get.tmp rfl) .nil))) ?_
              refine L.op1 rfl rfl (GSpec.plain rfl (spec_assign rfl (Get.tmp rfl))) ?_
              refine L.nil ?_
              refine N.thenW ?_
              refine W.seq ?_
              refine W.region ?_
              refine L.op1 rfl rfl (GSpec.plain rfl (spec_loadW (k := 3) rfl Tryd.isAgg25 Tryd.sizeOf25 (Get.tmp rfl) rfl rfl)) ?_
              refine L.op1 rfl rfl (GSpec.plain rfl (spec_callG (k := 4) rfl Tryd.call11 rfl (varsX_ok _) (.cons (Get.tmp rfl) .nil))) ?_
              refine L.op1 rfl rfl (GSpec.plain rfl (spec_assign rfl (Get.tmp rfl))) ?_
              refine L.nil ?_
              refine N.thenW ?_
              refine W.fact 16 rfl slice_fact fun hvv => ?_
              refine W.keep (.cons (t := 15) rfl (.cons (t := 16) rfl .nil)) .refl ?_
              refine W.seq ?_
              refine W.seq ?_
              refine W.region ?_
              refine L.op1 rfl rfl (GSpec.plain rfl (spec_assign rfl (Get.cint rfl))) ?_
              refine L.nil ?_
              refine N.thenW ?_
              refine W.block ?_
              refine W.loopK (σ := Nat) (.cons (t := 15) rfl (.cons (t := 16) rfl .nil)) (fun z => [(17, Rp.int .i64 (z : Nat))]) (fun z => []) (fun z => z ≤ (varsC (flatL (lineE src (findC src s).1.parent))).length) (fun z => (varsC (flatL (lineE src (findC src s).1.parent))).length - z) 0 (Nat.zero_le _) (.cons (t := 17) rfl .nil) (.cons 0 rfl (.cons 0 rfl (.cons 0 rfl (.cons 0 rfl (.cons 0 rfl .nil))))) ?_
              intro i hI S' M' hS hM
              try dsimp only at hS hM
              simp only [List.cons_append, List.nil_append] at hS hM
              subst hS hM
              try dsimp only
              refine W.seq ?_
              refine W.seq ?_
              refine W.region ?_
              refine L.op1 rfl rfl (GSpec.plain rfl (spec_move rfl (Get.tmp rfl))) ?_
              refine L.op1 rfl rfl (GSpec.plain rfl (spec_move rfl (Get.tmp rfl))) ?_
              refine L.op1 rfl rfl (GSpec.plain rfl (spec_len rfl Tryd.underlying30 (Get.tmp rfl))) ?_
              refine L.op1 rfl rfl (GSpec.plain rfl (spec_lss rfl (Get.tmp rfl) (Get.tmp rfl))) ?_
              refine L.nil ?_
              refine N.thenW ?_
              refine W.cond (Get.tmp rfl) (fun h8 => ?_) (fun h8 => ?_)
              · have ph8 := h8; try simp only [decide_eq_true_eq, decide_eq_false_iff_not, Bool.and_eq_true, Bool.or_eq_true, Bool.and_eq_false_iff, Bool.or_eq_false_iff, Bool.not_eq_true', Bool.not_eq_false', Bool.not_true, Bool.not_false, Int.not_lt, Int.not_le] at ph8
                refine W.skip ?_
                refine N.thenW ?_
                refine W.seq ?_
                refine W.block ?_
                refine W.seq ?_
                apply W.any 15 mixed (by kernel_rfl)
                · apply Head.one rfl rfl (GSpec.plain rfl (spec_move rfl (Get.tmp rfl)))
                  apply Head.one rfl rfl (GSpec.plain rfl (spec_move rfl (Get.tmp rfl)))
                  apply Head.one rfl rfl (GSpec.plain rfl (spec_len rfl Tryd.underlying30 (Get.tmp rfl)))
                  apply Head.one rfl rfl (GSpec.plain rfl (spec_geq rfl (Get.tmp rfl) (Get.tmp rfl)))
                  apply Head.one rfl rfl (GSpec.plain rfl (spec_move rfl (Get.tmp rfl)))
                  apply Head.one rfl rfl (GSpec.guard rfl rfl rfl fun hg => (spec_move rfl (Get.tmp rfl)))
                  apply Head.one rfl rfl (GSpec.guard rfl rfl rfl fun hg => (spec_move rfl (Get.tmp rfl)))
                  apply Head.one rfl rfl (GSpec.guard rfl rfl rfl fun hg => (spec_indexAddrD (E := eVr) rfl Tryd.underlying30 Tryd.sizeOf33 (fun _ => rfl) (Get.opt rfl hg) (Get.opt rfl hg) (by (first | omega | (simp only [decide_eq_true_eq, decide_eq_false_iff_not, Bool.and_eq_true, Bool.or_eq_true, Bool.and_eq_false_iff, Bool.or_eq_false_iff, Bool.not_eq_true', Bool.not_eq_false', Bool.not_true, Bool.not_false, Int.not_lt, Int.not_le] at hg; omega)))))
                  apply Head.one rfl rfl (GSpec.guard rfl rfl rfl fun hg => (spec_loadPA rfl Tryd.isAgg33 Tryd.sizeOf33 (Get.opt rfl hg) rfl))
                  apply Head.one rfl rfl (GSpec.guard rfl rfl rfl fun hg => (spec_move rfl (Get.tmp rfl)))
                  apply Head.one rfl rfl (GSpec.guard rfl rfl rfl fun hg => (spec_move rfl (Get.tmp rfl)))
                  apply Head.one rfl rfl (GSpec.guard rfl rfl rfl fun hg => (spec_indexAddrD (E := eVr) rfl Tryd.underlying30 Tryd.sizeOf33 (fun _ => rfl) (Get.opt rfl hg) (Get.opt rfl hg) (by (first | omega | (simp only [decide_eq_true_eq, decide_eq_false_iff_not, Bool.and_eq_true, Bool.or_eq_true, Bool.and_eq_false_iff, Bool.or_eq_false_iff, Bool.not_eq_true', Bool.not_eq_false', Bool.not_true, Bool.not_false, Int.not_lt, Int.not_le] at hg; omega)))))
                  apply Head.one rfl rfl (GSpec.guard rfl rfl rfl fun hg => (spec_loadPA rfl Tryd.isAgg33 Tryd.sizeOf33 (Get.opt rfl hg) rfl))
                  apply Head.one rfl rfl (GSpec.guard rfl rfl rfl fun hg => (neq33 rfl (Get.opt rfl hg) (Get.opt rfl hg)))
                  apply Head.one rfl rfl (GSpec.plain rfl (spec_or rfl (Get.tmp rfl) (fun hb => (Get.opt rfl hb))))
                  exact Head.nil
                refine Fin.one ?_
                refine Fin.one ?_
                refine Fin.one ?_
                refine Fin.one ?_
                refine Fin.one ?_
                refine Fin.one ?_
                refine Fin.one ?_
                refine Fin.one ?_
                refine Fin.one ?_
                refine Fin.one ?_
                refine Fin.one ?_
                refine Fin.one ?_
                refine Fin.one ?_
                refine Fin.one ?_
                refine Fin.one ?_
                refine Fin.nil ?_
                refine L.nil ?_
                refine N.thenW ?_
                refine W.cond (Get.tmp rfl) (fun h9 => ?_) (fun h9 => ?_)
                · exfalso; have h := h9; have e := front_at hu3 (show i < (varsC (flatL (lineE src (findC src s).1.parent))).length by omega); simp only [Int.toNat_natCast, e] at h; simp at h; omega
                · have ph9 := h9; try simp only [decide_eq_true_eq, decide_eq_false_iff_not, Bool.and_eq_true, Bool.or_eq_true, Bool.and_eq_false_iff, Bool.or_eq_false_iff, Bool.not_eq_true', Bool.not_eq_false', Bool.not_true, Bool.not_false, Int.not_lt, Int.not_le] at ph9
                  refine W.skip ?_
                  refine N.blockNormal ?_
                  refine N.thenW ?_
                  refine W.region ?_
                  refine L.op1 rfl rfl (GSpec.plain rfl (spec_move rfl (Get.tmp rfl))) ?_
                  first | refine L.op1 rfl rfl (GSpec.plain rfl (fit_i64 (by (first | omega | (simp only [Int.toNat_natCast]; omega))) (by (first | omega | (simp only [Int.toNat_natCast]; omega))) (spec_add rfl (Get.tmp rfl) (Get.cint rfl)))) ?_ | refine L.op1 rfl rfl (GSpec.plain rfl (spec_add rfl (Get.tmp rfl) (Get.cint rfl))) ?_
                  refine L.op1 rfl rfl (GSpec.plain rfl (spec_assign rfl (Get.tmp rfl))) ?_
                  refine L.nil ?_
                  refine N.roundK (i + 1) ?hI2 ?hmu2 ?hs2 ?hk2 ?hp2
                  case hs2 => exact (.cons (t := 17) rfl .nil)
                  case hk2 => exact (.cons (t := 15) rfl (.cons (t := 16) rfl .nil))
                  case hp2 => exact (.cons 0 rfl (.cons 0 rfl (.cons 0 rfl (.cons 0 rfl (.cons 0 rfl .nil)))))
                  all_goals (first | rfl | trivial | omega | (simp_all; done))
              · have ph8 := h8; try simp only [decide_eq_true_eq, decide_eq_false_iff_not, Bool.and_eq_true, Bool.or_eq_true, Bool.and_eq_false_iff, Bool.or_eq_false_iff, Bool.not_eq_true', Bool.not_eq_false', Bool.not_true, Bool.not_false, Int.not_lt, Int.not_le] at ph8
                refine W.exit ?_
                refine N.thenExit ?_
                refine N.thenExit ?_
                refine N.blockExit ?_
                refine N.thenW ?_
                refine W.keep .nil .refl ?_
                refine W.seq ?_
                refine W.region ?_
                refine L.op1 rfl rfl (GSpec.plain rfl (spec_callG (k := 4) rfl Tryd.call10 rfl (awake_ok ) .nil)) ?_
                refine L.op1 rfl rfl (GSpec.plain rfl (spec_assign rfl (Get.tmp rfl))) ?_
                refine L.nil ?_
                refine N.thenW ?_
                refine W.ret ?_
                refine N.ret () rfl (.tmp (t := 4) (Get.tmp rfl) .nil) (res1 (eqB ?_)) .nil (fun _ _ h => h)
                rfl

end Go.Proofs.YtcabngjnmipflaaDoor
/- The blocks of a flat class. -/
set_option linter.unusedSimpArgs false
set_option linter.unusedVariables false
namespace Go.Proofs.YtcabngjnmipflaaDoor
open Go.Sim
theorem extB_in (bs : List Bk) (b : Bk) : b ∈ extB bs b := by
  unfold extB
  split
  · rename_i h
    obtain ⟨hi, _⟩ := blk_at h
    exact List.mem_of_getElem (h := by simpa using hi) (List.getElem_set_self _)
  · simp
theorem extB_keep {bs : List Bk} {b x : Bk} (hx : x ∈ bs) (hn : x.name ≠ b.name) : x ∈ extB bs b := by
  unfold extB
  split
  · rename_i h
    obtain ⟨hi, e⟩ := blk_at h
    obtain ⟨j, hj, ej⟩ := List.getElem_of_mem hx
    refine List.mem_of_getElem (i := j) (h := by simpa using hj) ?_
    rw [List.getElem_set_ne (fun q => hn (by subst q; rw [← ej]; exact e))]
    exact ej
  · exact List.mem_append_left _ hx
theorem extA_keep {l : List Bk} : ∀ {bs : List Bk} {x : Bk}, x ∈ bs → (∀ y ∈ l, x.name ≠ y.name) → x ∈ extA bs l := by
  induction l with
  | nil => intro bs x h _; exact h
  | cons b l ih => intro bs x h hn; exact ih (bs := extB bs b) (extB_keep h (hn b List.mem_cons_self)) fun y hy => hn y (List.mem_cons_of_mem _ hy)
theorem extA_in {l : List Bk} : ∀ {bs : List Bk} {x : Bk}, x ∈ l → (l.map Bk.name).Nodup → x ∈ extA bs l := by
  induction l with
  | nil => intro bs x h; cases h
  | cons b l ih =>
    intro bs x h hn
    rw [List.map_cons, List.nodup_cons] at hn
    rcases List.mem_cons.1 h with h | h
    · subst h
      exact extA_keep (bs := extB bs x) (extB_in bs x) fun y hy e => hn.1 (e ▸ List.mem_map_of_mem (f := Bk.name) hy)
    · exact ih (bs := extB bs b) h hn.2
theorem hasBk_iff {l : List Bk} {s : List UInt8} : hasBk l s = true ↔ s ∈ l.map Bk.name := by
  unfold hasBk
  simp only [List.any_eq_true, List.mem_map, beq_iff_eq]
/-- A block that no class further down has. -/
def newB (L : List Cl) (i : Nat) (b : Bk) : Bool := !((L.take i).any fun y => hasBk y.blocks b.name)
theorem new_in {L : List Cl} (hu : ∀ c ∈ L, (c.blocks.map Bk.name).Nodup) : ∀ {i : Nat} {b : Bk}, i < L.length → b ∈ (L.getD i default).blocks → newB L i b = true → b ∈ flB L := by
  induction L with
  | nil => intro i b h; exact absurd h (Nat.not_lt_zero _)
  | cons c L ih =>
    intro i b hi hb hn
    rw [flB_cons]
    cases i with
    | zero => exact extA_in hb (hu c List.mem_cons_self)
    | succ i =>
      unfold newB at hn
      rw [List.take_succ_cons, List.any_cons] at hn
      simp only [Bool.not_eq_true', Bool.or_eq_false_iff] at hn
      refine extA_keep (ih (fun d hd => hu d (List.mem_cons_of_mem _ hd)) (by simpa using hi) (by simpa using hb) (by unfold newB; rw [hn.2]; rfl)) fun y hy e => ?_
      have : hasBk c.blocks b.name = true := hasBk_iff.2 (e ▸ List.mem_map_of_mem (f := Bk.name) hy)
      rw [this] at hn; cases hn.1
/-- The names of blocks in the order in which they are met, each once. -/
def dn (pre : List Cl) : List Cl → List (List UInt8)
  | [] => []
  | c :: r => (c.blocks.filter fun b => !(pre.any fun y => hasBk y.blocks b.name)).map Bk.name ++ dn (pre ++ [c]) r
theorem dn_mem : ∀ {L pre : List Cl} {s : List UInt8}, s ∈ dn pre L ↔ (∃ c ∈ L, hasBk c.blocks s = true) ∧ (pre.any fun y => hasBk y.blocks s) = false
  | [], pre, s => by simp [dn]
  | c :: L, pre, s => by
    rw [dn, List.mem_append, dn_mem]
    simp only [List.mem_map, List.mem_filter, Bool.not_eq_true', List.any_append, List.any_cons, List.any_nil, Bool.or_false, Bool.or_eq_false_iff]
    constructor
    · rintro (⟨b, ⟨h1, h2⟩, rfl⟩ | ⟨⟨d, h1, h2⟩, h3, h4⟩)
      · exact ⟨⟨c, List.mem_cons_self, hasBk_iff.2 (List.mem_map_of_mem (f := Bk.name) h1)⟩, h2⟩
      · exact ⟨⟨d, List.mem_cons_of_mem _ h1, h2⟩, h3⟩
    · rintro ⟨⟨d, h1, h2⟩, h3⟩
      cases hc : hasBk c.blocks s with
      | true =>
        obtain ⟨b, hb, e⟩ := List.mem_map.1 (hasBk_iff.1 hc)
        exact .inl ⟨b, ⟨hb, e ▸ h3⟩, e⟩
      | false =>
        rcases List.mem_cons.1 h1 with h1 | h1
        · subst h1; rw [hc] at h2; cases h2
        · exact .inr ⟨⟨d, h1, h2⟩, h3, rfl⟩
theorem dn_nodup : ∀ {L pre : List Cl}, (∀ c ∈ L, (c.blocks.map Bk.name).Nodup) → (dn pre L).Nodup
  | [], pre, _ => by simp [dn]
  | c :: L, pre, h => by
    rw [dn, List.nodup_append]
    refine ⟨(h c List.mem_cons_self).sublist (List.filter_sublist.map _), dn_nodup fun d hd => h d (List.mem_cons_of_mem _ hd), fun x hx y hy e => ?_⟩
    subst e
    obtain ⟨b, hb, e⟩ := List.mem_map.1 hx
    have h2 := (dn_mem.1 hy).2
    rw [List.any_append, Bool.or_eq_false_iff] at h2
    have h3 : hasBk c.blocks x = true := hasBk_iff.2 (e ▸ List.mem_map_of_mem (f := Bk.name) (List.mem_filter.1 hb).1)
    simp [h3] at h2
theorem extB_mem_name {bs : List Bk} {b : Bk} {s : List UInt8} : s ∈ (extB bs b).map Bk.name ↔ s ∈ bs.map Bk.name ∨ s = b.name := by
  rw [extB_names]
  split
  · rename_i h
    obtain ⟨hi, e⟩ := blk_at h
    refine ⟨.inl, fun q => q.elim id fun q => ?_⟩
    rw [q, ← e]; exact List.mem_map_of_mem (List.getElem_mem hi)
  · rw [List.mem_append, List.mem_singleton]
theorem extA_mem_name {l : List Bk} : ∀ {bs : List Bk} {s : List UInt8}, s ∈ (extA bs l).map Bk.name ↔ s ∈ bs.map Bk.name ∨ s ∈ l.map Bk.name := by
  induction l with
  | nil => intro bs s; simp [extA]
  | cons b l ih =>
    intro bs s
    show s ∈ (extA (extB bs b) l).map Bk.name ↔ _
    rw [ih, extB_mem_name, List.map_cons, List.mem_cons, or_assoc]
theorem flB_mem_name {L : List Cl} {s : List UInt8} : s ∈ (flB L).map Bk.name ↔ ∃ c ∈ L, hasBk c.blocks s = true := by
  induction L with
  | nil => simp [flB]
  | cons c L ih =>
    rw [flB_cons, extA_mem_name, ih]
    constructor
    · rintro (⟨d, h1, h2⟩ | h)
      · exact ⟨d, List.mem_cons_of_mem _ h1, h2⟩
      · exact ⟨c, List.mem_cons_self, hasBk_iff.2 h⟩
    · rintro ⟨d, h1, h2⟩
      rcases List.mem_cons.1 h1 with h1 | h1
      · subst h1; exact .inr (hasBk_iff.1 h2)
      · exact .inl ⟨d, h1, h2⟩
theorem dn_len {L : List Cl} (hu : ∀ c ∈ L, (c.blocks.map Bk.name).Nodup) : (dn [] L).length = (flB L).length := by
  have h1 := nodup_sub (dn_nodup (pre := []) hu) fun x hx => flB_mem_name.2 (dn_mem.1 hx).1
  have h2 := nodup_sub (flB_nodup L) fun x hx => (dn_mem (L := L) (pre := [])).2 ⟨flB_mem_name.1 hx, rfl⟩
  rw [List.length_map] at h1 h2
  omega
/-- The step of the count to the next class. -/
theorem dn_next {L : List Cl} {i : Nat} (hi : i < L.length) : (dn (L.take i) (L.drop i)).length = ((L.getD i default).blocks.filter (newB L i)).length + (dn (L.take (i + 1)) (L.drop (i + 1))).length := by
  rw [drop_cons'' hi, dn, List.length_append, List.length_map, take_succ hi]; rfl
theorem fil_next {l : List Bk} {p : Bk → Bool} {k : Nat} (hk : k < l.length) : ((l.drop k).filter p).length = (if p (l.getD k default) = true then 1 else 0) + ((l.drop (k + 1)).filter p).length := by
  rw [List.drop_eq_getElem_cons hk, List.filter_cons, ← getD_lt hk]
  split <;> simp <;> omega
structure BlkLaw (src : List Cl) (s : List UInt8) : Prop where
  len : (lineE src s).1.length ≤ 33
  names : namesL (lineE src s) = (lineE src s).1.map Cl.name
  find : ∀ i, i < (lineE src s).1.length → findC src ((namesL (lineE src s)).getD i default) = ((lineE src s).1.getD i default, true)
  blocks : (flatL (lineE src s)).blocks = flB (lineE src s).1
  small : (flB (lineE src s).1).length ≤ 16
  nb : ∀ i, i < (lineE src s).1.length → ((lineE src s).1.getD i default).blocks.length ≤ 16
  start : (dn [] (lineE src s).1).length = (flB (lineE src s).1).length
  wth : ∀ i, i < (lineE src s).1.length → ∀ b ∈ ((lineE src s).1.getD i default).blocks, newB (lineE src s).1 i b = true → withBk (flatL (lineE src s)).blocks b = true
theorem blk_law {src : List Cl} {s : List UInt8} (h : (lineE src s).2 = 0) : BlkLaw src s := by
  obtain ⟨hg, hf, hl⟩ := line_0 h
  have hm := find_mem hf
  have h1 : (lineE src s).1 = (ancE src (findC src s).1).1 := by rw [hl]
  have hs : ∀ x ∈ (lineE src s).1, x ∈ src := by rw [h1]; exact line_src hg hm.1
  have hv : ∀ x ∈ (lineE src s).1, VC x := fun x hx => (valid_iff x).1 (hg.v x (hs x hx))
  have hb : (flatL (lineE src s)).blocks = flB (lineE src s).1 := by rw [flat_of h]; rfl
  have hnm : namesL (lineE src s) = (lineE src s).1.map Cl.name := by unfold namesL; rw [if_neg (by rw [h]; simp)]
  refine ⟨by rw [h1, anc_1 (hg.anc _ hm.1)]; have := chn_len src src.length (findC src s).1; have := hg.n; omega, hnm, fun i hi => ?_, hb, ?_, fun i hi => (hv _ (getD_mem' hi)).nb, dn_len fun c hc => (hv c hc).ub, fun i hi b hbm hn => ?_⟩
  · rw [hnm, map_getD Cl.name hi, find_is (uniq_of hg.rep) (hs _ (getD_mem' hi))]
  · have := (flat_valid hg hm.1).nb
    rw [h1]; exact this
  · rw [hb]
    have := new_in (fun c hc => (hv c hc).ub) hi hbm hn
    exact List.any_eq_true.2 ⟨b, this, by simp⟩
end Go.Proofs.YtcabngjnmipflaaDoor
namespace Go.Proofs.YtcabngjnmipflaaDoor
open Go.Sim
theorem findL_ok {src : List Cl} {s : List UInt8} (hok : ∀ c ∈ src, ClOk c) (hL : BlkLaw src s) {i : Nat} (hi : i < (lineE src s).1.length) : CallT Tryd.prog 23 [Rp.slice eC src, Rp.str ((namesL (lineE src s)).getD i default)] [] (.one (Rp.tuple [Rp.agg (eC ((lineE src s).1.getD i default)), Rp.bool true])) := by
  have := findX_ok src ((namesL (lineE src s)).getD i default) hok
  rw [hL.find i hi] at this
  exact this
end Go.Proofs.YtcabngjnmipflaaDoor
set_option linter.unusedSimpArgs false
set_option maxRecDepth 8000
set_option linter.unusedVariables false
namespace Go.Proofs.YtcabngjnmipflaaDoor
open Go.Sim
theorem classBlocks_ok (src : List Cl) (s : List UInt8) (hok : ∀ c ∈ src, ClOk c) : CallT Tryd.prog 8 [Rp.slice eC src, Rp.str s] [kwG] (.one (Rp.bool true)) := by
  refine W.enter (fn := Tryd.f8) (n := 116) Tryd.func8 rfl Tryd.ntmps8 rfl (fun w₀ C₀ => ?_)
  simp only [argS]
  refine W.seq ?_
  refine W.region ?_
  refine L.op1 rfl rfl (GSpec.plain rfl (spec_assign rfl Get.cbool)) ?_
  refine L.nil ?_
  refine N.thenW ?_
  refine W.seq ?_
  refine W.seq ?_
  refine W.region ?_
  refine L.op1 rfl rfl (GSpec.plain rfl (spec_move rfl (Get.tmp rfl))) ?_
  refine L.op rfl rfl (GSpec.plain rfl (spec_call rfl Tryd.call17 (few_ok _) (.cons (Get.tmp rfl) .nil))) (fun b19 => ?_)
  try dsimp only
  refine L.op1 rfl rfl (GSpec.plain rfl (spec_not rfl (Get.tmp rfl))) ?_
  refine L.nil ?_
  refine N.thenW ?_
  refine W.cond (Get.tmp rfl) (fun h1 => ?_) (fun h1 => ?_)
  · have ph1 := h1; try simp only [decide_eq_true_eq, decide_eq_false_iff_not, Bool.and_eq_true, Bool.or_eq_true, Bool.and_eq_false_iff, Bool.or_eq_false_iff, Bool.not_eq_true', Bool.not_eq_false', Bool.not_true, Bool.not_false, Int.not_lt, Int.not_le] at ph1
    refine W.seq ?_
    refine W.region ?_
    refine L.op1 rfl rfl (GSpec.plain rfl (spec_callG (k := 0) rfl Tryd.call10 rfl (awake_ok ) .nil)) ?_
    refine L.op1 rfl rfl (GSpec.plain rfl (spec_assign rfl (Get.tmp rfl))) ?_
    refine L.nil ?_
    refine N.thenW ?_
    refine W.ret ?_
    refine N.ret () rfl (.tmp (t := 4) (Get.tmp rfl) .nil) (res1 (eqB ?_)) .nil (fun _ _ h => h)
    rfl
  · have ph1 := h1; try simp only [decide_eq_true_eq, decide_eq_false_iff_not, Bool.and_eq_true, Bool.or_eq_true, Bool.and_eq_false_iff, Bool.or_eq_false_iff, Bool.not_eq_true', Bool.not_eq_false', Bool.not_true, Bool.not_false, Int.not_lt, Int.not_le] at ph1
    refine W.skip ?_
    refine N.thenW ?_
    refine W.seq ?_
    refine W.region ?_
    refine L.op1 rfl rfl (GSpec.plain rfl (spec_move rfl (Get.tmp rfl))) ?_
    refine L.op1 rfl rfl (GSpec.plain rfl (spec_move rfl (Get.tmp rfl))) ?_
    refine L.op1 rfl rfl (GSpec.plain rfl (spec_callG (k := 0) rfl Tryd.call18 rfl (LineX_ok _ _ (by assumption)) (.cons (Get.tmp rfl) (.cons (Get.tmp rfl) .nil)))) ?_
    refine L.op1 rfl rfl (GSpec.plain rfl (spec_move rfl (Get.tmp rfl))) ?_
    refine L.op1 rfl rfl (GSpec.plain rfl (spec_extract rfl (Get.tmp rfl) rfl)) ?_
    refine L.op1 rfl rfl (GSpec.plain rfl (spec_extract rfl (Get.tmp rfl) rfl)) ?_
    refine L.op1 rfl rfl (GSpec.plain rfl (spec_assign rfl (Get.tmp rfl))) ?_
    refine L.op1 rfl rfl (GSpec.plain rfl (spec_assign rfl (Get.tmp rfl))) ?_
    refine L.nil ?_
    refine N.thenW ?_
    refine W.keep (.cons (t := 0) rfl (.cons (t := 1) rfl (.cons (t := 4) rfl (.cons (t := 5) rfl (.cons (t := 6) rfl .nil))))) .refl ?_
    refine W.seq ?_
    refine W.region ?_
    refine L.op1 rfl rfl (GSpec.plain rfl (spec_move rfl (Get.tmp rfl))) ?_
    refine L.op1 rfl rfl (GSpec.plain rfl (spec_move rfl (Get.tmp rfl))) ?_
    refine L.op1 rfl rfl (GSpec.plain rfl (spec_callG (k := 0) rfl Tryd.call20 rfl (FlattenX_ok _ _ (by assumption)) (.cons (Get.tmp rfl) (.cons (Get.tmp rfl) .nil)))) ?_
    refine L.op1 rfl rfl (GSpec.plain rfl (spec_move rfl (Get.tmp rfl))) ?_
    refine L.op1 rfl rfl (GSpec.plain rfl (spec_extract rfl (Get.tmp rfl) rfl)) ?_
    refine L.op1 rfl rfl (GSpec.plain rfl (spec_extract rfl (Get.tmp rfl) rfl)) ?_
    refine L.box rfl rfl (GSpec.plain rfl (spec_alloc rfl ti25 z25)) (fun r7 => ?_)
    refine L.storeW (k := 0) rfl rfl rfl Tryd.sizeOf25 (Get.tmp rfl) (Get.tmp rfl) rfl rfl rfl ?_
    refine L.op1 rfl rfl (GSpec.plain rfl (spec_assign rfl (Get.tmp rfl))) ?_
    refine L.nil ?_
    refine N.thenW ?_
    refine W.keep (.cons (t := 0) rfl (.cons (t := 4) rfl (.cons (t := 5) rfl (.cons (t := 6) rfl (.cons (t := 7) rfl (.cons (t := 8) rfl .nil)))))) .refl ?_
    refine W.seq ?_
    refine W.seq ?_
    refine W.region ?_
    refine L.op1 rfl rfl (GSpec.plain rfl (spec_move rfl (Get.tmp rfl))) ?_
    refine L.op1 rfl rfl (GSpec.plain rfl (spec_neq rfl (Get.tmp rfl) (Get.cint rfl))) ?_
    refine L.op1 rfl rfl (GSpec.plain rfl (spec_move rfl (Get.tmp rfl))) ?_
    refine L.op1 rfl rfl (GSpec.guard rfl rfl rfl fun hg => (spec_move rfl (Get.tmp rfl))) ?_
    refine L.op1 rfl rfl (GSpec.guard rfl rfl rfl fun hg => (spec_neq rfl (Get.opt rfl hg) (Get.cint rfl))) ?_
    refine L.op1 rfl rfl (GSpec.plain rfl (spec_or rfl (Get.tmp rfl) (fun hb => (Get.opt rfl hb)))) ?_
    refine L.nil ?_
    refine N.thenW ?_
    refine W.cond (Get.tmp rfl) (fun h2 => ?_) (fun h2 => ?_)
    · refine W.seq ?_
      refine W.region ?_
      refine L.op1 rfl rfl (GSpec.plain rfl (spec_move rfl (Get.tmp rfl))) ?_
      refine L.op1 rfl rfl (GSpec.plain rfl (spec_move rfl (Get.tmp rfl))) ?_
      refine L.op1 rfl rfl (GSpec.plain rfl (spec_eql rfl (Get.tmp rfl) (Get.tmp rfl))) ?_
      refine L.op1 rfl rfl (GSpec.plain rfl (spec_move rfl (Get.tmp rfl))) ?_
      refine L.op1 rfl rfl (GSpec.guard rfl rfl rfl fun hg => (spec_callG (k := 1) rfl Tryd.call10 rfl (awake_ok ) .nil)) ?_
      refine L.op1 rfl rfl (GSpec.plain rfl (spec_and rfl (Get.tmp rfl) (fun hb => (Get.opt rfl hb)))) ?_
      refine L.op1 rfl rfl (GSpec.plain rfl (spec_assign rfl (Get.tmp rfl))) ?_
      refine L.nil ?_
      refine N.thenW ?_
      refine W.keep (.cons (t := 0) rfl (.cons (t := 4) rfl (.cons (t := 5) rfl (.cons (t := 7) rfl .nil)))) .refl ?_
      refine W.ret ?_
      refine N.ret () rfl (.tmp (t := 4) (Get.tmp rfl) .nil) (res1 (eqB ?_)) .nil (fun _ _ h => h)
      simp
    · have hc : (lineE src s).2 = 0 := by have h := h2; simpa using h
      have hL := blk_law hc
      have hnl : (namesL (lineE src s)).length = (lineE src s).1.length := by rw [hL.names, List.length_map]
      have hsm := hL.small
      have hst := hL.start
      have hln := hL.len
      refine W.skip ?_
      refine N.thenW ?_
      refine W.keep (.cons (t := 0) rfl (.cons (t := 4) rfl (.cons (t := 5) rfl (.cons (t := 7) rfl .nil)))) .refl ?_
      refine W.seq ?_
      refine W.region ?_
      refine L.op1 rfl rfl (GSpec.plain rfl (spec_assign rfl (Get.cint rfl))) ?_
      refine L.nil ?_
      refine N.thenW ?_
      refine W.seq ?_
      refine W.seq ?_
      refine W.region ?_
      refine L.op1 rfl rfl (GSpec.plain rfl (spec_assign rfl (Get.cint rfl))) ?_
      refine L.nil ?_
      refine N.thenW ?_
      refine W.block ?_
      -- assigned in the loop, not kept: [4]
      refine W.loopK (σ := Nat × Nat) (.cons (t := 0) rfl (.cons (t := 5) rfl (.cons (t := 7) rfl .nil))) (fun z => [(10, Rp.int .i64 (z.1 : Nat)), (9, Rp.int .i64 (z.2 : Nat))]) (fun z => []) (fun z => z.1 ≤ (namesL (lineE src s)).length ∧ z.2 + (dn ((lineE src s).1.take z.1) ((lineE src s).1.drop z.1)).length = (flB (lineE src s).1).length) (fun z => (namesL (lineE src s)).length - z.1) (0, 0) ⟨Nat.zero_le _, by simpa using hst⟩ (.cons (t := 10) rfl (.cons (t := 9) rfl .nil)) (.cons 0 rfl (.cons 0 rfl .nil)) ?_
      intro ⟨i, n⟩ hI S' M' hS hM
      obtain ⟨hI1, hI2⟩ := hI
      try dsimp only at hS hM
      simp only [List.cons_append, List.nil_append] at hS hM
      subst hS hM
      try dsimp only
      try dsimp only at hI1 hI2
      refine W.seq ?_
      refine W.seq ?_
      refine W.region ?_
      refine L.op1 rfl rfl (GSpec.plain rfl (spec_move rfl (Get.tmp rfl))) ?_
      refine L.op1 rfl rfl (GSpec.plain rfl (spec_move rfl (Get.tmp rfl))) ?_
      refine L.op1 rfl rfl (GSpec.plain rfl (spec_len rfl Tryd.underlying40 (Get.tmp rfl))) ?_
      refine L.op1 rfl rfl (GSpec.plain rfl (spec_lss rfl (Get.tmp rfl) (Get.tmp rfl))) ?_
      refine L.nil ?_
      refine N.thenW ?_
      refine W.cond (Get.tmp rfl) (fun h3 => ?_) (fun h3 => ?_)
      · have ph3 := h3; try simp only [decide_eq_true_eq, decide_eq_false_iff_not, Bool.and_eq_true, Bool.or_eq_true, Bool.and_eq_false_iff, Bool.or_eq_false_iff, Bool.not_eq_true', Bool.not_eq_false', Bool.not_true, Bool.not_false, Int.not_lt, Int.not_le] at ph3
        refine W.skip ?_
        refine N.thenW ?_
        have hnb := hL.nb i (by omega)
        have hdn := dn_next (L := (lineE src s).1) (i := i) (by omega)
        refine W.seq ?_
        refine W.block ?_
        refine W.seq ?_
        refine W.region ?_
        refine L.op1 rfl rfl (GSpec.plain rfl (spec_move rfl (Get.tmp rfl))) ?_
        refine L.op1 rfl rfl (GSpec.plain rfl (spec_move rfl (Get.tmp rfl))) ?_
        refine L.op1 rfl rfl (GSpec.plain rfl (spec_move rfl (Get.tmp rfl))) ?_
        refine L.op1 rfl rfl (GSpec.plain rfl (spec_indexAddrD (E := eS) rfl Tryd.underlying40 Tryd.sizeOf9 (fun _ => rfl) (Get.tmp rfl) (Get.tmp rfl) (by (first | omega | (simp only [Int.toNat_natCast]; omega))))) ?_
        refine L.op1 rfl rfl (GSpec.plain rfl (spec_loadP1 rfl Tryd.isAgg9 (Get.tmp rfl))) ?_
        refine L.op1 rfl rfl (GSpec.plain rfl (spec_call rfl Tryd.call23 (findL_ok hok hL (i := i) (by omega)) (.cons (Get.tmp rfl) (.cons (Get.tmp rfl) .nil)))) ?_
        refine L.op1 rfl rfl (GSpec.plain rfl (spec_move rfl (Get.tmp rfl))) ?_
        refine L.op1 rfl rfl (GSpec.plain rfl (spec_extract rfl (Get.tmp rfl) rfl)) ?_
        refine L.op1 rfl rfl (GSpec.plain rfl (spec_extract rfl (Get.tmp rfl) rfl)) ?_
        refine L.box rfl rfl (GSpec.plain rfl (spec_alloc rfl ti25 z25)) (fun r11 => ?_)
        refine L.storeW (k := 0) rfl rfl rfl Tryd.sizeOf25 (Get.tmp rfl) (Get.tmp rfl) rfl rfl rfl ?_
        refine L.op1 rfl rfl (GSpec.plain rfl (spec_assign rfl (Get.tmp rfl))) ?_
        refine L.nil ?_
        refine N.thenW ?_
        refine W.seq ?_
        refine W.seq ?_
        refine W.region ?_
        refine L.op1 rfl rfl (GSpec.plain rfl (spec_move rfl (Get.tmp rfl))) ?_
        refine L.op1 rfl rfl (GSpec.plain rfl (spec_not rfl (Get.tmp rfl))) ?_
        refine L.nil ?_
        refine N.thenW ?_
        refine W.cond (Get.tmp rfl) (fun h4 => ?_) (fun h4 => ?_)
        · exfalso; have h := h4; simp at h
        · have ph4 := h4; try simp only [decide_eq_true_eq, decide_eq_false_iff_not, Bool.and_eq_true, Bool.or_eq_true, Bool.and_eq_false_iff, Bool.or_eq_false_iff, Bool.not_eq_true', Bool.not_eq_false', Bool.not_true, Bool.not_false, Int.not_lt, Int.not_le] at ph4
          refine W.skip ?_
          refine N.thenW ?_
          refine W.seq ?_
          refine W.region ?_
          refine L.op1 rfl rfl (GSpec.plain rfl (spec_assign rfl (Get.cint rfl))) ?_
          refine L.nil ?_
          refine N.thenW ?_
          refine W.block ?_
          refine W.loopK (σ := Nat × Nat) (.cons (t := 0) rfl (.cons (t := 5) rfl (.cons (t := 7) rfl (.cons (t := 10) rfl (.cons (t := 11) rfl (.cons (t := 12) rfl (.cons (t := 46) rfl (.cons (t := 47) rfl (.cons (t := 48) rfl (.cons (t := 49) rfl (.cons (t := 52) rfl (.cons (t := 53) rfl (.cons (t := 54) rfl (.cons (t := 55) rfl (.cons (t := 56) rfl (.cons (t := 57) rfl (.cons (t := 58) rfl (.cons (t := 59) rfl (.cons (t := 60) rfl (.cons (t := 61) rfl (.cons (t := 62) rfl .nil))))))))))))))))))))) (fun z => [(13, Rp.int .i64 (z.1 : Nat)), (9, Rp.int .i64 (z.2 : Nat))]) (fun z => []) (fun z => z.1 ≤ ((lineE src s).1.getD i default).blocks.length ∧ z.2 + ((((lineE src s).1.getD i default).blocks.drop z.1).filter (newB (lineE src s).1 i)).length + (dn ((lineE src s).1.take (i + 1)) ((lineE src s).1.drop (i + 1))).length = (flB (lineE src s).1).length) (fun z => ((lineE src s).1.getD i default).blocks.length - z.1) (0, n) ⟨Nat.zero_le _, by simp only [List.drop_zero]; omega⟩ (.cons (t := 13) rfl (.cons (t := 9) rfl .nil)) (.cons 0 rfl (.cons 0 rfl (.cons 0 rfl .nil))) ?_
          intro ⟨k, m⟩ hI S' M' hS hM
          obtain ⟨hM1, hM2⟩ := hI
          try dsimp only at hS hM
          simp only [List.cons_append, List.nil_append] at hS hM
          subst hS hM
          try dsimp only
          try dsimp only at hM1 hM2
          refine W.seq ?_
          refine W.seq ?_
          refine W.region ?_
          refine L.op1 rfl rfl (GSpec.plain rfl (spec_move rfl (Get.tmp rfl))) ?_
          refine L.op1 rfl rfl (GSpec.plain rfl (spec_fieldAddr (f := 3) (off' := 3) rfl Tryd.underlying25 rfl Tryd.sizeOf23 (Get.tmp rfl) rfl)) ?_
          refine L.op1 rfl rfl (GSpec.plain rfl (spec_load1 (k := 0) rfl Tryd.isAgg23 (Get.tmp rfl) rfl rfl)) ?_
          refine L.op1 rfl rfl (GSpec.plain rfl (spec_len rfl Tryd.underlying23 (Get.tmp rfl))) ?_
          refine L.op1 rfl rfl (GSpec.plain rfl (spec_lss rfl (Get.tmp rfl) (Get.tmp rfl))) ?_
          refine L.nil ?_
          refine N.thenW ?_
          refine W.cond (Get.tmp rfl) (fun h5 => ?_) (fun h5 => ?_)
          · have ph5 := h5; try simp only [decide_eq_true_eq, decide_eq_false_iff_not, Bool.and_eq_true, Bool.or_eq_true, Bool.and_eq_false_iff, Bool.or_eq_false_iff, Bool.not_eq_true', Bool.not_eq_false', Bool.not_true, Bool.not_false, Int.not_lt, Int.not_le] at ph5
            refine W.skip ?_
            refine N.thenW ?_
            have hfn := fil_next (l := ((lineE src s).1.getD i default).blocks) (p := newB (lineE src s).1 i) (k := k) (by omega)
            refine W.seq ?_
            refine W.block ?_
            refine W.seq ?_
            refine W.region ?_
            refine L.op1 rfl rfl (GSpec.plain rfl (spec_assign rfl Get.cbool)) ?_
            refine L.nil ?_
            refine N.thenW ?_
            refine W.seq ?_
            refine W.seq ?_
            refine W.region ?_
            refine L.op1 rfl rfl (GSpec.plain rfl (spec_assign rfl (Get.cint rfl))) ?_
            refine L.nil ?_
            refine N.thenW ?_
            refine W.block ?_
            refine W.loopK (σ := Nat) (.cons (t := 0) rfl (.cons (t := 5) rfl (.cons (t := 7) rfl (.cons (t := 9) rfl (.cons (t := 10) rfl (.cons (t := 11) rfl (.cons (t := 12) rfl (.cons (t := 13) rfl (.cons (t := 46) rfl (.cons (t := 47) rfl (.cons (t := 48) rfl (.cons (t := 49) rfl (.cons (t := 52) rfl (.cons (t := 53) rfl (.cons (t := 54) rfl (.cons (t := 55) rfl (.cons (t := 56) rfl (.cons (t := 57) rfl (.cons (t := 58) rfl (.cons (t := 59) rfl (.cons (t := 60) rfl (.cons (t := 61) rfl (.cons (t := 62) rfl (.cons (t := 63) rfl (.cons (t := 64) rfl (.cons (t := 65) rfl (.cons (t := 66) rfl (.cons (t := 67) rfl .nil)))))))))))))))))))))))))))) (fun z => [(15, Rp.int .i64 (z : Nat)), (14, Rp.bool (((lineE src s).1.take z).any fun y => hasBk y.blocks (((lineE src s).1.getD i default).blocks.getD k default).name))]) (fun z => []) (fun z => z ≤ i) (fun z => i - z) 0 (Nat.zero_le _) (.cons (t := 15) rfl (.cons (t := 14) rfl .nil)) (.cons 0 rfl (.cons 0 rfl (.cons 0 rfl .nil))) ?_
            intro j hI S' M' hS hM
            try dsimp only at hS hM
            simp only [List.cons_append, List.nil_append] at hS hM
            subst hS hM
            try dsimp only
            refine W.seq ?_
            refine W.seq ?_
            refine W.region ?_
            refine L.op1 rfl rfl (GSpec.plain rfl (spec_move rfl (Get.tmp rfl))) ?_
            refine L.op1 rfl rfl (GSpec.plain rfl (spec_move rfl (Get.tmp rfl))) ?_
            refine L.op1 rfl rfl (GSpec.plain rfl (spec_lss rfl (Get.tmp rfl) (Get.tmp rfl))) ?_
            refine L.nil ?_
            refine N.thenW ?_
            refine W.cond (Get.tmp rfl) (fun h6 => ?_) (fun h6 => ?_)
            · have ph6 := h6; try simp only [decide_eq_true_eq, decide_eq_false_iff_not, Bool.and_eq_true, Bool.or_eq_true, Bool.and_eq_false_iff, Bool.or_eq_false_iff, Bool.not_eq_true', Bool.not_eq_false', Bool.not_true, Bool.not_false, Int.not_lt, Int.not_le] at ph6
              refine W.skip ?_
              refine N.thenW ?_
              refine W.seq ?_
              refine W.block ?_
              refine W.seq ?_
              refine W.region ?_
              refine L.op1 rfl rfl (GSpec.plain rfl (spec_move rfl (Get.tmp rfl))) ?_
              refine L.op1 rfl rfl (GSpec.plain rfl (spec_move rfl (Get.tmp rfl))) ?_
              refine L.op1 rfl rfl (GSpec.plain rfl (spec_move rfl (Get.tmp rfl))) ?_
              refine L.op1 rfl rfl (GSpec.plain rfl (spec_indexAddrD (E := eS) rfl Tryd.underlying40 Tryd.sizeOf9 (fun _ => rfl) (Get.tmp rfl) (Get.tmp rfl) (by (first | omega | (simp only [Int.toNat_natCast]; omega))))) ?_
              refine L.op1 rfl rfl (GSpec.plain rfl (spec_loadP1 rfl Tryd.isAgg9 (Get.tmp rfl))) ?_
              refine L.op1 rfl rfl (GSpec.plain rfl (spec_call rfl Tryd.call23 (findL_ok hok hL (i := j) (by omega)) (.cons (Get.tmp rfl) (.cons (Get.tmp rfl) .nil)))) ?_
              refine L.op1 rfl rfl (GSpec.plain rfl (spec_move rfl (Get.tmp rfl))) ?_
              refine L.op1 rfl rfl (GSpec.plain rfl (spec_extract rfl (Get.tmp rfl) rfl)) ?_
              refine L.op1 rfl rfl (GSpec.plain rfl (spec_extract rfl (Get.tmp rfl) rfl)) ?_
              refine L.box rfl rfl (GSpec.plain rfl (spec_alloc rfl ti25 z25)) (fun r16 => ?_)
              refine L.storeW (k := 0) rfl rfl rfl Tryd.sizeOf25 (Get.tmp rfl) (Get.tmp rfl) rfl rfl rfl ?_
              refine L.op1 rfl rfl (GSpec.plain rfl (spec_assign rfl (Get.tmp rfl))) ?_
              refine L.nil ?_
              refine N.thenW ?_
              apply W.any 13 mixed (by kernel_rfl)
              · apply Head.one rfl rfl (GSpec.plain rfl (spec_move rfl (Get.tmp rfl)))
                apply Head.one rfl rfl (GSpec.plain rfl (spec_move rfl (Get.tmp rfl)))
                apply Head.one rfl rfl (GSpec.guard rfl rfl rfl fun hg => (spec_fieldAddr (f := 3) (off' := 3) rfl Tryd.underlying25 rfl Tryd.sizeOf23 (Get.tmp rfl) rfl))
                apply Head.one rfl rfl (GSpec.guard rfl rfl rfl fun hg => (spec_load1 (k := 0) rfl Tryd.isAgg23 (Get.opt rfl hg) rfl rfl))
                apply Head.one rfl rfl (GSpec.guard rfl rfl rfl fun hg => (spec_fieldAddr (f := 3) (off' := 3) rfl Tryd.underlying25 rfl Tryd.sizeOf23 (Get.tmp rfl) rfl))
                apply Head.one rfl rfl (GSpec.guard rfl rfl rfl fun hg => (spec_load1 (k := 1) rfl Tryd.isAgg23 (Get.opt rfl hg) rfl rfl))
                apply Head.one rfl rfl (GSpec.guard rfl rfl rfl fun hg => (spec_move rfl (Get.tmp rfl)))
                apply Head.one rfl rfl (GSpec.guard rfl rfl rfl fun hg => (spec_indexAddrD (E := eBk) rfl Tryd.underlying23 Tryd.sizeOf54 (fun _ => rfl) (Get.opt rfl hg) (Get.opt rfl hg) (by (first | omega | (simp only [decide_eq_true_eq, decide_eq_false_iff_not, Bool.and_eq_true, Bool.or_eq_true, Bool.and_eq_false_iff, Bool.or_eq_false_iff, Bool.not_eq_true', Bool.not_eq_false', Bool.not_true, Bool.not_false, Int.not_lt, Int.not_le] at hg; omega)))))
                apply Head.one rfl rfl (GSpec.guard rfl rfl rfl fun hg => (spec_fieldAddrP (f := 0) rfl Tryd.underlying54 rfl Tryd.sizeOf9 (Get.opt rfl hg) rfl rfl))
                apply Head.one rfl rfl (GSpec.guard rfl rfl rfl fun hg => (spec_loadP1 rfl Tryd.isAgg9 (Get.opt rfl hg)))
                apply Head.one rfl rfl (GSpec.guard rfl rfl rfl fun hg => (spec_call rfl Tryd.call27 (hasBk_ok _ _) (.cons (Get.opt rfl hg) (.cons (Get.opt rfl hg) .nil))))
                apply Head.one rfl rfl (GSpec.plain rfl (spec_or rfl (Get.tmp rfl) (fun hb => (Get.opt rfl hb))))
                apply Head.one rfl rfl (GSpec.plain rfl (spec_assign rfl (Get.tmp rfl)))
                exact Head.nil
              refine Fin.one ?_
              refine Fin.one ?_
              refine Fin.one ?_
              refine Fin.one ?_
              refine Fin.one ?_
              refine Fin.one ?_
              refine Fin.one ?_
              refine Fin.one ?_
              refine Fin.one ?_
              refine Fin.one ?_
              refine Fin.one ?_
              refine Fin.one ?_
              refine Fin.one ?_
              refine Fin.nil ?_
              refine L.nil ?_
              refine N.blockNormal ?_
              refine N.thenW ?_
              refine W.region ?_
              refine L.op1 rfl rfl (GSpec.plain rfl (spec_move rfl (Get.tmp rfl))) ?_
              first | refine L.op1 rfl rfl (GSpec.plain rfl (fit_i64 (by (first | omega | (simp only [Int.toNat_natCast]; omega))) (by (first | omega | (simp only [Int.toNat_natCast]; omega))) (spec_add rfl (Get.tmp rfl) (Get.cint rfl)))) ?_ | refine L.op1 rfl rfl (GSpec.plain rfl (spec_add rfl (Get.tmp rfl) (Get.cint rfl))) ?_
              refine L.op1 rfl rfl (GSpec.plain rfl (spec_assign rfl (Get.tmp rfl))) ?_
              refine L.nil ?_
              refine N.roundK (j + 1) ?hI1 ?hmu1 ?hs1 ?hk1 ?hp1
              case hs1 => exact (.cons (t := 15) rfl (.weak (t := 14) rfl (eqB (by exact any_step _ (show j < (lineE src s).1.length by omega))) .nil))
              case hk1 => exact (.cons (t := 0) rfl (.cons (t := 5) rfl (.cons (t := 7) rfl (.cons (t := 9) rfl (.cons (t := 10) rfl (.cons (t := 11) rfl (.cons (t := 12) rfl (.cons (t := 13) rfl (.cons (t := 46) rfl (.cons (t := 47) rfl (.cons (t := 48) rfl (.cons (t := 49) rfl (.cons (t := 52) rfl (.cons (t := 53) rfl (.cons (t := 54) rfl (.cons (t := 55) rfl (.cons (t := 56) rfl (.cons (t := 57) rfl (.cons (t := 58) rfl (.cons (t := 59) rfl (.cons (t := 60) rfl (.cons (t := 61) rfl (.cons (t := 62) rfl (.cons (t := 63) rfl (.cons (t := 64) rfl (.cons (t := 65) rfl (.cons (t := 66) rfl (.cons (t := 67) rfl .nil))))))))))))))))))))))))))))
              case hp1 => exact (.cons 1 rfl (.cons 1 rfl (.cons 1 rfl .nil)))
              all_goals (first | rfl | trivial | omega | (simp_all; done))
            · have ph6 := h6; try simp only [decide_eq_true_eq, decide_eq_false_iff_not, Bool.and_eq_true, Bool.or_eq_true, Bool.and_eq_false_iff, Bool.or_eq_false_iff, Bool.not_eq_true', Bool.not_eq_false', Bool.not_true, Bool.not_false, Int.not_lt, Int.not_le] at ph6
              refine W.exit ?_
              refine N.thenExit ?_
              refine N.thenExit ?_
              refine N.blockExit ?_
              refine N.thenW ?_
              have hj : i = j := by omega
              subst hj
              refine W.seq ?_
              refine W.seq ?_
              refine W.region ?_
              refine L.op1 rfl rfl (GSpec.plain rfl (spec_move rfl (Get.tmp rfl))) ?_
              refine L.nil ?_
              refine N.thenW ?_
              refine W.cond (Get.tmp rfl) (fun h7 => ?_) (fun h7 => ?_)
              · have hnw : newB (lineE src s).1 i (((lineE src s).1.getD i default).blocks.getD k default) = false := by have h := h7; unfold newB; exact congrArg (!·) h
                refine W.exit ?_
                refine N.thenExit ?_
                refine N.blockExit ?_
                refine N.thenW ?_
                refine W.region ?_
                refine L.op1 rfl rfl (GSpec.plain rfl (spec_move rfl (Get.tmp rfl))) ?_
                first | refine L.op1 rfl rfl (GSpec.plain rfl (fit_i64 (by (first | omega | (simp only [Int.toNat_natCast]; omega))) (by (first | omega | (simp only [Int.toNat_natCast]; omega))) (spec_add rfl (Get.tmp rfl) (Get.cint rfl)))) ?_ | refine L.op1 rfl rfl (GSpec.plain rfl (spec_add rfl (Get.tmp rfl) (Get.cint rfl))) ?_
                refine L.op1 rfl rfl (GSpec.plain rfl (spec_assign rfl (Get.tmp rfl))) ?_
                refine L.nil ?_
                refine N.roundK (k + 1, m) ?hI2 ?hmu2 ?hs2 ?hk2 ?hp2
                case hs2 => exact (.cons (t := 13) rfl (.cons (t := 9) rfl .nil))
                case hk2 => exact (.cons (t := 0) rfl (.cons (t := 5) rfl (.cons (t := 7) rfl (.cons (t := 10) rfl (.cons (t := 11) rfl (.cons (t := 12) rfl (.cons (t := 46) rfl (.cons (t := 47) rfl (.cons (t := 48) rfl (.cons (t := 49) rfl (.cons (t := 52) rfl (.cons (t := 53) rfl (.cons (t := 54) rfl (.cons (t := 55) rfl (.cons (t := 56) rfl (.cons (t := 57) rfl (.cons (t := 58) rfl (.cons (t := 59) rfl (.cons (t := 60) rfl (.cons (t := 61) rfl (.cons (t := 62) rfl .nil)))))))))))))))))))))
                case hp2 => exact (.cons 0 rfl (.cons 0 rfl (.cons 0 rfl .nil)))
                case hI2 => dsimp only; rw [hnw] at hfn; simp only [if_true, if_false, Bool.false_eq_true] at hfn; exact ⟨by omega, by omega⟩
                case hmu2 => dsimp only; omega
              · have hnw : newB (lineE src s).1 i (((lineE src s).1.getD i default).blocks.getD k default) = true := by have h := h7; unfold newB; exact congrArg (!·) h
                refine W.skip ?_
                refine N.thenW ?_
                refine W.seq ?_
                refine W.region ?_
                refine L.op1 rfl rfl (GSpec.plain rfl (spec_move rfl (Get.tmp rfl))) ?_
                first | refine L.op1 rfl rfl (GSpec.plain rfl (fit_i64 (by (first | omega | (simp only [Int.toNat_natCast]; omega))) (by (first | omega | (simp only [Int.toNat_natCast]; omega))) (spec_add rfl (Get.tmp rfl) (Get.cint rfl)))) ?_ | refine L.op1 rfl rfl (GSpec.plain rfl (spec_add rfl (Get.tmp rfl) (Get.cint rfl))) ?_
                refine L.op1 rfl rfl (GSpec.plain rfl (spec_assign rfl (Get.tmp rfl))) ?_
                refine L.nil ?_
                refine N.thenW ?_
                refine W.seq ?_
                apply W.any 9 mixed (by kernel_rfl)
                · apply Head.one rfl rfl (GSpec.plain rfl (spec_fieldAddr (f := 3) (off' := 3) rfl Tryd.underlying25 rfl Tryd.sizeOf23 (Get.tmp rfl) rfl))
                  apply Head.one rfl rfl (GSpec.plain rfl (spec_load1 (k := 1) rfl Tryd.isAgg23 (Get.tmp rfl) rfl rfl))
                  apply Head.one rfl rfl (GSpec.plain rfl (spec_fieldAddr (f := 3) (off' := 3) rfl Tryd.underlying25 rfl Tryd.sizeOf23 (Get.tmp rfl) rfl))
                  apply Head.one rfl rfl (GSpec.plain rfl (spec_load1 (k := 0) rfl Tryd.isAgg23 (Get.tmp rfl) rfl rfl))
                  apply Head.one rfl rfl (GSpec.plain rfl (spec_move rfl (Get.tmp rfl)))
                  apply Head.one rfl rfl (GSpec.plain rfl (spec_indexAddrD (E := eBk) rfl Tryd.underlying23 Tryd.sizeOf54 (fun _ => rfl) (Get.tmp rfl) (Get.tmp rfl) (by (first | omega | (simp only [Int.toNat_natCast]; omega)))))
                  apply Head.one rfl rfl (GSpec.plain rfl (spec_loadPA rfl Tryd.isAgg54 Tryd.sizeOf54 (Get.tmp rfl) rfl))
                  apply Head.one rfl rfl (GSpec.plain rfl (spec_call rfl Tryd.call28 (withBk_ok _ _) (.cons (Get.tmp rfl) (.cons (Get.tmp rfl) .nil))))
                  apply Head.one rfl rfl (GSpec.plain rfl (spec_not rfl (Get.tmp rfl)))
                  exact Head.nil
                refine Fin.one ?_
                refine Fin.one ?_
                refine Fin.one ?_
                refine Fin.one ?_
                refine Fin.one ?_
                refine Fin.one ?_
                refine Fin.one ?_
                refine Fin.one ?_
                refine Fin.one ?_
                refine Fin.nil ?_
                refine L.nil ?_
                refine N.thenW ?_
                refine W.cond (Get.tmp rfl) (fun h8 => ?_) (fun h8 => ?_)
                · exfalso; have h := h8; simp only [Int.toNat_natCast] at h; rw [hL.wth i (by omega) _ (getD_mem' (by omega)) hnw] at h; simp at h
                · have ph8 := h8; try simp only [decide_eq_true_eq, decide_eq_false_iff_not, Bool.and_eq_true, Bool.or_eq_true, Bool.and_eq_false_iff, Bool.or_eq_false_iff, Bool.not_eq_true', Bool.not_eq_false', Bool.not_true, Bool.not_false, Int.not_lt, Int.not_le] at ph8
                  refine W.skip ?_
                  refine N.blockNormal ?_
                  refine N.thenW ?_
                  refine W.region ?_
                  refine L.op1 rfl rfl (GSpec.plain rfl (spec_move rfl (Get.tmp rfl))) ?_
                  first | refine L.op1 rfl rfl (GSpec.plain rfl (fit_i64 (by (first | omega | (simp only [Int.toNat_natCast]; omega))) (by (first | omega | (simp only [Int.toNat_natCast]; omega))) (spec_add rfl (Get.tmp rfl) (Get.cint rfl)))) ?_ | refine L.op1 rfl rfl (GSpec.plain rfl (spec_add rfl (Get.tmp rfl) (Get.cint rfl))) ?_
                  refine L.op1 rfl rfl (GSpec.plain rfl (spec_assign rfl (Get.tmp rfl))) ?_
                  refine L.nil ?_
                  refine N.roundK (k + 1, m + 1) ?hI3 ?hmu3 ?hs3 ?hk3 ?hp3
                  case hs3 => exact (.cons (t := 13) rfl (.cons (t := 9) rfl .nil))
                  case hk3 => exact (.cons (t := 0) rfl (.cons (t := 5) rfl (.cons (t := 7) rfl (.cons (t := 10) rfl (.cons (t := 11) rfl (.cons (t := 12) rfl (.cons (t := 46) rfl (.cons (t := 47) rfl (.cons (t := 48) rfl (.cons (t := 49) rfl (.cons (t := 52) rfl (.cons (t := 53) rfl (.cons (t := 54) rfl (.cons (t := 55) rfl (.cons (t := 56) rfl (.cons (t := 57) rfl (.cons (t := 58) rfl (.cons (t := 59) rfl (.cons (t := 60) rfl (.cons (t := 61) rfl (.cons (t := 62) rfl .nil)))))))))))))))))))))
                  case hp3 => exact (.cons 0 rfl (.cons 0 rfl (.cons 0 rfl .nil)))
                  case hI3 => dsimp only; rw [hnw] at hfn; simp only [if_true, if_false, Bool.false_eq_true] at hfn; exact ⟨by omega, by omega⟩
                  case hmu3 => dsimp only; omega
          · have ph5 := h5; try simp only [decide_eq_true_eq, decide_eq_false_iff_not, Bool.and_eq_true, Bool.or_eq_true, Bool.and_eq_false_iff, Bool.or_eq_false_iff, Bool.not_eq_true', Bool.not_eq_false', Bool.not_true, Bool.not_false, Int.not_lt, Int.not_le] at ph5
            refine W.exit ?_
            refine N.thenExit ?_
            refine N.thenExit ?_
            refine N.blockExit ?_
            refine N.blockNormal ?_
            refine N.thenW ?_
            have hk : k = ((lineE src s).1.getD i default).blocks.length := by omega
            subst hk
            rw [List.drop_length, List.filter_nil, List.length_nil] at hM2
            refine W.region ?_
            refine L.op1 rfl rfl (GSpec.plain rfl (spec_move rfl (Get.tmp rfl))) ?_
            first | refine L.op1 rfl rfl (GSpec.plain rfl (fit_i64 (by (first | omega | (simp only [Int.toNat_natCast]; omega))) (by (first | omega | (simp only [Int.toNat_natCast]; omega))) (spec_add rfl (Get.tmp rfl) (Get.cint rfl)))) ?_ | refine L.op1 rfl rfl (GSpec.plain rfl (spec_add rfl (Get.tmp rfl) (Get.cint rfl))) ?_
            refine L.op1 rfl rfl (GSpec.plain rfl (spec_assign rfl (Get.tmp rfl))) ?_
            refine L.nil ?_
            refine N.roundK (i + 1, m) ?hI4 ?hmu4 ?hs4 ?hk4 ?hp4
            case hs4 => exact (.cons (t := 10) rfl (.cons (t := 9) rfl .nil))
            case hk4 => exact (.cons (t := 0) rfl (.cons (t := 5) rfl (.cons (t := 7) rfl .nil)))
            case hp4 => exact (.cons 1 rfl (.cons 1 rfl .nil))
            case hI4 => dsimp only; exact ⟨by omega, by omega⟩
            case hmu4 => dsimp only; omega
      · have ph3 := h3; try simp only [decide_eq_true_eq, decide_eq_false_iff_not, Bool.and_eq_true, Bool.or_eq_true, Bool.and_eq_false_iff, Bool.or_eq_false_iff, Bool.not_eq_true', Bool.not_eq_false', Bool.not_true, Bool.not_false, Int.not_lt, Int.not_le] at ph3
        refine W.exit ?_
        refine N.thenExit ?_
        refine N.thenExit ?_
        refine N.blockExit ?_
        refine N.thenW ?_
        refine W.keep (.cons (t := 7) rfl (.cons (t := 9) rfl .nil)) .refl ?_
        refine W.seq ?_
        refine W.region ?_
        refine L.op1 rfl rfl (GSpec.plain rfl (spec_move rfl (Get.tmp rfl))) ?_
        refine L.op1 rfl rfl (GSpec.plain rfl (spec_fieldAddr (f := 3) (off' := 3) rfl Tryd.underlying25 rfl Tryd.sizeOf23 (Get.tmp rfl) rfl)) ?_
        refine L.op1 rfl rfl (GSpec.plain rfl (spec_load1 (k := 0) rfl Tryd.isAgg23 (Get.tmp rfl) rfl rfl)) ?_
        refine L.op1 rfl rfl (GSpec.plain rfl (spec_len rfl Tryd.underlying23 (Get.tmp rfl))) ?_
        refine L.op1 rfl rfl (GSpec.plain rfl (spec_eql rfl (Get.tmp rfl) (Get.tmp rfl))) ?_
        refine L.op1 rfl rfl (GSpec.plain rfl (spec_move rfl (Get.tmp rfl))) ?_
        refine L.op1 rfl rfl (GSpec.guard rfl rfl rfl fun hg => (spec_callG (k := 1) rfl Tryd.call10 rfl (awake_ok ) .nil)) ?_
        refine L.op1 rfl rfl (GSpec.plain rfl (spec_and rfl (Get.tmp rfl) (fun hb => (Get.opt rfl hb)))) ?_
        refine L.op1 rfl rfl (GSpec.plain rfl (spec_assign rfl (Get.tmp rfl))) ?_
        refine L.nil ?_
        refine N.thenW ?_
        refine W.keep (.cons (t := 4) rfl .nil) .refl ?_
        refine W.ret ?_
        refine N.ret () rfl (.tmp (t := 4) (Get.tmp rfl) .nil) (res1 (eqB ?_)) .nil (fun _ _ h => h)
        rw [hL.blocks]; rw [show i = (lineE src s).1.length by omega, List.drop_length] at hI2; simp only [dn, List.length_nil] at hI2; simp; omega

end Go.Proofs.YtcabngjnmipflaaDoor
/- The arguments of the laws, opened, with their sizes; the laid keywords. -/
set_option linter.unusedSimpArgs false
set_option linter.unusedVariables false
namespace Go.Proofs.YtcabngjnmipflaaDoor
open Go.Sim Go.ChangeShapes Go.WideShapes
theorem laid_tail {P : Program} {x : String × DataW Unit} {r : List (String × DataW Unit)} {W : World} (h : laidMet P (x :: r) W) : laidMet P r W := by
  obtain ⟨ps, ⟨g, t, cs, fuel, p, q, _, _, _, _, h, rfl⟩, hn, hc⟩ := h
  exact ⟨q, h, (List.nodup_append.1 hn).2.1, fun b off hm => hc b off (List.mem_append.2 (.inr hm))⟩
def kwDatum : DataW Unit := .slice (keywords.map fun s => .lit (.string s)) []
theorem kw_laid {W : World} (h : laidMetH Tryd.prog [("math/bits.deBruijn32tab", Rows.laid_math_bits_deBruijn32tab), ("math/bits.deBruijn64tab", Rows.laid_math_bits_deBruijn64tab), ("internal/strconv.uint64pow10", Rows.laid_internal_strconv_uint64pow10), ("testbench/lexer.keywords", kwDatum)] W) : ∀ F ∈ [kwG], F.p W (old W) := fun F hF => by
  rw [List.mem_singleton.1 hF]
  rw [MakeChecks.laidMetH_plain _ _ _ (by kernel_rfl)] at h
  have h3 := laid_tail (laid_tail (laid_tail h))
  rw [← MakeChecks.laidMetH_plain _ _ _ (by kernel_rfl)] at h3
  exact glob_strs (ss := keywords) (sp := []) h3 (by kernel_rfl) (by kernel_rfl) (by kernel_rfl) Tryd.underlying40 Tryd.underlying9 (by kernel_rfl) (by decide)
theorem reach_le {n : Nat} (h : n ≤ reachBytes) : n ≤ 140737488355328 := Nat.le_trans h (by decide)
theorem op_i (N : Nat) : OpensS Tryd.prog 3 N (fun n : Int => [Rp.int .i64 n]) (fun _ => True) := OpensS.of (Opens.int Tryd.underlying3)
theorem op_s (N : Nat) : OpensS Tryd.prog 9 N (fun l : List UInt8 => [Rp.str l]) (fun _ => True) := OpensS.of (Opens.str Tryd.underlying9)
theorem op_ex : ∀ N, OpensS Tryd.prog 83 N eX ExOk := by
  intro N
  induction N using Nat.strongRecOn with
  | _ N ih =>
    refine OpensS.map (OpensS.struct Tryd.underlying83 rfl (.cons (c := 1) rfl (by kernel_rfl) (op_i N) (.cons (c := 1) rfl (by kernel_rfl) (op_i N) (.cons (c := 1) rfl (by kernel_rfl) (op_s N) (.cons (c := 1) rfl (by kernel_rfl)
      (OpensS.slice (E := eX) (c := 4) (b := 56) Tryd.underlying81 (by kernel_rfl) (by kernel_rfl) (by decide) (fun _ => rfl) (fun n hn => ih n (by omega))) .nil)))) (by kernel_rfl)) ?_
    rintro ⟨op, n, nm, args, u⟩ ⟨_, _, _, ⟨h1, h2⟩, _⟩
    refine ⟨.mk op n nm args, ?_, .mk _ (reach_le h1) h2⟩
    show [Rp.int .i64 op, Rp.int .i64 n, Rp.str nm, Rp.exs args] = _
    rw [exs_eq]; rfl
theorem op_w (N : Nat) : OpensS Tryd.prog 109 N eW (fun _ => True) :=
  OpensS.map (OpensS.struct Tryd.underlying109 rfl (.cons (c := 1) rfl (by kernel_rfl) (op_i N) (.cons (c := 1) rfl (by kernel_rfl) (op_i N) (.cons (c := 1) rfl (by kernel_rfl) (op_i N) (.cons (c := 1) rfl (by kernel_rfl) (OpensS.of (Opens.bool Tryd.underlying4)) .nil)))) (by kernel_rfl))
    fun ⟨a, b, c, d, _⟩ _ => ⟨⟨a, b, c, d⟩, rfl, trivial⟩
theorem op_ss (N : Nat) : OpensS Tryd.prog 40 N (fun l : List (List UInt8) => [Rp.slice eS l]) (fun l => l.length * 16 ≤ reachBytes ∧ ∀ a ∈ l, True) :=
  OpensS.slice (E := eS) (c := 1) (b := 16) Tryd.underlying40 (by kernel_rfl) (by kernel_rfl) (by decide) (fun _ => rfl) (fun n _ => op_s n)
theorem op_it : ∀ N, OpensS Tryd.prog 86 N eIt ItOk := by
  intro N
  induction N using Nat.strongRecOn with
  | _ N ih =>
    have its : OpensS Tryd.prog 52 N (fun l : List It => [Rp.slice eIt l]) (fun l => l.length * 216 ≤ reachBytes ∧ ∀ a ∈ l, ItOk a) :=
      OpensS.slice (E := eIt) (c := 12) (b := 216) Tryd.underlying52 (by kernel_rfl) (by kernel_rfl) (by decide) (fun _ => rfl) (fun n hn => ih n (by omega))
    have hs : OpensS Tryd.prog 86 N _ _ := (OpensS.struct Tryd.underlying86 rfl (.cons (c := 1) rfl (by kernel_rfl) (op_i N) (.cons (c := 4) rfl (by kernel_rfl) (op_ex N) (.cons (c := 1) rfl (by kernel_rfl) (op_s N) (.cons (c := 1) rfl (by kernel_rfl) (op_s N)
      (.cons (c := 1) rfl (by kernel_rfl) (OpensS.slice (E := eW) (c := 4) (b := 32) Tryd.underlying84 (by kernel_rfl) (by kernel_rfl) (by decide) (fun _ => rfl) (fun n _ => op_w n))
      (.cons (c := 1) rfl (by kernel_rfl) its (.cons (c := 1) rfl (by kernel_rfl) its (.cons (c := 1) rfl (by kernel_rfl) (op_ss N) (.cons (c := 1) rfl (by kernel_rfl) (op_ss N) .nil))))))))) (by kernel_rfl))
    apply OpensS.map hs
    rintro ⟨kd, ex, nm, ix, ws, is, es, bf, af, u⟩ ⟨_, hex, _, _, ⟨hw, _⟩, ⟨hi1, hi2⟩, ⟨he1, he2⟩, ⟨hb, _⟩, ⟨ha, _⟩, _⟩
    refine ⟨.mk kd ex nm ix ws is es bf af, ?_, .mk _ hex (reach_le hw) (reach_le hi1) (reach_le he1) (reach_le hb) (reach_le ha) hi2 he2⟩
    show [Rp.int .i64 kd, Rp.int .i64 ex.op, Rp.int .i64 ex.n, Rp.str ex.name, Rp.exs ex.args, Rp.str nm, Rp.str ix, Rp.slice eW ws, Rp.its is, Rp.its es, Rp.slice eS bf, Rp.slice eS af] = _
    rw [its_eq, its_eq]; rfl
theorem op_bk (N : Nat) : OpensS Tryd.prog 54 N eBk BkOk := by
  refine OpensS.map (OpensS.struct Tryd.underlying54 rfl (.cons (c := 1) rfl (by kernel_rfl) (op_s N) (.cons (c := 1) rfl (by kernel_rfl)
    (OpensS.slice (E := eIt) (c := 12) (b := 216) Tryd.underlying52 (by kernel_rfl) (by kernel_rfl) (by decide) (fun _ => rfl) (fun n _ => op_it n)) .nil)) (by kernel_rfl)) ?_
  rintro ⟨nm, is, u⟩ ⟨_, ⟨h1, h2⟩, _⟩
  refine ⟨⟨nm, is⟩, ?_, reach_le h1, h2⟩
  show [Rp.str nm, Rp.its is] = _
  rw [its_eq]; rfl
theorem op_fd (N : Nat) : OpensS Tryd.prog 27 N eF (fun _ => True) :=
  OpensS.map (OpensS.struct Tryd.underlying27 rfl (.cons (c := 1) rfl (by kernel_rfl) (op_s N) (.cons (c := 1) rfl (by kernel_rfl) (op_i N) (.cons (c := 1) rfl (by kernel_rfl) (op_i N) (.cons (c := 1) rfl (by kernel_rfl) (op_i N) (.cons (c := 1) rfl (by kernel_rfl) (op_i N) .nil))))) (by kernel_rfl))
    fun ⟨a, b, c, d, e, _⟩ _ => ⟨⟨a, b, c, d, e⟩, rfl, trivial⟩
theorem op_cl (N : Nat) : OpensS Tryd.prog 25 N eC ClOk := by
  refine OpensS.map (OpensS.struct Tryd.underlying25 rfl (.cons (c := 1) rfl (by kernel_rfl) (op_s N) (.cons (c := 1) rfl (by kernel_rfl) (op_s N)
    (.cons (c := 1) rfl (by kernel_rfl) (OpensS.slice (E := eF) (c := 5) (b := 48) Tryd.underlying22 (by kernel_rfl) (by kernel_rfl) (by decide) (fun _ => rfl) (fun n _ => op_fd n))
    (.cons (c := 1) rfl (by kernel_rfl) (OpensS.slice (E := eBk) (c := 2) (b := 40) Tryd.underlying23 (by kernel_rfl) (by kernel_rfl) (by decide) (fun _ => rfl) (fun n _ => op_bk n)) .nil)))) (by kernel_rfl)) ?_
  rintro ⟨nm, pa, fs, bs, u⟩ ⟨_, _, ⟨h1, _⟩, ⟨h2, h3⟩, _⟩
  exact ⟨⟨nm, pa, fs, bs⟩, rfl, reach_le h1, reach_le h2, h3⟩
theorem ov_cls : OpensVS Tryd.prog 38 (fun l : List Cl => Rp.slice eC l) (fun l => l.length * 80 ≤ reachBytes ∧ ∀ c ∈ l, ClOk c) :=
  OpensVS.one (fun N => OpensS.slice (E := eC) (c := 4) (b := 80) Tryd.underlying38 (by kernel_rfl) (by kernel_rfl) (by decide) (fun _ => rfl) (fun n _ => op_cl n)) (cells_slice Tryd.underlying38)
theorem ov_s : OpensVS Tryd.prog 9 (fun l : List UInt8 => Rp.str l) (fun _ => True) := OpensVS.one op_s (cells_str Tryd.underlying9)
theorem ov_u8 : OpensVS Tryd.prog 5 (fun n : Int => Rp.int .u8 n) (fun _ => True) := OpensVS.one (fun N => OpensS.of (Opens.int Tryd.underlying5)) (cells_int Tryd.underlying5)
end Go.Proofs.YtcabngjnmipflaaDoor
