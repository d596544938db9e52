/- Lemmas for the claim, part 9: rules for walks, contracts of functions, the data they compute. No conditions. -/
import Derived.Test.YthlfacmpjehjmaaGreatDoorP8
import Derived.Test.YthlfacmpjehjmaaGreatDoorP1
import Derived.Test.YthlfacmpjehjmaaGreatDoorP3
import Derived.Test.YthlfacmpjehjmaaGreatDoorP7
import Derived.Test.YthlfacmpjehjmaaGreatDoorP2
import Derived.SizedLaws
import Derived.Test.YthlfacmpjehjmaaGreatDoorRows
set_option linter.unusedSimpArgs false
set_option maxRecDepth 8000
set_option linter.unusedVariables false
namespace Go.Proofs.YthlfacmpjehjmaaGreatDoor
open Go.Sim
theorem sameD_ok (d : Ds) : CallT Tryz.prog 11 [Rp.agg (eD d), Rp.agg (eD d)] [] (.one (Rp.bool true)) := by
  refine W.enter (fn := Tryz.f11) (n := 171) Tryz.func11 rfl Tryz.ntmps11 rfl (fun w₀ C₀ => ?_)
  simp only [argS]
  refine W.fact 0 rfl ds_fact fun hal => ?_
  obtain ⟨ha1, ha2, ha3, ha4⟩ := hal
  refine W.sr ?_
  refine L.box rfl rfl (GSpec.plain rfl (spec_box rfl (GetC.agg (Get.tmp rfl)))) (fun r2 => ?_)
  refine L.box rfl rfl (GSpec.plain rfl (spec_box rfl (GetC.agg (Get.tmp rfl)))) (fun r3 => ?_)
  refine L.p1 rfl rfl rfl (spec_assign rfl Get.cbool) ?_
  refine L.nt ?_
  refine W.seq ?_
  refine W.sr ?_
  refine L.p1 rfl rfl rfl (spec_fieldAddr (f := 0) (off' := 0) rfl Tryz.underlying27 rfl Tryz.sizeOf9 (Get.tmp rfl) rfl) ?_
  refine L.p1 rfl rfl rfl (spec_load1 (k := 1) rfl Tryz.isAgg9 (Get.tmp rfl) rfl rfl) ?_
  refine L.p1 rfl rfl rfl (spec_fieldAddr (f := 0) (off' := 0) rfl Tryz.underlying27 rfl Tryz.sizeOf9 (Get.tmp rfl) rfl) ?_
  refine L.p1 rfl rfl rfl (spec_load1 (k := 0) rfl Tryz.isAgg9 (Get.tmp rfl) rfl rfl) ?_
  refine L.p1 rfl rfl rfl (spec_neqS rfl (Get.tmp rfl) (Get.tmp rfl)) ?_
  refine L.mv rfl rfl rfl rfl rfl ?_
  refine L.op1 rfl rfl (GSpec.guard rfl rfl rfl fun hg => (spec_fieldAddr (f := 1) (off' := 1) rfl Tryz.underlying27 rfl Tryz.sizeOf22 (Get.tmp rfl) rfl)) ?_
  refine L.op1 rfl rfl (GSpec.guard rfl rfl rfl fun hg => (spec_load1 (k := 1) rfl Tryz.isAgg22 (Get.opt rfl hg) rfl rfl)) ?_
  refine L.op1 rfl rfl (GSpec.guard rfl rfl rfl fun hg => (spec_len rfl Tryz.underlying22 (Get.opt rfl hg))) ?_
  refine L.op1 rfl rfl (GSpec.guard rfl rfl rfl fun hg => (spec_fieldAddr (f := 1) (off' := 1) rfl Tryz.underlying27 rfl Tryz.sizeOf22 (Get.tmp rfl) rfl)) ?_
  refine L.op1 rfl rfl (GSpec.guard rfl rfl rfl fun hg => (spec_load1 (k := 0) rfl Tryz.isAgg22 (Get.opt rfl hg) rfl rfl)) ?_
  refine L.op1 rfl rfl (GSpec.guard rfl rfl rfl fun hg => (spec_len rfl Tryz.underlying22 (Get.opt rfl hg))) ?_
  refine L.op1 rfl rfl (GSpec.guard rfl rfl rfl fun hg => (spec_neq rfl (Get.opt rfl hg) (Get.opt rfl hg))) ?_
  refine L.p1 rfl rfl rfl (spec_or rfl (Get.tmp rfl) (fun hb => (Get.opt rfl hb))) ?_
  refine L.mv rfl rfl rfl rfl rfl ?_
  refine L.op1 rfl rfl (GSpec.guard rfl rfl rfl fun hg => (spec_fieldAddr (f := 2) (off' := 2) rfl Tryz.underlying27 rfl Tryz.sizeOf23 (Get.tmp rfl) rfl)) ?_
  refine L.op1 rfl rfl (GSpec.guard rfl rfl rfl fun hg => (spec_load1 (k := 1) rfl Tryz.isAgg23 (Get.opt rfl hg) rfl rfl)) ?_
  refine L.op1 rfl rfl (GSpec.guard rfl rfl rfl fun hg => (spec_len rfl Tryz.underlying23 (Get.opt rfl hg))) ?_
  refine L.op1 rfl rfl (GSpec.guard rfl rfl rfl fun hg => (spec_fieldAddr (f := 2) (off' := 2) rfl Tryz.underlying27 rfl Tryz.sizeOf23 (Get.tmp rfl) rfl)) ?_
  refine L.op1 rfl rfl (GSpec.guard rfl rfl rfl fun hg => (spec_load1 (k := 0) rfl Tryz.isAgg23 (Get.opt rfl hg) rfl rfl)) ?_
  refine L.op1 rfl rfl (GSpec.guard rfl rfl rfl fun hg => (spec_len rfl Tryz.underlying23 (Get.opt rfl hg))) ?_
  refine L.op1 rfl rfl (GSpec.guard rfl rfl rfl fun hg => (spec_neq rfl (Get.opt rfl hg) (Get.opt rfl hg))) ?_
  refine L.p1 rfl rfl rfl (spec_or rfl (Get.tmp rfl) (fun hb => (Get.opt rfl hb))) ?_
  refine L.mv rfl rfl rfl rfl rfl ?_
  refine L.op1 rfl rfl (GSpec.guard rfl rfl rfl fun hg => (spec_fieldAddr (f := 3) (off' := 3) rfl Tryz.underlying27 rfl Tryz.sizeOf24 (Get.tmp rfl) rfl)) ?_
  refine L.op1 rfl rfl (GSpec.guard rfl rfl rfl fun hg => (spec_load1 (k := 1) rfl Tryz.isAgg24 (Get.opt rfl hg) rfl rfl)) ?_
  refine L.op1 rfl rfl (GSpec.guard rfl rfl rfl fun hg => (spec_len rfl Tryz.underlying24 (Get.opt rfl hg))) ?_
  refine L.op1 rfl rfl (GSpec.guard rfl rfl rfl fun hg => (spec_fieldAddr (f := 3) (off' := 3) rfl Tryz.underlying27 rfl Tryz.sizeOf24 (Get.tmp rfl) rfl)) ?_
  refine L.op1 rfl rfl (GSpec.guard rfl rfl rfl fun hg => (spec_load1 (k := 0) rfl Tryz.isAgg24 (Get.opt rfl hg) rfl rfl)) ?_
  refine L.op1 rfl rfl (GSpec.guard rfl rfl rfl fun hg => (spec_len rfl Tryz.underlying24 (Get.opt rfl hg))) ?_
  refine L.op1 rfl rfl (GSpec.guard rfl rfl rfl fun hg => (spec_neq rfl (Get.opt rfl hg) (Get.opt rfl hg))) ?_
  refine L.p1 rfl rfl rfl (spec_or rfl (Get.tmp rfl) (fun hb => (Get.opt rfl hb))) ?_
  refine L.mv rfl rfl rfl rfl rfl ?_
  refine L.op1 rfl rfl (GSpec.guard rfl rfl rfl fun hg => (spec_fieldAddr (f := 4) (off' := 4) rfl Tryz.underlying27 rfl Tryz.sizeOf25 (Get.tmp rfl) rfl)) ?_
  refine L.op1 rfl rfl (GSpec.guard rfl rfl rfl fun hg => (spec_load1 (k := 1) rfl Tryz.isAgg25 (Get.opt rfl hg) rfl rfl)) ?_
  refine L.op1 rfl rfl (GSpec.guard rfl rfl rfl fun hg => (spec_len rfl Tryz.underlying25 (Get.opt rfl hg))) ?_
  refine L.op1 rfl rfl (GSpec.guard rfl rfl rfl fun hg => (spec_fieldAddr (f := 4) (off' := 4) rfl Tryz.underlying27 rfl Tryz.sizeOf25 (Get.tmp rfl) rfl)) ?_
  refine L.op1 rfl rfl (GSpec.guard rfl rfl rfl fun hg => (spec_load1 (k := 0) rfl Tryz.isAgg25 (Get.opt rfl hg) rfl rfl)) ?_
  refine L.op1 rfl rfl (GSpec.guard rfl rfl rfl fun hg => (spec_len rfl Tryz.underlying25 (Get.opt rfl hg))) ?_
  refine L.op1 rfl rfl (GSpec.guard rfl rfl rfl fun hg => (spec_neq rfl (Get.opt rfl hg) (Get.opt rfl hg))) ?_
  refine L.p1 rfl rfl rfl (spec_or rfl (Get.tmp rfl) (fun hb => (Get.opt rfl hb))) ?_
  refine L.nt ?_
  refine W.keep (.cons (t := 2) rfl (.cons (t := 3) rfl (.cons (t := 4) rfl (.cons (t := 53) rfl .nil)))) .refl ?_
  refine W.cond (Get.tmp rfl) (fun h1 => ?_) (fun h1 => ?_)
  · exfalso; have h := h1; simp at h
  · have ph1 := h1; try simp only [sbx] at ph1
    refine W.skip ?_
    refine N.thenW ?_
    refine W.seq ?_
    refine W.sr ?_
    refine L.p1 rfl rfl rfl (spec_assign rfl (Get.cint rfl)) ?_
    refine L.nt ?_
    refine W.block ?_
    refine W.loopK (σ := Nat) (.cons (t := 2) rfl (.cons (t := 3) rfl .nil)) (fun z => [(5, Rp.int .i64 (z : Nat))]) (fun z => []) (fun z => z ≤ d.inputs.length) (fun z => d.inputs.length - z) 0 (Nat.zero_le _) (.cons (t := 5) rfl .nil) (.cons 0 rfl (.cons 0 rfl .nil)) ?_
    intro i hI S' M' hS hM
    try dsimp only at hS hM
    simp only [List.cons_append, List.nil_append] at hS hM
    subst hS hM
    try dsimp only
    refine W.seq ?_
    refine W.sr ?_
    refine L.mv rfl rfl rfl rfl rfl ?_
    refine L.p1 rfl rfl rfl (spec_fieldAddr (f := 1) (off' := 1) rfl Tryz.underlying27 rfl Tryz.sizeOf22 (Get.tmp rfl) rfl) ?_
    refine L.p1 rfl rfl rfl (spec_load1 (k := 1) rfl Tryz.isAgg22 (Get.tmp rfl) rfl rfl) ?_
    refine L.p1 rfl rfl rfl (spec_len rfl Tryz.underlying22 (Get.tmp rfl)) ?_
    refine L.p1 rfl rfl rfl (spec_lss rfl (Get.tmp rfl) (Get.tmp rfl)) ?_
    refine L.nt ?_
    refine W.cond (Get.tmp rfl) (fun h2 => ?_) (fun h2 => ?_)
    · have ph2 := h2; try simp only [sbx] at ph2
      refine W.skip ?_
      refine N.thenW ?_
      refine W.seq ?_
      refine W.block ?_
      refine W.seq ?_
      apply W.any 11 mixed (by kernel_rfl)
      · apply Head.one rfl rfl (GSpec.plain rfl (spec_fieldAddr (f := 1) (off' := 1) rfl Tryz.underlying27 rfl Tryz.sizeOf22 (Get.tmp rfl) rfl))
        apply Head.one rfl rfl (GSpec.plain rfl (spec_load1 (k := 1) rfl Tryz.isAgg22 (Get.tmp rfl) rfl rfl))
        apply Head.one rfl rfl (GSpec.plain rfl (spec_move rfl (Get.tmp rfl)))
        apply Head.one rfl rfl (GSpec.plain rfl (spec_indexAddrD (E := eP) rfl Tryz.underlying22 Tryz.sizeOf84 (fun _ => rfl) (Get.tmp rfl) (Get.tmp rfl) (by omega)))
        apply Head.one rfl rfl (GSpec.plain rfl (spec_loadPA rfl Tryz.isAgg84 Tryz.sizeOf84 (Get.tmp rfl) rfl))
        apply Head.one rfl rfl (GSpec.plain rfl (spec_fieldAddr (f := 1) (off' := 1) rfl Tryz.underlying27 rfl Tryz.sizeOf22 (Get.tmp rfl) rfl))
        apply Head.one rfl rfl (GSpec.plain rfl (spec_load1 (k := 0) rfl Tryz.isAgg22 (Get.tmp rfl) rfl rfl))
        apply Head.one rfl rfl (GSpec.plain rfl (spec_move rfl (Get.tmp rfl)))
        apply Head.one rfl rfl (GSpec.plain rfl (spec_indexAddrD (E := eP) rfl Tryz.underlying22 Tryz.sizeOf84 (fun _ => rfl) (Get.tmp rfl) (Get.tmp rfl) (by omega)))
        apply Head.one rfl rfl (GSpec.plain rfl (spec_loadPA rfl Tryz.isAgg84 Tryz.sizeOf84 (Get.tmp rfl) rfl))
        apply Head.one rfl rfl (GSpec.plain rfl (neq84 rfl (Get.tmp rfl) (Get.tmp rfl)))
        exact Head.nil
      refine Fin.one ?_
      refine Fin.one ?_
      refine Fin.one ?_
      refine Fin.one ?_
      refine Fin.one ?_
      refine Fin.one ?_
      refine Fin.one ?_
      refine Fin.one ?_
      refine Fin.one ?_
      refine Fin.one ?_
      refine Fin.one ?_
      refine Fin.nil ?_
      refine L.nt ?_
      refine W.cond (Get.tmp rfl) (fun h3 => ?_) (fun h3 => ?_)
      · exfalso; have h := h3; simp at h
      · have ph3 := h3; try simp only [sbx] at ph3
        refine W.skip ?_
        refine N.blockNormal ?_
        refine N.thenW ?_
        refine W.region ?_
        refine L.mv rfl rfl rfl rfl rfl ?_
        first | refine L.op1 rfl rfl (GSpec.plain rfl (fit_i64 (by omega) (by omega) (spec_add rfl (Get.tmp rfl) (Get.cint rfl)))) ?_ | refine L.op1 rfl rfl (GSpec.plain rfl (spec_add rfl (Get.tmp rfl) (Get.cint rfl))) ?_
        refine L.as rfl rfl rfl rfl rfl ?_
        refine L.nil ?_
        refine N.roundK (i + 1) ?hI1 ?hmu1 ?hs1 ?hk1 ?hp1
        case hs1 => exact (.cons (t := 5) rfl .nil)
        case hk1 => exact (.cons (t := 2) rfl (.cons (t := 3) rfl .nil))
        case hp1 => exact (.cons 0 rfl (.cons 0 rfl .nil))
        all_goals (first | rfl | trivial | omega | (simp_all; done))
    · have ph2 := h2; try simp only [sbx] at ph2
      refine W.exit ?_
      refine N.thenExit ?_
      refine N.thenExit ?_
      refine N.blockExit ?_
      refine N.thenW ?_
      refine W.keep (.cons (t := 2) rfl (.cons (t := 3) rfl .nil)) .refl ?_
      refine W.seq ?_
      refine W.sr ?_
      refine L.p1 rfl rfl rfl (spec_assign rfl (Get.cint rfl)) ?_
      refine L.nt ?_
      refine W.block ?_
      refine W.loopK (σ := Nat) (.cons (t := 2) rfl (.cons (t := 3) rfl .nil)) (fun z => [(6, Rp.int .i64 (z : Nat))]) (fun z => []) (fun z => z ≤ d.wires.length) (fun z => d.wires.length - z) 0 (Nat.zero_le _) (.cons (t := 6) rfl .nil) (.cons 0 rfl (.cons 0 rfl .nil)) ?_
      intro i hI S' M' hS hM
      try dsimp only at hS hM
      simp only [List.cons_append, List.nil_append] at hS hM
      subst hS hM
      try dsimp only
      refine W.seq ?_
      refine W.sr ?_
      refine L.mv rfl rfl rfl rfl rfl ?_
      refine L.p1 rfl rfl rfl (spec_fieldAddr (f := 2) (off' := 2) rfl Tryz.underlying27 rfl Tryz.sizeOf23 (Get.tmp rfl) rfl) ?_
      refine L.p1 rfl rfl rfl (spec_load1 (k := 1) rfl Tryz.isAgg23 (Get.tmp rfl) rfl rfl) ?_
      refine L.p1 rfl rfl rfl (spec_len rfl Tryz.underlying23 (Get.tmp rfl)) ?_
      refine L.p1 rfl rfl rfl (spec_lss rfl (Get.tmp rfl) (Get.tmp rfl)) ?_
      refine L.nt ?_
      refine W.cond (Get.tmp rfl) (fun h4 => ?_) (fun h4 => ?_)
      · have ph4 := h4; try simp only [sbx] at ph4
        refine W.skip ?_
        refine N.thenW ?_
        refine W.seq ?_
        refine W.block ?_
        refine W.sr ?_
        refine L.p1 rfl rfl rfl (spec_fieldAddr (f := 2) (off' := 2) rfl Tryz.underlying27 rfl Tryz.sizeOf23 (Get.tmp rfl) rfl) ?_
        refine L.p1 rfl rfl rfl (spec_load1 (k := 1) rfl Tryz.isAgg23 (Get.tmp rfl) rfl rfl) ?_
        refine L.mv rfl rfl rfl rfl rfl ?_
        refine L.p1 rfl rfl rfl (spec_indexAddrD (E := eWr) rfl Tryz.underlying23 Tryz.sizeOf77 (fun _ => rfl) (Get.tmp rfl) (Get.tmp rfl) (by omega)) ?_
        refine L.p1 rfl rfl rfl (spec_loadPA rfl Tryz.isAgg77 Tryz.sizeOf77 (Get.tmp rfl) rfl) ?_
        refine L.box rfl rfl (GSpec.plain rfl (spec_alloc rfl ti77 z77)) (fun r7 => ?_)
        refine L.storeW (k := 0) rfl rfl rfl Tryz.sizeOf77 (Get.tmp rfl) (Get.tmp rfl) rfl rfl rfl ?_
        refine L.nt ?_
        refine W.sr ?_
        refine L.p1 rfl rfl rfl (spec_fieldAddr (f := 2) (off' := 2) rfl Tryz.underlying27 rfl Tryz.sizeOf23 (Get.tmp rfl) rfl) ?_
        refine L.p1 rfl rfl rfl (spec_load1 (k := 1) rfl Tryz.isAgg23 (Get.tmp rfl) rfl rfl) ?_
        refine L.mv rfl rfl rfl rfl rfl ?_
        refine L.p1 rfl rfl rfl (spec_indexAddrD (E := eWr) rfl Tryz.underlying23 Tryz.sizeOf77 (fun _ => rfl) (Get.tmp rfl) (Get.tmp rfl) (by omega)) ?_
        refine L.p1 rfl rfl rfl (spec_loadPA rfl Tryz.isAgg77 Tryz.sizeOf77 (Get.tmp rfl) rfl) ?_
        refine L.box rfl rfl (GSpec.plain rfl (spec_alloc rfl ti77 z77)) (fun r8 => ?_)
        refine L.storeW (k := 0) rfl rfl rfl Tryz.sizeOf77 (Get.tmp rfl) (Get.tmp rfl) rfl rfl rfl ?_
        refine L.nt ?_
        refine W.sr ?_
        refine L.p1 rfl rfl rfl (spec_fieldAddr (f := 0) (off' := 0) rfl Tryz.underlying77 rfl Tryz.sizeOf9 (Get.tmp rfl) rfl) ?_
        refine L.p1 rfl rfl rfl (spec_load1 (k := 1) rfl Tryz.isAgg9 (Get.tmp rfl) rfl rfl) ?_
        refine L.p1 rfl rfl rfl (spec_fieldAddr (f := 0) (off' := 0) rfl Tryz.underlying77 rfl Tryz.sizeOf9 (Get.tmp rfl) rfl) ?_
        refine L.p1 rfl rfl rfl (spec_load1 (k := 0) rfl Tryz.isAgg9 (Get.tmp rfl) rfl rfl) ?_
        refine L.p1 rfl rfl rfl (spec_neqS rfl (Get.tmp rfl) (Get.tmp rfl)) ?_
        refine L.mv rfl rfl rfl rfl rfl ?_
        refine L.op1 rfl rfl (GSpec.guard rfl rfl rfl fun hg => (spec_fieldAddr (f := 1) (off' := 1) rfl Tryz.underlying77 rfl Tryz.sizeOf3 (Get.tmp rfl) rfl)) ?_
        refine L.op1 rfl rfl (GSpec.guard rfl rfl rfl fun hg => (spec_load1 (k := 1) rfl Tryz.isAgg3 (Get.opt rfl hg) rfl rfl)) ?_
        refine L.op1 rfl rfl (GSpec.guard rfl rfl rfl fun hg => (spec_fieldAddr (f := 1) (off' := 1) rfl Tryz.underlying77 rfl Tryz.sizeOf3 (Get.tmp rfl) rfl)) ?_
        refine L.op1 rfl rfl (GSpec.guard rfl rfl rfl fun hg => (spec_load1 (k := 0) rfl Tryz.isAgg3 (Get.opt rfl hg) rfl rfl)) ?_
        refine L.op1 rfl rfl (GSpec.guard rfl rfl rfl fun hg => (spec_neq rfl (Get.opt rfl hg) (Get.opt rfl hg))) ?_
        refine L.p1 rfl rfl rfl (spec_or rfl (Get.tmp rfl) (fun hb => (Get.opt rfl hb))) ?_
        refine L.mv rfl rfl rfl rfl rfl ?_
        refine L.op1 rfl rfl (GSpec.guard rfl rfl rfl fun hg => (spec_fieldAddr (f := 2) (off' := 2) rfl Tryz.underlying77 rfl Tryz.sizeOf66 (Get.tmp rfl) rfl)) ?_
        refine L.op1 rfl rfl (GSpec.guard rfl rfl rfl fun hg => (spec_loadA (k := 1) rfl Tryz.isAgg66 Tryz.sizeOf66 (Get.opt rfl hg) rfl rfl)) ?_
        refine L.op1 rfl rfl (GSpec.guard rfl rfl rfl fun hg => (spec_fieldAddr (f := 2) (off' := 2) rfl Tryz.underlying77 rfl Tryz.sizeOf66 (Get.tmp rfl) rfl)) ?_
        refine L.op1 rfl rfl (GSpec.guard rfl rfl rfl fun hg => (spec_loadA (k := 0) rfl Tryz.isAgg66 Tryz.sizeOf66 (Get.opt rfl hg) rfl rfl)) ?_
        refine L.op1 rfl rfl (GSpec.guard rfl rfl rfl fun hg => (spec_call rfl Tryz.call53 (sameX_ok (d.wires.getD i default).expr) (.cons (Get.opt rfl hg) (.cons (Get.opt rfl hg) .nil)))) ?_
        refine L.op1 rfl rfl (GSpec.guard rfl rfl rfl fun hg => (spec_not rfl (Get.opt rfl hg))) ?_
        refine L.p1 rfl rfl rfl (spec_or rfl (Get.tmp rfl) (fun hb => (Get.opt rfl hb))) ?_
        refine L.nt ?_
        refine W.cond (Get.tmp rfl) (fun h5 => ?_) (fun h5 => ?_)
        · exfalso; have h := h5; simp at h
        · have ph5 := h5; try simp only [sbx] at ph5
          refine W.skip ?_
          refine N.blockNormal ?_
          refine N.thenW ?_
          refine W.region ?_
          refine L.mv rfl rfl rfl rfl rfl ?_
          first | refine L.op1 rfl rfl (GSpec.plain rfl (fit_i64 (by omega) (by omega) (spec_add rfl (Get.tmp rfl) (Get.cint rfl)))) ?_ | refine L.op1 rfl rfl (GSpec.plain rfl (spec_add rfl (Get.tmp rfl) (Get.cint rfl))) ?_
          refine L.as rfl rfl rfl rfl rfl ?_
          refine L.nil ?_
          refine N.roundK (i + 1) ?hI2 ?hmu2 ?hs2 ?hk2 ?hp2
          case hs2 => exact (.cons (t := 6) rfl .nil)
          case hk2 => exact (.cons (t := 2) rfl (.cons (t := 3) rfl .nil))
          case hp2 => exact (.cons 2 rfl (.cons 2 rfl .nil))
          all_goals (first | rfl | trivial | omega | (simp_all; done))
      · have ph4 := h4; try simp only [sbx] at ph4
        refine W.exit ?_
        refine N.thenExit ?_
        refine N.thenExit ?_
        refine N.blockExit ?_
        refine N.thenW ?_
        refine W.keep (.cons (t := 2) rfl (.cons (t := 3) rfl .nil)) .refl ?_
        refine W.seq ?_
        refine W.sr ?_
        refine L.p1 rfl rfl rfl (spec_assign rfl (Get.cint rfl)) ?_
        refine L.nt ?_
        refine W.block ?_
        refine W.loopK (σ := Nat) (.cons (t := 2) rfl (.cons (t := 3) rfl .nil)) (fun z => [(9, Rp.int .i64 (z : Nat))]) (fun z => []) (fun z => z ≤ d.regs.length) (fun z => d.regs.length - z) 0 (Nat.zero_le _) (.cons (t := 9) rfl .nil) (.cons 0 rfl (.cons 0 rfl .nil)) ?_
        intro i hI S' M' hS hM
        try dsimp only at hS hM
        simp only [List.cons_append, List.nil_append] at hS hM
        subst hS hM
        try dsimp only
        refine W.seq ?_
        refine W.sr ?_
        refine L.mv rfl rfl rfl rfl rfl ?_
        refine L.p1 rfl rfl rfl (spec_fieldAddr (f := 3) (off' := 3) rfl Tryz.underlying27 rfl Tryz.sizeOf24 (Get.tmp rfl) rfl) ?_
        refine L.p1 rfl rfl rfl (spec_load1 (k := 1) rfl Tryz.isAgg24 (Get.tmp rfl) rfl rfl) ?_
        refine L.p1 rfl rfl rfl (spec_len rfl Tryz.underlying24 (Get.tmp rfl)) ?_
        refine L.p1 rfl rfl rfl (spec_lss rfl (Get.tmp rfl) (Get.tmp rfl)) ?_
        refine L.nt ?_
        refine W.cond (Get.tmp rfl) (fun h6 => ?_) (fun h6 => ?_)
        · have ph6 := h6; try simp only [sbx] at ph6
          refine W.skip ?_
          refine N.thenW ?_
          refine W.seq ?_
          refine W.block ?_
          refine W.sr ?_
          refine L.p1 rfl rfl rfl (spec_fieldAddr (f := 3) (off' := 3) rfl Tryz.underlying27 rfl Tryz.sizeOf24 (Get.tmp rfl) rfl) ?_
          refine L.p1 rfl rfl rfl (spec_load1 (k := 1) rfl Tryz.isAgg24 (Get.tmp rfl) rfl rfl) ?_
          refine L.mv rfl rfl rfl rfl rfl ?_
          refine L.p1 rfl rfl rfl (spec_indexAddrD (E := eRg) rfl Tryz.underlying24 Tryz.sizeOf81 (fun _ => rfl) (Get.tmp rfl) (Get.tmp rfl) (by omega)) ?_
          refine L.p1 rfl rfl rfl (spec_loadPA rfl Tryz.isAgg81 Tryz.sizeOf81 (Get.tmp rfl) rfl) ?_
          refine L.box rfl rfl (GSpec.plain rfl (spec_alloc rfl ti81 z81)) (fun r10 => ?_)
          refine L.storeW (k := 0) rfl rfl rfl Tryz.sizeOf81 (Get.tmp rfl) (Get.tmp rfl) rfl rfl rfl ?_
          refine L.nt ?_
          refine W.sr ?_
          refine L.p1 rfl rfl rfl (spec_fieldAddr (f := 3) (off' := 3) rfl Tryz.underlying27 rfl Tryz.sizeOf24 (Get.tmp rfl) rfl) ?_
          refine L.p1 rfl rfl rfl (spec_load1 (k := 1) rfl Tryz.isAgg24 (Get.tmp rfl) rfl rfl) ?_
          refine L.mv rfl rfl rfl rfl rfl ?_
          refine L.p1 rfl rfl rfl (spec_indexAddrD (E := eRg) rfl Tryz.underlying24 Tryz.sizeOf81 (fun _ => rfl) (Get.tmp rfl) (Get.tmp rfl) (by omega)) ?_
          refine L.p1 rfl rfl rfl (spec_loadPA rfl Tryz.isAgg81 Tryz.sizeOf81 (Get.tmp rfl) rfl) ?_
          refine L.box rfl rfl (GSpec.plain rfl (spec_alloc rfl ti81 z81)) (fun r11 => ?_)
          refine L.storeW (k := 0) rfl rfl rfl Tryz.sizeOf81 (Get.tmp rfl) (Get.tmp rfl) rfl rfl rfl ?_
          refine L.nt ?_
          refine W.sr ?_
          refine L.p1 rfl rfl rfl (spec_fieldAddr (f := 0) (off' := 0) rfl Tryz.underlying81 rfl Tryz.sizeOf9 (Get.tmp rfl) rfl) ?_
          refine L.p1 rfl rfl rfl (spec_load1 (k := 1) rfl Tryz.isAgg9 (Get.tmp rfl) rfl rfl) ?_
          refine L.p1 rfl rfl rfl (spec_fieldAddr (f := 0) (off' := 0) rfl Tryz.underlying81 rfl Tryz.sizeOf9 (Get.tmp rfl) rfl) ?_
          refine L.p1 rfl rfl rfl (spec_load1 (k := 0) rfl Tryz.isAgg9 (Get.tmp rfl) rfl rfl) ?_
          refine L.p1 rfl rfl rfl (spec_neqS rfl (Get.tmp rfl) (Get.tmp rfl)) ?_
          refine L.mv rfl rfl rfl rfl rfl ?_
          refine L.op1 rfl rfl (GSpec.guard rfl rfl rfl fun hg => (spec_fieldAddr (f := 1) (off' := 1) rfl Tryz.underlying81 rfl Tryz.sizeOf3 (Get.tmp rfl) rfl)) ?_
          refine L.op1 rfl rfl (GSpec.guard rfl rfl rfl fun hg => (spec_load1 (k := 1) rfl Tryz.isAgg3 (Get.opt rfl hg) rfl rfl)) ?_
          refine L.op1 rfl rfl (GSpec.guard rfl rfl rfl fun hg => (spec_fieldAddr (f := 1) (off' := 1) rfl Tryz.underlying81 rfl Tryz.sizeOf3 (Get.tmp rfl) rfl)) ?_
          refine L.op1 rfl rfl (GSpec.guard rfl rfl rfl fun hg => (spec_load1 (k := 0) rfl Tryz.isAgg3 (Get.opt rfl hg) rfl rfl)) ?_
          refine L.op1 rfl rfl (GSpec.guard rfl rfl rfl fun hg => (spec_neq rfl (Get.opt rfl hg) (Get.opt rfl hg))) ?_
          refine L.p1 rfl rfl rfl (spec_or rfl (Get.tmp rfl) (fun hb => (Get.opt rfl hb))) ?_
          refine L.mv rfl rfl rfl rfl rfl ?_
          refine L.op1 rfl rfl (GSpec.guard rfl rfl rfl fun hg => (spec_fieldAddr (f := 2) (off' := 2) rfl Tryz.underlying81 rfl Tryz.sizeOf3 (Get.tmp rfl) rfl)) ?_
          refine L.op1 rfl rfl (GSpec.guard rfl rfl rfl fun hg => (spec_load1 (k := 1) rfl Tryz.isAgg3 (Get.opt rfl hg) rfl rfl)) ?_
          refine L.op1 rfl rfl (GSpec.guard rfl rfl rfl fun hg => (spec_fieldAddr (f := 2) (off' := 2) rfl Tryz.underlying81 rfl Tryz.sizeOf3 (Get.tmp rfl) rfl)) ?_
          refine L.op1 rfl rfl (GSpec.guard rfl rfl rfl fun hg => (spec_load1 (k := 0) rfl Tryz.isAgg3 (Get.opt rfl hg) rfl rfl)) ?_
          refine L.op1 rfl rfl (GSpec.guard rfl rfl rfl fun hg => (spec_neq rfl (Get.opt rfl hg) (Get.opt rfl hg))) ?_
          refine L.p1 rfl rfl rfl (spec_or rfl (Get.tmp rfl) (fun hb => (Get.opt rfl hb))) ?_
          refine L.mv rfl rfl rfl rfl rfl ?_
          refine L.op1 rfl rfl (GSpec.guard rfl rfl rfl fun hg => (spec_fieldAddr (f := 3) (off' := 3) rfl Tryz.underlying81 rfl Tryz.sizeOf66 (Get.tmp rfl) rfl)) ?_
          refine L.op1 rfl rfl (GSpec.guard rfl rfl rfl fun hg => (spec_loadA (k := 1) rfl Tryz.isAgg66 Tryz.sizeOf66 (Get.opt rfl hg) rfl rfl)) ?_
          refine L.op1 rfl rfl (GSpec.guard rfl rfl rfl fun hg => (spec_fieldAddr (f := 3) (off' := 3) rfl Tryz.underlying81 rfl Tryz.sizeOf66 (Get.tmp rfl) rfl)) ?_
          refine L.op1 rfl rfl (GSpec.guard rfl rfl rfl fun hg => (spec_loadA (k := 0) rfl Tryz.isAgg66 Tryz.sizeOf66 (Get.opt rfl hg) rfl rfl)) ?_
          refine L.op1 rfl rfl (GSpec.guard rfl rfl rfl fun hg => (spec_call rfl Tryz.call53 (sameX_ok (d.regs.getD i default).next) (.cons (Get.opt rfl hg) (.cons (Get.opt rfl hg) .nil)))) ?_
          refine L.op1 rfl rfl (GSpec.guard rfl rfl rfl fun hg => (spec_not rfl (Get.opt rfl hg))) ?_
          refine L.p1 rfl rfl rfl (spec_or rfl (Get.tmp rfl) (fun hb => (Get.opt rfl hb))) ?_
          refine L.nt ?_
          refine W.cond (Get.tmp rfl) (fun h7 => ?_) (fun h7 => ?_)
          · exfalso; have h := h7; simp at h
          · have ph7 := h7; try simp only [sbx] at ph7
            refine W.skip ?_
            refine N.blockNormal ?_
            refine N.thenW ?_
            refine W.region ?_
            refine L.mv rfl rfl rfl rfl rfl ?_
            first | refine L.op1 rfl rfl (GSpec.plain rfl (fit_i64 (by omega) (by omega) (spec_add rfl (Get.tmp rfl) (Get.cint rfl)))) ?_ | refine L.op1 rfl rfl (GSpec.plain rfl (spec_add rfl (Get.tmp rfl) (Get.cint rfl))) ?_
            refine L.as rfl rfl rfl rfl rfl ?_
            refine L.nil ?_
            refine N.roundK (i + 1) ?hI3 ?hmu3 ?hs3 ?hk3 ?hp3
            case hs3 => exact (.cons (t := 9) rfl .nil)
            case hk3 => exact (.cons (t := 2) rfl (.cons (t := 3) rfl .nil))
            case hp3 => exact (.cons 2 rfl (.cons 2 rfl .nil))
            all_goals (first | rfl | trivial | omega | (simp_all; done))
        · have ph6 := h6; try simp only [sbx] at ph6
          refine W.exit ?_
          refine N.thenExit ?_
          refine N.thenExit ?_
          refine N.blockExit ?_
          refine N.thenW ?_
          refine W.keep (.cons (t := 2) rfl (.cons (t := 3) rfl .nil)) .refl ?_
          refine W.seq ?_
          refine W.sr ?_
          refine L.p1 rfl rfl rfl (spec_assign rfl (Get.cint rfl)) ?_
          refine L.nt ?_
          refine W.block ?_
          refine W.loopK (σ := Nat) (.cons (t := 2) rfl (.cons (t := 3) rfl .nil)) (fun z => [(12, Rp.int .i64 (z : Nat))]) (fun z => []) (fun z => z ≤ d.outputs.length) (fun z => d.outputs.length - z) 0 (Nat.zero_le _) (.cons (t := 12) rfl .nil) (.cons 0 rfl (.cons 0 rfl .nil)) ?_
          intro i hI S' M' hS hM
          try dsimp only at hS hM
          simp only [List.cons_append, List.nil_append] at hS hM
          subst hS hM
          try dsimp only
          refine W.seq ?_
          refine W.sr ?_
          refine L.mv rfl rfl rfl rfl rfl ?_
          refine L.p1 rfl rfl rfl (spec_fieldAddr (f := 4) (off' := 4) rfl Tryz.underlying27 rfl Tryz.sizeOf25 (Get.tmp rfl) rfl) ?_
          refine L.p1 rfl rfl rfl (spec_load1 (k := 1) rfl Tryz.isAgg25 (Get.tmp rfl) rfl rfl) ?_
          refine L.p1 rfl rfl rfl (spec_len rfl Tryz.underlying25 (Get.tmp rfl)) ?_
          refine L.p1 rfl rfl rfl (spec_lss rfl (Get.tmp rfl) (Get.tmp rfl)) ?_
          refine L.nt ?_
          refine W.cond (Get.tmp rfl) (fun h8 => ?_) (fun h8 => ?_)
          · have ph8 := h8; try simp only [sbx] at ph8
            refine W.skip ?_
            refine N.thenW ?_
            refine W.seq ?_
            refine W.block ?_
            refine W.seq ?_
            apply W.any 11 mixed (by kernel_rfl)
            · apply Head.one rfl rfl (GSpec.plain rfl (spec_fieldAddr (f := 4) (off' := 4) rfl Tryz.underlying27 rfl Tryz.sizeOf25 (Get.tmp rfl) rfl))
              apply Head.one rfl rfl (GSpec.plain rfl (spec_load1 (k := 1) rfl Tryz.isAgg25 (Get.tmp rfl) rfl rfl))
              apply Head.one rfl rfl (GSpec.plain rfl (spec_move rfl (Get.tmp rfl)))
              apply Head.one rfl rfl (GSpec.plain rfl (spec_indexAddrD (E := eS) rfl Tryz.underlying25 Tryz.sizeOf9 (fun _ => rfl) (Get.tmp rfl) (Get.tmp rfl) (by omega)))
              apply Head.one rfl rfl (GSpec.plain rfl (spec_loadP1 rfl Tryz.isAgg9 (Get.tmp rfl)))
              apply Head.one rfl rfl (GSpec.plain rfl (spec_fieldAddr (f := 4) (off' := 4) rfl Tryz.underlying27 rfl Tryz.sizeOf25 (Get.tmp rfl) rfl))
              apply Head.one rfl rfl (GSpec.plain rfl (spec_load1 (k := 0) rfl Tryz.isAgg25 (Get.tmp rfl) rfl rfl))
              apply Head.one rfl rfl (GSpec.plain rfl (spec_move rfl (Get.tmp rfl)))
              apply Head.one rfl rfl (GSpec.plain rfl (spec_indexAddrD (E := eS) rfl Tryz.underlying25 Tryz.sizeOf9 (fun _ => rfl) (Get.tmp rfl) (Get.tmp rfl) (by omega)))
              apply Head.one rfl rfl (GSpec.plain rfl (spec_loadP1 rfl Tryz.isAgg9 (Get.tmp rfl)))
              apply Head.one rfl rfl (GSpec.plain rfl (spec_neqS rfl (Get.tmp rfl) (Get.tmp rfl)))
              exact Head.nil
            refine Fin.one ?_
            refine Fin.one ?_
            refine Fin.one ?_
            refine Fin.one ?_
            refine Fin.one ?_
            refine Fin.one ?_
            refine Fin.one ?_
            refine Fin.one ?_
            refine Fin.one ?_
            refine Fin.one ?_
            refine Fin.one ?_
            refine Fin.nil ?_
            refine L.nt ?_
            refine W.cond (Get.tmp rfl) (fun h9 => ?_) (fun h9 => ?_)
            · exfalso; have h := h9; simp at h
            · have ph9 := h9; try simp only [sbx] at ph9
              refine W.skip ?_
              refine N.blockNormal ?_
              refine N.thenW ?_
              refine W.region ?_
              refine L.mv rfl rfl rfl rfl rfl ?_
              first | refine L.op1 rfl rfl (GSpec.plain rfl (fit_i64 (by omega) (by omega) (spec_add rfl (Get.tmp rfl) (Get.cint rfl)))) ?_ | refine L.op1 rfl rfl (GSpec.plain rfl (spec_add rfl (Get.tmp rfl) (Get.cint rfl))) ?_
              refine L.as rfl rfl rfl rfl rfl ?_
              refine L.nil ?_
              refine N.roundK (i + 1) ?hI4 ?hmu4 ?hs4 ?hk4 ?hp4
              case hs4 => exact (.cons (t := 12) rfl .nil)
              case hk4 => exact (.cons (t := 2) rfl (.cons (t := 3) rfl .nil))
              case hp4 => exact (.cons 0 rfl (.cons 0 rfl .nil))
              all_goals (first | rfl | trivial | omega | (simp_all; done))
          · have ph8 := h8; try simp only [sbx] at ph8
            refine W.exit ?_
            refine N.thenExit ?_
            refine N.thenExit ?_
            refine N.blockExit ?_
            refine N.thenW ?_
            refine W.keep .nil .refl ?_
            refine W.sr ?_
            refine L.p1 rfl rfl rfl (spec_assign rfl Get.cbool) ?_
            refine L.nt ?_
            refine W.ret ?_
            refine N.ret () rfl (.tmp (t := 4) (Get.tmp rfl) .nil) (res1 (eqB ?_)) .nil (fun _ _ h => h)
            all_goals (first | rfl | (simp_all []; done) | omega)

end Go.Proofs.YthlfacmpjehjmaaGreatDoor
/- The example of the law. -/
set_option linter.unusedVariables false
namespace Go.Proofs.YthlfacmpjehjmaaGreatDoor
open Go.Sim
theorem awake_all : (((((((((true && true) && decide (seeV W1 sIrdy 0 = 1)) && decide (seeV W1 sIrdy 1 = 1)) && decide (seeV W1 sIrdy 2 = 0)) && decide (seeV W2 sOv 1 = 0)) && decide (seeV W2 sOv 2 = 1)) && decide (seeV W2 sOt 2 = 2)) && decide (seeV W2 sOv 3 = 1)) && decide (seeV W2 sOt 3 = 1)) = true := by
  obtain ⟨a1, a2, a3⟩ := awake_1
  obtain ⟨b1, b2, b3, b4, b5⟩ := awake_2
  rw [a1, a2, a3, b1, b2, b3, b4, b5]; rfl
end Go.Proofs.YthlfacmpjehjmaaGreatDoor
set_option linter.unusedSimpArgs false
set_option maxRecDepth 8000
set_option linter.unusedVariables false
namespace Go.Proofs.YthlfacmpjehjmaaGreatDoor
open Go.Sim
theorem bit_ok (b : Bool) : CallT Tryz.prog 71 [Rp.bool b] [] (.one (Rp.int .i64 (truthE b))) := by
  refine W.enter (fn := Tryz.f71) (n := 4) Tryz.func71 rfl Tryz.ntmps71 rfl (fun w₀ C₀ => ?_)
  simp only [argS]
  refine W.sr ?_
  refine L.p1 rfl rfl rfl (spec_assign rfl (Get.cint rfl)) ?_
  refine L.nt ?_
  refine W.seq ?_
  refine W.sr ?_
  refine L.mv rfl rfl rfl rfl rfl ?_
  refine L.nt ?_
  refine W.cond (Get.tmp rfl) (fun h1 => ?_) (fun h1 => ?_)
  · have ph1 := h1; try simp only [sbx] at ph1
    refine W.sr ?_
    refine L.p1 rfl rfl rfl (spec_assign rfl (Get.cint rfl)) ?_
    refine L.nt ?_
    refine W.ret ?_
    refine N.ret () rfl (.tmp (t := 2) (Get.tmp rfl) .nil) (res1 (eqI ?_)) .nil (fun _ _ h => h)
    rw [h1]; rfl
  · have ph1 := h1; try simp only [sbx] at ph1
    refine W.skip ?_
    refine N.thenW ?_
    refine W.sr ?_
    refine L.p1 rfl rfl rfl (spec_assign rfl (Get.cint rfl)) ?_
    refine L.nt ?_
    refine W.ret ?_
    refine N.ret () rfl (.tmp (t := 2) (Get.tmp rfl) .nil) (res1 (eqI ?_)) .nil (fun _ _ h => h)
    rw [h1]; rfl

end Go.Proofs.YthlfacmpjehjmaaGreatDoor
set_option linter.unusedSimpArgs false
set_option maxRecDepth 8000
set_option linter.unusedVariables false
namespace Go.Proofs.YthlfacmpjehjmaaGreatDoor
open Go.Sim
theorem see_ok (w : Wv) (s : List UInt8) (t : Int) (h0 : 0 ≤ t) (h1 : t ≤ 1000) : CallT Tryz.prog 25 [Rp.agg (eWv w), Rp.str s, Rp.int .i64 t] [] (.one (Rp.int .i64 (seeV w s t))) := by
  refine W.enter (fn := Tryz.f25) (n := 46) Tryz.func25 rfl Tryz.ntmps25 rfl (fun w₀ C₀ => ?_)
  simp only [argS]
  refine W.sr ?_
  refine L.box rfl rfl (GSpec.plain rfl (spec_box rfl (GetC.agg (Get.tmp rfl)))) (fun r3 => ?_)
  refine L.p1 rfl rfl rfl (spec_assign rfl (Get.cint rfl)) ?_
  refine L.nt ?_
  refine W.seq ?_
  refine W.sr ?_
  refine L.p1 rfl rfl rfl (spec_fieldAddr (f := 0) (off' := 0) rfl Tryz.underlying45 rfl Tryz.sizeOf25 (Get.tmp rfl) rfl) ?_
  refine L.p1 rfl rfl rfl (spec_load1 (k := 0) rfl Tryz.isAgg25 (Get.tmp rfl) rfl rfl) ?_
  refine L.p1 rfl rfl rfl (spec_len rfl Tryz.underlying25 (Get.tmp rfl)) ?_
  refine L.p1 rfl rfl rfl (spec_move rfl (Get.cint rfl)) ?_
  refine L.nt ?_
  refine W.fact 10 rfl slice_fact fun hnl => ?_
  refine W.block ?_
  refine W.loopK (σ := Nat) (.cons (t := 1) rfl (.cons (t := 2) rfl (.cons (t := 3) rfl (.cons (t := 10) rfl (.cons (t := 11) rfl .nil))))) (fun z => [(12, Rp.int .i64 (z : Nat))]) (fun z => []) (fun z => z ≤ w.names.length ∧ ∀ j : Nat, j < z → seeP w s t j = false) (fun z => w.names.length - z) 0 ⟨Nat.zero_le _, fun j hj => by omega⟩ (.cons (t := 12) rfl .nil) (.cons 0 rfl .nil) ?_
  intro i hI S' M' hS hM
  obtain ⟨hI1, hI2⟩ := hI
  try dsimp only at hS hM
  simp only [List.cons_append, List.nil_append] at hS hM
  subst hS hM
  try dsimp only
  refine W.sr ?_
  refine L.p1 rfl rfl rfl (spec_lss rfl (Get.tmp rfl) (Get.tmp rfl)) ?_
  refine L.nt ?_
  refine W.seq ?_
  refine W.cond (Get.tmp rfl) (fun h1 => ?_) (fun h1 => ?_)
  · have ph1 := h1; try simp only [sbx] at ph1
    refine W.skip ?_
    refine N.thenW ?_
    refine W.seq ?_
    refine W.block ?_
    refine W.sr ?_
    refine L.mv rfl rfl rfl rfl rfl ?_
    refine L.p1 rfl rfl rfl (spec_indexAddrD (E := eS) rfl Tryz.underlying25 Tryz.sizeOf9 (fun _ => rfl) (Get.tmp rfl) (Get.tmp rfl) (by (first | omega | (simp only [Int.toNat_natCast]; omega)))) ?_
    refine L.p1 rfl rfl rfl (spec_loadP1 rfl Tryz.isAgg9 (Get.tmp rfl)) ?_
    refine L.as rfl rfl rfl rfl rfl ?_
    refine L.as rfl rfl rfl rfl rfl ?_
    refine L.nt ?_
    refine W.sr ?_
    refine L.mv rfl rfl rfl rfl rfl ?_
    refine L.mv rfl rfl rfl rfl rfl ?_
    refine L.p1 rfl rfl rfl (spec_eqlS rfl (Get.tmp rfl) (Get.tmp rfl)) ?_
    refine L.mv rfl rfl rfl rfl rfl ?_
    refine L.op1 rfl rfl (GSpec.guard rfl rfl rfl fun hg => (spec_move rfl (Get.tmp rfl))) ?_
    refine L.op1 rfl rfl (GSpec.guard rfl rfl rfl fun hg => (spec_fieldAddr (f := 1) (off' := 1) rfl Tryz.underlying45 rfl Tryz.sizeOf43 (Get.tmp rfl) rfl)) ?_
    refine L.op1 rfl rfl (GSpec.guard rfl rfl rfl fun hg => (spec_load1 (k := 0) rfl Tryz.isAgg43 (Get.opt rfl hg) rfl rfl)) ?_
    refine L.op1 rfl rfl (GSpec.guard rfl rfl rfl fun hg => (spec_len rfl Tryz.underlying43 (Get.opt rfl hg))) ?_
    refine L.op1 rfl rfl (GSpec.guard rfl rfl rfl fun hg => (spec_lss rfl (Get.opt rfl hg) (Get.opt rfl hg))) ?_
    refine L.p1 rfl rfl rfl (spec_and rfl (Get.tmp rfl) (fun hb => (Get.opt rfl hb))) ?_
    refine L.mv rfl rfl rfl rfl rfl ?_
    refine L.op1 rfl rfl (GSpec.guard rfl rfl rfl fun hg => (spec_move rfl (Get.tmp rfl))) ?_
    refine L.op1 rfl rfl (GSpec.guard rfl rfl rfl fun hg => (spec_fieldAddr (f := 1) (off' := 1) rfl Tryz.underlying45 rfl Tryz.sizeOf43 (Get.tmp rfl) rfl)) ?_
    refine L.op1 rfl rfl (GSpec.guard rfl rfl rfl fun hg => (spec_load1 (k := 0) rfl Tryz.isAgg43 (Get.opt rfl hg) rfl rfl)) ?_
    refine L.op1 rfl rfl (GSpec.guard rfl rfl rfl fun hg => (spec_move rfl (Get.tmp rfl))) ?_
    refine L.op1 rfl rfl (GSpec.guard rfl rfl rfl fun hg => (spec_indexAddrD (E := eII) rfl Tryz.underlying43 Tryz.sizeOf92 (fun _ => rfl) (Get.opt rfl hg) (Get.opt rfl hg) (by (simp only [Bool.and_eq_true, decide_eq_true_eq] at hg; omega)))) ?_
    refine L.op1 rfl rfl (GSpec.guard rfl rfl rfl fun hg => (spec_loadP1 rfl Tryz.isAgg92 (Get.opt rfl hg))) ?_
    refine L.op1 rfl rfl (GSpec.guard rfl rfl rfl fun hg => (spec_len rfl Tryz.underlying92 (Get.opt rfl hg))) ?_
    refine L.op1 rfl rfl (GSpec.guard rfl rfl rfl fun hg => (spec_lss rfl (Get.opt rfl hg) (Get.opt rfl hg))) ?_
    refine L.p1 rfl rfl rfl (spec_and rfl (Get.tmp rfl) (fun hb => (Get.opt rfl hb))) ?_
    refine L.nt ?_
    refine W.cond (Get.tmp rfl) (fun h2 => ?_) (fun h2 => ?_)
    · have hp : seeP w s t i = true := by have h := h2; exact h
      have hp2 := hp
      unfold seeP at hp2
      simp only [Bool.and_eq_true, decide_eq_true_eq] at hp2
      refine W.sr ?_
      refine L.p1 rfl rfl rfl (spec_fieldAddr (f := 1) (off' := 1) rfl Tryz.underlying45 rfl Tryz.sizeOf43 (Get.tmp rfl) rfl) ?_
      refine L.p1 rfl rfl rfl (spec_load1 (k := 0) rfl Tryz.isAgg43 (Get.tmp rfl) rfl rfl) ?_
      refine L.mv rfl rfl rfl rfl rfl ?_
      refine L.p1 rfl rfl rfl (spec_indexAddrD (E := eII) rfl Tryz.underlying43 Tryz.sizeOf92 (fun _ => rfl) (Get.tmp rfl) (Get.tmp rfl) (by (first | omega | (simp only [Int.toNat_natCast]; omega)))) ?_
      refine L.p1 rfl rfl rfl (spec_loadP1 rfl Tryz.isAgg92 (Get.tmp rfl)) ?_
      refine L.mv rfl rfl rfl rfl rfl ?_
      refine L.p1 rfl rfl rfl (spec_indexAddrD (E := eI) rfl Tryz.underlying92 Tryz.sizeOf3 (fun _ => rfl) (Get.tmp rfl) (Get.tmp rfl) (by (first | omega | (simp only [Int.toNat_natCast]; omega)))) ?_
      refine L.p1 rfl rfl rfl (spec_loadP1 rfl Tryz.isAgg3 (Get.tmp rfl)) ?_
      refine L.as rfl rfl rfl rfl rfl ?_
      refine L.nt ?_
      refine W.ret ?_
      refine N.ret () rfl (.tmp (t := 6) (Get.tmp rfl) .nil) (res1 (eqI ?_)) .nil (fun _ _ h => h)
      exact (see_yes (by omega) hp hI2).symm
    · have ph2 := h2; try simp only [sbx] at ph2
      refine W.skip ?_
      refine N.blockNormal ?_
      refine N.thenW ?_
      refine W.region ?_
      first | refine L.op1 rfl rfl (GSpec.plain rfl (fit_i64 (by (first | omega | (simp only [Int.toNat_natCast]; omega))) (by (first | omega | (simp only [Int.toNat_natCast]; omega))) (spec_add rfl (Get.tmp rfl) (Get.cint rfl)))) ?_ | refine L.op1 rfl rfl (GSpec.plain rfl (spec_add rfl (Get.tmp rfl) (Get.cint rfl))) ?_
      refine L.mv rfl rfl rfl rfl rfl ?_
      refine L.nil ?_
      refine N.roundK (i + 1) ?hI1 ?hmu1 ?hs1 ?hk1 ?hp1
      case hs1 => exact (.cons (t := 12) rfl .nil)
      case hk1 => exact (.cons (t := 1) rfl (.cons (t := 2) rfl (.cons (t := 3) rfl (.cons (t := 10) rfl (.cons (t := 11) rfl .nil)))))
      case hp1 => exact (.cons 0 rfl .nil)
      case hI1 => exact ⟨by omega, upto hI2 h2⟩
      case hmu1 => omega
  · have ph1 := h1; try simp only [sbx] at ph1
    refine W.exit ?_
    refine N.thenExit ?_
    refine N.thenExit ?_
    refine N.blockExit ?_
    refine N.thenW ?_
    refine W.keep .nil .refl ?_
    refine W.sr ?_
    refine L.p1 rfl rfl rfl (spec_assign rfl (Get.cint rfl)) ?_
    refine L.nt ?_
    refine W.ret ?_
    refine N.ret () rfl (.tmp (t := 6) (Get.tmp rfl) .nil) (res1 (eqI ?_)) .nil (fun _ _ h => h)
    exact (see_no fun j hj => hI2 j (by omega)).symm

theorem run_ok (d : Ds) (l : List Rw) (hq : DsQ d) : CallT Tryz.prog 24 [Rp.agg (eD d), Rp.slice eRw l] [] (.one (Rp.tuple [Rp.agg (eWv (waveE d (rowsS l))), Rp.bool true])) := by
  refine W.enter (fn := Tryz.f24) (n := 55) Tryz.func24 rfl Tryz.ntmps24 rfl (fun w₀ C₀ => ?_)
  simp only [argS]
  refine W.fact 1 rfl slice_fact fun hl => ?_
  have hl2 : (l.take 60).length = min l.length 60 := by rw [List.length_take, Nat.min_comm]
  have hl3 : (rowsS l).length = min l.length 60 := by rw [rowsS, List.length_map, hl2]
  refine W.sr ?_
  refine L.box rfl rfl (GSpec.plain rfl (spec_box rfl (GetC.agg (Get.tmp rfl)))) (fun r2 => ?_)
  refine L.box rfl rfl (GSpec.plain rfl (spec_alloc rfl ti45 z45)) (fun r4 => ?_)
  refine L.p1 rfl rfl rfl (spec_assign rfl Get.cbool) ?_
  refine L.nt ?_
  refine W.sr ?_
  refine L.p1 rfl rfl rfl (spec_assign rfl Get.cval) ?_
  refine L.nt ?_
  refine W.nil 102 1 eSS ?_
  refine W.seq ?_
  refine W.sr ?_
  refine L.mv rfl rfl rfl rfl rfl ?_
  refine L.mv rfl rfl rfl rfl rfl ?_
  refine L.p1 rfl rfl rfl (spec_len rfl Tryz.underlying40 (Get.tmp rfl)) ?_
  refine L.p1 rfl rfl rfl (spec_min2 rfl (Get.tmp rfl) (Get.cint rfl)) ?_
  refine L.p1 rfl rfl rfl (spec_slice (E := eRw) rfl Tryz.underlying40 Tryz.sizeOf56 (fun _ => rfl) (Get.tmp rfl) .none (.some (Get.tmp rfl) (by (first | omega | (simp only [Int.toNat_natCast]; omega)))) (by (first | omega | (simp only [Int.toNat_natCast]; omega)))) ?_
  refine L.p1 rfl rfl rfl (spec_len rfl Tryz.underlying40 (Get.tmp rfl)) ?_
  refine L.p1 rfl rfl rfl (spec_move rfl (Get.cint rfl)) ?_
  refine L.nt ?_
  rw [show List.take ((min ((l.length : Nat) : Int) 60).toNat - 0) (List.drop 0 l) = l.take 60 by rw [List.drop_zero, Nat.sub_zero]; rcases Nat.le_total l.length 60 with q | q; (rw [List.take_of_length_le (by omega), List.take_of_length_le (by omega)]); (congr 1; omega)]
  refine W.block ?_
  refine W.loopK (σ := Nat × Value) (.cons (t := 2) rfl (.cons (t := 4) rfl (.cons (t := 5) rfl (.cons (t := 15) rfl (.cons (t := 16) rfl .nil))))) (fun z => [(17, Rp.int .i64 (z.1 : Nat)), (6, Rp.val z.2)]) (fun z => [MF.osl z.2 102 1 eSS (((l.take 60).take z.1).map sgR)]) (fun z => z.1 ≤ (l.take 60).length) (fun z => (l.take 60).length - z.1) (0, (.slice none 0 0)) (Nat.zero_le _) (.cons (t := 17) rfl (.cons (t := 6) rfl .nil)) (.cons 0 rfl (.cons 0 rfl (.cons 0 rfl .nil))) ?_
  intro ⟨i, vi⟩ hI S' M' hS hM
  try dsimp only at hS hM
  simp only [List.cons_append, List.nil_append] at hS hM
  subst hS hM
  try dsimp only
  try dsimp only at hI
  refine W.sr ?_
  refine L.p1 rfl rfl rfl (spec_lss rfl (Get.tmp rfl) (Get.tmp rfl)) ?_
  refine L.nt ?_
  refine W.seq ?_
  refine W.cond (Get.tmp rfl) (fun h1 => ?_) (fun h1 => ?_)
  · have ph1 := h1; try simp only [sbx] at ph1
    refine W.skip ?_
    refine N.thenW ?_
    refine W.seq ?_
    refine W.block ?_
    refine W.sr ?_
    refine L.p1 rfl rfl rfl (spec_indexAddrD (E := eRw) rfl Tryz.underlying40 Tryz.sizeOf56 (fun _ => rfl) (Get.tmp rfl) (Get.tmp rfl) (by (first | omega | (simp only [Int.toNat_natCast]; omega)))) ?_
    refine L.p1 rfl rfl rfl (spec_loadPA rfl Tryz.isAgg56 Tryz.sizeOf56 (Get.tmp rfl) rfl) ?_
    refine L.box rfl rfl (GSpec.plain rfl (spec_alloc rfl ti56 z56)) (fun r8 => ?_)
    refine L.storeW (k := 0) rfl rfl rfl Tryz.sizeOf56 (Get.tmp rfl) (Get.tmp rfl) rfl rfl rfl ?_
    refine L.nt ?_
    apply W.any 23 mixed (by kernel_rfl)
    · apply Head.one rfl rfl (GSpec.plain rfl (spec_move rfl (Get.tmp rfl)))
      apply Head.one rfl rfl (GSpec.plain rfl (spec_fieldAddr (f := 0) (off' := 0) rfl Tryz.underlying56 rfl Tryz.sizeOf4 (Get.tmp rfl) rfl))
      apply Head.one rfl rfl (GSpec.plain rfl (spec_load1 (k := 0) rfl Tryz.isAgg4 (Get.tmp rfl) rfl rfl))
      apply Head.one rfl rfl (GSpec.plain rfl (spec_call rfl Tryz.call71 (bit_ok _) (.cons (Get.tmp rfl) .nil)))
      apply Head.one rfl rfl (GSpec.plain rfl (spec_build (Rs := [_, _]) rfl ti101 z101 Tryz.underlying101 pl101 (.cons (GetC.one (Get.cstr (l := [105, 118]) rfl rfl)) rfl rfl rfl (.cons (GetC.one (Get.tmp rfl)) rfl rfl rfl .nil))))
      apply Head.one rfl rfl (GSpec.plain rfl (spec_fieldAddr (f := 2) (off' := 2) rfl Tryz.underlying56 rfl Tryz.sizeOf5 (Get.tmp rfl) rfl))
      apply Head.one rfl rfl (GSpec.plain rfl (spec_load1 (k := 0) rfl Tryz.isAgg5 (Get.tmp rfl) rfl rfl))
      first | apply Head.one rfl rfl (GSpec.plain rfl (fit_i64 (by (first | omega | (simp only [Int.toNat_natCast]; omega))) (by (first | omega | (simp only [Int.toNat_natCast]; omega))) (spec_conv rfl Tryz.underlying3 ⟨_, Tryz.underlying5⟩ (Get.tmp rfl)))) | apply Head.one rfl rfl (GSpec.plain rfl (spec_conv rfl Tryz.underlying3 ⟨_, Tryz.underlying5⟩ (Get.tmp rfl)))
      apply Head.one rfl rfl (GSpec.plain rfl (spec_build (Rs := [_, _]) rfl ti101 z101 Tryz.underlying101 pl101 (.cons (GetC.one (Get.cstr (l := [105, 116]) rfl rfl)) rfl rfl rfl (.cons (GetC.one (Get.tmp rfl)) rfl rfl rfl .nil))))
      apply Head.one rfl rfl (GSpec.plain rfl (spec_fieldAddr (f := 3) (off' := 3) rfl Tryz.underlying56 rfl Tryz.sizeOf5 (Get.tmp rfl) rfl))
      apply Head.one rfl rfl (GSpec.plain rfl (spec_load1 (k := 0) rfl Tryz.isAgg5 (Get.tmp rfl) rfl rfl))
      first | apply Head.one rfl rfl (GSpec.plain rfl (fit_i64 (by (first | omega | (simp only [Int.toNat_natCast]; omega))) (by (first | omega | (simp only [Int.toNat_natCast]; omega))) (spec_conv rfl Tryz.underlying3 ⟨_, Tryz.underlying5⟩ (Get.tmp rfl)))) | apply Head.one rfl rfl (GSpec.plain rfl (spec_conv rfl Tryz.underlying3 ⟨_, Tryz.underlying5⟩ (Get.tmp rfl)))
      apply Head.one rfl rfl (GSpec.plain rfl (spec_build (Rs := [_, _]) rfl ti101 z101 Tryz.underlying101 pl101 (.cons (GetC.one (Get.cstr (l := [105, 97]) rfl rfl)) rfl rfl rfl (.cons (GetC.one (Get.tmp rfl)) rfl rfl rfl .nil))))
      apply Head.one rfl rfl (GSpec.plain rfl (spec_fieldAddr (f := 4) (off' := 4) rfl Tryz.underlying56 rfl Tryz.sizeOf5 (Get.tmp rfl) rfl))
      apply Head.one rfl rfl (GSpec.plain rfl (spec_load1 (k := 0) rfl Tryz.isAgg5 (Get.tmp rfl) rfl rfl))
      first | apply Head.one rfl rfl (GSpec.plain rfl (fit_i64 (by (first | omega | (simp only [Int.toNat_natCast]; omega))) (by (first | omega | (simp only [Int.toNat_natCast]; omega))) (spec_conv rfl Tryz.underlying3 ⟨_, Tryz.underlying5⟩ (Get.tmp rfl)))) | apply Head.one rfl rfl (GSpec.plain rfl (spec_conv rfl Tryz.underlying3 ⟨_, Tryz.underlying5⟩ (Get.tmp rfl)))
      apply Head.one rfl rfl (GSpec.plain rfl (spec_build (Rs := [_, _]) rfl ti101 z101 Tryz.underlying101 pl101 (.cons (GetC.one (Get.cstr (l := [105, 98]) rfl rfl)) rfl rfl rfl (.cons (GetC.one (Get.tmp rfl)) rfl rfl rfl .nil))))
      apply Head.one rfl rfl (GSpec.plain rfl (spec_fieldAddr (f := 1) (off' := 1) rfl Tryz.underlying56 rfl Tryz.sizeOf4 (Get.tmp rfl) rfl))
      apply Head.one rfl rfl (GSpec.plain rfl (spec_load1 (k := 0) rfl Tryz.isAgg4 (Get.tmp rfl) rfl rfl))
      apply Head.one rfl rfl (GSpec.plain rfl (spec_call rfl Tryz.call71 (bit_ok _) (.cons (Get.tmp rfl) .nil)))
      apply Head.one rfl rfl (GSpec.plain rfl (spec_build (Rs := [_, _]) rfl ti101 z101 Tryz.underlying101 pl101 (.cons (GetC.one (Get.cstr (l := [111, 114, 100, 121]) rfl rfl)) rfl rfl rfl (.cons (GetC.one (Get.tmp rfl)) rfl rfl rfl .nil))))
      apply Head.one rfl rfl (GSpec.plain rfl (spec_buildSliceN (xs := ([⟨sIv, truthE ((l.take 60).getD i default).v⟩, ⟨sIt, IntKind.i64.wrap ((l.take 60).getD i default).t⟩, ⟨sIa, IntKind.i64.wrap ((l.take 60).getD i default).a⟩, ⟨sIb, IntKind.i64.wrap ((l.take 60).getD i default).b⟩, ⟨sOrdy, truthE ((l.take 60).getD i default).ready⟩] : List Sg)) (E := eSg) rfl Tryz.underlying102 ti101 z101 (by first | decide | simp) rfl (.cons (GetC.agg (Get.tmp rfl)) rfl rfl rfl (.cons (GetC.agg (Get.tmp rfl)) rfl rfl rfl (.cons (GetC.agg (Get.tmp rfl)) rfl rfl rfl (.cons (GetC.agg (Get.tmp rfl)) rfl rfl rfl (.cons (GetC.agg (Get.tmp rfl)) rfl rfl rfl .nil))))) rfl rfl))
      apply Head.one rfl rfl (GSpec.plain rfl (spec_buildSlice1 (y := sgR ((l.take 60).getD i default)) (E := eSS) rfl Tryz.underlying98 ti102 z102 (by decide) (GetC.one (Get.tmp rfl)) (fun _ => rfl)))
      exact Head.nil
    refine Fin.one ?_
    refine Fin.one ?_
    refine Fin.one ?_
    refine Fin.one ?_
    refine Fin.one ?_
    refine Fin.one ?_
    refine Fin.one ?_
    refine Fin.one ?_
    refine Fin.one ?_
    refine Fin.one ?_
    refine Fin.one ?_
    refine Fin.one ?_
    refine Fin.one ?_
    refine Fin.one ?_
    refine Fin.one ?_
    refine Fin.one ?_
    refine Fin.one ?_
    refine Fin.one ?_
    refine Fin.one ?_
    refine Fin.one ?_
    refine Fin.one ?_
    refine Fin.one ?_
    refine Fin.one ?_
    refine Fin.nil ?_
    refine L.append (k := 1) (E := eSS) rfl rfl rfl rfl Tryz.underlying98 ti102 rfl (by decide) (fun _ => rfl) (Get.tmp rfl) (Get.tmp rfl) rfl (by (simp only [List.length_append, List.length_map, List.length_take, List.length_range, List.length_cons, List.length_nil, inS, regS, sig_len, rows_len]; omega)) (by (simp only [List.length_append, List.length_map, List.length_take, List.length_range, List.length_cons, List.length_nil, inS, regS, sig_len, rows_len]; omega)) (fun v44 => ?_)
    refine L.as rfl rfl rfl rfl rfl ?_
    refine L.nil ?_
    refine N.blockNormal ?_
    refine N.thenW ?_
    refine W.region ?_
    first | refine L.op1 rfl rfl (GSpec.plain rfl (fit_i64 (by (first | omega | (simp only [Int.toNat_natCast]; omega))) (by (first | omega | (simp only [Int.toNat_natCast]; omega))) (spec_add rfl (Get.tmp rfl) (Get.cint rfl)))) ?_ | refine L.op1 rfl rfl (GSpec.plain rfl (spec_add rfl (Get.tmp rfl) (Get.cint rfl))) ?_
    refine L.mv rfl rfl rfl rfl rfl ?_
    refine L.nil ?_
    refine N.roundK (i + 1, v44) ?hI2 ?hmu2 ?hs2 ?hk2 ?hp2
    case hs2 => exact (.cons (t := 17) rfl (.cons (t := 6) rfl .nil))
    case hk2 => exact (.cons (t := 2) rfl (.cons (t := 4) rfl (.cons (t := 5) rfl (.cons (t := 15) rfl (.cons (t := 16) rfl .nil)))))
    case hp2 => dsimp only; rw [take_succ (show i < (l.take 60).length by omega), List.map_append]; exact (.cons 1 rfl (.cons 1 rfl (.cons 1 rfl .nil)))
    case hI2 => dsimp only; omega
    case hmu2 => dsimp only; omega
  · have ph1 := h1; try simp only [sbx] at ph1
    refine W.exit ?_
    refine N.thenExit ?_
    refine N.thenExit ?_
    refine N.blockExit ?_
    refine N.thenW ?_
    have hi : i = (l.take 60).length := by omega
    subst hi
    rw [List.take_length]
    refine W.pub (t := 6) (k := 0) rfl rfl (fun _ => rfl) ?_
    refine W.sr ?_
    refine L.p1 rfl rfl rfl (spec_loadW (k := 1) rfl Tryz.isAgg27 Tryz.sizeOf27 (Get.tmp rfl) rfl rfl) ?_
    refine L.mv rfl rfl rfl rfl rfl ?_
    refine L.p1 rfl rfl rfl (spec_call rfl Tryz.call72 (rrun_ok d (rowsS l) hq (by omega)) (.cons (Get.tmp rfl) (.cons (Get.tmp rfl) .nil))) ?_
    refine L.mv rfl rfl rfl rfl rfl ?_
    refine L.p1 rfl rfl rfl (spec_extract rfl (Get.tmp rfl) rfl) ?_
    refine L.p1 rfl rfl rfl (spec_extract rfl (Get.tmp rfl) rfl) ?_
    refine L.box rfl rfl (GSpec.plain rfl (spec_alloc rfl ti45 z45)) (fun r9 => ?_)
    refine L.storeW (k := 0) rfl rfl rfl Tryz.sizeOf45 (Get.tmp rfl) (Get.tmp rfl) rfl rfl rfl ?_
    refine L.as rfl rfl rfl rfl rfl ?_
    refine L.nt ?_
    refine W.keep (.cons (t := 4) rfl (.cons (t := 5) rfl (.cons (t := 9) rfl (.cons (t := 10) rfl .nil)))) .refl ?_
    refine W.sr ?_
    refine L.p1 rfl rfl rfl (spec_loadW (k := 0) rfl Tryz.isAgg45 Tryz.sizeOf45 (Get.tmp rfl) rfl rfl) ?_
    refine L.mv rfl rfl rfl rfl rfl ?_
    refine L.p1 rfl rfl rfl (spec_eql rfl (Get.tmp rfl) (Get.cint rfl)) ?_
    refine L.storeW (k := 1) rfl rfl rfl Tryz.sizeOf45 (Get.tmp rfl) (Get.tmp rfl) rfl rfl rfl ?_
    refine L.as rfl rfl rfl rfl rfl ?_
    refine L.nt ?_
    refine W.keep (.cons (t := 4) rfl (.cons (t := 5) rfl .nil)) .refl ?_
    refine W.ret ?_
    refine N.ret () rfl (.cellA (k := 1) (Get.tmp (t := 4) rfl) rfl Tryz.isAgg45 Tryz.sizeOf45 rfl (.tmp (t := 5) (Get.tmp rfl) .nil)) (res2w (eqA ?_) (eqB ?_)) .nil (fun _ _ h => h)
    all_goals rfl

end Go.Proofs.YthlfacmpjehjmaaGreatDoor
set_option linter.unusedSimpArgs false
set_option maxRecDepth 8000
set_option linter.unusedVariables false
namespace Go.Proofs.YthlfacmpjehjmaaGreatDoor
open Go.Sim
theorem ent0_ok  : CallT Tryz.prog 90 [] [spG] (.one (Rp.tuple [Rp.agg (eD (queueD 4 8)), Rp.int .i64 0])) := by
  refine W.enter (fn := Tryz.f90) (n := 5) Tryz.func90 rfl Tryz.ntmps90 rfl (fun w₀ C₀ => ?_)
  simp only [argS]
  refine W.sr ?_
  refine L.box rfl rfl (GSpec.plain rfl (spec_alloc rfl ti27 z27)) (fun r0 => ?_)
  refine L.p1 rfl rfl rfl (spec_assign rfl (Get.cint rfl)) ?_
  refine L.nt ?_
  refine W.sr ?_
  refine L.p1 rfl rfl rfl (spec_callG (k := 1) rfl Tryz.call9 rfl (queue_ok _ _ (by omega) (by omega)) (.cons (Get.cint rfl) (.cons (Get.cint rfl) .nil))) ?_
  refine L.p1 rfl rfl rfl (spec_extract rfl (Get.tmp rfl) rfl) ?_
  refine L.p1 rfl rfl rfl (spec_extract rfl (Get.tmp rfl) rfl) ?_
  refine L.storeW (k := 0) rfl rfl rfl Tryz.sizeOf27 (Get.tmp rfl) (Get.tmp rfl) rfl rfl rfl ?_
  refine L.as rfl rfl rfl rfl rfl ?_
  refine L.nt ?_
  refine W.keep (.cons (t := 0) rfl (.cons (t := 1) rfl .nil)) .refl ?_
  refine W.ret ?_
  refine N.ret () rfl (.cellA (k := 0) (Get.tmp (t := 0) rfl) rfl Tryz.isAgg27 Tryz.sizeOf27 rfl (.tmp (t := 1) (Get.tmp rfl) .nil)) (res2w (eqA ?_) (eqI ?_)) .nil (fun _ _ h => h)
  all_goals rfl

theorem ent1_ok  : CallT Tryz.prog 91 [] [spG] (.one (Rp.tuple [Rp.agg (eD (adderD 8)), Rp.int .i64 0])) := by
  refine W.enter (fn := Tryz.f91) (n := 5) Tryz.func91 rfl Tryz.ntmps91 rfl (fun w₀ C₀ => ?_)
  simp only [argS]
  refine W.sr ?_
  refine L.box rfl rfl (GSpec.plain rfl (spec_alloc rfl ti27 z27)) (fun r0 => ?_)
  refine L.p1 rfl rfl rfl (spec_assign rfl (Get.cint rfl)) ?_
  refine L.nt ?_
  refine W.sr ?_
  refine L.p1 rfl rfl rfl (spec_callG (k := 1) rfl Tryz.call12 rfl (adder_ok _ (by omega)) (.cons (Get.cint rfl) .nil)) ?_
  refine L.p1 rfl rfl rfl (spec_extract rfl (Get.tmp rfl) rfl) ?_
  refine L.p1 rfl rfl rfl (spec_extract rfl (Get.tmp rfl) rfl) ?_
  refine L.storeW (k := 0) rfl rfl rfl Tryz.sizeOf27 (Get.tmp rfl) (Get.tmp rfl) rfl rfl rfl ?_
  refine L.as rfl rfl rfl rfl rfl ?_
  refine L.nt ?_
  refine W.keep (.cons (t := 0) rfl (.cons (t := 1) rfl .nil)) .refl ?_
  refine W.ret ?_
  refine N.ret () rfl (.cellA (k := 0) (Get.tmp (t := 0) rfl) rfl Tryz.isAgg27 Tryz.sizeOf27 rfl (.tmp (t := 1) (Get.tmp rfl) .nil)) (res2w (eqA ?_) (eqI ?_)) .nil (fun _ _ h => h)
  all_goals rfl

theorem ent2_ok  : CallT Tryz.prog 92 [] [spG] (.one (Rp.tuple [Rp.agg (eD (counterD 8)), Rp.int .i64 0])) := by
  refine W.enter (fn := Tryz.f92) (n := 5) Tryz.func92 rfl Tryz.ntmps92 rfl (fun w₀ C₀ => ?_)
  simp only [argS]
  refine W.sr ?_
  refine L.box rfl rfl (GSpec.plain rfl (spec_alloc rfl ti27 z27)) (fun r0 => ?_)
  refine L.p1 rfl rfl rfl (spec_assign rfl (Get.cint rfl)) ?_
  refine L.nt ?_
  refine W.sr ?_
  refine L.p1 rfl rfl rfl (spec_callG (k := 1) rfl Tryz.call14 rfl (counter_ok _ (by omega)) (.cons (Get.cint rfl) .nil)) ?_
  refine L.p1 rfl rfl rfl (spec_extract rfl (Get.tmp rfl) rfl) ?_
  refine L.p1 rfl rfl rfl (spec_extract rfl (Get.tmp rfl) rfl) ?_
  refine L.storeW (k := 0) rfl rfl rfl Tryz.sizeOf27 (Get.tmp rfl) (Get.tmp rfl) rfl rfl rfl ?_
  refine L.as rfl rfl rfl rfl rfl ?_
  refine L.nt ?_
  refine W.keep (.cons (t := 0) rfl (.cons (t := 1) rfl .nil)) .refl ?_
  refine W.ret ?_
  refine N.ret () rfl (.cellA (k := 0) (Get.tmp (t := 0) rfl) rfl Tryz.isAgg27 Tryz.sizeOf27 rfl (.tmp (t := 1) (Get.tmp rfl) .nil)) (res2w (eqA ?_) (eqI ?_)) .nil (fun _ _ h => h)
  all_goals rfl

theorem ent3_ok  : CallT Tryz.prog 93 [] [spG] (.one (Rp.tuple [Rp.agg (eD (delayD 2 8)), Rp.int .i64 0])) := by
  refine W.enter (fn := Tryz.f93) (n := 5) Tryz.func93 rfl Tryz.ntmps93 rfl (fun w₀ C₀ => ?_)
  simp only [argS]
  refine W.sr ?_
  refine L.box rfl rfl (GSpec.plain rfl (spec_alloc rfl ti27 z27)) (fun r0 => ?_)
  refine L.p1 rfl rfl rfl (spec_assign rfl (Get.cint rfl)) ?_
  refine L.nt ?_
  refine W.sr ?_
  refine L.p1 rfl rfl rfl (spec_callG (k := 1) rfl Tryz.call16 rfl (delay_ok _ _ (by omega) (by omega)) (.cons (Get.cint rfl) (.cons (Get.cint rfl) .nil))) ?_
  refine L.p1 rfl rfl rfl (spec_extract rfl (Get.tmp rfl) rfl) ?_
  refine L.p1 rfl rfl rfl (spec_extract rfl (Get.tmp rfl) rfl) ?_
  refine L.storeW (k := 0) rfl rfl rfl Tryz.sizeOf27 (Get.tmp rfl) (Get.tmp rfl) rfl rfl rfl ?_
  refine L.as rfl rfl rfl rfl rfl ?_
  refine L.nt ?_
  refine W.keep (.cons (t := 0) rfl (.cons (t := 1) rfl .nil)) .refl ?_
  refine W.ret ?_
  refine N.ret () rfl (.cellA (k := 0) (Get.tmp (t := 0) rfl) rfl Tryz.isAgg27 Tryz.sizeOf27 rfl (.tmp (t := 1) (Get.tmp rfl) .nil)) (res2w (eqA ?_) (eqI ?_)) .nil (fun _ _ h => h)
  all_goals rfl

theorem ent4_ok  : CallT Tryz.prog 94 [] [spG] (.one (Rp.tuple [Rp.agg (eD (swapD 8)), Rp.int .i64 0])) := by
  refine W.enter (fn := Tryz.f94) (n := 5) Tryz.func94 rfl Tryz.ntmps94 rfl (fun w₀ C₀ => ?_)
  simp only [argS]
  refine W.sr ?_
  refine L.box rfl rfl (GSpec.plain rfl (spec_alloc rfl ti27 z27)) (fun r0 => ?_)
  refine L.p1 rfl rfl rfl (spec_assign rfl (Get.cint rfl)) ?_
  refine L.nt ?_
  refine W.sr ?_
  refine L.p1 rfl rfl rfl (spec_callG (k := 1) rfl Tryz.call18 rfl (swap_ok _ (by omega)) (.cons (Get.cint rfl) .nil)) ?_
  refine L.p1 rfl rfl rfl (spec_extract rfl (Get.tmp rfl) rfl) ?_
  refine L.p1 rfl rfl rfl (spec_extract rfl (Get.tmp rfl) rfl) ?_
  refine L.storeW (k := 0) rfl rfl rfl Tryz.sizeOf27 (Get.tmp rfl) (Get.tmp rfl) rfl rfl rfl ?_
  refine L.as rfl rfl rfl rfl rfl ?_
  refine L.nt ?_
  refine W.keep (.cons (t := 0) rfl (.cons (t := 1) rfl .nil)) .refl ?_
  refine W.ret ?_
  refine N.ret () rfl (.cellA (k := 0) (Get.tmp (t := 0) rfl) rfl Tryz.isAgg27 Tryz.sizeOf27 rfl (.tmp (t := 1) (Get.tmp rfl) .nil)) (res2w (eqA ?_) (eqI ?_)) .nil (fun _ _ h => h)
  all_goals rfl

theorem entries_ok  : CallT Tryz.prog 74 [] [] (.one (Rp.agg (ents.flatMap eEn))) := by
  refine W.enter (fn := Tryz.f74) (n := 7) Tryz.func74 rfl Tryz.ntmps74 rfl (fun w₀ C₀ => ?_)
  simp only [argS]
  refine W.sr ?_
  refine L.box rfl rfl (GSpec.plain rfl (spec_alloc rfl ti108 z108)) (fun r0 => ?_)
  refine L.nt ?_
  refine W.sr ?_
  refine L.p1 rfl rfl rfl (spec_build (Rs := [_, fnG (queueD 4 8)]) rfl ti107 z107 Tryz.underlying107 pl107 (.cons (GetC.one (Get.cstr (l := [113, 117, 101, 117, 101]) rfl rfl)) rfl rfl rfl (.cons (GetC.one (Get.weak Get.clo (fnM_of_clo Tryz.call90 (fun _ => ent0_ok)))) rfl rfl rfl .nil))) ?_
  refine L.p1 rfl rfl rfl (spec_build (Rs := [_, fnG (adderD 8)]) rfl ti107 z107 Tryz.underlying107 pl107 (.cons (GetC.one (Get.cstr (l := [97, 100, 100, 101, 114]) rfl rfl)) rfl rfl rfl (.cons (GetC.one (Get.weak Get.clo (fnM_of_clo Tryz.call91 (fun _ => ent1_ok)))) rfl rfl rfl .nil))) ?_
  refine L.p1 rfl rfl rfl (spec_build (Rs := [_, fnG (counterD 8)]) rfl ti107 z107 Tryz.underlying107 pl107 (.cons (GetC.one (Get.cstr (l := [99, 111, 117, 110, 116, 101, 114]) rfl rfl)) rfl rfl rfl (.cons (GetC.one (Get.weak Get.clo (fnM_of_clo Tryz.call92 (fun _ => ent2_ok)))) rfl rfl rfl .nil))) ?_
  refine L.p1 rfl rfl rfl (spec_build (Rs := [_, fnG (delayD 2 8)]) rfl ti107 z107 Tryz.underlying107 pl107 (.cons (GetC.one (Get.cstr (l := [100, 101, 108, 97, 121]) rfl rfl)) rfl rfl rfl (.cons (GetC.one (Get.weak Get.clo (fnM_of_clo Tryz.call93 (fun _ => ent3_ok)))) rfl rfl rfl .nil))) ?_
  refine L.p1 rfl rfl rfl (spec_build (Rs := [_, fnG (swapD 8)]) rfl ti107 z107 Tryz.underlying107 pl107 (.cons (GetC.one (Get.cstr (l := [115, 119, 97, 112]) rfl rfl)) rfl rfl rfl (.cons (GetC.one (Get.weak Get.clo (fnM_of_clo Tryz.call94 (fun _ => ent4_ok)))) rfl rfl rfl .nil))) ?_
  refine L.p1 rfl rfl rfl (spec_buildArr (Rs := [_, _, _, _, _, _, _, _, _, _]) rfl ti108 z108 Tryz.underlying108 Tryz.sizeOf107 (.cons (GetC.agg (Get.tmp rfl)) rfl rfl rfl (.cons (GetC.agg (Get.tmp rfl)) rfl rfl rfl (.cons (GetC.agg (Get.tmp rfl)) rfl rfl rfl (.cons (GetC.agg (Get.tmp rfl)) rfl rfl rfl (.cons (GetC.agg (Get.tmp rfl)) rfl rfl rfl .nil)))))) ?_
  refine L.storeW (k := 0) rfl rfl rfl Tryz.sizeOf108 (Get.tmp rfl) (Get.tmp rfl) rfl rfl rfl ?_
  refine L.nt ?_
  refine W.keep (.cons (t := 0) rfl .nil) .refl ?_
  refine W.ret ?_
  refine N.ret () rfl (.cellA (k := 0) (Get.tmp (t := 0) rfl) rfl Tryz.isAgg108 Tryz.sizeOf108 rfl .nil) (res1 (eqA ?_)) .nil (fun _ _ h => h)
  all_goals rfl

theorem get_ok (s : List UInt8) : CallT Tryz.prog 29 [Rp.str s] [spG] (.one (Rp.tuple [Rp.agg (eD (getD1 s)), Rp.int .i64 (getE1 s)])) := by
  refine W.enter (fn := Tryz.f29) (n := 21) Tryz.func29 rfl Tryz.ntmps29 rfl (fun w₀ C₀ => ?_)
  simp only [argS]
  refine W.sr ?_
  refine L.box rfl rfl (GSpec.plain rfl (spec_alloc rfl ti27 z27)) (fun r2 => ?_)
  refine L.p1 rfl rfl rfl (spec_assign rfl (Get.cint rfl)) ?_
  refine L.nt ?_
  refine W.seq ?_
  refine W.sr ?_
  refine L.p1 rfl rfl rfl (spec_call rfl Tryz.call74 (entries_ok ) .nil) ?_
  refine L.p1 rfl rfl rfl (spec_move rfl (Get.cint rfl)) ?_
  refine L.nt ?_
  refine W.block ?_
  refine W.loopK (σ := Nat) (.cons (t := 0) rfl (.cons (t := 2) rfl (.cons (t := 6) rfl .nil))) (fun z => [(7, Rp.int .i64 (z : Nat))]) (fun z => []) (fun z => z ≤ 5 ∧ ∀ j : Nat, j < z → (ents.getD j default).name ≠ s) (fun z => 5 - z) 0 ⟨Nat.zero_le _, fun j hj => by omega⟩ (.cons (t := 7) rfl .nil) (.cons 0 rfl (.cons 0 rfl .nil)) ?_
  intro i hI S' M' hS hM
  obtain ⟨hI1, hI2⟩ := hI
  try dsimp only at hS hM
  simp only [List.cons_append, List.nil_append] at hS hM
  subst hS hM
  try dsimp only
  refine W.sr ?_
  refine L.p1 rfl rfl rfl (spec_lss rfl (Get.tmp rfl) (Get.cint rfl)) ?_
  refine L.nt ?_
  refine W.seq ?_
  refine W.cond (Get.tmp rfl) (fun h1 => ?_) (fun h1 => ?_)
  · have ph1 := h1; try simp only [sbx] at ph1
    refine W.skip ?_
    refine N.thenW ?_
    refine W.seq ?_
    refine W.block ?_
    refine W.sr ?_
    refine L.p1 rfl rfl rfl (spec_indexAA (E := eEn) (xs := ents) rfl Tryz.underlying108 Tryz.sizeOf107 Tryz.isAgg107 (fun _ => rfl) (Get.tmp rfl) (Get.tmp rfl) (by omega) (by decide)) ?_
    refine L.box rfl rfl (GSpec.plain rfl (spec_alloc rfl ti107 z107)) (fun r5 => ?_)
    refine L.storeW (k := 0) rfl rfl rfl Tryz.sizeOf107 (Get.tmp rfl) (Get.tmp rfl) rfl rfl rfl ?_
    refine L.nt ?_
    refine W.sr ?_
    refine L.p1 rfl rfl rfl (spec_fieldAddr (f := 0) (off' := 0) rfl Tryz.underlying107 rfl Tryz.sizeOf9 (Get.tmp rfl) rfl) ?_
    refine L.p1 rfl rfl rfl (spec_load1 (k := 0) rfl Tryz.isAgg9 (Get.tmp rfl) rfl rfl) ?_
    refine L.mv rfl rfl rfl rfl rfl ?_
    refine L.p1 rfl rfl rfl (spec_eqlS rfl (Get.tmp rfl) (Get.tmp rfl)) ?_
    refine L.nt ?_
    refine W.cond (Get.tmp rfl) (fun h2 => ?_) (fun h2 => ?_)
    · have ph2 := h2; try simp only [sbx] at ph2
      refine W.sr ?_
      refine L.p1 rfl rfl rfl (spec_fieldAddr (f := 1) (off' := 1) rfl Tryz.underlying107 rfl Tryz.sizeOf74 (Get.tmp rfl) rfl) ?_
      refine L.p1 rfl rfl rfl (spec_load1 (k := 0) rfl Tryz.isAgg74 (Get.tmp rfl) rfl rfl) ?_
      refine L.p1 rfl rfl rfl (spec_callFG (A := fun _ : Unit => []) (X := fun _ => .one (Rp.tuple [Rp.agg (eD (ents.getD i default).d), Rp.int .i64 0])) (k := 2) rfl rfl () rfl (Get.tmp rfl) .nil) ?_
      refine L.p1 rfl rfl rfl (spec_extract rfl (Get.tmp rfl) rfl) ?_
      refine L.p1 rfl rfl rfl (spec_extract rfl (Get.tmp rfl) rfl) ?_
      refine L.storeW (k := 1) rfl rfl rfl Tryz.sizeOf27 (Get.tmp rfl) (Get.tmp rfl) rfl rfl rfl ?_
      refine L.as rfl rfl rfl rfl rfl ?_
      refine L.nt ?_
      refine W.ret ?_
      refine N.ret () rfl (.cellA (k := 1) (Get.tmp (t := 2) rfl) rfl Tryz.isAgg27 Tryz.sizeOf27 rfl (.tmp (t := 3) (Get.tmp rfl) .nil)) (res2w (eqA ?_) (eqI ?_)) .nil (fun _ _ h => h)
      all_goals (have hg := get_yes (by omega) (by simpa using h2) hI2; first | (unfold getD1; rw [hg, if_pos (by omega)]; rfl) | (unfold getE1; rw [hg, if_pos (by omega)]))
    · have ph2 := h2; try simp only [sbx] at ph2
      refine W.skip ?_
      refine N.blockNormal ?_
      refine N.thenW ?_
      refine W.region ?_
      first | refine L.op1 rfl rfl (GSpec.plain rfl (fit_i64 (by omega) (by omega) (spec_add rfl (Get.tmp rfl) (Get.cint rfl)))) ?_ | refine L.op1 rfl rfl (GSpec.plain rfl (spec_add rfl (Get.tmp rfl) (Get.cint rfl))) ?_
      refine L.mv rfl rfl rfl rfl rfl ?_
      refine L.nil ?_
      refine N.roundK (i + 1) ?hI1 ?hmu1 ?hs1 ?hk1 ?hp1
      case hs1 => exact (.cons (t := 7) rfl .nil)
      case hk1 => exact (.cons (t := 0) rfl (.cons (t := 2) rfl (.cons (t := 6) rfl .nil)))
      case hp1 => exact (.cons 1 rfl (.cons 1 rfl .nil))
      case hI1 => exact ⟨by omega, upto hI2 (by simpa using h2)⟩
      case hmu1 => omega
  · have ph1 := h1; try simp only [sbx] at ph1
    refine W.exit ?_
    refine N.thenExit ?_
    refine N.thenExit ?_
    refine N.blockExit ?_
    refine N.thenW ?_
    refine W.sr ?_
    refine L.p1 rfl rfl rfl (spec_build (Rs := [Rp.str [], Rp.slice eP [], Rp.slice eWr [], Rp.slice eRg [], Rp.slice eS []]) rfl ti27 z27 Tryz.underlying27 pl27 .nil) ?_
    refine L.storeW (k := 0) rfl rfl rfl Tryz.sizeOf27 (Get.tmp rfl) (Get.tmp rfl) rfl rfl rfl ?_
    refine L.p1 rfl rfl rfl (spec_assign rfl (Get.cint rfl)) ?_
    refine L.nt ?_
    refine W.ret ?_
    refine N.ret () rfl (.cellA (k := 0) (Get.tmp (t := 2) rfl) rfl Tryz.isAgg27 Tryz.sizeOf27 rfl (.tmp (t := 3) (Get.tmp rfl) .nil)) (res2w (eqA ?_) (eqI ?_)) .nil (fun _ _ h => h)
    all_goals (have hg := get_no fun j hj => hI2 j (by omega); first | (unfold getD1; rw [hg]; rfl) | (unfold getE1; rw [hg]; rfl))

end Go.Proofs.YthlfacmpjehjmaaGreatDoor
set_option linter.unusedSimpArgs false
set_option maxRecDepth 8000
set_option linter.unusedVariables false
namespace Go.Proofs.YthlfacmpjehjmaaGreatDoor
open Go.Sim
theorem awake_ok  : CallT Tryz.prog 20 [] [spG] (.one (Rp.bool true)) := by
  refine W.enter (fn := Tryz.f20) (n := 86) Tryz.func20 rfl Tryz.ntmps20 rfl (fun w₀ C₀ => ?_)
  simp only [argS]
  have hgs : getD1 [115, 119, 97, 112] = swapD 8 := by kernel_rfl
  have hge : getE1 [115, 119, 97, 112] = 0 := by kernel_rfl
  obtain ⟨a1, a2, a3⟩ := awake_1
  obtain ⟨b1, b2, b3, b4, b5⟩ := awake_2
  refine W.sr ?_
  refine L.p1 rfl rfl rfl (spec_assign rfl Get.cbool) ?_
  refine L.nt ?_
  refine W.sr ?_
  refine L.p1 rfl rfl rfl (spec_callG (k := 0) rfl Tryz.call9 rfl (queue_ok 2 8 (by omega) (by omega)) (.cons (Get.cint rfl) (.cons (Get.cint rfl) .nil))) ?_
  refine L.mv rfl rfl rfl rfl rfl ?_
  refine L.p1 rfl rfl rfl (spec_extract rfl (Get.tmp rfl) rfl) ?_
  refine L.p1 rfl rfl rfl (spec_extract rfl (Get.tmp rfl) rfl) ?_
  refine L.box rfl rfl (GSpec.plain rfl (spec_alloc rfl ti27 z27)) (fun r1 => ?_)
  refine L.storeW (k := 0) rfl rfl rfl Tryz.sizeOf27 (Get.tmp rfl) (Get.tmp rfl) rfl rfl rfl ?_
  refine L.as rfl rfl rfl rfl rfl ?_
  refine L.nt ?_
  refine W.sr ?_
  refine L.p1 rfl rfl rfl (spec_callG (k := 1) rfl Tryz.call29 rfl (get_ok _) (.cons (Get.cstr (l := [115, 119, 97, 112]) rfl rfl) .nil)) ?_
  refine L.mv rfl rfl rfl rfl rfl ?_
  refine L.p1 rfl rfl rfl (spec_extract rfl (Get.tmp rfl) rfl) ?_
  refine L.p1 rfl rfl rfl (spec_extract rfl (Get.tmp rfl) rfl) ?_
  refine L.box rfl rfl (GSpec.plain rfl (spec_alloc rfl ti27 z27)) (fun r3 => ?_)
  refine L.storeW (k := 0) rfl rfl rfl Tryz.sizeOf27 (Get.tmp rfl) (Get.tmp rfl) rfl rfl rfl ?_
  refine L.as rfl rfl rfl rfl rfl ?_
  refine L.nt ?_
  rw [hgs, hge]
  refine W.keep (.cons (t := 0) rfl (.cons (t := 1) rfl (.cons (t := 2) rfl (.cons (t := 3) rfl (.cons (t := 4) rfl .nil))))) .refl ?_
  refine W.seq ?_
  refine W.sr ?_
  refine L.mv rfl rfl rfl rfl rfl ?_
  refine L.p1 rfl rfl rfl (spec_neq rfl (Get.tmp rfl) (Get.cint rfl)) ?_
  refine L.mv rfl rfl rfl rfl rfl ?_
  refine L.op1 rfl rfl (GSpec.guard rfl rfl rfl fun hg => (spec_move rfl (Get.tmp rfl))) ?_
  refine L.op1 rfl rfl (GSpec.guard rfl rfl rfl fun hg => (spec_neq rfl (Get.opt rfl hg) (Get.cint rfl))) ?_
  refine L.p1 rfl rfl rfl (spec_or rfl (Get.tmp rfl) (fun hb => (Get.opt rfl hb))) ?_
  refine L.nt ?_
  refine W.keep (.cons (t := 0) rfl (.cons (t := 1) rfl (.cons (t := 3) rfl (.cons (t := 22) rfl .nil)))) .refl ?_
  refine W.cond (Get.tmp rfl) (fun h1 => ?_) (fun h1 => ?_)
  · exfalso; have h := h1; simp [hge] at h
  · have ph1 := h1; try simp only [sbx] at ph1
    refine W.skip ?_
    refine N.thenW ?_
    refine W.sr ?_
    refine L.p1 rfl rfl rfl (spec_loadW (k := 1) rfl Tryz.isAgg27 Tryz.sizeOf27 (Get.tmp rfl) rfl rfl) ?_
    refine L.p1 rfl rfl rfl (spec_build (Rs := [_, Rp.bool false, Rp.int .u8 0, Rp.int .u8 0, Rp.int .u8 0]) rfl ti56 z56 Tryz.underlying56 pl56 (.cons (GetC.one Get.cbool) rfl rfl rfl .nil)) ?_
    refine L.p1 rfl rfl rfl (spec_build (Rs := [_, Rp.bool false, Rp.int .u8 0, Rp.int .u8 0, Rp.int .u8 0]) rfl ti56 z56 Tryz.underlying56 pl56 (.cons (GetC.one Get.cbool) rfl rfl rfl .nil)) ?_
    refine L.p1 rfl rfl rfl (spec_build (Rs := [_, Rp.bool false, Rp.int .u8 0, Rp.int .u8 0, Rp.int .u8 0]) rfl ti56 z56 Tryz.underlying56 pl56 (.cons (GetC.one Get.cbool) rfl rfl rfl .nil)) ?_
    refine L.p1 rfl rfl rfl (spec_buildSliceN (xs := ([⟨true, false, 0, 0, 0⟩, ⟨true, false, 0, 0, 0⟩, ⟨true, false, 0, 0, 0⟩] : List Rw)) (E := eRw) rfl Tryz.underlying40 ti56 z56 (by first | decide | simp) rfl (.cons (GetC.agg (Get.tmp rfl)) rfl rfl rfl (.cons (GetC.agg (Get.tmp rfl)) rfl rfl rfl (.cons (GetC.agg (Get.tmp rfl)) rfl rfl rfl .nil))) rfl rfl) ?_
    refine L.p1 rfl rfl rfl (spec_call rfl Tryz.call24 (run_ok (queueD 2 8) ([⟨true, false, 0, 0, 0⟩, ⟨true, false, 0, 0, 0⟩, ⟨true, false, 0, 0, 0⟩] : List Rw) q28) (.cons (Get.tmp rfl) (.cons (Get.tmp rfl) .nil))) ?_
    refine L.mv rfl rfl rfl rfl rfl ?_
    refine L.p1 rfl rfl rfl (spec_extract rfl (Get.tmp rfl) rfl) ?_
    refine L.p1 rfl rfl rfl (spec_extract rfl (Get.tmp rfl) rfl) ?_
    refine L.box rfl rfl (GSpec.plain rfl (spec_alloc rfl ti45 z45)) (fun r5 => ?_)
    refine L.storeW (k := 0) rfl rfl rfl Tryz.sizeOf45 (Get.tmp rfl) (Get.tmp rfl) rfl rfl rfl ?_
    refine L.as rfl rfl rfl rfl rfl ?_
    refine L.nt ?_
    refine W.keep (.cons (t := 0) rfl (.cons (t := 3) rfl (.cons (t := 5) rfl (.cons (t := 6) rfl .nil)))) .refl ?_
    refine W.sr ?_
    refine L.p1 rfl rfl rfl (spec_loadW (k := 1) rfl Tryz.isAgg27 Tryz.sizeOf27 (Get.tmp rfl) rfl rfl) ?_
    refine L.p1 rfl rfl rfl (spec_build (Rs := [_, _, _, Rp.int .u8 0, Rp.int .u8 0]) rfl ti56 z56 Tryz.underlying56 pl56 (.cons (GetC.one Get.cbool) rfl rfl rfl (.cons (GetC.one Get.cbool) rfl rfl rfl (.cons (GetC.one (Get.cint rfl)) rfl rfl rfl .nil)))) ?_
    refine L.p1 rfl rfl rfl (spec_build (Rs := [_, _, _, Rp.int .u8 0, Rp.int .u8 0]) rfl ti56 z56 Tryz.underlying56 pl56 (.cons (GetC.one Get.cbool) rfl rfl rfl (.cons (GetC.one Get.cbool) rfl rfl rfl (.cons (GetC.one (Get.cint rfl)) rfl rfl rfl .nil)))) ?_
    refine L.p1 rfl rfl rfl (spec_build (Rs := [Rp.bool false, _, Rp.int .u8 0, Rp.int .u8 0, Rp.int .u8 0]) rfl ti56 z56 Tryz.underlying56 pl56 (.cons (GetC.one Get.cbool) rfl rfl rfl .nil)) ?_
    refine L.p1 rfl rfl rfl (spec_build (Rs := [Rp.bool false, _, Rp.int .u8 0, Rp.int .u8 0, Rp.int .u8 0]) rfl ti56 z56 Tryz.underlying56 pl56 (.cons (GetC.one Get.cbool) rfl rfl rfl .nil)) ?_
    refine L.p1 rfl rfl rfl (spec_buildSliceN (xs := ([⟨true, true, 1, 0, 0⟩, ⟨true, true, 2, 0, 0⟩, ⟨false, true, 0, 0, 0⟩, ⟨false, true, 0, 0, 0⟩] : List Rw)) (E := eRw) rfl Tryz.underlying40 ti56 z56 (by first | decide | simp) rfl (.cons (GetC.agg (Get.tmp rfl)) rfl rfl rfl (.cons (GetC.agg (Get.tmp rfl)) rfl rfl rfl (.cons (GetC.agg (Get.tmp rfl)) rfl rfl rfl (.cons (GetC.agg (Get.tmp rfl)) rfl rfl rfl .nil)))) rfl rfl) ?_
    refine L.p1 rfl rfl rfl (spec_call rfl Tryz.call24 (run_ok (swapD 8) ([⟨true, true, 1, 0, 0⟩, ⟨true, true, 2, 0, 0⟩, ⟨false, true, 0, 0, 0⟩, ⟨false, true, 0, 0, 0⟩] : List Rw) s8) (.cons (Get.tmp rfl) (.cons (Get.tmp rfl) .nil))) ?_
    refine L.mv rfl rfl rfl rfl rfl ?_
    refine L.p1 rfl rfl rfl (spec_extract rfl (Get.tmp rfl) rfl) ?_
    refine L.p1 rfl rfl rfl (spec_extract rfl (Get.tmp rfl) rfl) ?_
    refine L.box rfl rfl (GSpec.plain rfl (spec_alloc rfl ti45 z45)) (fun r7 => ?_)
    refine L.storeW (k := 0) rfl rfl rfl Tryz.sizeOf45 (Get.tmp rfl) (Get.tmp rfl) rfl rfl rfl ?_
    refine L.as rfl rfl rfl rfl rfl ?_
    refine L.nt ?_
    refine W.keep (.cons (t := 0) rfl (.cons (t := 5) rfl (.cons (t := 6) rfl (.cons (t := 7) rfl (.cons (t := 8) rfl .nil))))) .refl ?_
    refine W.sr ?_
    refine L.mv rfl rfl rfl rfl rfl ?_
    refine L.mv rfl rfl rfl rfl rfl ?_
    refine L.op1 rfl rfl (GSpec.guard rfl rfl rfl fun hg => (spec_move rfl (Get.tmp rfl))) ?_
    refine L.p1 rfl rfl rfl (spec_and rfl (Get.tmp rfl) (fun hb => (Get.opt rfl hb))) ?_
    refine L.mv rfl rfl rfl rfl rfl ?_
    refine L.op1 rfl rfl (GSpec.guard rfl rfl rfl fun hg => (spec_loadW (k := 1) rfl Tryz.isAgg45 Tryz.sizeOf45 (Get.tmp rfl) rfl rfl)) ?_
    refine L.op1 rfl rfl (GSpec.guard rfl rfl rfl fun hg => (spec_call rfl Tryz.call25 (see_ok _ _ _ (by omega) (by omega)) (.cons (Get.opt rfl hg) (.cons (Get.cstr (l := [105, 114, 100, 121]) rfl rfl) (.cons (Get.cint rfl) .nil))))) ?_
    refine L.op1 rfl rfl (GSpec.guard rfl rfl rfl fun hg => (spec_eql rfl (Get.opt rfl hg) (Get.cint rfl))) ?_
    refine L.p1 rfl rfl rfl (spec_and rfl (Get.tmp rfl) (fun hb => (Get.opt rfl hb))) ?_
    refine L.mv rfl rfl rfl rfl rfl ?_
    refine L.op1 rfl rfl (GSpec.guard rfl rfl rfl fun hg => (spec_loadW (k := 1) rfl Tryz.isAgg45 Tryz.sizeOf45 (Get.tmp rfl) rfl rfl)) ?_
    refine L.op1 rfl rfl (GSpec.guard rfl rfl rfl fun hg => (spec_call rfl Tryz.call25 (see_ok _ _ _ (by omega) (by omega)) (.cons (Get.opt rfl hg) (.cons (Get.cstr (l := [105, 114, 100, 121]) rfl rfl) (.cons (Get.cint rfl) .nil))))) ?_
    refine L.op1 rfl rfl (GSpec.guard rfl rfl rfl fun hg => (spec_eql rfl (Get.opt rfl hg) (Get.cint rfl))) ?_
    refine L.p1 rfl rfl rfl (spec_and rfl (Get.tmp rfl) (fun hb => (Get.opt rfl hb))) ?_
    refine L.mv rfl rfl rfl rfl rfl ?_
    refine L.op1 rfl rfl (GSpec.guard rfl rfl rfl fun hg => (spec_loadW (k := 1) rfl Tryz.isAgg45 Tryz.sizeOf45 (Get.tmp rfl) rfl rfl)) ?_
    refine L.op1 rfl rfl (GSpec.guard rfl rfl rfl fun hg => (spec_call rfl Tryz.call25 (see_ok _ _ _ (by omega) (by omega)) (.cons (Get.opt rfl hg) (.cons (Get.cstr (l := [105, 114, 100, 121]) rfl rfl) (.cons (Get.cint rfl) .nil))))) ?_
    refine L.op1 rfl rfl (GSpec.guard rfl rfl rfl fun hg => (spec_eql rfl (Get.opt rfl hg) (Get.cint rfl))) ?_
    refine L.p1 rfl rfl rfl (spec_and rfl (Get.tmp rfl) (fun hb => (Get.opt rfl hb))) ?_
    refine L.mv rfl rfl rfl rfl rfl ?_
    refine L.op1 rfl rfl (GSpec.guard rfl rfl rfl fun hg => (spec_loadW (k := 0) rfl Tryz.isAgg45 Tryz.sizeOf45 (Get.tmp rfl) rfl rfl)) ?_
    refine L.op1 rfl rfl (GSpec.guard rfl rfl rfl fun hg => (spec_call rfl Tryz.call25 (see_ok _ _ _ (by omega) (by omega)) (.cons (Get.opt rfl hg) (.cons (Get.cstr (l := [111, 118]) rfl rfl) (.cons (Get.cint rfl) .nil))))) ?_
    refine L.op1 rfl rfl (GSpec.guard rfl rfl rfl fun hg => (spec_eql rfl (Get.opt rfl hg) (Get.cint rfl))) ?_
    refine L.p1 rfl rfl rfl (spec_and rfl (Get.tmp rfl) (fun hb => (Get.opt rfl hb))) ?_
    refine L.mv rfl rfl rfl rfl rfl ?_
    refine L.op1 rfl rfl (GSpec.guard rfl rfl rfl fun hg => (spec_loadW (k := 0) rfl Tryz.isAgg45 Tryz.sizeOf45 (Get.tmp rfl) rfl rfl)) ?_
    refine L.op1 rfl rfl (GSpec.guard rfl rfl rfl fun hg => (spec_call rfl Tryz.call25 (see_ok _ _ _ (by omega) (by omega)) (.cons (Get.opt rfl hg) (.cons (Get.cstr (l := [111, 118]) rfl rfl) (.cons (Get.cint rfl) .nil))))) ?_
    refine L.op1 rfl rfl (GSpec.guard rfl rfl rfl fun hg => (spec_eql rfl (Get.opt rfl hg) (Get.cint rfl))) ?_
    refine L.p1 rfl rfl rfl (spec_and rfl (Get.tmp rfl) (fun hb => (Get.opt rfl hb))) ?_
    refine L.mv rfl rfl rfl rfl rfl ?_
    refine L.op1 rfl rfl (GSpec.guard rfl rfl rfl fun hg => (spec_loadW (k := 0) rfl Tryz.isAgg45 Tryz.sizeOf45 (Get.tmp rfl) rfl rfl)) ?_
    refine L.op1 rfl rfl (GSpec.guard rfl rfl rfl fun hg => (spec_call rfl Tryz.call25 (see_ok _ _ _ (by omega) (by omega)) (.cons (Get.opt rfl hg) (.cons (Get.cstr (l := [111, 116]) rfl rfl) (.cons (Get.cint rfl) .nil))))) ?_
    refine L.op1 rfl rfl (GSpec.guard rfl rfl rfl fun hg => (spec_eql rfl (Get.opt rfl hg) (Get.cint rfl))) ?_
    refine L.p1 rfl rfl rfl (spec_and rfl (Get.tmp rfl) (fun hb => (Get.opt rfl hb))) ?_
    refine L.mv rfl rfl rfl rfl rfl ?_
    refine L.op1 rfl rfl (GSpec.guard rfl rfl rfl fun hg => (spec_loadW (k := 0) rfl Tryz.isAgg45 Tryz.sizeOf45 (Get.tmp rfl) rfl rfl)) ?_
    refine L.op1 rfl rfl (GSpec.guard rfl rfl rfl fun hg => (spec_call rfl Tryz.call25 (see_ok _ _ _ (by omega) (by omega)) (.cons (Get.opt rfl hg) (.cons (Get.cstr (l := [111, 118]) rfl rfl) (.cons (Get.cint rfl) .nil))))) ?_
    refine L.op1 rfl rfl (GSpec.guard rfl rfl rfl fun hg => (spec_eql rfl (Get.opt rfl hg) (Get.cint rfl))) ?_
    refine L.p1 rfl rfl rfl (spec_and rfl (Get.tmp rfl) (fun hb => (Get.opt rfl hb))) ?_
    refine L.mv rfl rfl rfl rfl rfl ?_
    refine L.op1 rfl rfl (GSpec.guard rfl rfl rfl fun hg => (spec_loadW (k := 0) rfl Tryz.isAgg45 Tryz.sizeOf45 (Get.tmp rfl) rfl rfl)) ?_
    refine L.op1 rfl rfl (GSpec.guard rfl rfl rfl fun hg => (spec_call rfl Tryz.call25 (see_ok _ _ _ (by omega) (by omega)) (.cons (Get.opt rfl hg) (.cons (Get.cstr (l := [111, 116]) rfl rfl) (.cons (Get.cint rfl) .nil))))) ?_
    refine L.op1 rfl rfl (GSpec.guard rfl rfl rfl fun hg => (spec_eql rfl (Get.opt rfl hg) (Get.cint rfl))) ?_
    refine L.p1 rfl rfl rfl (spec_and rfl (Get.tmp rfl) (fun hb => (Get.opt rfl hb))) ?_
    refine L.as rfl rfl rfl rfl rfl ?_
    refine L.nt ?_
    refine W.keep (.cons (t := 0) rfl .nil) .refl ?_
    refine W.ret ?_
    refine N.ret () rfl (.tmp (t := 0) (Get.tmp rfl) .nil) (res1 (eqB ?_)) .nil (fun _ _ h => h)
    exact awake_all

end Go.Proofs.YthlfacmpjehjmaaGreatDoor
set_option linter.unusedSimpArgs false
set_option maxRecDepth 8000
set_option linter.unusedVariables false
namespace Go.Proofs.YthlfacmpjehjmaaGreatDoor
open Go.Sim
theorem LibraryDesigns_ok (n w : Int) : CallT Tryz.prog 3 [Rp.int .i64 n, Rp.int .i64 w] [spG] (.one (Rp.bool true)) := by
  refine W.enter (fn := Tryz.f3) (n := 110) Tryz.func3 rfl Tryz.ntmps3 rfl (fun w₀ C₀ => ?_)
  simp only [argS]
  refine W.sr ?_
  refine L.p1 rfl rfl rfl (spec_assign rfl Get.cbool) ?_
  refine L.nt ?_
  refine W.sr ?_
  refine L.mv rfl rfl rfl rfl rfl ?_
  refine L.mv rfl rfl rfl rfl rfl ?_
  refine L.p1 rfl rfl rfl (spec_callG (k := 0) rfl Tryz.call9 rfl (queue_tot n w) (.cons (Get.tmp rfl) (.cons (Get.tmp rfl) .nil))) ?_
  refine L.mv rfl rfl rfl rfl rfl ?_
  refine L.p1 rfl rfl rfl (spec_extract rfl (Get.tmp rfl) rfl) ?_
  refine L.p1 rfl rfl rfl (spec_extract rfl (Get.tmp rfl) rfl) ?_
  refine L.box rfl rfl (GSpec.plain rfl (spec_alloc rfl ti27 z27)) (fun r5 => ?_)
  refine L.storeW (k := 0) rfl rfl rfl Tryz.sizeOf27 (Get.tmp rfl) (Get.tmp rfl) rfl rfl rfl ?_
  refine L.as rfl rfl rfl rfl rfl ?_
  refine L.nt ?_
  refine W.sr ?_
  refine L.mv rfl rfl rfl rfl rfl ?_
  refine L.mv rfl rfl rfl rfl rfl ?_
  refine L.p1 rfl rfl rfl (spec_call rfl Tryz.call10 (queue33_tot n w) (.cons (Get.tmp rfl) (.cons (Get.tmp rfl) .nil))) ?_
  refine L.mv rfl rfl rfl rfl rfl ?_
  refine L.p1 rfl rfl rfl (spec_extract rfl (Get.tmp rfl) rfl) ?_
  refine L.p1 rfl rfl rfl (spec_extract rfl (Get.tmp rfl) rfl) ?_
  refine L.box rfl rfl (GSpec.plain rfl (spec_alloc rfl ti27 z27)) (fun r7 => ?_)
  refine L.storeW (k := 0) rfl rfl rfl Tryz.sizeOf27 (Get.tmp rfl) (Get.tmp rfl) rfl rfl rfl ?_
  refine L.as rfl rfl rfl rfl rfl ?_
  refine L.nt ?_
  refine W.keep (.cons (t := 0) rfl (.cons (t := 1) rfl (.cons (t := 4) rfl (.cons (t := 5) rfl (.cons (t := 6) rfl (.cons (t := 7) rfl (.cons (t := 8) rfl .nil))))))) .refl ?_
  refine W.seq ?_
  refine W.sr ?_
  refine L.p1 rfl rfl rfl (spec_loadW (k := 1) rfl Tryz.isAgg27 Tryz.sizeOf27 (Get.tmp rfl) rfl rfl) ?_
  refine L.p1 rfl rfl rfl (spec_loadW (k := 0) rfl Tryz.isAgg27 Tryz.sizeOf27 (Get.tmp rfl) rfl rfl) ?_
  refine L.p1 rfl rfl rfl (spec_call rfl Tryz.call11 (sameD_ok (dQ n w)) (.cons (Get.tmp rfl) (.cons (Get.tmp rfl) .nil))) ?_
  refine L.p1 rfl rfl rfl (spec_not rfl (Get.tmp rfl)) ?_
  refine L.mv rfl rfl rfl rfl rfl ?_
  refine L.op1 rfl rfl (GSpec.guard rfl rfl rfl fun hg => (spec_move rfl (Get.tmp rfl))) ?_
  refine L.op1 rfl rfl (GSpec.guard rfl rfl rfl fun hg => (spec_move rfl (Get.tmp rfl))) ?_
  refine L.op1 rfl rfl (GSpec.guard rfl rfl rfl fun hg => (spec_neq rfl (Get.opt rfl hg) (Get.opt rfl hg))) ?_
  refine L.p1 rfl rfl rfl (spec_or rfl (Get.tmp rfl) (fun hb => (Get.opt rfl hb))) ?_
  refine L.nt ?_
  refine W.keep (.cons (t := 0) rfl (.cons (t := 1) rfl (.cons (t := 4) rfl (.cons (t := 5) rfl (.cons (t := 6) rfl (.cons (t := 7) rfl (.cons (t := 8) rfl (.cons (t := 29) rfl .nil)))))))) .refl ?_
  refine W.cond (Get.tmp rfl) (fun h1 => ?_) (fun h1 => ?_)
  · exfalso; have h := h1; simp at h
  · have ph1 := h1; try simp only [sbx] at ph1
    refine W.skip ?_
    refine N.thenW ?_
    refine W.sr ?_
    refine L.mv rfl rfl rfl rfl rfl ?_
    refine L.p1 rfl rfl rfl (spec_callG (k := 2) rfl Tryz.call12 rfl (adder_tot w) (.cons (Get.tmp rfl) .nil)) ?_
    refine L.mv rfl rfl rfl rfl rfl ?_
    refine L.p1 rfl rfl rfl (spec_extract rfl (Get.tmp rfl) rfl) ?_
    refine L.p1 rfl rfl rfl (spec_extract rfl (Get.tmp rfl) rfl) ?_
    refine L.storeW (k := 1) rfl rfl rfl Tryz.sizeOf27 (Get.tmp rfl) (Get.tmp rfl) rfl rfl rfl ?_
    refine L.as rfl rfl rfl rfl rfl ?_
    refine L.nt ?_
    refine W.keep (.cons (t := 0) rfl (.cons (t := 1) rfl (.cons (t := 4) rfl (.cons (t := 5) rfl (.cons (t := 6) rfl (.cons (t := 7) rfl (.cons (t := 8) rfl .nil))))))) .refl ?_
    refine W.sr ?_
    refine L.mv rfl rfl rfl rfl rfl ?_
    refine L.p1 rfl rfl rfl (spec_call rfl Tryz.call13 (adder33_tot w) (.cons (Get.tmp rfl) .nil)) ?_
    refine L.mv rfl rfl rfl rfl rfl ?_
    refine L.p1 rfl rfl rfl (spec_extract rfl (Get.tmp rfl) rfl) ?_
    refine L.p1 rfl rfl rfl (spec_extract rfl (Get.tmp rfl) rfl) ?_
    refine L.storeW (k := 0) rfl rfl rfl Tryz.sizeOf27 (Get.tmp rfl) (Get.tmp rfl) rfl rfl rfl ?_
    refine L.as rfl rfl rfl rfl rfl ?_
    refine L.nt ?_
    refine W.keep (.cons (t := 0) rfl (.cons (t := 1) rfl (.cons (t := 4) rfl (.cons (t := 5) rfl (.cons (t := 6) rfl (.cons (t := 7) rfl (.cons (t := 8) rfl .nil))))))) .refl ?_
    refine W.seq ?_
    refine W.sr ?_
    refine L.p1 rfl rfl rfl (spec_loadW (k := 1) rfl Tryz.isAgg27 Tryz.sizeOf27 (Get.tmp rfl) rfl rfl) ?_
    refine L.p1 rfl rfl rfl (spec_loadW (k := 0) rfl Tryz.isAgg27 Tryz.sizeOf27 (Get.tmp rfl) rfl rfl) ?_
    refine L.p1 rfl rfl rfl (spec_call rfl Tryz.call11 (sameD_ok (dA w)) (.cons (Get.tmp rfl) (.cons (Get.tmp rfl) .nil))) ?_
    refine L.p1 rfl rfl rfl (spec_not rfl (Get.tmp rfl)) ?_
    refine L.mv rfl rfl rfl rfl rfl ?_
    refine L.op1 rfl rfl (GSpec.guard rfl rfl rfl fun hg => (spec_move rfl (Get.tmp rfl))) ?_
    refine L.op1 rfl rfl (GSpec.guard rfl rfl rfl fun hg => (spec_move rfl (Get.tmp rfl))) ?_
    refine L.op1 rfl rfl (GSpec.guard rfl rfl rfl fun hg => (spec_neq rfl (Get.opt rfl hg) (Get.opt rfl hg))) ?_
    refine L.p1 rfl rfl rfl (spec_or rfl (Get.tmp rfl) (fun hb => (Get.opt rfl hb))) ?_
    refine L.nt ?_
    refine W.keep (.cons (t := 0) rfl (.cons (t := 1) rfl (.cons (t := 4) rfl (.cons (t := 5) rfl (.cons (t := 6) rfl (.cons (t := 7) rfl (.cons (t := 8) rfl (.cons (t := 48) rfl .nil)))))))) .refl ?_
    refine W.cond (Get.tmp rfl) (fun h2 => ?_) (fun h2 => ?_)
    · exfalso; have h := h2; simp at h
    · have ph2 := h2; try simp only [sbx] at ph2
      refine W.skip ?_
      refine N.thenW ?_
      refine W.sr ?_
      refine L.mv rfl rfl rfl rfl rfl ?_
      refine L.p1 rfl rfl rfl (spec_callG (k := 2) rfl Tryz.call14 rfl (counter_tot w) (.cons (Get.tmp rfl) .nil)) ?_
      refine L.mv rfl rfl rfl rfl rfl ?_
      refine L.p1 rfl rfl rfl (spec_extract rfl (Get.tmp rfl) rfl) ?_
      refine L.p1 rfl rfl rfl (spec_extract rfl (Get.tmp rfl) rfl) ?_
      refine L.storeW (k := 1) rfl rfl rfl Tryz.sizeOf27 (Get.tmp rfl) (Get.tmp rfl) rfl rfl rfl ?_
      refine L.as rfl rfl rfl rfl rfl ?_
      refine L.nt ?_
      refine W.keep (.cons (t := 0) rfl (.cons (t := 1) rfl (.cons (t := 4) rfl (.cons (t := 5) rfl (.cons (t := 6) rfl (.cons (t := 7) rfl (.cons (t := 8) rfl .nil))))))) .refl ?_
      refine W.sr ?_
      refine L.mv rfl rfl rfl rfl rfl ?_
      refine L.p1 rfl rfl rfl (spec_call rfl Tryz.call15 (counter33_tot w) (.cons (Get.tmp rfl) .nil)) ?_
      refine L.mv rfl rfl rfl rfl rfl ?_
      refine L.p1 rfl rfl rfl (spec_extract rfl (Get.tmp rfl) rfl) ?_
      refine L.p1 rfl rfl rfl (spec_extract rfl (Get.tmp rfl) rfl) ?_
      refine L.storeW (k := 0) rfl rfl rfl Tryz.sizeOf27 (Get.tmp rfl) (Get.tmp rfl) rfl rfl rfl ?_
      refine L.as rfl rfl rfl rfl rfl ?_
      refine L.nt ?_
      refine W.keep (.cons (t := 0) rfl (.cons (t := 1) rfl (.cons (t := 4) rfl (.cons (t := 5) rfl (.cons (t := 6) rfl (.cons (t := 7) rfl (.cons (t := 8) rfl .nil))))))) .refl ?_
      refine W.seq ?_
      refine W.sr ?_
      refine L.p1 rfl rfl rfl (spec_loadW (k := 1) rfl Tryz.isAgg27 Tryz.sizeOf27 (Get.tmp rfl) rfl rfl) ?_
      refine L.p1 rfl rfl rfl (spec_loadW (k := 0) rfl Tryz.isAgg27 Tryz.sizeOf27 (Get.tmp rfl) rfl rfl) ?_
      refine L.p1 rfl rfl rfl (spec_call rfl Tryz.call11 (sameD_ok (dC w)) (.cons (Get.tmp rfl) (.cons (Get.tmp rfl) .nil))) ?_
      refine L.p1 rfl rfl rfl (spec_not rfl (Get.tmp rfl)) ?_
      refine L.mv rfl rfl rfl rfl rfl ?_
      refine L.op1 rfl rfl (GSpec.guard rfl rfl rfl fun hg => (spec_move rfl (Get.tmp rfl))) ?_
      refine L.op1 rfl rfl (GSpec.guard rfl rfl rfl fun hg => (spec_move rfl (Get.tmp rfl))) ?_
      refine L.op1 rfl rfl (GSpec.guard rfl rfl rfl fun hg => (spec_neq rfl (Get.opt rfl hg) (Get.opt rfl hg))) ?_
      refine L.p1 rfl rfl rfl (spec_or rfl (Get.tmp rfl) (fun hb => (Get.opt rfl hb))) ?_
      refine L.nt ?_
      refine W.keep (.cons (t := 0) rfl (.cons (t := 1) rfl (.cons (t := 4) rfl (.cons (t := 5) rfl (.cons (t := 6) rfl (.cons (t := 7) rfl (.cons (t := 8) rfl (.cons (t := 67) rfl .nil)))))))) .refl ?_
      refine W.cond (Get.tmp rfl) (fun h3 => ?_) (fun h3 => ?_)
      · exfalso; have h := h3; simp at h
      · have ph3 := h3; try simp only [sbx] at ph3
        refine W.skip ?_
        refine N.thenW ?_
        refine W.sr ?_
        refine L.mv rfl rfl rfl rfl rfl ?_
        refine L.mv rfl rfl rfl rfl rfl ?_
        refine L.p1 rfl rfl rfl (spec_callG (k := 2) rfl Tryz.call16 rfl (delay_tot n w) (.cons (Get.tmp rfl) (.cons (Get.tmp rfl) .nil))) ?_
        refine L.mv rfl rfl rfl rfl rfl ?_
        refine L.p1 rfl rfl rfl (spec_extract rfl (Get.tmp rfl) rfl) ?_
        refine L.p1 rfl rfl rfl (spec_extract rfl (Get.tmp rfl) rfl) ?_
        refine L.storeW (k := 1) rfl rfl rfl Tryz.sizeOf27 (Get.tmp rfl) (Get.tmp rfl) rfl rfl rfl ?_
        refine L.as rfl rfl rfl rfl rfl ?_
        refine L.nt ?_
        refine W.keep (.cons (t := 0) rfl (.cons (t := 1) rfl (.cons (t := 4) rfl (.cons (t := 5) rfl (.cons (t := 6) rfl (.cons (t := 7) rfl (.cons (t := 8) rfl .nil))))))) .refl ?_
        refine W.sr ?_
        refine L.mv rfl rfl rfl rfl rfl ?_
        refine L.mv rfl rfl rfl rfl rfl ?_
        refine L.p1 rfl rfl rfl (spec_call rfl Tryz.call17 (delay33_tot n w) (.cons (Get.tmp rfl) (.cons (Get.tmp rfl) .nil))) ?_
        refine L.mv rfl rfl rfl rfl rfl ?_
        refine L.p1 rfl rfl rfl (spec_extract rfl (Get.tmp rfl) rfl) ?_
        refine L.p1 rfl rfl rfl (spec_extract rfl (Get.tmp rfl) rfl) ?_
        refine L.storeW (k := 0) rfl rfl rfl Tryz.sizeOf27 (Get.tmp rfl) (Get.tmp rfl) rfl rfl rfl ?_
        refine L.as rfl rfl rfl rfl rfl ?_
        refine L.nt ?_
        refine W.keep (.cons (t := 1) rfl (.cons (t := 4) rfl (.cons (t := 5) rfl (.cons (t := 6) rfl (.cons (t := 7) rfl (.cons (t := 8) rfl .nil)))))) .refl ?_
        refine W.seq ?_
        refine W.sr ?_
        refine L.p1 rfl rfl rfl (spec_loadW (k := 1) rfl Tryz.isAgg27 Tryz.sizeOf27 (Get.tmp rfl) rfl rfl) ?_
        refine L.p1 rfl rfl rfl (spec_loadW (k := 0) rfl Tryz.isAgg27 Tryz.sizeOf27 (Get.tmp rfl) rfl rfl) ?_
        refine L.p1 rfl rfl rfl (spec_call rfl Tryz.call11 (sameD_ok (dL n w)) (.cons (Get.tmp rfl) (.cons (Get.tmp rfl) .nil))) ?_
        refine L.p1 rfl rfl rfl (spec_not rfl (Get.tmp rfl)) ?_
        refine L.mv rfl rfl rfl rfl rfl ?_
        refine L.op1 rfl rfl (GSpec.guard rfl rfl rfl fun hg => (spec_move rfl (Get.tmp rfl))) ?_
        refine L.op1 rfl rfl (GSpec.guard rfl rfl rfl fun hg => (spec_move rfl (Get.tmp rfl))) ?_
        refine L.op1 rfl rfl (GSpec.guard rfl rfl rfl fun hg => (spec_neq rfl (Get.opt rfl hg) (Get.opt rfl hg))) ?_
        refine L.p1 rfl rfl rfl (spec_or rfl (Get.tmp rfl) (fun hb => (Get.opt rfl hb))) ?_
        refine L.nt ?_
        refine W.keep (.cons (t := 1) rfl (.cons (t := 4) rfl (.cons (t := 5) rfl (.cons (t := 6) rfl (.cons (t := 7) rfl (.cons (t := 8) rfl (.cons (t := 88) rfl .nil))))))) .refl ?_
        refine W.cond (Get.tmp rfl) (fun h4 => ?_) (fun h4 => ?_)
        · exfalso; have h := h4; simp at h
        · have ph4 := h4; try simp only [sbx] at ph4
          refine W.skip ?_
          refine N.thenW ?_
          refine W.sr ?_
          refine L.mv rfl rfl rfl rfl rfl ?_
          refine L.p1 rfl rfl rfl (spec_callG (k := 2) rfl Tryz.call18 rfl (swap_tot w) (.cons (Get.tmp rfl) .nil)) ?_
          refine L.mv rfl rfl rfl rfl rfl ?_
          refine L.p1 rfl rfl rfl (spec_extract rfl (Get.tmp rfl) rfl) ?_
          refine L.p1 rfl rfl rfl (spec_extract rfl (Get.tmp rfl) rfl) ?_
          refine L.storeW (k := 1) rfl rfl rfl Tryz.sizeOf27 (Get.tmp rfl) (Get.tmp rfl) rfl rfl rfl ?_
          refine L.as rfl rfl rfl rfl rfl ?_
          refine L.nt ?_
          refine W.keep (.cons (t := 1) rfl (.cons (t := 4) rfl (.cons (t := 5) rfl (.cons (t := 6) rfl (.cons (t := 7) rfl (.cons (t := 8) rfl .nil)))))) .refl ?_
          refine W.sr ?_
          refine L.mv rfl rfl rfl rfl rfl ?_
          refine L.p1 rfl rfl rfl (spec_call rfl Tryz.call19 (swap33_tot w) (.cons (Get.tmp rfl) .nil)) ?_
          refine L.mv rfl rfl rfl rfl rfl ?_
          refine L.p1 rfl rfl rfl (spec_extract rfl (Get.tmp rfl) rfl) ?_
          refine L.p1 rfl rfl rfl (spec_extract rfl (Get.tmp rfl) rfl) ?_
          refine L.storeW (k := 0) rfl rfl rfl Tryz.sizeOf27 (Get.tmp rfl) (Get.tmp rfl) rfl rfl rfl ?_
          refine L.as rfl rfl rfl rfl rfl ?_
          refine L.nt ?_
          refine W.keep (.cons (t := 4) rfl (.cons (t := 5) rfl (.cons (t := 6) rfl (.cons (t := 7) rfl (.cons (t := 8) rfl .nil))))) .refl ?_
          refine W.sr ?_
          refine L.p1 rfl rfl rfl (spec_loadW (k := 1) rfl Tryz.isAgg27 Tryz.sizeOf27 (Get.tmp rfl) rfl rfl) ?_
          refine L.p1 rfl rfl rfl (spec_loadW (k := 0) rfl Tryz.isAgg27 Tryz.sizeOf27 (Get.tmp rfl) rfl rfl) ?_
          refine L.p1 rfl rfl rfl (spec_call rfl Tryz.call11 (sameD_ok (dW w)) (.cons (Get.tmp rfl) (.cons (Get.tmp rfl) .nil))) ?_
          refine L.mv rfl rfl rfl rfl rfl ?_
          refine L.op1 rfl rfl (GSpec.guard rfl rfl rfl fun hg => (spec_move rfl (Get.tmp rfl))) ?_
          refine L.op1 rfl rfl (GSpec.guard rfl rfl rfl fun hg => (spec_move rfl (Get.tmp rfl))) ?_
          refine L.op1 rfl rfl (GSpec.guard rfl rfl rfl fun hg => (spec_eql rfl (Get.opt rfl hg) (Get.opt rfl hg))) ?_
          refine L.p1 rfl rfl rfl (spec_and rfl (Get.tmp rfl) (fun hb => (Get.opt rfl hb))) ?_
          refine L.mv rfl rfl rfl rfl rfl ?_
          refine L.op1 rfl rfl (GSpec.guard rfl rfl rfl fun hg => (spec_callG (k := 2) rfl Tryz.call20 rfl (awake_ok ) .nil)) ?_
          refine L.p1 rfl rfl rfl (spec_and rfl (Get.tmp rfl) (fun hb => (Get.opt rfl hb))) ?_
          refine L.as rfl rfl rfl rfl rfl ?_
          refine L.nt ?_
          refine W.keep (.cons (t := 4) rfl .nil) .refl ?_
          refine W.ret ?_
          refine N.ret () rfl (.tmp (t := 4) (Get.tmp rfl) .nil) (res1 (eqB ?_)) .nil (fun _ _ h => h)
          all_goals (first | rfl | (simp_all []; done) | omega)

end Go.Proofs.YthlfacmpjehjmaaGreatDoor
set_option linter.unusedSimpArgs false
set_option maxRecDepth 8000
set_option linter.unusedVariables false
namespace Go.Proofs.YthlfacmpjehjmaaGreatDoor
open Go.Sim
theorem names27_ok  : CallT Tryz.prog 27 [] [spG] (.one (Rp.slice eS names33)) := by
  refine W.enter (fn := Tryz.f27) (n := 15) Tryz.func27 rfl Tryz.ntmps27 rfl (fun w₀ C₀ => ?_)
  simp only [argS]
  refine W.sr ?_
  refine L.p1 rfl rfl rfl (spec_assign rfl (Get.cnil (E := eS))) ?_
  refine L.nt ?_
  refine W.sr ?_
  refine L.p1 rfl rfl rfl (spec_assign rfl Get.cval) ?_
  refine L.nt ?_
  refine W.nil 9 1 eS ?_
  refine W.seq ?_
  refine W.sr ?_
  refine L.p1 rfl rfl rfl (spec_call rfl Tryz.call74 (entries_ok ) .nil) ?_
  refine L.p1 rfl rfl rfl (spec_move rfl (Get.cint rfl)) ?_
  refine L.nt ?_
  refine W.block ?_
  refine W.loopK (σ := Nat × Value) (.cons (t := 0) rfl (.cons (t := 4) rfl .nil)) (fun z => [(5, Rp.int .i64 (z.1 : Nat)), (1, Rp.val z.2)]) (fun z => [MF.osl z.2 9 1 eS (names33.take z.1)]) (fun z => z.1 ≤ 5) (fun z => 5 - z.1) (0, (.slice none 0 0)) (Nat.zero_le _) (.cons (t := 5) rfl (.cons (t := 1) rfl .nil)) (.cons 0 rfl (.cons 0 rfl .nil)) ?_
  intro ⟨i, vi⟩ hI S' M' hS hM
  try dsimp only at hS hM
  simp only [List.cons_append, List.nil_append] at hS hM
  subst hS hM
  try dsimp only
  try dsimp only at hI
  refine W.sr ?_
  refine L.p1 rfl rfl rfl (spec_lss rfl (Get.tmp rfl) (Get.cint rfl)) ?_
  refine L.nt ?_
  refine W.seq ?_
  refine W.cond (Get.tmp rfl) (fun h1 => ?_) (fun h1 => ?_)
  · have ph1 := h1; try simp only [sbx] at ph1
    refine W.skip ?_
    refine N.thenW ?_
    refine W.seq ?_
    refine W.block ?_
    refine W.sr ?_
    refine L.p1 rfl rfl rfl (spec_indexAA (E := eEn) (xs := ents) rfl Tryz.underlying108 Tryz.sizeOf107 Tryz.isAgg107 (fun _ => rfl) (Get.tmp rfl) (Get.tmp rfl) (by omega) (by decide)) ?_
    refine L.box rfl rfl (GSpec.plain rfl (spec_alloc rfl ti107 z107)) (fun r3 => ?_)
    refine L.storeW (k := 0) rfl rfl rfl Tryz.sizeOf107 (Get.tmp rfl) (Get.tmp rfl) rfl rfl rfl ?_
    refine L.nt ?_
    refine W.region ?_
    refine L.mv rfl rfl rfl rfl rfl ?_
    refine L.p1 rfl rfl rfl (spec_fieldAddr (f := 0) (off' := 0) rfl Tryz.underlying107 rfl Tryz.sizeOf9 (Get.tmp rfl) rfl) ?_
    refine L.p1 rfl rfl rfl (spec_load1 (k := 0) rfl Tryz.isAgg9 (Get.tmp rfl) rfl rfl) ?_
    refine L.p1 rfl rfl rfl (spec_buildSlice1 (y := (ents.getD i default).name) (E := eS) rfl Tryz.underlying25 ti9 z9 (by decide) (GetC.one (Get.tmp rfl)) (fun _ => rfl)) ?_
    refine L.append (k := 1) (E := eS) rfl rfl rfl rfl Tryz.underlying25 ti9 rfl (by decide) (fun _ => rfl) (Get.tmp rfl) (Get.tmp rfl) rfl (by (simp only [List.length_take, List.length_cons, List.length_nil]; omega)) (by (simp only [List.length_take, List.length_cons, List.length_nil]; omega)) (fun v12 => ?_)
    refine L.as rfl rfl rfl rfl rfl ?_
    refine L.nil ?_
    refine N.blockNormal ?_
    refine N.thenW ?_
    refine W.region ?_
    first | refine L.op1 rfl rfl (GSpec.plain rfl (fit_i64 (by omega) (by omega) (spec_add rfl (Get.tmp rfl) (Get.cint rfl)))) ?_ | refine L.op1 rfl rfl (GSpec.plain rfl (spec_add rfl (Get.tmp rfl) (Get.cint rfl))) ?_
    refine L.mv rfl rfl rfl rfl rfl ?_
    refine L.nil ?_
    refine N.roundK (i + 1, v12) ?hI1 ?hmu1 ?hs1 ?hk1 ?hp1
    case hs1 => exact (.cons (t := 5) rfl (.cons (t := 1) rfl .nil))
    case hk1 => exact (.cons (t := 0) rfl (.cons (t := 4) rfl .nil))
    case hp1 => dsimp only; rw [take_succ (show i < names33.length from by have : names33.length = 5 := rfl; omega), show names33.getD i default = (ents.getD i default).name from map_getD' (fun x : Ent => x.name) (show i < ents.length from by have : ents.length = 5 := rfl; omega)]; exact (.cons 1 rfl (.cons 1 rfl .nil))
    case hI1 => dsimp only; omega
    case hmu1 => dsimp only; omega
  · have ph1 := h1; try simp only [sbx] at ph1
    refine W.exit ?_
    refine N.thenExit ?_
    refine N.thenExit ?_
    refine N.blockExit ?_
    refine N.thenW ?_
    have hi : i = 5 := by omega
    subst hi
    refine W.pub (t := 1) (k := 0) rfl rfl (fun _ => rfl) ?_
    refine W.sr ?_
    refine L.mv rfl rfl rfl rfl rfl ?_
    refine L.as rfl rfl rfl rfl rfl ?_
    refine L.nt ?_
    refine W.keep (.cons (t := 0) rfl .nil) .refl ?_
    refine W.ret ?_
    refine N.ret () rfl (.tmp (t := 0) (Get.tmp rfl) .nil) (res1 (eqSl ?_)) .nil (fun _ _ h => h)
    all_goals rfl

theorem names28_ok  : CallT Tryz.prog 28 [] [] (.one (Rp.slice eS names33)) := by
  refine W.enter (fn := Tryz.f28) (n := 2) Tryz.func28 rfl Tryz.ntmps28 rfl (fun w₀ C₀ => ?_)
  simp only [argS]
  refine W.sr ?_
  refine L.p1 rfl rfl rfl (spec_assign rfl Get.cval) ?_
  refine L.nt ?_
  refine W.sr ?_
  refine L.p1 rfl rfl rfl (spec_buildSliceN (xs := names33) (E := eS) rfl Tryz.underlying25 ti9 z9 (by first | decide | simp) rfl (.cons (GetC.one (Get.cstr (l := [113, 117, 101, 117, 101]) rfl rfl)) rfl rfl rfl (.cons (GetC.one (Get.cstr (l := [97, 100, 100, 101, 114]) rfl rfl)) rfl rfl rfl (.cons (GetC.one (Get.cstr (l := [99, 111, 117, 110, 116, 101, 114]) rfl rfl)) rfl rfl rfl (.cons (GetC.one (Get.cstr (l := [100, 101, 108, 97, 121]) rfl rfl)) rfl rfl rfl (.cons (GetC.one (Get.cstr (l := [115, 119, 97, 112]) rfl rfl)) rfl rfl rfl .nil))))) rfl rfl) ?_
  refine L.as rfl rfl rfl rfl rfl ?_
  refine L.nt ?_
  refine W.ret ?_
  refine N.ret () rfl (.tmp (t := 0) (Get.tmp rfl) .nil) (res1 (eqSl ?_)) .nil (fun _ _ h => h)
  rfl

end Go.Proofs.YthlfacmpjehjmaaGreatDoor
set_option linter.unusedSimpArgs false
set_option maxRecDepth 8000
set_option linter.unusedVariables false
namespace Go.Proofs.YthlfacmpjehjmaaGreatDoor
open Go.Sim
theorem get33_ok (s : List UInt8) : CallT Tryz.prog 30 [Rp.str s] [] (.one (Rp.tuple [Rp.agg (eD (getD1 s)), Rp.int .i64 (getE1 s)])) := by
  refine W.enter (fn := Tryz.f30) (n := 31) Tryz.func30 rfl Tryz.ntmps30 rfl (fun w₀ C₀ => ?_)
  simp only [argS]
  refine W.sr ?_
  refine L.box rfl rfl (GSpec.plain rfl (spec_alloc rfl ti27 z27)) (fun r2 => ?_)
  refine L.p1 rfl rfl rfl (spec_assign rfl (Get.cint rfl)) ?_
  refine L.nt ?_
  refine W.seq ?_
  refine W.sr ?_
  refine L.mv rfl rfl rfl rfl rfl ?_
  refine L.nt ?_
  refine W.block ?_
  refine W.sr ?_
  refine L.p1 rfl rfl rfl (spec_eqlS rfl (Get.tmp rfl) (Get.cstr (l := [113, 117, 101, 117, 101]) rfl rfl)) ?_
  refine L.as rfl rfl rfl rfl rfl ?_
  refine L.nt ?_
  refine W.cond (Get.tmp rfl) (fun h1 => ?_) (fun h1 => ?_)
  · have ph1 := h1; try simp only [sbx] at ph1
    refine W.sr ?_
    refine L.p1 rfl rfl rfl (spec_call rfl Tryz.call10 (queue33_ok 4 8 (by omega) (by omega)) (.cons (Get.cint rfl) (.cons (Get.cint rfl) .nil))) ?_
    refine L.p1 rfl rfl rfl (spec_extract rfl (Get.tmp rfl) rfl) ?_
    refine L.p1 rfl rfl rfl (spec_extract rfl (Get.tmp rfl) rfl) ?_
    refine L.storeW (k := 0) rfl rfl rfl Tryz.sizeOf27 (Get.tmp rfl) (Get.tmp rfl) rfl rfl rfl ?_
    refine L.as rfl rfl rfl rfl rfl ?_
    refine L.nt ?_
    refine W.keep (.cons (t := 2) rfl (.cons (t := 3) rfl .nil)) .refl ?_
    refine W.ret ?_
    refine N.ret () rfl (.cellA (k := 0) (Get.tmp (t := 2) rfl) rfl Tryz.isAgg27 Tryz.sizeOf27 rfl (.tmp (t := 3) (Get.tmp rfl) .nil)) (res2w (eqA ?_) (eqI ?_)) .nil (fun _ _ h => h)
    all_goals first | (rw [gD_0 (by assumption)]; done) | (rw [gD_0 (by assumption)]; rfl) | (rw [gE_0 (by assumption)]; done) | (rw [gE_0 (by assumption)]; rfl)
  · have ph1 := h1; try simp only [sbx] at ph1
    refine W.sr ?_
    refine L.p1 rfl rfl rfl (spec_eqlS rfl (Get.tmp rfl) (Get.cstr (l := [97, 100, 100, 101, 114]) rfl rfl)) ?_
    refine L.as rfl rfl rfl rfl rfl ?_
    refine L.nt ?_
    refine W.cond (Get.tmp rfl) (fun h2 => ?_) (fun h2 => ?_)
    · have ph2 := h2; try simp only [sbx] at ph2
      refine W.sr ?_
      refine L.p1 rfl rfl rfl (spec_call rfl Tryz.call13 (adder33_ok 8 (by omega)) (.cons (Get.cint rfl) .nil)) ?_
      refine L.p1 rfl rfl rfl (spec_extract rfl (Get.tmp rfl) rfl) ?_
      refine L.p1 rfl rfl rfl (spec_extract rfl (Get.tmp rfl) rfl) ?_
      refine L.storeW (k := 0) rfl rfl rfl Tryz.sizeOf27 (Get.tmp rfl) (Get.tmp rfl) rfl rfl rfl ?_
      refine L.as rfl rfl rfl rfl rfl ?_
      refine L.nt ?_
      refine W.keep (.cons (t := 2) rfl (.cons (t := 3) rfl .nil)) .refl ?_
      refine W.ret ?_
      refine N.ret () rfl (.cellA (k := 0) (Get.tmp (t := 2) rfl) rfl Tryz.isAgg27 Tryz.sizeOf27 rfl (.tmp (t := 3) (Get.tmp rfl) .nil)) (res2w (eqA ?_) (eqI ?_)) .nil (fun _ _ h => h)
      all_goals first | (rw [gD_1 (by assumption)]; done) | (rw [gD_1 (by assumption)]; rfl) | (rw [gE_1 (by assumption)]; done) | (rw [gE_1 (by assumption)]; rfl)
    · have ph2 := h2; try simp only [sbx] at ph2
      refine W.sr ?_
      refine L.p1 rfl rfl rfl (spec_eqlS rfl (Get.tmp rfl) (Get.cstr (l := [99, 111, 117, 110, 116, 101, 114]) rfl rfl)) ?_
      refine L.as rfl rfl rfl rfl rfl ?_
      refine L.nt ?_
      refine W.cond (Get.tmp rfl) (fun h3 => ?_) (fun h3 => ?_)
      · have ph3 := h3; try simp only [sbx] at ph3
        refine W.sr ?_
        refine L.p1 rfl rfl rfl (spec_call rfl Tryz.call15 (counter33_ok 8 (by omega)) (.cons (Get.cint rfl) .nil)) ?_
        refine L.p1 rfl rfl rfl (spec_extract rfl (Get.tmp rfl) rfl) ?_
        refine L.p1 rfl rfl rfl (spec_extract rfl (Get.tmp rfl) rfl) ?_
        refine L.storeW (k := 0) rfl rfl rfl Tryz.sizeOf27 (Get.tmp rfl) (Get.tmp rfl) rfl rfl rfl ?_
        refine L.as rfl rfl rfl rfl rfl ?_
        refine L.nt ?_
        refine W.keep (.cons (t := 2) rfl (.cons (t := 3) rfl .nil)) .refl ?_
        refine W.ret ?_
        refine N.ret () rfl (.cellA (k := 0) (Get.tmp (t := 2) rfl) rfl Tryz.isAgg27 Tryz.sizeOf27 rfl (.tmp (t := 3) (Get.tmp rfl) .nil)) (res2w (eqA ?_) (eqI ?_)) .nil (fun _ _ h => h)
        all_goals first | (rw [gD_2 (by assumption)]; done) | (rw [gD_2 (by assumption)]; rfl) | (rw [gE_2 (by assumption)]; done) | (rw [gE_2 (by assumption)]; rfl)
      · have ph3 := h3; try simp only [sbx] at ph3
        refine W.sr ?_
        refine L.p1 rfl rfl rfl (spec_eqlS rfl (Get.tmp rfl) (Get.cstr (l := [100, 101, 108, 97, 121]) rfl rfl)) ?_
        refine L.as rfl rfl rfl rfl rfl ?_
        refine L.nt ?_
        refine W.keep (.cons (t := 2) rfl (.cons (t := 3) rfl (.cons (t := 4) rfl (.cons (t := 20) rfl .nil)))) .refl ?_
        refine W.cond (Get.tmp rfl) (fun h4 => ?_) (fun h4 => ?_)
        · have ph4 := h4; try simp only [sbx] at ph4
          refine W.sr ?_
          refine L.p1 rfl rfl rfl (spec_call rfl Tryz.call17 (delay33_ok 2 8 (by omega) (by omega)) (.cons (Get.cint rfl) (.cons (Get.cint rfl) .nil))) ?_
          refine L.p1 rfl rfl rfl (spec_extract rfl (Get.tmp rfl) rfl) ?_
          refine L.p1 rfl rfl rfl (spec_extract rfl (Get.tmp rfl) rfl) ?_
          refine L.storeW (k := 0) rfl rfl rfl Tryz.sizeOf27 (Get.tmp rfl) (Get.tmp rfl) rfl rfl rfl ?_
          refine L.as rfl rfl rfl rfl rfl ?_
          refine L.nt ?_
          refine W.keep (.cons (t := 2) rfl (.cons (t := 3) rfl .nil)) .refl ?_
          refine W.ret ?_
          refine N.ret () rfl (.cellA (k := 0) (Get.tmp (t := 2) rfl) rfl Tryz.isAgg27 Tryz.sizeOf27 rfl (.tmp (t := 3) (Get.tmp rfl) .nil)) (res2w (eqA ?_) (eqI ?_)) .nil (fun _ _ h => h)
          all_goals first | (rw [gD_3 (by assumption)]; done) | (rw [gD_3 (by assumption)]; rfl) | (rw [gE_3 (by assumption)]; done) | (rw [gE_3 (by assumption)]; rfl)
        · have ph4 := h4; try simp only [sbx] at ph4
          refine W.sr ?_
          refine L.p1 rfl rfl rfl (spec_eqlS rfl (Get.tmp rfl) (Get.cstr (l := [115, 119, 97, 112]) rfl rfl)) ?_
          refine L.as rfl rfl rfl rfl rfl ?_
          refine L.nt ?_
          refine W.cond (Get.tmp rfl) (fun h5 => ?_) (fun h5 => ?_)
          · have ph5 := h5; try simp only [sbx] at ph5
            refine W.sr ?_
            refine L.p1 rfl rfl rfl (spec_call rfl Tryz.call19 (swap33_ok 8 (by omega)) (.cons (Get.cint rfl) .nil)) ?_
            refine L.p1 rfl rfl rfl (spec_extract rfl (Get.tmp rfl) rfl) ?_
            refine L.p1 rfl rfl rfl (spec_extract rfl (Get.tmp rfl) rfl) ?_
            refine L.storeW (k := 0) rfl rfl rfl Tryz.sizeOf27 (Get.tmp rfl) (Get.tmp rfl) rfl rfl rfl ?_
            refine L.as rfl rfl rfl rfl rfl ?_
            refine L.nt ?_
            refine W.keep (.cons (t := 2) rfl (.cons (t := 3) rfl .nil)) .refl ?_
            refine W.ret ?_
            refine N.ret () rfl (.cellA (k := 0) (Get.tmp (t := 2) rfl) rfl Tryz.isAgg27 Tryz.sizeOf27 rfl (.tmp (t := 3) (Get.tmp rfl) .nil)) (res2w (eqA ?_) (eqI ?_)) .nil (fun _ _ h => h)
            all_goals first | (rw [gD_4 (by assumption)]; done) | (rw [gD_4 (by assumption)]; rfl) | (rw [gE_4 (by assumption)]; done) | (rw [gE_4 (by assumption)]; rfl)
          · have ph5 := h5; try simp only [sbx] at ph5
            refine W.skip ?_
            refine N.blockNormal ?_
            refine N.thenW ?_
            refine W.sr ?_
            refine L.p1 rfl rfl rfl (spec_build (Rs := [Rp.str [], Rp.slice eP [], Rp.slice eWr [], Rp.slice eRg [], Rp.slice eS []]) rfl ti27 z27 Tryz.underlying27 pl27 .nil) ?_
            refine L.storeW (k := 0) rfl rfl rfl Tryz.sizeOf27 (Get.tmp rfl) (Get.tmp rfl) rfl rfl rfl ?_
            refine L.p1 rfl rfl rfl (spec_assign rfl (Get.cint rfl)) ?_
            refine L.nt ?_
            refine W.keep (.cons (t := 2) rfl (.cons (t := 3) rfl .nil)) .refl ?_
            refine W.ret ?_
            refine N.ret () rfl (.cellA (k := 0) (Get.tmp (t := 2) rfl) rfl Tryz.isAgg27 Tryz.sizeOf27 rfl (.tmp (t := 3) (Get.tmp rfl) .nil)) (res2w (eqA ?_) (eqI ?_)) .nil (fun _ _ h => h)
            all_goals (have hg := g_no (s := s) (by assumption) (by assumption) (by assumption) (by assumption) (by assumption); first | (rw [gD_n hg]; done) | (rw [gD_n hg]; rfl) | (rw [gE_n hg]; done) | (rw [gE_n hg]; rfl))

end Go.Proofs.YthlfacmpjehjmaaGreatDoor
set_option linter.unusedSimpArgs false
set_option maxRecDepth 8000
set_option linter.unusedVariables false
namespace Go.Proofs.YthlfacmpjehjmaaGreatDoor
open Go.Sim
theorem LibraryNames_ok (s : List UInt8) : CallT Tryz.prog 8 [Rp.str s] [spG] (.one (Rp.bool true)) := by
  refine W.enter (fn := Tryz.f8) (n := 53) Tryz.func8 rfl Tryz.ntmps8 rfl (fun w₀ C₀ => ?_)
  simp only [argS]
  have hnl : names33.length = 5 := rfl
  refine W.sr ?_
  refine L.p1 rfl rfl rfl (spec_assign rfl Get.cbool) ?_
  refine L.nt ?_
  refine W.sr ?_
  refine L.p1 rfl rfl rfl (spec_callG (k := 0) rfl Tryz.call27 rfl (names27_ok ) .nil) ?_
  refine L.p1 rfl rfl rfl (spec_call rfl Tryz.call28 (names28_ok ) .nil) ?_
  refine L.as rfl rfl rfl rfl rfl ?_
  refine L.as rfl rfl rfl rfl rfl ?_
  refine L.nt ?_
  refine W.seq ?_
  refine W.sr ?_
  refine L.mv rfl rfl rfl rfl rfl ?_
  refine L.p1 rfl rfl rfl (spec_len rfl Tryz.underlying25 (Get.tmp rfl)) ?_
  refine L.mv rfl rfl rfl rfl rfl ?_
  refine L.p1 rfl rfl rfl (spec_len rfl Tryz.underlying25 (Get.tmp rfl)) ?_
  refine L.p1 rfl rfl rfl (spec_neq rfl (Get.tmp rfl) (Get.tmp rfl)) ?_
  refine L.nt ?_
  refine W.cond (Get.tmp rfl) (fun h1 => ?_) (fun h1 => ?_)
  · exfalso; have h := h1; simp at h
  · have ph1 := h1; try simp only [sbx] at ph1
    refine W.skip ?_
    refine N.thenW ?_
    refine W.keep (.cons (t := 0) rfl (.cons (t := 2) rfl (.cons (t := 3) rfl (.cons (t := 4) rfl .nil)))) .refl ?_
    refine W.seq ?_
    refine W.sr ?_
    refine L.mv rfl rfl rfl rfl rfl ?_
    refine L.p1 rfl rfl rfl (spec_len rfl Tryz.underlying25 (Get.tmp rfl)) ?_
    refine L.p1 rfl rfl rfl (spec_move rfl (Get.cint rfl)) ?_
    refine L.nt ?_
    refine W.block ?_
    refine W.loopK (σ := Nat) (.cons (t := 0) rfl (.cons (t := 3) rfl (.cons (t := 4) rfl (.cons (t := 18) rfl .nil)))) (fun z => [(19, Rp.int .i64 (z : Nat))]) (fun z => []) (fun z => z ≤ names33.length) (fun z => names33.length - z) 0 (Nat.zero_le _) (.cons (t := 19) rfl .nil) (.cons 0 rfl .nil) ?_
    intro i hI S' M' hS hM
    try dsimp only at hS hM
    simp only [List.cons_append, List.nil_append] at hS hM
    subst hS hM
    try dsimp only
    refine W.sr ?_
    refine L.p1 rfl rfl rfl (spec_lss rfl (Get.tmp rfl) (Get.tmp rfl)) ?_
    refine L.nt ?_
    refine W.seq ?_
    refine W.cond (Get.tmp rfl) (fun h2 => ?_) (fun h2 => ?_)
    · have ph2 := h2; try simp only [sbx] at ph2
      refine W.skip ?_
      refine N.thenW ?_
      refine W.seq ?_
      refine W.block ?_
      refine W.sr ?_
      refine L.mv rfl rfl rfl rfl rfl ?_
      refine L.as rfl rfl rfl rfl rfl ?_
      refine L.nt ?_
      refine W.seq ?_
      apply W.any 9 mixed (by kernel_rfl)
      · apply Head.one rfl rfl (GSpec.plain rfl (spec_move rfl (Get.tmp rfl)))
        apply Head.one rfl rfl (GSpec.plain rfl (spec_move rfl (Get.tmp rfl)))
        apply Head.one rfl rfl (GSpec.plain rfl (spec_indexAddrD (E := eS) rfl Tryz.underlying25 Tryz.sizeOf9 (fun _ => rfl) (Get.tmp rfl) (Get.tmp rfl) (by omega)))
        apply Head.one rfl rfl (GSpec.plain rfl (spec_loadP1 rfl Tryz.isAgg9 (Get.tmp rfl)))
        apply Head.one rfl rfl (GSpec.plain rfl (spec_move rfl (Get.tmp rfl)))
        apply Head.one rfl rfl (GSpec.plain rfl (spec_move rfl (Get.tmp rfl)))
        apply Head.one rfl rfl (GSpec.plain rfl (spec_indexAddrD (E := eS) rfl Tryz.underlying25 Tryz.sizeOf9 (fun _ => rfl) (Get.tmp rfl) (Get.tmp rfl) (by omega)))
        apply Head.one rfl rfl (GSpec.plain rfl (spec_loadP1 rfl Tryz.isAgg9 (Get.tmp rfl)))
        apply Head.one rfl rfl (GSpec.plain rfl (spec_neqS rfl (Get.tmp rfl) (Get.tmp rfl)))
        exact Head.nil
      refine Fin.one ?_
      refine Fin.one ?_
      refine Fin.one ?_
      refine Fin.one ?_
      refine Fin.one ?_
      refine Fin.one ?_
      refine Fin.one ?_
      refine Fin.one ?_
      refine Fin.one ?_
      refine Fin.nil ?_
      refine L.nt ?_
      refine W.cond (Get.tmp rfl) (fun h3 => ?_) (fun h3 => ?_)
      · exfalso; have h := h3; simp at h
      · have ph3 := h3; try simp only [sbx] at ph3
        refine W.skip ?_
        refine N.blockNormal ?_
        refine N.thenW ?_
        refine W.region ?_
        first | refine L.op1 rfl rfl (GSpec.plain rfl (fit_i64 (by omega) (by omega) (spec_add rfl (Get.tmp rfl) (Get.cint rfl)))) ?_ | refine L.op1 rfl rfl (GSpec.plain rfl (spec_add rfl (Get.tmp rfl) (Get.cint rfl))) ?_
        refine L.mv rfl rfl rfl rfl rfl ?_
        refine L.nil ?_
        refine N.roundK (i + 1) ?hI1 ?hmu1 ?hs1 ?hk1 ?hp1
        case hs1 => exact (.cons (t := 19) rfl .nil)
        case hk1 => exact (.cons (t := 0) rfl (.cons (t := 3) rfl (.cons (t := 4) rfl (.cons (t := 18) rfl .nil))))
        case hp1 => exact (.cons 0 rfl .nil)
        all_goals (first | rfl | trivial | omega | (simp_all; done))
    · have ph2 := h2; try simp only [sbx] at ph2
      refine W.exit ?_
      refine N.thenExit ?_
      refine N.thenExit ?_
      refine N.blockExit ?_
      refine N.thenW ?_
      refine W.sr ?_
      refine L.mv rfl rfl rfl rfl rfl ?_
      refine L.p1 rfl rfl rfl (spec_callG (k := 0) rfl Tryz.call29 rfl (get_ok s) (.cons (Get.tmp rfl) .nil)) ?_
      refine L.mv rfl rfl rfl rfl rfl ?_
      refine L.p1 rfl rfl rfl (spec_extract rfl (Get.tmp rfl) rfl) ?_
      refine L.p1 rfl rfl rfl (spec_extract rfl (Get.tmp rfl) rfl) ?_
      refine L.box rfl rfl (GSpec.plain rfl (spec_alloc rfl ti27 z27)) (fun r6 => ?_)
      refine L.storeW (k := 0) rfl rfl rfl Tryz.sizeOf27 (Get.tmp rfl) (Get.tmp rfl) rfl rfl rfl ?_
      refine L.as rfl rfl rfl rfl rfl ?_
      refine L.nt ?_
      refine W.keep (.cons (t := 0) rfl (.cons (t := 6) rfl (.cons (t := 7) rfl .nil))) .refl ?_
      refine W.sr ?_
      refine L.mv rfl rfl rfl rfl rfl ?_
      refine L.p1 rfl rfl rfl (spec_call rfl Tryz.call30 (get33_ok s) (.cons (Get.tmp rfl) .nil)) ?_
      refine L.mv rfl rfl rfl rfl rfl ?_
      refine L.p1 rfl rfl rfl (spec_extract rfl (Get.tmp rfl) rfl) ?_
      refine L.p1 rfl rfl rfl (spec_extract rfl (Get.tmp rfl) rfl) ?_
      refine L.box rfl rfl (GSpec.plain rfl (spec_alloc rfl ti27 z27)) (fun r8 => ?_)
      refine L.storeW (k := 0) rfl rfl rfl Tryz.sizeOf27 (Get.tmp rfl) (Get.tmp rfl) rfl rfl rfl ?_
      refine L.as rfl rfl rfl rfl rfl ?_
      refine L.nt ?_
      refine W.keep (.cons (t := 6) rfl (.cons (t := 7) rfl (.cons (t := 8) rfl (.cons (t := 9) rfl .nil)))) .refl ?_
      refine W.sr ?_
      refine L.p1 rfl rfl rfl (spec_loadW (k := 1) rfl Tryz.isAgg27 Tryz.sizeOf27 (Get.tmp rfl) rfl rfl) ?_
      refine L.p1 rfl rfl rfl (spec_loadW (k := 0) rfl Tryz.isAgg27 Tryz.sizeOf27 (Get.tmp rfl) rfl rfl) ?_
      refine L.p1 rfl rfl rfl (spec_call rfl Tryz.call11 (sameD_ok (getD1 s)) (.cons (Get.tmp rfl) (.cons (Get.tmp rfl) .nil))) ?_
      refine L.mv rfl rfl rfl rfl rfl ?_
      refine L.op1 rfl rfl (GSpec.guard rfl rfl rfl fun hg => (spec_move rfl (Get.tmp rfl))) ?_
      refine L.op1 rfl rfl (GSpec.guard rfl rfl rfl fun hg => (spec_move rfl (Get.tmp rfl))) ?_
      refine L.op1 rfl rfl (GSpec.guard rfl rfl rfl fun hg => (spec_eql rfl (Get.opt rfl hg) (Get.opt rfl hg))) ?_
      refine L.p1 rfl rfl rfl (spec_and rfl (Get.tmp rfl) (fun hb => (Get.opt rfl hb))) ?_
      refine L.mv rfl rfl rfl rfl rfl ?_
      refine L.op1 rfl rfl (GSpec.guard rfl rfl rfl fun hg => (spec_callG (k := 2) rfl Tryz.call20 rfl (awake_ok ) .nil)) ?_
      refine L.p1 rfl rfl rfl (spec_and rfl (Get.tmp rfl) (fun hb => (Get.opt rfl hb))) ?_
      refine L.as rfl rfl rfl rfl rfl ?_
      refine L.nt ?_
      refine W.keep (.cons (t := 2) rfl .nil) .refl ?_
      refine W.ret ?_
      refine N.ret () rfl (.tmp (t := 2) (Get.tmp rfl) .nil) (res1 (eqB ?_)) .nil (fun _ _ h => h)
      all_goals (first | rfl | (simp_all []; done) | omega)

end Go.Proofs.YthlfacmpjehjmaaGreatDoor
/- The laid table; numbers and strings opened. -/
set_option linter.unusedSimpArgs false
set_option linter.unusedVariables false
namespace Go.Proofs.YthlfacmpjehjmaaGreatDoor
open Go.Sim Go.ChangeShapes Go.WideShapes
theorem laid_tail {P : Program} {x : String × DataW Unit} {r : List (String × DataW Unit)} {W : World} (h : laidMet P (x :: r) W) : laidMet P r W := by
  obtain ⟨ps, ⟨g, t, cs, fuel, p, q, _, _, _, _, h, rfl⟩, hn, hc⟩ := h
  exact ⟨q, h, (List.nodup_append.1 hn).2.1, fun b off hm => hc b off (List.mem_append.2 (.inr hm))⟩
theorem tab_datum : (Rows.laid_strings_asciiSpace : DataW Unit) = Lib.tabData .u8 spTab := by kernel_rfl
theorem tab_in : ∀ z ∈ spTab, InR .u8 z := by
  have h : spTab.all (fun z => decide (0 ≤ z ∧ z ≤ 255)) = true := by kernel_rfl
  intro z hz
  have := of_decide_eq_true (List.all_eq_true.1 h z hz)
  simp only [InR]; omega
theorem sp_laid {W : World} (h : laidMetH Tryz.prog [("math/bits.deBruijn32tab", Rows.laid_math_bits_deBruijn32tab), ("math/bits.deBruijn64tab", Rows.laid_math_bits_deBruijn64tab), ("internal/strconv.uint64pow10", Rows.laid_internal_strconv_uint64pow10), ("unicode.White_Space", Rows.laid_unicode_White_Space), ("strings.asciiSpace", Rows.laid_strings_asciiSpace)] W) : ∀ F ∈ [spG], F.p W (old W) := fun F hF => by
  rw [List.mem_singleton.1 hF]
  rw [MakeChecks.laidMetH_plain _ _ _ (by kernel_rfl)] at h
  have h3 := laid_tail (laid_tail (laid_tail (laid_tail h)))
  have hg : Tryz.prog.globalNamed "strings.asciiSpace" = some 0 := by kernel_rfl
  rw [tab_datum] at h3
  exact glob_tab hg (Lib.tabIs_of_head (rest := []) hg (by kernel_rfl) Tryz.underlying123 Tryz.underlying5 (by kernel_rfl) (by kernel_rfl) h3) tab_in
theorem ov_i64 : OpensVS Tryz.prog 3 (fun n : Int => Rp.int .i64 n) (fun _ => True) := OpensVS.one (fun N => OpensS.of (Opens.int Tryz.underlying3)) (cells_int Tryz.underlying3)
theorem ov_str : OpensVS Tryz.prog 9 (fun s : List UInt8 => Rp.str s) (fun _ => True) := OpensVS.one (fun N => OpensS.of (Opens.str Tryz.underlying9)) (cells_str Tryz.underlying9)
end Go.Proofs.YthlfacmpjehjmaaGreatDoor
