/- Lemmas for the claim, part 8: rules for walks, contracts of functions, the data they compute. No conditions. -/
import Derived.Test.YthlfacmpjehjmaaGreatDoorP7
import Derived.Test.YthlfacmpjehjmaaGreatDoorP3
import Derived.Test.YthlfacmpjehjmaaGreatDoorP6
import Derived.Test.YthlfacmpjehjmaaGreatDoorP2
import Derived.SizedLaws
import Derived.Test.YthlfacmpjehjmaaGreatDoorRows
set_option linter.unusedSimpArgs false
set_option maxRecDepth 8000
set_option linter.unusedVariables false
namespace Go.Proofs.YthlfacmpjehjmaaGreatDoor
open Go.Sim
theorem takeS_ok (i : Nat) : CallT Tryz.prog 61 [Rp.at (eX (refE sN)), Rp.at [Rp.int .i64 (i : Nat)]] [] (.one (Rp.agg (eX (takeS i)))) := by
  refine W.enter (fn := Tryz.f61) (n := 8) Tryz.func61 rfl Tryz.ntmps61 rfl (fun w₀ C₀ => ?_)
  simp only [argS]
  refine W.seq ?_
  refine W.region ?_
  refine L.box rfl rfl (GSpec.plain rfl (spec_alloc rfl ti66 z66)) (fun r2 => ?_)
  refine L.nil ?_
  refine N.thenW ?_
  refine W.seq ?_
  apply W.any 5 mixed (by kernel_rfl)
  · apply Head.one rfl rfl (GSpec.plain rfl (spec_call rfl Tryz.call35 (ref_ok _) (.cons (Get.cstr (l := [112, 117, 115, 104]) rfl rfl) .nil)))
    apply Head.one rfl rfl (GSpec.plain rfl (spec_loadPA rfl Tryz.isAgg66 Tryz.sizeOf66 (Get.tmp rfl) rfl))
    apply Head.one rfl rfl (GSpec.plain rfl (spec_loadP1 rfl Tryz.isAgg3 (Get.tmp rfl)))
    apply Head.one rfl rfl (GSpec.plain rfl (spec_call rfl Tryz.call46 (equal_ok _ _) (.cons (Get.tmp rfl) (.cons (Get.tmp rfl) .nil))))
    apply Head.one rfl rfl (GSpec.plain rfl (spec_call rfl Tryz.call45 (both_ok _ _) (.cons (Get.tmp rfl) (.cons (Get.tmp rfl) .nil))))
    exact Head.nil
  refine Fin.one ?_
  refine Fin.one ?_
  refine Fin.one ?_
  refine Fin.one ?_
  refine Fin.one ?_
  refine Fin.nil ?_
  refine L.storeW (k := 0) rfl rfl rfl Tryz.sizeOf66 (Get.tmp rfl) (Get.tmp rfl) rfl rfl rfl ?_
  refine L.nil ?_
  refine N.thenW ?_
  refine W.ret ?_
  refine N.ret () rfl (.cellA (k := 0) (Get.tmp (t := 2) rfl) rfl Tryz.isAgg66 Tryz.sizeOf66 rfl .nil) (res1 (eqA ?_)) .nil (fun _ _ h => h)
  rfl

theorem swap_ok (w : Int) (hw : 1 ≤ w ∧ w ≤ 8) : CallT Tryz.prog 18 [Rp.int .i64 w] [spG] (.one (Rp.tuple [Rp.agg (eD (swapD w)), Rp.int .i64 0])) := by
  refine W.enter (fn := Tryz.f18) (n := 132) Tryz.func18 rfl Tryz.ntmps18 rfl (fun w₀ C₀ => ?_)
  simp only [argS]
  refine W.seq ?_
  refine W.region ?_
  refine L.box rfl rfl (GSpec.plain rfl (spec_alloc rfl ti27 z27)) (fun r2 => ?_)
  refine L.op1 rfl rfl (GSpec.plain rfl (spec_assign rfl (Get.cint rfl))) ?_
  refine L.nil ?_
  refine N.thenW ?_
  refine W.seq ?_
  refine W.seq ?_
  refine W.region ?_
  refine L.op1 rfl rfl (GSpec.plain rfl (spec_move rfl (Get.tmp rfl))) ?_
  refine L.op1 rfl rfl (GSpec.plain rfl (spec_call rfl Tryz.call31 (within_ok _) (.cons (Get.tmp rfl) .nil))) ?_
  refine L.op1 rfl rfl (GSpec.plain rfl (spec_not rfl (Get.tmp rfl))) ?_
  refine L.nil ?_
  refine N.thenW ?_
  refine W.keep (.cons (t := 0) rfl (.cons (t := 2) rfl (.cons (t := 3) rfl (.cons (t := 15) rfl .nil)))) .refl ?_
  refine W.cond (Get.tmp rfl) (fun h1 => ?_) (fun h1 => ?_)
  · exfalso; have h := h1; simp only [show decide (1 ≤ w) = true from decide_eq_true hw.1, show decide (w ≤ 8) = true from decide_eq_true hw.2] at h; revert h; decide
  · have ph1 := h1; try simp only [decide_eq_true_eq, decide_eq_false_iff_not, Bool.and_eq_true, Bool.or_eq_true, Bool.and_eq_false_iff, Bool.or_eq_false_iff, Bool.not_eq_true', Bool.not_eq_false', Bool.not_true, Bool.not_false, Int.not_lt, Int.not_le] at ph1
    refine W.skip ?_
    refine N.thenW ?_
    refine W.seq ?_
    refine W.region ?_
    refine L.op1 rfl rfl (GSpec.plain rfl (spec_move rfl (Get.tmp rfl))) ?_
    refine L.call rfl rfl rfl rfl Tryz.call32 (begin_ok _ _) (.cons 1 rfl .refl) (.cons (Get.cstr (l := [115, 119, 97, 112]) rfl rfl) (.cons (Get.tmp rfl) .nil)) (fun v18 => ?_)
    try dsimp only
    refine L.op1 rfl rfl (GSpec.plain rfl (spec_assign rfl (Get.tmp rfl))) ?_
    refine L.nil ?_
    refine N.thenW ?_
    refine W.seq ?_
    refine W.region ?_
    refine L.op1 rfl rfl (GSpec.plain rfl (spec_call rfl Tryz.call35 (ref_ok _) (.cons (Get.cstr (l := [110]) rfl rfl) .nil))) ?_
    refine L.op1 rfl rfl (GSpec.plain rfl (spec_call rfl Tryz.call35 (ref_ok _) (.cons (Get.cstr (l := [114]) rfl rfl) .nil))) ?_
    refine L.op1 rfl rfl (GSpec.plain rfl (spec_call rfl Tryz.call35 (ref_ok _) (.cons (Get.cstr (l := [115]) rfl rfl) .nil))) ?_
    refine L.op1 rfl rfl (GSpec.plain rfl (spec_call rfl Tryz.call35 (ref_ok _) (.cons (Get.cstr (l := [109]) rfl rfl) .nil))) ?_
    refine L.box rfl rfl (GSpec.plain rfl (spec_alloc rfl ti66 z66)) (fun r5 => ?_)
    refine L.box rfl rfl (GSpec.plain rfl (spec_alloc rfl ti66 z66)) (fun r6 => ?_)
    refine L.box rfl rfl (GSpec.plain rfl (spec_alloc rfl ti66 z66)) (fun r7 => ?_)
    refine L.box rfl rfl (GSpec.plain rfl (spec_alloc rfl ti66 z66)) (fun r8 => ?_)
    refine L.storeW (k := 3) rfl rfl rfl Tryz.sizeOf66 (Get.tmp rfl) (Get.tmp rfl) rfl rfl rfl ?_
    refine L.storeW (k := 2) rfl rfl rfl Tryz.sizeOf66 (Get.tmp rfl) (Get.tmp rfl) rfl rfl rfl ?_
    refine L.storeW (k := 1) rfl rfl rfl Tryz.sizeOf66 (Get.tmp rfl) (Get.tmp rfl) rfl rfl rfl ?_
    refine L.storeW (k := 0) rfl rfl rfl Tryz.sizeOf66 (Get.tmp rfl) (Get.tmp rfl) rfl rfl rfl ?_
    refine L.nil ?_
    refine N.thenW ?_
    refine W.pubB 5 3 rfl rfl ?_
    refine W.keep (.cons (t := 0) rfl (.cons (t := 2) rfl (.cons (t := 3) rfl (.cons (t := 4) rfl (.cons (t := 5) rfl (.cons (t := 6) rfl (.cons (t := 7) rfl (.cons (t := 8) rfl .nil)))))))) .refl ?_
    refine W.seq ?_
    apply W.any 7 mixed (by kernel_rfl)
    · apply Head.one rfl rfl (GSpec.plain rfl (spec_move rfl (Get.tmp rfl)))
      apply Head.one rfl rfl (GSpec.plain rfl (spec_loadW (k := 0) rfl Tryz.isAgg66 Tryz.sizeOf66 (Get.tmp rfl) rfl rfl))
      apply Head.one rfl rfl (GSpec.plain rfl (spec_call rfl Tryz.call57 (not_ok _) (.cons (Get.tmp rfl) .nil)))
      apply Head.one rfl rfl (GSpec.plain rfl (spec_loadPA rfl Tryz.isAgg66 Tryz.sizeOf66 (Get.tmp rfl) rfl))
      apply Head.one rfl rfl (GSpec.plain rfl (spec_call rfl Tryz.call36 (num_ok _) (.cons (Get.cint rfl) .nil)))
      apply Head.one rfl rfl (GSpec.plain rfl (spec_call rfl Tryz.call34 (less_ok _ _) (.cons (Get.tmp rfl) (.cons (Get.tmp rfl) .nil))))
      apply Head.one rfl rfl (GSpec.plain rfl (spec_call rfl Tryz.call45 (both_ok _ _) (.cons (Get.tmp rfl) (.cons (Get.tmp rfl) .nil))))
      exact Head.nil
    refine Fin.one ?_
    refine Fin.one ?_
    refine Fin.one ?_
    refine Fin.one ?_
    refine Fin.one ?_
    refine Fin.one ?_
    refine Fin.one ?_
    refine Fin.nil ?_
    refine L.call rfl rfl rfl rfl Tryz.call33 (wireB_ok _ _ _ _ _ _ (by first | omega | (simp only [addW, addR, pushD, popD, stageD, queue0, delay0, swapW, swap0, beginD, List.length_append, List.length_cons, List.length_nil]; omega) | decide)) (.cons 4 rfl (.cons 4 rfl (.cons 4 rfl .refl))) (.cons (Get.tmp rfl) (.cons (Get.cstr (l := [105, 114, 100, 121]) rfl rfl) (.cons (Get.cint rfl) (.cons (Get.tmp rfl) .nil)))) (fun v30 => ?_)
    try dsimp only
    refine L.nil ?_
    refine N.thenW ?_
    refine W.keep (.cons (t := 0) rfl (.cons (t := 2) rfl (.cons (t := 3) rfl (.cons (t := 4) rfl (.cons (t := 5) rfl (.cons (t := 6) rfl (.cons (t := 7) rfl (.cons (t := 8) rfl .nil)))))))) .refl ?_
    refine W.seq ?_
    refine W.region ?_
    refine L.op1 rfl rfl (GSpec.plain rfl (spec_move rfl (Get.tmp rfl))) ?_
    refine L.op1 rfl rfl (GSpec.plain rfl (spec_loadW (k := 3) rfl Tryz.isAgg66 Tryz.sizeOf66 (Get.tmp rfl) rfl rfl)) ?_
    refine L.call rfl rfl rfl rfl Tryz.call33 (wireB_ok _ _ _ _ _ _ (by first | omega | (simp only [addW, addR, pushD, popD, stageD, queue0, delay0, swapW, swap0, beginD, List.length_append, List.length_cons, List.length_nil]; omega) | decide)) (.cons 0 rfl (.cons 0 rfl (.cons 0 rfl .refl))) (.cons (Get.tmp rfl) (.cons (Get.cstr (l := [111, 118]) rfl rfl) (.cons (Get.cint rfl) (.cons (Get.tmp rfl) .nil)))) (fun v33 => ?_)
    try dsimp only
    refine L.nil ?_
    refine N.thenW ?_
    refine W.seq ?_
    refine W.region ?_
    refine L.op1 rfl rfl (GSpec.plain rfl (spec_move rfl (Get.tmp rfl))) ?_
    refine L.op1 rfl rfl (GSpec.plain rfl (spec_loadPA rfl Tryz.isAgg66 Tryz.sizeOf66 (Get.tmp rfl) rfl)) ?_
    refine L.op1 rfl rfl (GSpec.plain rfl (spec_call rfl Tryz.call46 (equal_ok _ _) (.cons (Get.tmp rfl) (.cons (Get.cint rfl) .nil)))) ?_
    refine L.op1 rfl rfl (GSpec.plain rfl (spec_call rfl Tryz.call35 (ref_ok _) (.cons (Get.cstr (l := [116, 49]) rfl rfl) .nil))) ?_
    refine L.op1 rfl rfl (GSpec.plain rfl (spec_call rfl Tryz.call35 (ref_ok _) (.cons (Get.cstr (l := [116, 48]) rfl rfl) .nil))) ?_
    refine L.op1 rfl rfl (GSpec.plain rfl (spec_call rfl Tryz.call44 (when_ok _ _ _) (.cons (Get.tmp rfl) (.cons (Get.tmp rfl) (.cons (Get.tmp rfl) .nil))))) ?_
    refine L.call rfl rfl rfl rfl Tryz.call33 (wireB_ok _ _ _ _ _ _ (by first | omega | (simp only [addW, addR, pushD, popD, stageD, queue0, delay0, swapW, swap0, beginD, List.length_append, List.length_cons, List.length_nil]; omega) | decide)) (.cons 0 rfl (.cons 0 rfl (.cons 0 rfl .refl))) (.cons (Get.tmp rfl) (.cons (Get.cstr (l := [111, 116]) rfl rfl) (.cons (Get.cint rfl) (.cons (Get.tmp rfl) .nil)))) (fun v40 => ?_)
    try dsimp only
    refine L.nil ?_
    refine N.thenW ?_
    refine W.keep (.cons (t := 0) rfl (.cons (t := 2) rfl (.cons (t := 3) rfl (.cons (t := 4) rfl (.cons (t := 5) rfl (.cons (t := 6) rfl (.cons (t := 7) rfl (.cons (t := 8) rfl .nil)))))))) .refl ?_
    refine W.seq ?_
    refine W.region ?_
    refine L.op1 rfl rfl (GSpec.plain rfl (spec_move rfl (Get.tmp rfl))) ?_
    refine L.op1 rfl rfl (GSpec.plain rfl (spec_move rfl (Get.tmp rfl))) ?_
    refine L.op1 rfl rfl (GSpec.plain rfl (spec_loadPA rfl Tryz.isAgg66 Tryz.sizeOf66 (Get.tmp rfl) rfl)) ?_
    refine L.op1 rfl rfl (GSpec.plain rfl (spec_call rfl Tryz.call46 (equal_ok _ _) (.cons (Get.tmp rfl) (.cons (Get.cint rfl) .nil)))) ?_
    refine L.op1 rfl rfl (GSpec.plain rfl (spec_call rfl Tryz.call35 (ref_ok _) (.cons (Get.cstr (l := [97, 49]) rfl rfl) .nil))) ?_
    refine L.op1 rfl rfl (GSpec.plain rfl (spec_call rfl Tryz.call35 (ref_ok _) (.cons (Get.cstr (l := [97, 48]) rfl rfl) .nil))) ?_
    refine L.op1 rfl rfl (GSpec.plain rfl (spec_call rfl Tryz.call44 (when_ok _ _ _) (.cons (Get.tmp rfl) (.cons (Get.tmp rfl) (.cons (Get.tmp rfl) .nil))))) ?_
    refine L.call rfl rfl rfl rfl Tryz.call33 (wireB_ok _ _ _ _ _ _ (by first | omega | (simp only [addW, addR, pushD, popD, stageD, queue0, delay0, swapW, swap0, beginD, List.length_append, List.length_cons, List.length_nil]; omega) | decide)) (.cons 0 rfl (.cons 0 rfl (.cons 0 rfl .refl))) (.cons (Get.tmp rfl) (.cons (Get.cstr (l := [111, 97]) rfl rfl) (.cons (Get.tmp rfl) (.cons (Get.tmp rfl) .nil)))) (fun v48 => ?_)
    try dsimp only
    refine L.nil ?_
    refine N.thenW ?_
    refine W.keep (.cons (t := 0) rfl (.cons (t := 2) rfl (.cons (t := 3) rfl (.cons (t := 4) rfl (.cons (t := 5) rfl (.cons (t := 6) rfl (.cons (t := 7) rfl (.cons (t := 8) rfl .nil)))))))) .refl ?_
    refine W.seq ?_
    refine W.region ?_
    refine L.op1 rfl rfl (GSpec.plain rfl (spec_move rfl (Get.tmp rfl))) ?_
    refine L.call rfl rfl rfl rfl Tryz.call37 (push_ok _ _ _ (by first | omega | (simp only [addW, addR, pushD, popD, stageD, queue0, delay0, swapW, swap0, beginD, List.length_append, List.length_cons, List.length_nil]; omega) | decide)) (.cons 0 rfl (.cons 0 rfl (.cons 0 rfl .refl))) (.cons (Get.tmp rfl) .nil) (fun v50 => ?_)
    try dsimp only
    refine L.nil ?_
    refine N.thenW ?_
    refine W.seq ?_
    refine W.region ?_
    refine L.op1 rfl rfl (GSpec.plain rfl (spec_move rfl (Get.tmp rfl))) ?_
    refine L.call rfl rfl rfl rfl Tryz.call38 (pop_ok _ _ _ (by first | omega | (simp only [addW, addR, pushD, popD, stageD, queue0, delay0, swapW, swap0, beginD, List.length_append, List.length_cons, List.length_nil]; omega) | decide)) (.cons 0 rfl (.cons 0 rfl (.cons 0 rfl .refl))) (.cons (Get.tmp rfl) .nil) (fun v52 => ?_)
    try dsimp only
    refine L.nil ?_
    refine N.thenW ?_
    refine W.seq ?_
    apply W.any 6 mixed (by kernel_rfl)
    · apply Head.one rfl rfl (GSpec.plain rfl (spec_move rfl (Get.tmp rfl)))
      apply Head.one rfl rfl (GSpec.plain rfl (spec_loadPA rfl Tryz.isAgg66 Tryz.sizeOf66 (Get.tmp rfl) rfl))
      apply Head.one rfl rfl (GSpec.plain rfl (spec_call rfl Tryz.call35 (ref_ok _) (.cons (Get.cstr (l := [112, 117, 115, 104]) rfl rfl) .nil)))
      apply Head.one rfl rfl (GSpec.plain rfl (spec_call rfl Tryz.call41 (plus_ok _ _) (.cons (Get.tmp rfl) (.cons (Get.tmp rfl) .nil))))
      apply Head.one rfl rfl (GSpec.plain rfl (spec_call rfl Tryz.call35 (ref_ok _) (.cons (Get.cstr (l := [112, 111, 112]) rfl rfl) .nil)))
      apply Head.one rfl rfl (GSpec.plain rfl (spec_call rfl Tryz.call39 (minus_ok _ _) (.cons (Get.tmp rfl) (.cons (Get.tmp rfl) .nil))))
      exact Head.nil
    refine Fin.one ?_
    refine Fin.one ?_
    refine Fin.one ?_
    refine Fin.one ?_
    refine Fin.one ?_
    refine Fin.one ?_
    refine Fin.nil ?_
    refine L.call rfl rfl rfl rfl Tryz.call33 (wireB_ok _ _ _ _ _ _ (by first | omega | (simp only [addW, addR, pushD, popD, stageD, queue0, delay0, swapW, swap0, beginD, List.length_append, List.length_cons, List.length_nil]; omega) | decide)) (.cons 0 rfl (.cons 0 rfl (.cons 0 rfl .refl))) (.cons (Get.tmp rfl) (.cons (Get.cstr (l := [114]) rfl rfl) (.cons (Get.cint rfl) (.cons (Get.tmp rfl) .nil)))) (fun v59 => ?_)
    try dsimp only
    refine L.nil ?_
    refine N.thenW ?_
    refine W.keep (.cons (t := 0) rfl (.cons (t := 2) rfl (.cons (t := 3) rfl (.cons (t := 4) rfl (.cons (t := 5) rfl (.cons (t := 6) rfl (.cons (t := 7) rfl (.cons (t := 8) rfl .nil)))))))) .refl ?_
    refine W.seq ?_
    refine W.region ?_
    refine L.op1 rfl rfl (GSpec.plain rfl (spec_move rfl (Get.tmp rfl))) ?_
    refine L.op1 rfl rfl (GSpec.plain rfl (spec_loadW (k := 5) rfl Tryz.isAgg66 Tryz.sizeOf66 (Get.tmp rfl) rfl rfl)) ?_
    refine L.call rfl rfl rfl rfl Tryz.call40 (regB_ok _ _ _ _ _ _ (by first | omega | (simp only [addW, addR, pushD, popD, stageD, queue0, delay0, swapW, swap0, beginD, List.length_append, List.length_cons, List.length_nil]; omega) | decide)) (.cons 0 rfl (.cons 0 rfl (.cons 0 rfl .refl))) (.cons (Get.tmp rfl) (.cons (Get.cstr (l := [110]) rfl rfl) (.cons (Get.cint rfl) (.cons (Get.tmp rfl) .nil)))) (fun v62 => ?_)
    try dsimp only
    refine L.nil ?_
    refine N.thenW ?_
    refine W.seq ?_
    apply W.any 5 mixed (by kernel_rfl)
    · apply Head.one rfl rfl (GSpec.plain rfl (spec_loadW (k := 5) rfl Tryz.isAgg66 Tryz.sizeOf66 (Get.tmp rfl) rfl rfl))
      apply Head.one rfl rfl (GSpec.plain rfl (spec_call rfl Tryz.call36 (num_ok _) (.cons (Get.cint rfl) .nil)))
      apply Head.one rfl rfl (GSpec.plain rfl (spec_buildSliceN (xs := [refE sR, numE 0]) (E := eX) rfl Tryz.underlying64 ti66 z66 (by first | decide | simp) rfl (.cons (GetC.agg (Get.tmp rfl)) rfl rfl rfl (.cons (GetC.agg (Get.tmp rfl)) rfl rfl rfl .nil)) rfl rfl))
      apply Head.one rfl rfl (GSpec.plain rfl (spec_call rfl Tryz.call60 (node_ok _ _ (by first | decide | omega | (simp; done))) (.cons (Get.cint rfl) (.cons (Get.tmp rfl) .nil))))
      apply Head.sink rfl rfl (GSpec.plain rfl (spec_alloc rfl ti66 z66))
      exact Head.nil
    refine Fin.one ?_
    refine Fin.one ?_
    refine Fin.one ?_
    refine Fin.one ?_
    refine Fin.sink (fun (r9 : Nat) => ?_)
    refine Fin.nil ?_
    refine L.storeW (k := 0) rfl rfl rfl Tryz.sizeOf66 (Get.tmp rfl) (Get.tmp rfl) rfl rfl rfl ?_
    refine L.nil ?_
    refine N.thenW ?_
    refine W.keep (.cons (t := 0) rfl (.cons (t := 2) rfl (.cons (t := 3) rfl (.cons (t := 4) rfl (.cons (t := 5) rfl (.cons (t := 6) rfl (.cons (t := 7) rfl (.cons (t := 8) rfl (.cons (t := 9) rfl .nil))))))))) .refl ?_
    refine W.seq ?_
    apply W.any 12 mixed (by kernel_rfl)
    · apply Head.one rfl rfl (GSpec.plain rfl (spec_move rfl (Get.tmp rfl)))
      apply Head.one rfl rfl (GSpec.plain rfl (spec_loadW (k := 4) rfl Tryz.isAgg66 Tryz.sizeOf66 (Get.tmp rfl) rfl rfl))
      apply Head.one rfl rfl (GSpec.plain rfl (spec_loadW (k := 0) rfl Tryz.isAgg66 Tryz.sizeOf66 (Get.tmp rfl) rfl rfl))
      apply Head.one rfl rfl (GSpec.plain rfl (spec_loadW (k := 6) rfl Tryz.isAgg66 Tryz.sizeOf66 (Get.tmp rfl) rfl rfl))
      apply Head.one rfl rfl (GSpec.plain rfl (spec_call rfl Tryz.call46 (equal_ok _ _) (.cons (Get.tmp rfl) (.cons (Get.cint rfl) .nil))))
      apply Head.one rfl rfl (GSpec.plain rfl (spec_loadW (k := 6) rfl Tryz.isAgg66 Tryz.sizeOf66 (Get.tmp rfl) rfl rfl))
      apply Head.one rfl rfl (GSpec.plain rfl (spec_call rfl Tryz.call46 (equal_ok _ _) (.cons (Get.tmp rfl) (.cons (Get.cint rfl) .nil))))
      apply Head.one rfl rfl (GSpec.plain rfl (spec_loadW (k := 5) rfl Tryz.isAgg66 Tryz.sizeOf66 (Get.tmp rfl) rfl rfl))
      apply Head.one rfl rfl (GSpec.plain rfl (spec_call rfl Tryz.call46 (equal_ok _ _) (.cons (Get.tmp rfl) (.cons (Get.cint rfl) .nil))))
      apply Head.one rfl rfl (GSpec.plain rfl (spec_call rfl Tryz.call45 (both_ok _ _) (.cons (Get.tmp rfl) (.cons (Get.tmp rfl) .nil))))
      apply Head.one rfl rfl (GSpec.plain rfl (spec_call rfl Tryz.call56 (either_ok _ _) (.cons (Get.tmp rfl) (.cons (Get.tmp rfl) .nil))))
      apply Head.one rfl rfl (GSpec.plain rfl (spec_call rfl Tryz.call44 (when_ok _ _ _) (.cons (Get.tmp rfl) (.cons (Get.tmp rfl) (.cons (Get.tmp rfl) .nil)))))
      exact Head.nil
    refine Fin.one ?_
    refine Fin.one ?_
    refine Fin.one ?_
    refine Fin.one ?_
    refine Fin.one ?_
    refine Fin.one ?_
    refine Fin.one ?_
    refine Fin.one ?_
    refine Fin.one ?_
    refine Fin.one ?_
    refine Fin.one ?_
    refine Fin.one ?_
    refine Fin.nil ?_
    refine L.call rfl rfl rfl rfl Tryz.call40 (regB_ok _ _ _ _ _ _ (by first | omega | (simp only [addW, addR, pushD, popD, stageD, queue0, delay0, swapW, swap0, beginD, List.length_append, List.length_cons, List.length_nil]; omega) | decide)) (.cons 1 rfl (.cons 1 rfl (.cons 1 rfl .refl))) (.cons (Get.tmp rfl) (.cons (Get.cstr (l := [109]) rfl rfl) (.cons (Get.cint rfl) (.cons (Get.tmp rfl) .nil)))) (fun v79 => ?_)
    try dsimp only
    refine L.nil ?_
    refine N.thenW ?_
    refine W.keep (.cons (t := 0) rfl (.cons (t := 2) rfl (.cons (t := 3) rfl (.cons (t := 4) rfl (.cons (t := 5) rfl (.cons (t := 7) rfl (.cons (t := 8) rfl .nil))))))) .refl ?_
    refine W.seq ?_
    apply W.any 13 mixed (by kernel_rfl)
    · apply Head.one rfl rfl (GSpec.plain rfl (spec_loadW (k := 4) rfl Tryz.isAgg66 Tryz.sizeOf66 (Get.tmp rfl) rfl rfl))
      apply Head.one rfl rfl (GSpec.plain rfl (spec_call rfl Tryz.call57 (not_ok _) (.cons (Get.tmp rfl) .nil)))
      apply Head.one rfl rfl (GSpec.plain rfl (spec_loadPA rfl Tryz.isAgg66 Tryz.sizeOf66 (Get.tmp rfl) rfl))
      apply Head.one rfl rfl (GSpec.plain rfl (spec_call rfl Tryz.call46 (equal_ok _ _) (.cons (Get.tmp rfl) (.cons (Get.cint rfl) .nil))))
      apply Head.one rfl rfl (GSpec.plain rfl (spec_call rfl Tryz.call45 (both_ok _ _) (.cons (Get.tmp rfl) (.cons (Get.tmp rfl) .nil))))
      apply Head.one rfl rfl (GSpec.plain rfl (spec_call rfl Tryz.call35 (ref_ok _) (.cons (Get.cstr (l := [112, 117, 115, 104]) rfl rfl) .nil)))
      apply Head.one rfl rfl (GSpec.plain rfl (spec_call rfl Tryz.call57 (not_ok _) (.cons (Get.tmp rfl) .nil)))
      apply Head.one rfl rfl (GSpec.plain rfl (spec_call rfl Tryz.call45 (both_ok _ _) (.cons (Get.tmp rfl) (.cons (Get.tmp rfl) .nil))))
      apply Head.one rfl rfl (GSpec.plain rfl (spec_loadW (k := 5) rfl Tryz.isAgg66 Tryz.sizeOf66 (Get.tmp rfl) rfl rfl))
      apply Head.one rfl rfl (GSpec.plain rfl (spec_call rfl Tryz.call36 (num_ok _) (.cons (Get.cint rfl) .nil)))
      apply Head.one rfl rfl (GSpec.plain rfl (spec_call rfl Tryz.call34 (less_ok _ _) (.cons (Get.tmp rfl) (.cons (Get.tmp rfl) .nil))))
      apply Head.one rfl rfl (GSpec.plain rfl (spec_call rfl Tryz.call45 (both_ok _ _) (.cons (Get.tmp rfl) (.cons (Get.tmp rfl) .nil))))
      apply Head.sink rfl rfl (GSpec.plain rfl (spec_alloc rfl ti66 z66))
      exact Head.nil
    refine Fin.one ?_
    refine Fin.one ?_
    refine Fin.one ?_
    refine Fin.one ?_
    refine Fin.one ?_
    refine Fin.one ?_
    refine Fin.one ?_
    refine Fin.one ?_
    refine Fin.one ?_
    refine Fin.one ?_
    refine Fin.one ?_
    refine Fin.one ?_
    refine Fin.sink (fun (r10 : Nat) => ?_)
    refine Fin.nil ?_
    refine L.storeW (k := 0) rfl rfl rfl Tryz.sizeOf66 (Get.tmp rfl) (Get.tmp rfl) rfl rfl rfl ?_
    refine L.nil ?_
    refine N.thenW ?_
    refine W.keep (.cons (t := 0) rfl (.cons (t := 2) rfl (.cons (t := 3) rfl (.cons (t := 4) rfl (.cons (t := 5) rfl (.cons (t := 7) rfl (.cons (t := 10) rfl .nil))))))) .refl ?_
    refine W.seq ?_
    apply W.any 7 mixed (by kernel_rfl)
    · apply Head.one rfl rfl (GSpec.plain rfl (spec_move rfl (Get.tmp rfl)))
      apply Head.one rfl rfl (GSpec.plain rfl (spec_loadW (k := 0) rfl Tryz.isAgg66 Tryz.sizeOf66 (Get.tmp rfl) rfl rfl))
      apply Head.one rfl rfl (GSpec.plain rfl (spec_loadW (k := 6) rfl Tryz.isAgg66 Tryz.sizeOf66 (Get.tmp rfl) rfl rfl))
      apply Head.one rfl rfl (GSpec.plain rfl (spec_call rfl Tryz.call36 (num_ok _) (.cons (Get.cint rfl) .nil)))
      apply Head.one rfl rfl (GSpec.plain rfl (spec_call rfl Tryz.call41 (plus_ok _ _) (.cons (Get.tmp rfl) (.cons (Get.tmp rfl) .nil))))
      apply Head.one rfl rfl (GSpec.plain rfl (spec_call rfl Tryz.call36 (num_ok _) (.cons (Get.cint rfl) .nil)))
      apply Head.one rfl rfl (GSpec.plain rfl (spec_call rfl Tryz.call44 (when_ok _ _ _) (.cons (Get.tmp rfl) (.cons (Get.tmp rfl) (.cons (Get.tmp rfl) .nil)))))
      exact Head.nil
    refine Fin.one ?_
    refine Fin.one ?_
    refine Fin.one ?_
    refine Fin.one ?_
    refine Fin.one ?_
    refine Fin.one ?_
    refine Fin.one ?_
    refine Fin.nil ?_
    refine L.call rfl rfl rfl rfl Tryz.call40 (regB_ok _ _ _ _ _ _ (by first | omega | (simp only [addW, addR, pushD, popD, stageD, queue0, delay0, swapW, swap0, beginD, List.length_append, List.length_cons, List.length_nil]; omega) | decide)) (.cons 1 rfl (.cons 1 rfl (.cons 1 rfl .refl))) (.cons (Get.tmp rfl) (.cons (Get.cstr (l := [115]) rfl rfl) (.cons (Get.cint rfl) (.cons (Get.tmp rfl) .nil)))) (fun v99 => ?_)
    try dsimp only
    refine L.nil ?_
    refine N.thenW ?_
    refine W.keep (.cons (t := 0) rfl (.cons (t := 2) rfl (.cons (t := 3) rfl (.cons (t := 4) rfl (.cons (t := 5) rfl .nil))))) .refl ?_
    refine W.seq ?_
    refine W.seq ?_
    refine W.region ?_
    refine L.op1 rfl rfl (GSpec.plain rfl (spec_move rfl (Get.cint rfl))) ?_
    refine L.nil ?_
    refine N.thenW ?_
    refine W.block ?_
    refine W.loopK (σ := Nat × (Value × Value)) (.cons (t := 0) rfl (.cons (t := 2) rfl (.cons (t := 3) rfl (.cons (t := 4) rfl (.cons (t := 5) rfl .nil))))) (fun z => [(100, Rp.int .i64 (z.1 : Nat))]) (fun z => [MF.box v18.1 111 (bdR (swapsD w z.1) z.2), MF.osl z.2.1 77 6 eWr (swapsD w z.1).wires, MF.osl z.2.2 81 7 eRg (swapsD w z.1).regs]) (fun z => z.1 ≤ 2) (fun z => 2 - z.1) (0, v99) (Nat.zero_le _) (.cons (t := 100) rfl .nil) (.cons 0 rfl (.cons 0 rfl (.cons 0 rfl (.cons 0 rfl (.cons 0 rfl (.cons 0 rfl (.cons 0 rfl (.cons 0 rfl (.cons 0 rfl (.cons 0 rfl .nil)))))))))) ?_
    intro ⟨i, vp⟩ hI S' M' hS hM
    try dsimp only at hS hM
    simp only [List.cons_append, List.nil_append] at hS hM
    subst hS hM
    try dsimp only
    try dsimp only at hI
    have hcl := swaps_len w i
    refine W.seq ?_
    refine W.region ?_
    refine L.op1 rfl rfl (GSpec.plain rfl (spec_lss rfl (Get.tmp rfl) (Get.cint rfl))) ?_
    refine L.nil ?_
    refine N.thenW ?_
    refine W.seq ?_
    refine W.cond (Get.tmp rfl) (fun h2 => ?_) (fun h2 => ?_)
    · have ph2 := h2; try simp only [decide_eq_true_eq, decide_eq_false_iff_not, Bool.and_eq_true, Bool.or_eq_true, Bool.and_eq_false_iff, Bool.or_eq_false_iff, Bool.not_eq_true', Bool.not_eq_false', Bool.not_true, Bool.not_false, Int.not_lt, Int.not_le] at ph2
      refine W.skip ?_
      refine N.thenW ?_
      refine W.seq ?_
      refine W.block ?_
      refine W.seq ?_
      refine W.region ?_
      refine L.op1 rfl rfl (GSpec.plain rfl (spec_move rfl (Get.tmp rfl))) ?_
      refine L.box rfl rfl (GSpec.plain rfl (spec_alloc rfl ti3 z3)) (fun r11 => ?_)
      refine L.storeB (k := 0) rfl rfl rfl Tryz.sizeOf3 (Get.tmp rfl) (Get.tmp rfl) rfl rfl ?_
      refine L.nil ?_
      refine N.thenW ?_
      refine W.pubB 11 0 rfl rfl ?_
      refine W.seq ?_
      refine W.region ?_
      refine L.op1 rfl rfl (GSpec.plain rfl (spec_makeFunc rfl (.cons (Get.tmp rfl) (.cons (Get.tmp rfl) .nil)))) ?_
      refine L.op1 rfl rfl (GSpec.plain rfl (spec_assign rfl (Get.tmp rfl))) ?_
      refine L.nil ?_
      refine N.thenW ?_
      refine W.seq ?_
      apply W.any 10 mixed (by kernel_rfl)
      · apply Head.one rfl rfl (GSpec.plain rfl (spec_move rfl (Get.tmp rfl)))
        apply Head.one rfl rfl (GSpec.plain rfl (spec_loadP1 rfl Tryz.isAgg3 (Get.tmp rfl)))
        apply Head.one rfl rfl (GSpec.plain rfl (spec_call rfl Tryz.call43 (indexed_ok _ _ (by omega) (by omega) (by first | decide | omega | (simp; omega))) (.cons (Get.cstr (l := [116]) rfl rfl) (.cons (Get.tmp rfl) .nil))))
        apply Head.one rfl rfl (GSpec.plain rfl (spec_move rfl (Get.tmp rfl)))
        apply Head.one rfl rfl (GSpec.plain rfl (spec_callC (A := []) rfl (Get.tmp rfl) Tryz.call61 (takeS_ok _) .nil))
        apply Head.one rfl rfl (GSpec.plain rfl (spec_call rfl Tryz.call35 (ref_ok _) (.cons (Get.cstr (l := [105, 116]) rfl rfl) .nil)))
        apply Head.one rfl rfl (GSpec.plain rfl (spec_loadP1 rfl Tryz.isAgg3 (Get.tmp rfl)))
        apply Head.one rfl rfl (GSpec.plain rfl (spec_call rfl Tryz.call43 (indexed_ok _ _ (by omega) (by omega) (by first | decide | omega | (simp; omega))) (.cons (Get.cstr (l := [116]) rfl rfl) (.cons (Get.tmp rfl) .nil))))
        apply Head.one rfl rfl (GSpec.plain rfl (spec_call rfl Tryz.call35 (ref_ok _) (.cons (Get.tmp rfl) .nil)))
        apply Head.one rfl rfl (GSpec.plain rfl (spec_call rfl Tryz.call44 (when_ok _ _ _) (.cons (Get.tmp rfl) (.cons (Get.tmp rfl) (.cons (Get.tmp rfl) .nil)))))
        exact Head.nil
      refine Fin.one ?_
      refine Fin.one ?_
      refine Fin.one ?_
      refine Fin.one ?_
      refine Fin.one ?_
      refine Fin.one ?_
      refine Fin.one ?_
      refine Fin.one ?_
      refine Fin.one ?_
      refine Fin.one ?_
      refine Fin.nil ?_
      refine L.call rfl rfl rfl rfl Tryz.call40 (regB_ok _ _ _ _ _ _ (by first | omega | (simp only [addW, addR, pushD, popD, stageD, queue0, delay0, swapW, swap0, beginD, List.length_append, List.length_cons, List.length_nil]; omega) | decide)) (.cons 0 rfl (.cons 0 rfl (.cons 0 rfl .refl))) (.cons (Get.tmp rfl) (.cons (Get.tmp rfl) (.cons (Get.cint rfl) (.cons (Get.tmp rfl) .nil)))) (fun v114 => ?_)
      try dsimp only
      refine L.nil ?_
      refine N.thenW ?_
      apply W.any 11 mixed (by kernel_rfl)
      · apply Head.one rfl rfl (GSpec.plain rfl (spec_move rfl (Get.tmp rfl)))
        apply Head.one rfl rfl (GSpec.plain rfl (spec_loadP1 rfl Tryz.isAgg3 (Get.tmp rfl)))
        apply Head.one rfl rfl (GSpec.plain rfl (spec_call rfl Tryz.call43 (indexed_ok _ _ (by omega) (by omega) (by first | decide | omega | (simp; omega))) (.cons (Get.cstr (l := [97]) rfl rfl) (.cons (Get.tmp rfl) .nil))))
        apply Head.one rfl rfl (GSpec.plain rfl (spec_move rfl (Get.tmp rfl)))
        apply Head.one rfl rfl (GSpec.plain rfl (spec_move rfl (Get.tmp rfl)))
        apply Head.one rfl rfl (GSpec.plain rfl (spec_callC (A := []) rfl (Get.tmp rfl) Tryz.call61 (takeS_ok _) .nil))
        apply Head.one rfl rfl (GSpec.plain rfl (spec_call rfl Tryz.call35 (ref_ok _) (.cons (Get.cstr (l := [105, 97]) rfl rfl) .nil)))
        apply Head.one rfl rfl (GSpec.plain rfl (spec_loadP1 rfl Tryz.isAgg3 (Get.tmp rfl)))
        apply Head.one rfl rfl (GSpec.plain rfl (spec_call rfl Tryz.call43 (indexed_ok _ _ (by omega) (by omega) (by first | decide | omega | (simp; omega))) (.cons (Get.cstr (l := [97]) rfl rfl) (.cons (Get.tmp rfl) .nil))))
        apply Head.one rfl rfl (GSpec.plain rfl (spec_call rfl Tryz.call35 (ref_ok _) (.cons (Get.tmp rfl) .nil)))
        apply Head.one rfl rfl (GSpec.plain rfl (spec_call rfl Tryz.call44 (when_ok _ _ _) (.cons (Get.tmp rfl) (.cons (Get.tmp rfl) (.cons (Get.tmp rfl) .nil)))))
        exact Head.nil
      refine Fin.one ?_
      refine Fin.one ?_
      refine Fin.one ?_
      refine Fin.one ?_
      refine Fin.one ?_
      refine Fin.one ?_
      refine Fin.one ?_
      refine Fin.one ?_
      refine Fin.one ?_
      refine Fin.one ?_
      refine Fin.one ?_
      refine Fin.nil ?_
      refine L.call rfl rfl rfl rfl Tryz.call40 (regB_ok _ _ _ _ _ _ (by first | omega | (simp only [addW, addR, pushD, popD, stageD, queue0, delay0, swapW, swap0, beginD, List.length_append, List.length_cons, List.length_nil]; omega) | decide)) (.cons 0 rfl (.cons 0 rfl (.cons 0 rfl .refl))) (.cons (Get.tmp rfl) (.cons (Get.tmp rfl) (.cons (Get.tmp rfl) (.cons (Get.tmp rfl) .nil)))) (fun v126 => ?_)
      try dsimp only
      refine L.nil ?_
      refine N.blockNormal ?_
      refine N.thenW ?_
      refine W.region ?_
      first | refine L.op1 rfl rfl (GSpec.plain rfl (fit_i64 (by omega) (by omega) (spec_add rfl (Get.tmp rfl) (Get.cint rfl)))) ?_ | refine L.op1 rfl rfl (GSpec.plain rfl (spec_add rfl (Get.tmp rfl) (Get.cint rfl))) ?_
      refine L.op1 rfl rfl (GSpec.plain rfl (spec_move rfl (Get.tmp rfl))) ?_
      refine L.nil ?_
      refine N.roundK (i + 1, v126) ?hI1 ?hmu1 ?hs1 ?hk1 ?hp1
      case hs1 => exact (.cons (t := 100) rfl .nil)
      case hk1 => exact (.cons (t := 0) rfl (.cons (t := 2) rfl (.cons (t := 3) rfl (.cons (t := 4) rfl (.cons (t := 5) rfl .nil)))))
      case hp1 => exact (.cons 0 rfl (.cons 0 rfl (.cons 0 rfl (.cons 0 rfl (.cons 0 rfl (.cons 0 rfl (.cons 0 rfl (.cons 0 rfl (.cons 0 rfl (.cons 0 rfl .nil))))))))))
      case hI1 => dsimp only; omega
      case hmu1 => dsimp only; omega
    · have ph2 := h2; try simp only [decide_eq_true_eq, decide_eq_false_iff_not, Bool.and_eq_true, Bool.or_eq_true, Bool.and_eq_false_iff, Bool.or_eq_false_iff, Bool.not_eq_true', Bool.not_eq_false', Bool.not_true, Bool.not_false, Int.not_lt, Int.not_le] at ph2
      refine W.exit ?_
      refine N.thenExit ?_
      refine N.thenExit ?_
      refine N.blockExit ?_
      refine N.thenW ?_
      have hi : i = 2 := by omega
      subst hi
      have hcl := swaps_len w 2
      refine W.seq ?_
      refine W.region ?_
      refine L.op1 rfl rfl (GSpec.plain rfl (spec_move rfl (Get.tmp rfl))) ?_
      refine L.call rfl rfl rfl rfl Tryz.call47 (end_ok _ _ _) (.cons 0 rfl (.cons 0 rfl (.cons 0 rfl .refl))) (.cons (Get.tmp rfl) .nil) (fun _u => ?_)
      try dsimp only
      refine L.op1 rfl rfl (GSpec.plain rfl (spec_extract rfl (Get.tmp rfl) rfl)) ?_
      refine L.op1 rfl rfl (GSpec.plain rfl (spec_extract rfl (Get.tmp rfl) rfl)) ?_
      refine L.storeW (k := 6) rfl rfl rfl Tryz.sizeOf27 (Get.tmp rfl) (Get.tmp rfl) rfl rfl rfl ?_
      refine L.op1 rfl rfl (GSpec.plain rfl (spec_assign rfl (Get.tmp rfl))) ?_
      refine L.nil ?_
      refine N.thenW ?_
      refine W.keep (.cons (t := 2) rfl (.cons (t := 3) rfl .nil)) .refl ?_
      refine W.ret ?_
      refine N.ret () rfl (.cellA (k := 6) (Get.tmp (t := 2) rfl) rfl Tryz.isAgg27 Tryz.sizeOf27 rfl (.tmp (t := 3) (Get.tmp rfl) .nil)) (res2w (eqA ?_) (eqI ?_)) .nil (fun _ _ h => h)
      all_goals rfl

end Go.Proofs.YthlfacmpjehjmaaGreatDoor
set_option linter.unusedSimpArgs false
set_option maxRecDepth 8000
set_option linter.unusedVariables false
namespace Go.Proofs.YthlfacmpjehjmaaGreatDoor
open Go.Sim
theorem see_ok (w : Wv) (s : List UInt8) (t : Int) (h0 : 0 ≤ t) (h1 : t ≤ 1000) : CallT Tryz.prog 25 [Rp.agg (eWv w), Rp.str s, Rp.int .i64 t] [] (.one (Rp.int .i64 (seeV w s t))) := by
  refine W.enter (fn := Tryz.f25) (n := 46) Tryz.func25 rfl Tryz.ntmps25 rfl (fun w₀ C₀ => ?_)
  simp only [argS]
  refine W.seq ?_
  refine W.region ?_
  refine L.box rfl rfl (GSpec.plain rfl (spec_box rfl (GetC.agg (Get.tmp rfl)))) (fun r3 => ?_)
  refine L.op1 rfl rfl (GSpec.plain rfl (spec_assign rfl (Get.cint rfl))) ?_
  refine L.nil ?_
  refine N.thenW ?_
  refine W.seq ?_
  refine W.seq ?_
  refine W.region ?_
  refine L.op1 rfl rfl (GSpec.plain rfl (spec_fieldAddr (f := 0) (off' := 0) rfl Tryz.underlying45 rfl Tryz.sizeOf25 (Get.tmp rfl) rfl)) ?_
  refine L.op1 rfl rfl (GSpec.plain rfl (spec_load1 (k := 0) rfl Tryz.isAgg25 (Get.tmp rfl) rfl rfl)) ?_
  refine L.op1 rfl rfl (GSpec.plain rfl (spec_len rfl Tryz.underlying25 (Get.tmp rfl))) ?_
  refine L.op1 rfl rfl (GSpec.plain rfl (spec_move rfl (Get.cint rfl))) ?_
  refine L.nil ?_
  refine N.thenW ?_
  refine W.fact 10 rfl slice_fact fun hnl => ?_
  refine W.block ?_
  -- assigned in the loop, not kept: [6]
  refine W.loopK (σ := Nat) (.cons (t := 1) rfl (.cons (t := 2) rfl (.cons (t := 3) rfl (.cons (t := 10) rfl (.cons (t := 11) rfl .nil))))) (fun z => [(12, Rp.int .i64 (z : Nat))]) (fun z => []) (fun z => z ≤ w.names.length ∧ ∀ j : Nat, j < z → seeP w s t j = false) (fun z => w.names.length - z) 0 ⟨Nat.zero_le _, fun j hj => by omega⟩ (.cons (t := 12) rfl .nil) (.cons 0 rfl .nil) ?_
  intro i hI S' M' hS hM
  obtain ⟨hI1, hI2⟩ := hI
  try dsimp only at hS hM
  simp only [List.cons_append, List.nil_append] at hS hM
  subst hS hM
  try dsimp only
  refine W.seq ?_
  refine W.region ?_
  refine L.op1 rfl rfl (GSpec.plain rfl (spec_lss rfl (Get.tmp rfl) (Get.tmp rfl))) ?_
  refine L.nil ?_
  refine N.thenW ?_
  refine W.seq ?_
  refine W.cond (Get.tmp rfl) (fun h1 => ?_) (fun h1 => ?_)
  · have ph1 := h1; try simp only [decide_eq_true_eq, decide_eq_false_iff_not, Bool.and_eq_true, Bool.or_eq_true, Bool.and_eq_false_iff, Bool.or_eq_false_iff, Bool.not_eq_true', Bool.not_eq_false', Bool.not_true, Bool.not_false, Int.not_lt, Int.not_le] at ph1
    refine W.skip ?_
    refine N.thenW ?_
    refine W.seq ?_
    refine W.block ?_
    refine W.seq ?_
    refine W.region ?_
    refine L.op1 rfl rfl (GSpec.plain rfl (spec_move rfl (Get.tmp rfl))) ?_
    refine L.op1 rfl rfl (GSpec.plain rfl (spec_indexAddrD (E := eS) rfl Tryz.underlying25 Tryz.sizeOf9 (fun _ => rfl) (Get.tmp rfl) (Get.tmp rfl) (by (first | omega | (simp only [Int.toNat_natCast]; omega))))) ?_
    refine L.op1 rfl rfl (GSpec.plain rfl (spec_loadP1 rfl Tryz.isAgg9 (Get.tmp rfl))) ?_
    refine L.op1 rfl rfl (GSpec.plain rfl (spec_assign rfl (Get.tmp rfl))) ?_
    refine L.op1 rfl rfl (GSpec.plain rfl (spec_assign rfl (Get.tmp rfl))) ?_
    refine L.nil ?_
    refine N.thenW ?_
    refine W.seq ?_
    refine W.region ?_
    refine L.op1 rfl rfl (GSpec.plain rfl (spec_move rfl (Get.tmp rfl))) ?_
    refine L.op1 rfl rfl (GSpec.plain rfl (spec_move rfl (Get.tmp rfl))) ?_
    refine L.op1 rfl rfl (GSpec.plain rfl (spec_eqlS rfl (Get.tmp rfl) (Get.tmp rfl))) ?_
    refine L.op1 rfl rfl (GSpec.plain rfl (spec_move rfl (Get.tmp rfl))) ?_
    refine L.op1 rfl rfl (GSpec.guard rfl rfl rfl fun hg => (spec_move rfl (Get.tmp rfl))) ?_
    refine L.op1 rfl rfl (GSpec.guard rfl rfl rfl fun hg => (spec_fieldAddr (f := 1) (off' := 1) rfl Tryz.underlying45 rfl Tryz.sizeOf43 (Get.tmp rfl) rfl)) ?_
    refine L.op1 rfl rfl (GSpec.guard rfl rfl rfl fun hg => (spec_load1 (k := 0) rfl Tryz.isAgg43 (Get.opt rfl hg) rfl rfl)) ?_
    refine L.op1 rfl rfl (GSpec.guard rfl rfl rfl fun hg => (spec_len rfl Tryz.underlying43 (Get.opt rfl hg))) ?_
    refine L.op1 rfl rfl (GSpec.guard rfl rfl rfl fun hg => (spec_lss rfl (Get.opt rfl hg) (Get.opt rfl hg))) ?_
    refine L.op1 rfl rfl (GSpec.plain rfl (spec_and rfl (Get.tmp rfl) (fun hb => (Get.opt rfl hb)))) ?_
    refine L.op1 rfl rfl (GSpec.plain rfl (spec_move rfl (Get.tmp rfl))) ?_
    refine L.op1 rfl rfl (GSpec.guard rfl rfl rfl fun hg => (spec_move rfl (Get.tmp rfl))) ?_
    refine L.op1 rfl rfl (GSpec.guard rfl rfl rfl fun hg => (spec_fieldAddr (f := 1) (off' := 1) rfl Tryz.underlying45 rfl Tryz.sizeOf43 (Get.tmp rfl) rfl)) ?_
    refine L.op1 rfl rfl (GSpec.guard rfl rfl rfl fun hg => (spec_load1 (k := 0) rfl Tryz.isAgg43 (Get.opt rfl hg) rfl rfl)) ?_
    refine L.op1 rfl rfl (GSpec.guard rfl rfl rfl fun hg => (spec_move rfl (Get.tmp rfl))) ?_
    refine L.op1 rfl rfl (GSpec.guard rfl rfl rfl fun hg => (spec_indexAddrD (E := eII) rfl Tryz.underlying43 Tryz.sizeOf92 (fun _ => rfl) (Get.opt rfl hg) (Get.opt rfl hg) (by (simp only [Bool.and_eq_true, decide_eq_true_eq] at hg; omega)))) ?_
    refine L.op1 rfl rfl (GSpec.guard rfl rfl rfl fun hg => (spec_loadP1 rfl Tryz.isAgg92 (Get.opt rfl hg))) ?_
    refine L.op1 rfl rfl (GSpec.guard rfl rfl rfl fun hg => (spec_len rfl Tryz.underlying92 (Get.opt rfl hg))) ?_
    refine L.op1 rfl rfl (GSpec.guard rfl rfl rfl fun hg => (spec_lss rfl (Get.opt rfl hg) (Get.opt rfl hg))) ?_
    refine L.op1 rfl rfl (GSpec.plain rfl (spec_and rfl (Get.tmp rfl) (fun hb => (Get.opt rfl hb)))) ?_
    refine L.nil ?_
    refine N.thenW ?_
    refine W.cond (Get.tmp rfl) (fun h2 => ?_) (fun h2 => ?_)
    · have hp : seeP w s t i = true := by have h := h2; exact h
      have hp2 := hp
      unfold seeP at hp2
      simp only [Bool.and_eq_true, decide_eq_true_eq] at hp2
      refine W.seq ?_
      refine W.region ?_
      refine L.op1 rfl rfl (GSpec.plain rfl (spec_fieldAddr (f := 1) (off' := 1) rfl Tryz.underlying45 rfl Tryz.sizeOf43 (Get.tmp rfl) rfl)) ?_
      refine L.op1 rfl rfl (GSpec.plain rfl (spec_load1 (k := 0) rfl Tryz.isAgg43 (Get.tmp rfl) rfl rfl)) ?_
      refine L.op1 rfl rfl (GSpec.plain rfl (spec_move rfl (Get.tmp rfl))) ?_
      refine L.op1 rfl rfl (GSpec.plain rfl (spec_indexAddrD (E := eII) rfl Tryz.underlying43 Tryz.sizeOf92 (fun _ => rfl) (Get.tmp rfl) (Get.tmp rfl) (by (first | omega | (simp only [Int.toNat_natCast]; omega))))) ?_
      refine L.op1 rfl rfl (GSpec.plain rfl (spec_loadP1 rfl Tryz.isAgg92 (Get.tmp rfl))) ?_
      refine L.op1 rfl rfl (GSpec.plain rfl (spec_move rfl (Get.tmp rfl))) ?_
      refine L.op1 rfl rfl (GSpec.plain rfl (spec_indexAddrD (E := eI) rfl Tryz.underlying92 Tryz.sizeOf3 (fun _ => rfl) (Get.tmp rfl) (Get.tmp rfl) (by (first | omega | (simp only [Int.toNat_natCast]; omega))))) ?_
      refine L.op1 rfl rfl (GSpec.plain rfl (spec_loadP1 rfl Tryz.isAgg3 (Get.tmp rfl))) ?_
      refine L.op1 rfl rfl (GSpec.plain rfl (spec_assign rfl (Get.tmp rfl))) ?_
      refine L.nil ?_
      refine N.thenW ?_
      refine W.ret ?_
      refine N.ret () rfl (.tmp (t := 6) (Get.tmp rfl) .nil) (res1 (eqI ?_)) .nil (fun _ _ h => h)
      exact (see_yes (by omega) hp hI2).symm
    · have ph2 := h2; try simp only [decide_eq_true_eq, decide_eq_false_iff_not, Bool.and_eq_true, Bool.or_eq_true, Bool.and_eq_false_iff, Bool.or_eq_false_iff, Bool.not_eq_true', Bool.not_eq_false', Bool.not_true, Bool.not_false, Int.not_lt, Int.not_le] at ph2
      refine W.skip ?_
      refine N.blockNormal ?_
      refine N.thenW ?_
      refine W.region ?_
      first | refine L.op1 rfl rfl (GSpec.plain rfl (fit_i64 (by (first | omega | (simp only [Int.toNat_natCast]; omega))) (by (first | omega | (simp only [Int.toNat_natCast]; omega))) (spec_add rfl (Get.tmp rfl) (Get.cint rfl)))) ?_ | refine L.op1 rfl rfl (GSpec.plain rfl (spec_add rfl (Get.tmp rfl) (Get.cint rfl))) ?_
      refine L.op1 rfl rfl (GSpec.plain rfl (spec_move rfl (Get.tmp rfl))) ?_
      refine L.nil ?_
      refine N.roundK (i + 1) ?hI1 ?hmu1 ?hs1 ?hk1 ?hp1
      case hs1 => exact (.cons (t := 12) rfl .nil)
      case hk1 => exact (.cons (t := 1) rfl (.cons (t := 2) rfl (.cons (t := 3) rfl (.cons (t := 10) rfl (.cons (t := 11) rfl .nil)))))
      case hp1 => exact (.cons 0 rfl .nil)
      case hI1 => exact ⟨by omega, upto hI2 h2⟩
      case hmu1 => omega
  · have ph1 := h1; try simp only [decide_eq_true_eq, decide_eq_false_iff_not, Bool.and_eq_true, Bool.or_eq_true, Bool.and_eq_false_iff, Bool.or_eq_false_iff, Bool.not_eq_true', Bool.not_eq_false', Bool.not_true, Bool.not_false, Int.not_lt, Int.not_le] at ph1
    refine W.exit ?_
    refine N.thenExit ?_
    refine N.thenExit ?_
    refine N.blockExit ?_
    refine N.thenW ?_
    refine W.keep .nil .refl ?_
    refine W.seq ?_
    refine W.region ?_
    refine L.op1 rfl rfl (GSpec.plain rfl (spec_assign rfl (Get.cint rfl))) ?_
    refine L.nil ?_
    refine N.thenW ?_
    refine W.ret ?_
    refine N.ret () rfl (.tmp (t := 6) (Get.tmp rfl) .nil) (res1 (eqI ?_)) .nil (fun _ _ h => h)
    exact (see_no fun j hj => hI2 j (by omega)).symm

theorem run_ok (d : Ds) (l : List Rw) (hq : DsQ d) : CallT Tryz.prog 24 [Rp.agg (eD d), Rp.slice eRw l] [] (.one (Rp.tuple [Rp.agg (eWv (waveE d (rowsS l))), Rp.bool true])) := by
  refine W.enter (fn := Tryz.f24) (n := 55) Tryz.func24 rfl Tryz.ntmps24 rfl (fun w₀ C₀ => ?_)
  simp only [argS]
  refine W.fact 1 rfl slice_fact fun hl => ?_
  have hl2 : (l.take 60).length = min l.length 60 := by rw [List.length_take, Nat.min_comm]
  have hl3 : (rowsS l).length = min l.length 60 := by rw [rowsS, List.length_map, hl2]
  refine W.seq ?_
  refine W.region ?_
  refine L.box rfl rfl (GSpec.plain rfl (spec_box rfl (GetC.agg (Get.tmp rfl)))) (fun r2 => ?_)
  refine L.box rfl rfl (GSpec.plain rfl (spec_alloc rfl ti45 z45)) (fun r4 => ?_)
  refine L.op1 rfl rfl (GSpec.plain rfl (spec_assign rfl Get.cbool)) ?_
  refine L.nil ?_
  refine N.thenW ?_
  refine W.seq ?_
  refine W.region ?_
  refine L.op1 rfl rfl (GSpec.plain rfl (spec_assign rfl Get.cval)) ?_
  refine L.nil ?_
  refine N.thenW ?_
  refine W.nil 102 1 eSS ?_
  refine W.seq ?_
  refine W.seq ?_
  refine W.region ?_
  refine L.op1 rfl rfl (GSpec.plain rfl (spec_move rfl (Get.tmp rfl))) ?_
  refine L.op1 rfl rfl (GSpec.plain rfl (spec_move rfl (Get.tmp rfl))) ?_
  refine L.op1 rfl rfl (GSpec.plain rfl (spec_len rfl Tryz.underlying40 (Get.tmp rfl))) ?_
  refine L.op1 rfl rfl (GSpec.plain rfl (spec_min2 rfl (Get.tmp rfl) (Get.cint rfl))) ?_
  refine L.op1 rfl rfl (GSpec.plain rfl (spec_slice (E := eRw) rfl Tryz.underlying40 Tryz.sizeOf56 (fun _ => rfl) (Get.tmp rfl) .none (.some (Get.tmp rfl) (by (first | omega | (simp only [Int.toNat_natCast]; omega)))) (by (first | omega | (simp only [Int.toNat_natCast]; omega))))) ?_
  refine L.op1 rfl rfl (GSpec.plain rfl (spec_len rfl Tryz.underlying40 (Get.tmp rfl))) ?_
  refine L.op1 rfl rfl (GSpec.plain rfl (spec_move rfl (Get.cint rfl))) ?_
  refine L.nil ?_
  refine N.thenW ?_
  rw [show List.take ((min ((l.length : Nat) : Int) 60).toNat - 0) (List.drop 0 l) = l.take 60 by rw [List.drop_zero, Nat.sub_zero]; rcases Nat.le_total l.length 60 with q | q; (rw [List.take_of_length_le (by omega), List.take_of_length_le (by omega)]); (congr 1; omega)]
  refine W.block ?_
  refine W.loopK (σ := Nat × Value) (.cons (t := 2) rfl (.cons (t := 4) rfl (.cons (t := 5) rfl (.cons (t := 15) rfl (.cons (t := 16) rfl .nil))))) (fun z => [(17, Rp.int .i64 (z.1 : Nat)), (6, Rp.val z.2)]) (fun z => [MF.osl z.2 102 1 eSS (((l.take 60).take z.1).map sgR)]) (fun z => z.1 ≤ (l.take 60).length) (fun z => (l.take 60).length - z.1) (0, (.slice none 0 0)) (Nat.zero_le _) (.cons (t := 17) rfl (.cons (t := 6) rfl .nil)) (.cons 0 rfl (.cons 0 rfl (.cons 0 rfl .nil))) ?_
  intro ⟨i, vi⟩ hI S' M' hS hM
  try dsimp only at hS hM
  simp only [List.cons_append, List.nil_append] at hS hM
  subst hS hM
  try dsimp only
  try dsimp only at hI
  refine W.seq ?_
  refine W.region ?_
  refine L.op1 rfl rfl (GSpec.plain rfl (spec_lss rfl (Get.tmp rfl) (Get.tmp rfl))) ?_
  refine L.nil ?_
  refine N.thenW ?_
  refine W.seq ?_
  refine W.cond (Get.tmp rfl) (fun h1 => ?_) (fun h1 => ?_)
  · have ph1 := h1; try simp only [decide_eq_true_eq, decide_eq_false_iff_not, Bool.and_eq_true, Bool.or_eq_true, Bool.and_eq_false_iff, Bool.or_eq_false_iff, Bool.not_eq_true', Bool.not_eq_false', Bool.not_true, Bool.not_false, Int.not_lt, Int.not_le] at ph1
    refine W.skip ?_
    refine N.thenW ?_
    refine W.seq ?_
    refine W.block ?_
    refine W.seq ?_
    refine W.region ?_
    refine L.op1 rfl rfl (GSpec.plain rfl (spec_indexAddrD (E := eRw) rfl Tryz.underlying40 Tryz.sizeOf56 (fun _ => rfl) (Get.tmp rfl) (Get.tmp rfl) (by (first | omega | (simp only [Int.toNat_natCast]; omega))))) ?_
    refine L.op1 rfl rfl (GSpec.plain rfl (spec_loadPA rfl Tryz.isAgg56 Tryz.sizeOf56 (Get.tmp rfl) rfl)) ?_
    refine L.box rfl rfl (GSpec.plain rfl (spec_alloc rfl ti56 z56)) (fun r8 => ?_)
    refine L.storeW (k := 0) rfl rfl rfl Tryz.sizeOf56 (Get.tmp rfl) (Get.tmp rfl) rfl rfl rfl ?_
    refine L.nil ?_
    refine N.thenW ?_
    apply W.any 23 mixed (by kernel_rfl)
    · apply Head.one rfl rfl (GSpec.plain rfl (spec_move rfl (Get.tmp rfl)))
      apply Head.one rfl rfl (GSpec.plain rfl (spec_fieldAddr (f := 0) (off' := 0) rfl Tryz.underlying56 rfl Tryz.sizeOf4 (Get.tmp rfl) rfl))
      apply Head.one rfl rfl (GSpec.plain rfl (spec_load1 (k := 0) rfl Tryz.isAgg4 (Get.tmp rfl) rfl rfl))
      apply Head.one rfl rfl (GSpec.plain rfl (spec_call rfl Tryz.call71 (bit_ok _) (.cons (Get.tmp rfl) .nil)))
      apply Head.one rfl rfl (GSpec.plain rfl (spec_build (Rs := [_, _]) rfl ti101 z101 Tryz.underlying101 pl101 (.cons (GetC.one (Get.cstr (l := [105, 118]) rfl rfl)) rfl rfl rfl (.cons (GetC.one (Get.tmp rfl)) rfl rfl rfl .nil))))
      apply Head.one rfl rfl (GSpec.plain rfl (spec_fieldAddr (f := 2) (off' := 2) rfl Tryz.underlying56 rfl Tryz.sizeOf5 (Get.tmp rfl) rfl))
      apply Head.one rfl rfl (GSpec.plain rfl (spec_load1 (k := 0) rfl Tryz.isAgg5 (Get.tmp rfl) rfl rfl))
      first | apply Head.one rfl rfl (GSpec.plain rfl (fit_i64 (by (first | omega | (simp only [Int.toNat_natCast]; omega))) (by (first | omega | (simp only [Int.toNat_natCast]; omega))) (spec_conv rfl Tryz.underlying3 ⟨_, Tryz.underlying5⟩ (Get.tmp rfl)))) | apply Head.one rfl rfl (GSpec.plain rfl (spec_conv rfl Tryz.underlying3 ⟨_, Tryz.underlying5⟩ (Get.tmp rfl)))
      apply Head.one rfl rfl (GSpec.plain rfl (spec_build (Rs := [_, _]) rfl ti101 z101 Tryz.underlying101 pl101 (.cons (GetC.one (Get.cstr (l := [105, 116]) rfl rfl)) rfl rfl rfl (.cons (GetC.one (Get.tmp rfl)) rfl rfl rfl .nil))))
      apply Head.one rfl rfl (GSpec.plain rfl (spec_fieldAddr (f := 3) (off' := 3) rfl Tryz.underlying56 rfl Tryz.sizeOf5 (Get.tmp rfl) rfl))
      apply Head.one rfl rfl (GSpec.plain rfl (spec_load1 (k := 0) rfl Tryz.isAgg5 (Get.tmp rfl) rfl rfl))
      first | apply Head.one rfl rfl (GSpec.plain rfl (fit_i64 (by (first | omega | (simp only [Int.toNat_natCast]; omega))) (by (first | omega | (simp only [Int.toNat_natCast]; omega))) (spec_conv rfl Tryz.underlying3 ⟨_, Tryz.underlying5⟩ (Get.tmp rfl)))) | apply Head.one rfl rfl (GSpec.plain rfl (spec_conv rfl Tryz.underlying3 ⟨_, Tryz.underlying5⟩ (Get.tmp rfl)))
      apply Head.one rfl rfl (GSpec.plain rfl (spec_build (Rs := [_, _]) rfl ti101 z101 Tryz.underlying101 pl101 (.cons (GetC.one (Get.cstr (l := [105, 97]) rfl rfl)) rfl rfl rfl (.cons (GetC.one (Get.tmp rfl)) rfl rfl rfl .nil))))
      apply Head.one rfl rfl (GSpec.plain rfl (spec_fieldAddr (f := 4) (off' := 4) rfl Tryz.underlying56 rfl Tryz.sizeOf5 (Get.tmp rfl) rfl))
      apply Head.one rfl rfl (GSpec.plain rfl (spec_load1 (k := 0) rfl Tryz.isAgg5 (Get.tmp rfl) rfl rfl))
      first | apply Head.one rfl rfl (GSpec.plain rfl (fit_i64 (by (first | omega | (simp only [Int.toNat_natCast]; omega))) (by (first | omega | (simp only [Int.toNat_natCast]; omega))) (spec_conv rfl Tryz.underlying3 ⟨_, Tryz.underlying5⟩ (Get.tmp rfl)))) | apply Head.one rfl rfl (GSpec.plain rfl (spec_conv rfl Tryz.underlying3 ⟨_, Tryz.underlying5⟩ (Get.tmp rfl)))
      apply Head.one rfl rfl (GSpec.plain rfl (spec_build (Rs := [_, _]) rfl ti101 z101 Tryz.underlying101 pl101 (.cons (GetC.one (Get.cstr (l := [105, 98]) rfl rfl)) rfl rfl rfl (.cons (GetC.one (Get.tmp rfl)) rfl rfl rfl .nil))))
      apply Head.one rfl rfl (GSpec.plain rfl (spec_fieldAddr (f := 1) (off' := 1) rfl Tryz.underlying56 rfl Tryz.sizeOf4 (Get.tmp rfl) rfl))
      apply Head.one rfl rfl (GSpec.plain rfl (spec_load1 (k := 0) rfl Tryz.isAgg4 (Get.tmp rfl) rfl rfl))
      apply Head.one rfl rfl (GSpec.plain rfl (spec_call rfl Tryz.call71 (bit_ok _) (.cons (Get.tmp rfl) .nil)))
      apply Head.one rfl rfl (GSpec.plain rfl (spec_build (Rs := [_, _]) rfl ti101 z101 Tryz.underlying101 pl101 (.cons (GetC.one (Get.cstr (l := [111, 114, 100, 121]) rfl rfl)) rfl rfl rfl (.cons (GetC.one (Get.tmp rfl)) rfl rfl rfl .nil))))
      apply Head.one rfl rfl (GSpec.plain rfl (spec_buildSliceN (xs := ([⟨sIv, truthE ((l.take 60).getD i default).v⟩, ⟨sIt, IntKind.i64.wrap ((l.take 60).getD i default).t⟩, ⟨sIa, IntKind.i64.wrap ((l.take 60).getD i default).a⟩, ⟨sIb, IntKind.i64.wrap ((l.take 60).getD i default).b⟩, ⟨sOrdy, truthE ((l.take 60).getD i default).ready⟩] : List Sg)) (E := eSg) rfl Tryz.underlying102 ti101 z101 (by first | decide | simp) rfl (.cons (GetC.agg (Get.tmp rfl)) rfl rfl rfl (.cons (GetC.agg (Get.tmp rfl)) rfl rfl rfl (.cons (GetC.agg (Get.tmp rfl)) rfl rfl rfl (.cons (GetC.agg (Get.tmp rfl)) rfl rfl rfl (.cons (GetC.agg (Get.tmp rfl)) rfl rfl rfl .nil))))) rfl rfl))
      apply Head.one rfl rfl (GSpec.plain rfl (spec_buildSlice1 (y := sgR ((l.take 60).getD i default)) (E := eSS) rfl Tryz.underlying98 ti102 z102 (by decide) (GetC.one (Get.tmp rfl)) (fun _ => rfl)))
      exact Head.nil
    refine Fin.one ?_
    refine Fin.one ?_
    refine Fin.one ?_
    refine Fin.one ?_
    refine Fin.one ?_
    refine Fin.one ?_
    refine Fin.one ?_
    refine Fin.one ?_
    refine Fin.one ?_
    refine Fin.one ?_
    refine Fin.one ?_
    refine Fin.one ?_
    refine Fin.one ?_
    refine Fin.one ?_
    refine Fin.one ?_
    refine Fin.one ?_
    refine Fin.one ?_
    refine Fin.one ?_
    refine Fin.one ?_
    refine Fin.one ?_
    refine Fin.one ?_
    refine Fin.one ?_
    refine Fin.one ?_
    refine Fin.nil ?_
    refine L.append (k := 1) (E := eSS) rfl rfl rfl rfl Tryz.underlying98 ti102 rfl (by decide) (fun _ => rfl) (Get.tmp rfl) (Get.tmp rfl) rfl (by (simp only [List.length_append, List.length_map, List.length_take, List.length_range, List.length_cons, List.length_nil, inS, regS, sig_len, rows_len]; omega)) (by (simp only [List.length_append, List.length_map, List.length_take, List.length_range, List.length_cons, List.length_nil, inS, regS, sig_len, rows_len]; omega)) (fun v44 => ?_)
    refine L.op1 rfl rfl (GSpec.plain rfl (spec_assign rfl (Get.tmp rfl))) ?_
    refine L.nil ?_
    refine N.blockNormal ?_
    refine N.thenW ?_
    refine W.region ?_
    first | refine L.op1 rfl rfl (GSpec.plain rfl (fit_i64 (by (first | omega | (simp only [Int.toNat_natCast]; omega))) (by (first | omega | (simp only [Int.toNat_natCast]; omega))) (spec_add rfl (Get.tmp rfl) (Get.cint rfl)))) ?_ | refine L.op1 rfl rfl (GSpec.plain rfl (spec_add rfl (Get.tmp rfl) (Get.cint rfl))) ?_
    refine L.op1 rfl rfl (GSpec.plain rfl (spec_move rfl (Get.tmp rfl))) ?_
    refine L.nil ?_
    refine N.roundK (i + 1, v44) ?hI2 ?hmu2 ?hs2 ?hk2 ?hp2
    case hs2 => exact (.cons (t := 17) rfl (.cons (t := 6) rfl .nil))
    case hk2 => exact (.cons (t := 2) rfl (.cons (t := 4) rfl (.cons (t := 5) rfl (.cons (t := 15) rfl (.cons (t := 16) rfl .nil)))))
    case hp2 => dsimp only; rw [take_succ (show i < (l.take 60).length by omega), List.map_append]; exact (.cons 1 rfl (.cons 1 rfl (.cons 1 rfl .nil)))
    case hI2 => dsimp only; omega
    case hmu2 => dsimp only; omega
  · have ph1 := h1; try simp only [decide_eq_true_eq, decide_eq_false_iff_not, Bool.and_eq_true, Bool.or_eq_true, Bool.and_eq_false_iff, Bool.or_eq_false_iff, Bool.not_eq_true', Bool.not_eq_false', Bool.not_true, Bool.not_false, Int.not_lt, Int.not_le] at ph1
    refine W.exit ?_
    refine N.thenExit ?_
    refine N.thenExit ?_
    refine N.blockExit ?_
    refine N.thenW ?_
    have hi : i = (l.take 60).length := by omega
    subst hi
    rw [List.take_length]
    refine W.pub (t := 6) (k := 0) rfl rfl (fun _ => rfl) ?_
    refine W.seq ?_
    refine W.region ?_
    refine L.op1 rfl rfl (GSpec.plain rfl (spec_loadW (k := 1) rfl Tryz.isAgg27 Tryz.sizeOf27 (Get.tmp rfl) rfl rfl)) ?_
    refine L.op1 rfl rfl (GSpec.plain rfl (spec_move rfl (Get.tmp rfl))) ?_
    refine L.op1 rfl rfl (GSpec.plain rfl (spec_call rfl Tryz.call72 (rrun_ok d (rowsS l) hq (by omega)) (.cons (Get.tmp rfl) (.cons (Get.tmp rfl) .nil)))) ?_
    refine L.op1 rfl rfl (GSpec.plain rfl (spec_move rfl (Get.tmp rfl))) ?_
    refine L.op1 rfl rfl (GSpec.plain rfl (spec_extract rfl (Get.tmp rfl) rfl)) ?_
    refine L.op1 rfl rfl (GSpec.plain rfl (spec_extract rfl (Get.tmp rfl) rfl)) ?_
    refine L.box rfl rfl (GSpec.plain rfl (spec_alloc rfl ti45 z45)) (fun r9 => ?_)
    refine L.storeW (k := 0) rfl rfl rfl Tryz.sizeOf45 (Get.tmp rfl) (Get.tmp rfl) rfl rfl rfl ?_
    refine L.op1 rfl rfl (GSpec.plain rfl (spec_assign rfl (Get.tmp rfl))) ?_
    refine L.nil ?_
    refine N.thenW ?_
    refine W.keep (.cons (t := 4) rfl (.cons (t := 5) rfl (.cons (t := 9) rfl (.cons (t := 10) rfl .nil)))) .refl ?_
    refine W.seq ?_
    refine W.region ?_
    refine L.op1 rfl rfl (GSpec.plain rfl (spec_loadW (k := 0) rfl Tryz.isAgg45 Tryz.sizeOf45 (Get.tmp rfl) rfl rfl)) ?_
    refine L.op1 rfl rfl (GSpec.plain rfl (spec_move rfl (Get.tmp rfl))) ?_
    refine L.op1 rfl rfl (GSpec.plain rfl (spec_eql rfl (Get.tmp rfl) (Get.cint rfl))) ?_
    refine L.storeW (k := 1) rfl rfl rfl Tryz.sizeOf45 (Get.tmp rfl) (Get.tmp rfl) rfl rfl rfl ?_
    refine L.op1 rfl rfl (GSpec.plain rfl (spec_assign rfl (Get.tmp rfl))) ?_
    refine L.nil ?_
    refine N.thenW ?_
    refine W.keep (.cons (t := 4) rfl (.cons (t := 5) rfl .nil)) .refl ?_
    refine W.ret ?_
    refine N.ret () rfl (.cellA (k := 1) (Get.tmp (t := 4) rfl) rfl Tryz.isAgg45 Tryz.sizeOf45 rfl (.tmp (t := 5) (Get.tmp rfl) .nil)) (res2w (eqA ?_) (eqB ?_)) .nil (fun _ _ h => h)
    all_goals rfl

end Go.Proofs.YthlfacmpjehjmaaGreatDoor
set_option linter.unusedSimpArgs false
set_option maxRecDepth 8000
set_option linter.unusedVariables false
namespace Go.Proofs.YthlfacmpjehjmaaGreatDoor
open Go.Sim
theorem pick_ok (kind n w : Int) : CallT Tryz.prog 21 [Rp.int .u8 kind, Rp.int .u8 n, Rp.int .u8 w] [spG] (.one (Rp.tuple [Rp.agg (eD (pickD kind n w)), Rp.int .i64 0])) := by
  refine W.enter (fn := Tryz.f21) (n := 50) Tryz.func21 rfl Tryz.ntmps21 rfl (fun w₀ C₀ => ?_)
  simp only [argS]
  refine W.fact 0 rfl int_fact fun hk => ?_
  simp only [InR] at hk
  refine W.fact 1 rfl int_fact fun hn => ?_
  simp only [InR] at hn
  refine W.fact 2 rfl int_fact fun hw => ?_
  simp only [InR] at hw
  refine W.seq ?_
  refine W.region ?_
  refine L.box rfl rfl (GSpec.plain rfl (spec_alloc rfl ti27 z27)) (fun r6 => ?_)
  refine L.op1 rfl rfl (GSpec.plain rfl (spec_assign rfl (Get.cint rfl))) ?_
  refine L.nil ?_
  refine N.thenW ?_
  refine W.seq ?_
  refine W.region ?_
  refine L.op1 rfl rfl (GSpec.plain rfl (spec_move rfl (Get.tmp rfl))) ?_
  first | refine L.op1 rfl rfl (GSpec.plain rfl (spec_remP rfl (Get.tmp rfl) (Get.cint rfl) (by omega) (by omega))) ?_ | refine L.op1 rfl rfl (GSpec.plain rfl (spec_rem rfl (Get.tmp rfl) (Get.cint rfl) (by omega))) ?_
  first | refine L.op1 rfl rfl (GSpec.plain rfl (fit_i64 (by omega) (by omega) (spec_conv rfl Tryz.underlying3 ⟨_, Tryz.underlying5⟩ (Get.tmp rfl)))) ?_ | refine L.op1 rfl rfl (GSpec.plain rfl (spec_conv rfl Tryz.underlying3 ⟨_, Tryz.underlying5⟩ (Get.tmp rfl))) ?_
  first | refine L.op1 rfl rfl (GSpec.plain rfl (fit_i64 (by omega) (by omega) (spec_add rfl (Get.cint rfl) (Get.tmp rfl)))) ?_ | refine L.op1 rfl rfl (GSpec.plain rfl (spec_add rfl (Get.cint rfl) (Get.tmp rfl))) ?_
  refine L.op1 rfl rfl (GSpec.plain rfl (spec_move rfl (Get.tmp rfl))) ?_
  first | refine L.op1 rfl rfl (GSpec.plain rfl (spec_remP rfl (Get.tmp rfl) (Get.cint rfl) (by omega) (by omega))) ?_ | refine L.op1 rfl rfl (GSpec.plain rfl (spec_rem rfl (Get.tmp rfl) (Get.cint rfl) (by omega))) ?_
  first | refine L.op1 rfl rfl (GSpec.plain rfl (fit_i64 (by omega) (by omega) (spec_conv rfl Tryz.underlying3 ⟨_, Tryz.underlying5⟩ (Get.tmp rfl)))) ?_ | refine L.op1 rfl rfl (GSpec.plain rfl (spec_conv rfl Tryz.underlying3 ⟨_, Tryz.underlying5⟩ (Get.tmp rfl))) ?_
  first | refine L.op1 rfl rfl (GSpec.plain rfl (fit_i64 (by omega) (by omega) (spec_add rfl (Get.cint rfl) (Get.tmp rfl)))) ?_ | refine L.op1 rfl rfl (GSpec.plain rfl (spec_add rfl (Get.cint rfl) (Get.tmp rfl))) ?_
  refine L.op1 rfl rfl (GSpec.plain rfl (spec_assign rfl (Get.tmp rfl))) ?_
  refine L.op1 rfl rfl (GSpec.plain rfl (spec_assign rfl (Get.tmp rfl))) ?_
  refine L.nil ?_
  refine N.thenW ?_
  refine W.keep (.cons (t := 0) rfl (.cons (t := 6) rfl (.cons (t := 7) rfl (.cons (t := 8) rfl (.cons (t := 9) rfl .nil))))) .refl ?_
  refine W.seq ?_
  refine W.seq ?_
  refine W.region ?_
  refine L.op1 rfl rfl (GSpec.plain rfl (spec_move rfl (Get.tmp rfl))) ?_
  first | refine L.op1 rfl rfl (GSpec.plain rfl (spec_remP rfl (Get.tmp rfl) (Get.cint rfl) (by omega) (by omega))) ?_ | refine L.op1 rfl rfl (GSpec.plain rfl (spec_rem rfl (Get.tmp rfl) (Get.cint rfl) (by omega))) ?_
  refine L.nil ?_
  refine N.thenW ?_
  refine W.block ?_
  refine W.seq ?_
  refine W.region ?_
  refine L.op1 rfl rfl (GSpec.plain rfl (spec_eql rfl (Get.tmp rfl) (Get.cint rfl))) ?_
  refine L.op1 rfl rfl (GSpec.plain rfl (spec_assign rfl (Get.tmp rfl))) ?_
  refine L.nil ?_
  refine N.thenW ?_
  refine W.cond (Get.tmp rfl) (fun h1 => ?_) (fun h1 => ?_)
  · have ph1 := h1; try simp only [decide_eq_true_eq, decide_eq_false_iff_not, Bool.and_eq_true, Bool.or_eq_true, Bool.and_eq_false_iff, Bool.or_eq_false_iff, Bool.not_eq_true', Bool.not_eq_false', Bool.not_true, Bool.not_false, Int.not_lt, Int.not_le] at ph1
    refine W.seq ?_
    refine W.region ?_
    refine L.op1 rfl rfl (GSpec.plain rfl (spec_move rfl (Get.tmp rfl))) ?_
    refine L.op1 rfl rfl (GSpec.plain rfl (spec_move rfl (Get.tmp rfl))) ?_
    refine L.op1 rfl rfl (GSpec.plain rfl (spec_callG (k := 1) rfl Tryz.call9 rfl (queue_ok _ _ (by omega) (by omega)) (.cons (Get.tmp rfl) (.cons (Get.tmp rfl) .nil)))) ?_
    refine L.op1 rfl rfl (GSpec.plain rfl (spec_extract rfl (Get.tmp rfl) rfl)) ?_
    refine L.op1 rfl rfl (GSpec.plain rfl (spec_extract rfl (Get.tmp rfl) rfl)) ?_
    refine L.storeW (k := 0) rfl rfl rfl Tryz.sizeOf27 (Get.tmp rfl) (Get.tmp rfl) rfl rfl rfl ?_
    refine L.op1 rfl rfl (GSpec.plain rfl (spec_assign rfl (Get.tmp rfl))) ?_
    refine L.nil ?_
    refine N.thenW ?_
    refine W.keep (.cons (t := 6) rfl (.cons (t := 7) rfl (.cons (t := 8) rfl .nil))) .refl ?_
    refine W.ret ?_
    refine N.ret () rfl (.cellA (k := 0) (Get.tmp (t := 6) rfl) rfl Tryz.isAgg27 Tryz.sizeOf27 rfl (.tmp (t := 7) (Get.tmp rfl) .nil)) (res2w (eqA ?_) (eqI ?_)) .nil (fun _ _ h => h)
    all_goals first | rfl | (unfold pickD; simp_all)
  · have ph1 := h1; try simp only [decide_eq_true_eq, decide_eq_false_iff_not, Bool.and_eq_true, Bool.or_eq_true, Bool.and_eq_false_iff, Bool.or_eq_false_iff, Bool.not_eq_true', Bool.not_eq_false', Bool.not_true, Bool.not_false, Int.not_lt, Int.not_le] at ph1
    refine W.seq ?_
    refine W.region ?_
    refine L.op1 rfl rfl (GSpec.plain rfl (spec_eql rfl (Get.tmp rfl) (Get.cint rfl))) ?_
    refine L.op1 rfl rfl (GSpec.plain rfl (spec_assign rfl (Get.tmp rfl))) ?_
    refine L.nil ?_
    refine N.thenW ?_
    refine W.cond (Get.tmp rfl) (fun h2 => ?_) (fun h2 => ?_)
    · have ph2 := h2; try simp only [decide_eq_true_eq, decide_eq_false_iff_not, Bool.and_eq_true, Bool.or_eq_true, Bool.and_eq_false_iff, Bool.or_eq_false_iff, Bool.not_eq_true', Bool.not_eq_false', Bool.not_true, Bool.not_false, Int.not_lt, Int.not_le] at ph2
      refine W.seq ?_
      refine W.region ?_
      refine L.op1 rfl rfl (GSpec.plain rfl (spec_move rfl (Get.tmp rfl))) ?_
      refine L.op1 rfl rfl (GSpec.plain rfl (spec_callG (k := 1) rfl Tryz.call12 rfl (adder_ok _ (by omega)) (.cons (Get.tmp rfl) .nil))) ?_
      refine L.op1 rfl rfl (GSpec.plain rfl (spec_extract rfl (Get.tmp rfl) rfl)) ?_
      refine L.op1 rfl rfl (GSpec.plain rfl (spec_extract rfl (Get.tmp rfl) rfl)) ?_
      refine L.storeW (k := 0) rfl rfl rfl Tryz.sizeOf27 (Get.tmp rfl) (Get.tmp rfl) rfl rfl rfl ?_
      refine L.op1 rfl rfl (GSpec.plain rfl (spec_assign rfl (Get.tmp rfl))) ?_
      refine L.nil ?_
      refine N.thenW ?_
      refine W.keep (.cons (t := 6) rfl (.cons (t := 7) rfl (.cons (t := 8) rfl .nil))) .refl ?_
      refine W.ret ?_
      refine N.ret () rfl (.cellA (k := 0) (Get.tmp (t := 6) rfl) rfl Tryz.isAgg27 Tryz.sizeOf27 rfl (.tmp (t := 7) (Get.tmp rfl) .nil)) (res2w (eqA ?_) (eqI ?_)) .nil (fun _ _ h => h)
      all_goals first | rfl | (unfold pickD; simp_all)
    · have ph2 := h2; try simp only [decide_eq_true_eq, decide_eq_false_iff_not, Bool.and_eq_true, Bool.or_eq_true, Bool.and_eq_false_iff, Bool.or_eq_false_iff, Bool.not_eq_true', Bool.not_eq_false', Bool.not_true, Bool.not_false, Int.not_lt, Int.not_le] at ph2
      refine W.seq ?_
      refine W.region ?_
      refine L.op1 rfl rfl (GSpec.plain rfl (spec_eql rfl (Get.tmp rfl) (Get.cint rfl))) ?_
      refine L.op1 rfl rfl (GSpec.plain rfl (spec_assign rfl (Get.tmp rfl))) ?_
      refine L.nil ?_
      refine N.thenW ?_
      refine W.keep (.cons (t := 6) rfl (.cons (t := 7) rfl (.cons (t := 8) rfl (.cons (t := 9) rfl (.cons (t := 19) rfl (.cons (t := 33) rfl .nil)))))) .refl ?_
      refine W.cond (Get.tmp rfl) (fun h3 => ?_) (fun h3 => ?_)
      · have ph3 := h3; try simp only [decide_eq_true_eq, decide_eq_false_iff_not, Bool.and_eq_true, Bool.or_eq_true, Bool.and_eq_false_iff, Bool.or_eq_false_iff, Bool.not_eq_true', Bool.not_eq_false', Bool.not_true, Bool.not_false, Int.not_lt, Int.not_le] at ph3
        refine W.seq ?_
        refine W.region ?_
        refine L.op1 rfl rfl (GSpec.plain rfl (spec_move rfl (Get.tmp rfl))) ?_
        refine L.op1 rfl rfl (GSpec.plain rfl (spec_callG (k := 1) rfl Tryz.call14 rfl (counter_ok _ (by omega)) (.cons (Get.tmp rfl) .nil))) ?_
        refine L.op1 rfl rfl (GSpec.plain rfl (spec_extract rfl (Get.tmp rfl) rfl)) ?_
        refine L.op1 rfl rfl (GSpec.plain rfl (spec_extract rfl (Get.tmp rfl) rfl)) ?_
        refine L.storeW (k := 0) rfl rfl rfl Tryz.sizeOf27 (Get.tmp rfl) (Get.tmp rfl) rfl rfl rfl ?_
        refine L.op1 rfl rfl (GSpec.plain rfl (spec_assign rfl (Get.tmp rfl))) ?_
        refine L.nil ?_
        refine N.thenW ?_
        refine W.keep (.cons (t := 6) rfl (.cons (t := 7) rfl (.cons (t := 8) rfl .nil))) .refl ?_
        refine W.ret ?_
        refine N.ret () rfl (.cellA (k := 0) (Get.tmp (t := 6) rfl) rfl Tryz.isAgg27 Tryz.sizeOf27 rfl (.tmp (t := 7) (Get.tmp rfl) .nil)) (res2w (eqA ?_) (eqI ?_)) .nil (fun _ _ h => h)
        all_goals first | rfl | (unfold pickD; simp_all)
      · have ph3 := h3; try simp only [decide_eq_true_eq, decide_eq_false_iff_not, Bool.and_eq_true, Bool.or_eq_true, Bool.and_eq_false_iff, Bool.or_eq_false_iff, Bool.not_eq_true', Bool.not_eq_false', Bool.not_true, Bool.not_false, Int.not_lt, Int.not_le] at ph3
        refine W.seq ?_
        refine W.region ?_
        refine L.op1 rfl rfl (GSpec.plain rfl (spec_eql rfl (Get.tmp rfl) (Get.cint rfl))) ?_
        refine L.op1 rfl rfl (GSpec.plain rfl (spec_assign rfl (Get.tmp rfl))) ?_
        refine L.nil ?_
        refine N.thenW ?_
        refine W.cond (Get.tmp rfl) (fun h4 => ?_) (fun h4 => ?_)
        · have ph4 := h4; try simp only [decide_eq_true_eq, decide_eq_false_iff_not, Bool.and_eq_true, Bool.or_eq_true, Bool.and_eq_false_iff, Bool.or_eq_false_iff, Bool.not_eq_true', Bool.not_eq_false', Bool.not_true, Bool.not_false, Int.not_lt, Int.not_le] at ph4
          refine W.seq ?_
          refine W.region ?_
          refine L.op1 rfl rfl (GSpec.plain rfl (spec_move rfl (Get.tmp rfl))) ?_
          refine L.op1 rfl rfl (GSpec.plain rfl (spec_move rfl (Get.tmp rfl))) ?_
          refine L.op1 rfl rfl (GSpec.plain rfl (spec_callG (k := 1) rfl Tryz.call16 rfl (delay_ok _ _ (by omega) (by omega)) (.cons (Get.tmp rfl) (.cons (Get.tmp rfl) .nil)))) ?_
          refine L.op1 rfl rfl (GSpec.plain rfl (spec_extract rfl (Get.tmp rfl) rfl)) ?_
          refine L.op1 rfl rfl (GSpec.plain rfl (spec_extract rfl (Get.tmp rfl) rfl)) ?_
          refine L.storeW (k := 0) rfl rfl rfl Tryz.sizeOf27 (Get.tmp rfl) (Get.tmp rfl) rfl rfl rfl ?_
          refine L.op1 rfl rfl (GSpec.plain rfl (spec_assign rfl (Get.tmp rfl))) ?_
          refine L.nil ?_
          refine N.thenW ?_
          refine W.keep (.cons (t := 6) rfl (.cons (t := 7) rfl (.cons (t := 8) rfl .nil))) .refl ?_
          refine W.ret ?_
          refine N.ret () rfl (.cellA (k := 0) (Get.tmp (t := 6) rfl) rfl Tryz.isAgg27 Tryz.sizeOf27 rfl (.tmp (t := 7) (Get.tmp rfl) .nil)) (res2w (eqA ?_) (eqI ?_)) .nil (fun _ _ h => h)
          all_goals first | rfl | (unfold pickD; simp_all)
        · have ph4 := h4; try simp only [decide_eq_true_eq, decide_eq_false_iff_not, Bool.and_eq_true, Bool.or_eq_true, Bool.and_eq_false_iff, Bool.or_eq_false_iff, Bool.not_eq_true', Bool.not_eq_false', Bool.not_true, Bool.not_false, Int.not_lt, Int.not_le] at ph4
          refine W.skip ?_
          refine N.blockNormal ?_
          refine N.thenW ?_
          refine W.seq ?_
          refine W.region ?_
          refine L.op1 rfl rfl (GSpec.plain rfl (spec_move rfl (Get.tmp rfl))) ?_
          refine L.op1 rfl rfl (GSpec.plain rfl (spec_callG (k := 1) rfl Tryz.call18 rfl (swap_ok _ (by omega)) (.cons (Get.tmp rfl) .nil))) ?_
          refine L.op1 rfl rfl (GSpec.plain rfl (spec_extract rfl (Get.tmp rfl) rfl)) ?_
          refine L.op1 rfl rfl (GSpec.plain rfl (spec_extract rfl (Get.tmp rfl) rfl)) ?_
          refine L.storeW (k := 0) rfl rfl rfl Tryz.sizeOf27 (Get.tmp rfl) (Get.tmp rfl) rfl rfl rfl ?_
          refine L.op1 rfl rfl (GSpec.plain rfl (spec_assign rfl (Get.tmp rfl))) ?_
          refine L.nil ?_
          refine N.thenW ?_
          refine W.keep (.cons (t := 6) rfl (.cons (t := 7) rfl .nil)) .refl ?_
          refine W.ret ?_
          refine N.ret () rfl (.cellA (k := 0) (Get.tmp (t := 6) rfl) rfl Tryz.isAgg27 Tryz.sizeOf27 rfl (.tmp (t := 7) (Get.tmp rfl) .nil)) (res2w (eqA ?_) (eqI ?_)) .nil (fun _ _ h => h)
          all_goals first | rfl | (unfold pickD; simp_all)

theorem ent0_ok  : CallT Tryz.prog 90 [] [spG] (.one (Rp.tuple [Rp.agg (eD (queueD 4 8)), Rp.int .i64 0])) := by
  refine W.enter (fn := Tryz.f90) (n := 5) Tryz.func90 rfl Tryz.ntmps90 rfl (fun w₀ C₀ => ?_)
  simp only [argS]
  refine W.seq ?_
  refine W.region ?_
  refine L.box rfl rfl (GSpec.plain rfl (spec_alloc rfl ti27 z27)) (fun r0 => ?_)
  refine L.op1 rfl rfl (GSpec.plain rfl (spec_assign rfl (Get.cint rfl))) ?_
  refine L.nil ?_
  refine N.thenW ?_
  refine W.seq ?_
  refine W.region ?_
  refine L.op1 rfl rfl (GSpec.plain rfl (spec_callG (k := 1) rfl Tryz.call9 rfl (queue_ok _ _ (by omega) (by omega)) (.cons (Get.cint rfl) (.cons (Get.cint rfl) .nil)))) ?_
  refine L.op1 rfl rfl (GSpec.plain rfl (spec_extract rfl (Get.tmp rfl) rfl)) ?_
  refine L.op1 rfl rfl (GSpec.plain rfl (spec_extract rfl (Get.tmp rfl) rfl)) ?_
  refine L.storeW (k := 0) rfl rfl rfl Tryz.sizeOf27 (Get.tmp rfl) (Get.tmp rfl) rfl rfl rfl ?_
  refine L.op1 rfl rfl (GSpec.plain rfl (spec_assign rfl (Get.tmp rfl))) ?_
  refine L.nil ?_
  refine N.thenW ?_
  refine W.keep (.cons (t := 0) rfl (.cons (t := 1) rfl .nil)) .refl ?_
  refine W.ret ?_
  refine N.ret () rfl (.cellA (k := 0) (Get.tmp (t := 0) rfl) rfl Tryz.isAgg27 Tryz.sizeOf27 rfl (.tmp (t := 1) (Get.tmp rfl) .nil)) (res2w (eqA ?_) (eqI ?_)) .nil (fun _ _ h => h)
  all_goals rfl

theorem ent1_ok  : CallT Tryz.prog 91 [] [spG] (.one (Rp.tuple [Rp.agg (eD (adderD 8)), Rp.int .i64 0])) := by
  refine W.enter (fn := Tryz.f91) (n := 5) Tryz.func91 rfl Tryz.ntmps91 rfl (fun w₀ C₀ => ?_)
  simp only [argS]
  refine W.seq ?_
  refine W.region ?_
  refine L.box rfl rfl (GSpec.plain rfl (spec_alloc rfl ti27 z27)) (fun r0 => ?_)
  refine L.op1 rfl rfl (GSpec.plain rfl (spec_assign rfl (Get.cint rfl))) ?_
  refine L.nil ?_
  refine N.thenW ?_
  refine W.seq ?_
  refine W.region ?_
  refine L.op1 rfl rfl (GSpec.plain rfl (spec_callG (k := 1) rfl Tryz.call12 rfl (adder_ok _ (by omega)) (.cons (Get.cint rfl) .nil))) ?_
  refine L.op1 rfl rfl (GSpec.plain rfl (spec_extract rfl (Get.tmp rfl) rfl)) ?_
  refine L.op1 rfl rfl (GSpec.plain rfl (spec_extract rfl (Get.tmp rfl) rfl)) ?_
  refine L.storeW (k := 0) rfl rfl rfl Tryz.sizeOf27 (Get.tmp rfl) (Get.tmp rfl) rfl rfl rfl ?_
  refine L.op1 rfl rfl (GSpec.plain rfl (spec_assign rfl (Get.tmp rfl))) ?_
  refine L.nil ?_
  refine N.thenW ?_
  refine W.keep (.cons (t := 0) rfl (.cons (t := 1) rfl .nil)) .refl ?_
  refine W.ret ?_
  refine N.ret () rfl (.cellA (k := 0) (Get.tmp (t := 0) rfl) rfl Tryz.isAgg27 Tryz.sizeOf27 rfl (.tmp (t := 1) (Get.tmp rfl) .nil)) (res2w (eqA ?_) (eqI ?_)) .nil (fun _ _ h => h)
  all_goals rfl

theorem ent2_ok  : CallT Tryz.prog 92 [] [spG] (.one (Rp.tuple [Rp.agg (eD (counterD 8)), Rp.int .i64 0])) := by
  refine W.enter (fn := Tryz.f92) (n := 5) Tryz.func92 rfl Tryz.ntmps92 rfl (fun w₀ C₀ => ?_)
  simp only [argS]
  refine W.seq ?_
  refine W.region ?_
  refine L.box rfl rfl (GSpec.plain rfl (spec_alloc rfl ti27 z27)) (fun r0 => ?_)
  refine L.op1 rfl rfl (GSpec.plain rfl (spec_assign rfl (Get.cint rfl))) ?_
  refine L.nil ?_
  refine N.thenW ?_
  refine W.seq ?_
  refine W.region ?_
  refine L.op1 rfl rfl (GSpec.plain rfl (spec_callG (k := 1) rfl Tryz.call14 rfl (counter_ok _ (by omega)) (.cons (Get.cint rfl) .nil))) ?_
  refine L.op1 rfl rfl (GSpec.plain rfl (spec_extract rfl (Get.tmp rfl) rfl)) ?_
  refine L.op1 rfl rfl (GSpec.plain rfl (spec_extract rfl (Get.tmp rfl) rfl)) ?_
  refine L.storeW (k := 0) rfl rfl rfl Tryz.sizeOf27 (Get.tmp rfl) (Get.tmp rfl) rfl rfl rfl ?_
  refine L.op1 rfl rfl (GSpec.plain rfl (spec_assign rfl (Get.tmp rfl))) ?_
  refine L.nil ?_
  refine N.thenW ?_
  refine W.keep (.cons (t := 0) rfl (.cons (t := 1) rfl .nil)) .refl ?_
  refine W.ret ?_
  refine N.ret () rfl (.cellA (k := 0) (Get.tmp (t := 0) rfl) rfl Tryz.isAgg27 Tryz.sizeOf27 rfl (.tmp (t := 1) (Get.tmp rfl) .nil)) (res2w (eqA ?_) (eqI ?_)) .nil (fun _ _ h => h)
  all_goals rfl

theorem ent3_ok  : CallT Tryz.prog 93 [] [spG] (.one (Rp.tuple [Rp.agg (eD (delayD 2 8)), Rp.int .i64 0])) := by
  refine W.enter (fn := Tryz.f93) (n := 5) Tryz.func93 rfl Tryz.ntmps93 rfl (fun w₀ C₀ => ?_)
  simp only [argS]
  refine W.seq ?_
  refine W.region ?_
  refine L.box rfl rfl (GSpec.plain rfl (spec_alloc rfl ti27 z27)) (fun r0 => ?_)
  refine L.op1 rfl rfl (GSpec.plain rfl (spec_assign rfl (Get.cint rfl))) ?_
  refine L.nil ?_
  refine N.thenW ?_
  refine W.seq ?_
  refine W.region ?_
  refine L.op1 rfl rfl (GSpec.plain rfl (spec_callG (k := 1) rfl Tryz.call16 rfl (delay_ok _ _ (by omega) (by omega)) (.cons (Get.cint rfl) (.cons (Get.cint rfl) .nil)))) ?_
  refine L.op1 rfl rfl (GSpec.plain rfl (spec_extract rfl (Get.tmp rfl) rfl)) ?_
  refine L.op1 rfl rfl (GSpec.plain rfl (spec_extract rfl (Get.tmp rfl) rfl)) ?_
  refine L.storeW (k := 0) rfl rfl rfl Tryz.sizeOf27 (Get.tmp rfl) (Get.tmp rfl) rfl rfl rfl ?_
  refine L.op1 rfl rfl (GSpec.plain rfl (spec_assign rfl (Get.tmp rfl))) ?_
  refine L.nil ?_
  refine N.thenW ?_
  refine W.keep (.cons (t := 0) rfl (.cons (t := 1) rfl .nil)) .refl ?_
  refine W.ret ?_
  refine N.ret () rfl (.cellA (k := 0) (Get.tmp (t := 0) rfl) rfl Tryz.isAgg27 Tryz.sizeOf27 rfl (.tmp (t := 1) (Get.tmp rfl) .nil)) (res2w (eqA ?_) (eqI ?_)) .nil (fun _ _ h => h)
  all_goals rfl

theorem ent4_ok  : CallT Tryz.prog 94 [] [spG] (.one (Rp.tuple [Rp.agg (eD (swapD 8)), Rp.int .i64 0])) := by
  refine W.enter (fn := Tryz.f94) (n := 5) Tryz.func94 rfl Tryz.ntmps94 rfl (fun w₀ C₀ => ?_)
  simp only [argS]
  refine W.seq ?_
  refine W.region ?_
  refine L.box rfl rfl (GSpec.plain rfl (spec_alloc rfl ti27 z27)) (fun r0 => ?_)
  refine L.op1 rfl rfl (GSpec.plain rfl (spec_assign rfl (Get.cint rfl))) ?_
  refine L.nil ?_
  refine N.thenW ?_
  refine W.seq ?_
  refine W.region ?_
  refine L.op1 rfl rfl (GSpec.plain rfl (spec_callG (k := 1) rfl Tryz.call18 rfl (swap_ok _ (by omega)) (.cons (Get.cint rfl) .nil))) ?_
  refine L.op1 rfl rfl (GSpec.plain rfl (spec_extract rfl (Get.tmp rfl) rfl)) ?_
  refine L.op1 rfl rfl (GSpec.plain rfl (spec_extract rfl (Get.tmp rfl) rfl)) ?_
  refine L.storeW (k := 0) rfl rfl rfl Tryz.sizeOf27 (Get.tmp rfl) (Get.tmp rfl) rfl rfl rfl ?_
  refine L.op1 rfl rfl (GSpec.plain rfl (spec_assign rfl (Get.tmp rfl))) ?_
  refine L.nil ?_
  refine N.thenW ?_
  refine W.keep (.cons (t := 0) rfl (.cons (t := 1) rfl .nil)) .refl ?_
  refine W.ret ?_
  refine N.ret () rfl (.cellA (k := 0) (Get.tmp (t := 0) rfl) rfl Tryz.isAgg27 Tryz.sizeOf27 rfl (.tmp (t := 1) (Get.tmp rfl) .nil)) (res2w (eqA ?_) (eqI ?_)) .nil (fun _ _ h => h)
  all_goals rfl

theorem entries_ok  : CallT Tryz.prog 74 [] [] (.one (Rp.agg (ents.flatMap eEn))) := by
  refine W.enter (fn := Tryz.f74) (n := 7) Tryz.func74 rfl Tryz.ntmps74 rfl (fun w₀ C₀ => ?_)
  simp only [argS]
  refine W.seq ?_
  refine W.region ?_
  refine L.box rfl rfl (GSpec.plain rfl (spec_alloc rfl ti108 z108)) (fun r0 => ?_)
  refine L.nil ?_
  refine N.thenW ?_
  refine W.seq ?_
  refine W.region ?_
  refine L.op1 rfl rfl (GSpec.plain rfl (spec_build (Rs := [_, fnG (queueD 4 8)]) rfl ti107 z107 Tryz.underlying107 pl107 (.cons (GetC.one (Get.cstr (l := [113, 117, 101, 117, 101]) rfl rfl)) rfl rfl rfl (.cons (GetC.one (Get.weak Get.clo (fnM_of_clo Tryz.call90 (fun _ => ent0_ok)))) rfl rfl rfl .nil)))) ?_
  refine L.op1 rfl rfl (GSpec.plain rfl (spec_build (Rs := [_, fnG (adderD 8)]) rfl ti107 z107 Tryz.underlying107 pl107 (.cons (GetC.one (Get.cstr (l := [97, 100, 100, 101, 114]) rfl rfl)) rfl rfl rfl (.cons (GetC.one (Get.weak Get.clo (fnM_of_clo Tryz.call91 (fun _ => ent1_ok)))) rfl rfl rfl .nil)))) ?_
  refine L.op1 rfl rfl (GSpec.plain rfl (spec_build (Rs := [_, fnG (counterD 8)]) rfl ti107 z107 Tryz.underlying107 pl107 (.cons (GetC.one (Get.cstr (l := [99, 111, 117, 110, 116, 101, 114]) rfl rfl)) rfl rfl rfl (.cons (GetC.one (Get.weak Get.clo (fnM_of_clo Tryz.call92 (fun _ => ent2_ok)))) rfl rfl rfl .nil)))) ?_
  refine L.op1 rfl rfl (GSpec.plain rfl (spec_build (Rs := [_, fnG (delayD 2 8)]) rfl ti107 z107 Tryz.underlying107 pl107 (.cons (GetC.one (Get.cstr (l := [100, 101, 108, 97, 121]) rfl rfl)) rfl rfl rfl (.cons (GetC.one (Get.weak Get.clo (fnM_of_clo Tryz.call93 (fun _ => ent3_ok)))) rfl rfl rfl .nil)))) ?_
  refine L.op1 rfl rfl (GSpec.plain rfl (spec_build (Rs := [_, fnG (swapD 8)]) rfl ti107 z107 Tryz.underlying107 pl107 (.cons (GetC.one (Get.cstr (l := [115, 119, 97, 112]) rfl rfl)) rfl rfl rfl (.cons (GetC.one (Get.weak Get.clo (fnM_of_clo Tryz.call94 (fun _ => ent4_ok)))) rfl rfl rfl .nil)))) ?_
  refine L.op1 rfl rfl (GSpec.plain rfl (spec_buildArr (Rs := [_, _, _, _, _, _, _, _, _, _]) rfl ti108 z108 Tryz.underlying108 Tryz.sizeOf107 (.cons (GetC.agg (Get.tmp rfl)) rfl rfl rfl (.cons (GetC.agg (Get.tmp rfl)) rfl rfl rfl (.cons (GetC.agg (Get.tmp rfl)) rfl rfl rfl (.cons (GetC.agg (Get.tmp rfl)) rfl rfl rfl (.cons (GetC.agg (Get.tmp rfl)) rfl rfl rfl .nil))))))) ?_
  refine L.storeW (k := 0) rfl rfl rfl Tryz.sizeOf108 (Get.tmp rfl) (Get.tmp rfl) rfl rfl rfl ?_
  refine L.nil ?_
  refine N.thenW ?_
  refine W.keep (.cons (t := 0) rfl .nil) .refl ?_
  refine W.ret ?_
  refine N.ret () rfl (.cellA (k := 0) (Get.tmp (t := 0) rfl) rfl Tryz.isAgg108 Tryz.sizeOf108 rfl .nil) (res1 (eqA ?_)) .nil (fun _ _ h => h)
  all_goals rfl

theorem get_ok (s : List UInt8) : CallT Tryz.prog 29 [Rp.str s] [spG] (.one (Rp.tuple [Rp.agg (eD (getD1 s)), Rp.int .i64 (getE1 s)])) := by
  refine W.enter (fn := Tryz.f29) (n := 21) Tryz.func29 rfl Tryz.ntmps29 rfl (fun w₀ C₀ => ?_)
  simp only [argS]
  refine W.seq ?_
  refine W.region ?_
  refine L.box rfl rfl (GSpec.plain rfl (spec_alloc rfl ti27 z27)) (fun r2 => ?_)
  refine L.op1 rfl rfl (GSpec.plain rfl (spec_assign rfl (Get.cint rfl))) ?_
  refine L.nil ?_
  refine N.thenW ?_
  refine W.seq ?_
  refine W.seq ?_
  refine W.region ?_
  refine L.op1 rfl rfl (GSpec.plain rfl (spec_call rfl Tryz.call74 (entries_ok ) .nil)) ?_
  refine L.op1 rfl rfl (GSpec.plain rfl (spec_move rfl (Get.cint rfl))) ?_
  refine L.nil ?_
  refine N.thenW ?_
  refine W.block ?_
  -- assigned in the loop, not kept: [3]
  refine W.loopK (σ := Nat) (.cons (t := 0) rfl (.cons (t := 2) rfl (.cons (t := 6) rfl .nil))) (fun z => [(7, Rp.int .i64 (z : Nat))]) (fun z => []) (fun z => z ≤ 5 ∧ ∀ j : Nat, j < z → (ents.getD j default).name ≠ s) (fun z => 5 - z) 0 ⟨Nat.zero_le _, fun j hj => by omega⟩ (.cons (t := 7) rfl .nil) (.cons 0 rfl (.cons 0 rfl .nil)) ?_
  intro i hI S' M' hS hM
  obtain ⟨hI1, hI2⟩ := hI
  try dsimp only at hS hM
  simp only [List.cons_append, List.nil_append] at hS hM
  subst hS hM
  try dsimp only
  refine W.seq ?_
  refine W.region ?_
  refine L.op1 rfl rfl (GSpec.plain rfl (spec_lss rfl (Get.tmp rfl) (Get.cint rfl))) ?_
  refine L.nil ?_
  refine N.thenW ?_
  refine W.seq ?_
  refine W.cond (Get.tmp rfl) (fun h1 => ?_) (fun h1 => ?_)
  · have ph1 := h1; try simp only [decide_eq_true_eq, decide_eq_false_iff_not, Bool.and_eq_true, Bool.or_eq_true, Bool.and_eq_false_iff, Bool.or_eq_false_iff, Bool.not_eq_true', Bool.not_eq_false', Bool.not_true, Bool.not_false, Int.not_lt, Int.not_le] at ph1
    refine W.skip ?_
    refine N.thenW ?_
    refine W.seq ?_
    refine W.block ?_
    refine W.seq ?_
    refine W.region ?_
    refine L.op1 rfl rfl (GSpec.plain rfl (spec_indexAA (E := eEn) (xs := ents) rfl Tryz.underlying108 Tryz.sizeOf107 Tryz.isAgg107 (fun _ => rfl) (Get.tmp rfl) (Get.tmp rfl) (by omega) (by decide))) ?_
    refine L.box rfl rfl (GSpec.plain rfl (spec_alloc rfl ti107 z107)) (fun r5 => ?_)
    refine L.storeW (k := 0) rfl rfl rfl Tryz.sizeOf107 (Get.tmp rfl) (Get.tmp rfl) rfl rfl rfl ?_
    refine L.nil ?_
    refine N.thenW ?_
    refine W.seq ?_
    refine W.region ?_
    refine L.op1 rfl rfl (GSpec.plain rfl (spec_fieldAddr (f := 0) (off' := 0) rfl Tryz.underlying107 rfl Tryz.sizeOf9 (Get.tmp rfl) rfl)) ?_
    refine L.op1 rfl rfl (GSpec.plain rfl (spec_load1 (k := 0) rfl Tryz.isAgg9 (Get.tmp rfl) rfl rfl)) ?_
    refine L.op1 rfl rfl (GSpec.plain rfl (spec_move rfl (Get.tmp rfl))) ?_
    refine L.op1 rfl rfl (GSpec.plain rfl (spec_eqlS rfl (Get.tmp rfl) (Get.tmp rfl))) ?_
    refine L.nil ?_
    refine N.thenW ?_
    refine W.cond (Get.tmp rfl) (fun h2 => ?_) (fun h2 => ?_)
    · have ph2 := h2; try simp only [decide_eq_true_eq, decide_eq_false_iff_not, Bool.and_eq_true, Bool.or_eq_true, Bool.and_eq_false_iff, Bool.or_eq_false_iff, Bool.not_eq_true', Bool.not_eq_false', Bool.not_true, Bool.not_false, Int.not_lt, Int.not_le] at ph2
      refine W.seq ?_
      refine W.region ?_
      refine L.op1 rfl rfl (GSpec.plain rfl (spec_fieldAddr (f := 1) (off' := 1) rfl Tryz.underlying107 rfl Tryz.sizeOf74 (Get.tmp rfl) rfl)) ?_
      refine L.op1 rfl rfl (GSpec.plain rfl (spec_load1 (k := 0) rfl Tryz.isAgg74 (Get.tmp rfl) rfl rfl)) ?_
      refine L.op1 rfl rfl (GSpec.plain rfl (spec_callFG (A := fun _ : Unit => []) (X := fun _ => .one (Rp.tuple [Rp.agg (eD (ents.getD i default).d), Rp.int .i64 0])) (k := 2) rfl rfl () rfl (Get.tmp rfl) .nil)) ?_
      refine L.op1 rfl rfl (GSpec.plain rfl (spec_extract rfl (Get.tmp rfl) rfl)) ?_
      refine L.op1 rfl rfl (GSpec.plain rfl (spec_extract rfl (Get.tmp rfl) rfl)) ?_
      refine L.storeW (k := 1) rfl rfl rfl Tryz.sizeOf27 (Get.tmp rfl) (Get.tmp rfl) rfl rfl rfl ?_
      refine L.op1 rfl rfl (GSpec.plain rfl (spec_assign rfl (Get.tmp rfl))) ?_
      refine L.nil ?_
      refine N.thenW ?_
      refine W.ret ?_
      refine N.ret () rfl (.cellA (k := 1) (Get.tmp (t := 2) rfl) rfl Tryz.isAgg27 Tryz.sizeOf27 rfl (.tmp (t := 3) (Get.tmp rfl) .nil)) (res2w (eqA ?_) (eqI ?_)) .nil (fun _ _ h => h)
      all_goals (have hg := get_yes (by omega) (by simpa using h2) hI2; first | (unfold getD1; rw [hg, if_pos (by omega)]; rfl) | (unfold getE1; rw [hg, if_pos (by omega)]))
    · have ph2 := h2; try simp only [decide_eq_true_eq, decide_eq_false_iff_not, Bool.and_eq_true, Bool.or_eq_true, Bool.and_eq_false_iff, Bool.or_eq_false_iff, Bool.not_eq_true', Bool.not_eq_false', Bool.not_true, Bool.not_false, Int.not_lt, Int.not_le] at ph2
      refine W.skip ?_
      refine N.blockNormal ?_
      refine N.thenW ?_
      refine W.region ?_
      first | refine L.op1 rfl rfl (GSpec.plain rfl (fit_i64 (by omega) (by omega) (spec_add rfl (Get.tmp rfl) (Get.cint rfl)))) ?_ | refine L.op1 rfl rfl (GSpec.plain rfl (spec_add rfl (Get.tmp rfl) (Get.cint rfl))) ?_
      refine L.op1 rfl rfl (GSpec.plain rfl (spec_move rfl (Get.tmp rfl))) ?_
      refine L.nil ?_
      refine N.roundK (i + 1) ?hI1 ?hmu1 ?hs1 ?hk1 ?hp1
      case hs1 => exact (.cons (t := 7) rfl .nil)
      case hk1 => exact (.cons (t := 0) rfl (.cons (t := 2) rfl (.cons (t := 6) rfl .nil)))
      case hp1 => exact (.cons 1 rfl (.cons 1 rfl .nil))
      case hI1 => exact ⟨by omega, upto hI2 (by simpa using h2)⟩
      case hmu1 => omega
  · have ph1 := h1; try simp only [decide_eq_true_eq, decide_eq_false_iff_not, Bool.and_eq_true, Bool.or_eq_true, Bool.and_eq_false_iff, Bool.or_eq_false_iff, Bool.not_eq_true', Bool.not_eq_false', Bool.not_true, Bool.not_false, Int.not_lt, Int.not_le] at ph1
    refine W.exit ?_
    refine N.thenExit ?_
    refine N.thenExit ?_
    refine N.blockExit ?_
    refine N.thenW ?_
    refine W.seq ?_
    refine W.region ?_
    refine L.op1 rfl rfl (GSpec.plain rfl (spec_build (Rs := [Rp.str [], Rp.slice eP [], Rp.slice eWr [], Rp.slice eRg [], Rp.slice eS []]) rfl ti27 z27 Tryz.underlying27 pl27 .nil)) ?_
    refine L.storeW (k := 0) rfl rfl rfl Tryz.sizeOf27 (Get.tmp rfl) (Get.tmp rfl) rfl rfl rfl ?_
    refine L.op1 rfl rfl (GSpec.plain rfl (spec_assign rfl (Get.cint rfl))) ?_
    refine L.nil ?_
    refine N.thenW ?_
    refine W.ret ?_
    refine N.ret () rfl (.cellA (k := 0) (Get.tmp (t := 2) rfl) rfl Tryz.isAgg27 Tryz.sizeOf27 rfl (.tmp (t := 3) (Get.tmp rfl) .nil)) (res2w (eqA ?_) (eqI ?_)) .nil (fun _ _ h => h)
    all_goals (have hg := get_no fun j hj => hI2 j (by omega); first | (unfold getD1; rw [hg]; rfl) | (unfold getE1; rw [hg]; rfl))

end Go.Proofs.YthlfacmpjehjmaaGreatDoor
set_option linter.unusedSimpArgs false
set_option maxRecDepth 8000
set_option linter.unusedVariables false
namespace Go.Proofs.YthlfacmpjehjmaaGreatDoor
open Go.Sim
theorem awake_ok  : CallT Tryz.prog 20 [] [spG] (.one (Rp.bool true)) := by
  refine W.enter (fn := Tryz.f20) (n := 86) Tryz.func20 rfl Tryz.ntmps20 rfl (fun w₀ C₀ => ?_)
  simp only [argS]
  have hgs : getD1 [115, 119, 97, 112] = swapD 8 := by kernel_rfl
  have hge : getE1 [115, 119, 97, 112] = 0 := by kernel_rfl
  obtain ⟨a1, a2, a3⟩ := awake_1
  obtain ⟨b1, b2, b3, b4, b5⟩ := awake_2
  refine W.seq ?_
  refine W.region ?_
  refine L.op1 rfl rfl (GSpec.plain rfl (spec_assign rfl Get.cbool)) ?_
  refine L.nil ?_
  refine N.thenW ?_
  refine W.seq ?_
  refine W.region ?_
  refine L.op1 rfl rfl (GSpec.plain rfl (spec_callG (k := 0) rfl Tryz.call9 rfl (queue_ok 2 8 (by omega) (by omega)) (.cons (Get.cint rfl) (.cons (Get.cint rfl) .nil)))) ?_
  refine L.op1 rfl rfl (GSpec.plain rfl (spec_move rfl (Get.tmp rfl))) ?_
  refine L.op1 rfl rfl (GSpec.plain rfl (spec_extract rfl (Get.tmp rfl) rfl)) ?_
  refine L.op1 rfl rfl (GSpec.plain rfl (spec_extract rfl (Get.tmp rfl) rfl)) ?_
  refine L.box rfl rfl (GSpec.plain rfl (spec_alloc rfl ti27 z27)) (fun r1 => ?_)
  refine L.storeW (k := 0) rfl rfl rfl Tryz.sizeOf27 (Get.tmp rfl) (Get.tmp rfl) rfl rfl rfl ?_
  refine L.op1 rfl rfl (GSpec.plain rfl (spec_assign rfl (Get.tmp rfl))) ?_
  refine L.nil ?_
  refine N.thenW ?_
  refine W.seq ?_
  refine W.region ?_
  refine L.op1 rfl rfl (GSpec.plain rfl (spec_callG (k := 1) rfl Tryz.call29 rfl (get_ok _) (.cons (Get.cstr (l := [115, 119, 97, 112]) rfl rfl) .nil))) ?_
  refine L.op1 rfl rfl (GSpec.plain rfl (spec_move rfl (Get.tmp rfl))) ?_
  refine L.op1 rfl rfl (GSpec.plain rfl (spec_extract rfl (Get.tmp rfl) rfl)) ?_
  refine L.op1 rfl rfl (GSpec.plain rfl (spec_extract rfl (Get.tmp rfl) rfl)) ?_
  refine L.box rfl rfl (GSpec.plain rfl (spec_alloc rfl ti27 z27)) (fun r3 => ?_)
  refine L.storeW (k := 0) rfl rfl rfl Tryz.sizeOf27 (Get.tmp rfl) (Get.tmp rfl) rfl rfl rfl ?_
  refine L.op1 rfl rfl (GSpec.plain rfl (spec_assign rfl (Get.tmp rfl))) ?_
  refine L.nil ?_
  refine N.thenW ?_
  rw [hgs, hge]
  refine W.keep (.cons (t := 0) rfl (.cons (t := 1) rfl (.cons (t := 2) rfl (.cons (t := 3) rfl (.cons (t := 4) rfl .nil))))) .refl ?_
  refine W.seq ?_
  refine W.seq ?_
  refine W.region ?_
  refine L.op1 rfl rfl (GSpec.plain rfl (spec_move rfl (Get.tmp rfl))) ?_
  refine L.op1 rfl rfl (GSpec.plain rfl (spec_neq rfl (Get.tmp rfl) (Get.cint rfl))) ?_
  refine L.op1 rfl rfl (GSpec.plain rfl (spec_move rfl (Get.tmp rfl))) ?_
  refine L.op1 rfl rfl (GSpec.guard rfl rfl rfl fun hg => (spec_move rfl (Get.tmp rfl))) ?_
  refine L.op1 rfl rfl (GSpec.guard rfl rfl rfl fun hg => (spec_neq rfl (Get.opt rfl hg) (Get.cint rfl))) ?_
  refine L.op1 rfl rfl (GSpec.plain rfl (spec_or rfl (Get.tmp rfl) (fun hb => (Get.opt rfl hb)))) ?_
  refine L.nil ?_
  refine N.thenW ?_
  refine W.keep (.cons (t := 0) rfl (.cons (t := 1) rfl (.cons (t := 3) rfl (.cons (t := 22) rfl .nil)))) .refl ?_
  refine W.cond (Get.tmp rfl) (fun h1 => ?_) (fun h1 => ?_)
  · exfalso; have h := h1; simp [hge] at h
  · have ph1 := h1; try simp only [decide_eq_true_eq, decide_eq_false_iff_not, Bool.and_eq_true, Bool.or_eq_true, Bool.and_eq_false_iff, Bool.or_eq_false_iff, Bool.not_eq_true', Bool.not_eq_false', Bool.not_true, Bool.not_false, Int.not_lt, Int.not_le] at ph1
    refine W.skip ?_
    refine N.thenW ?_
    refine W.seq ?_
    refine W.region ?_
    refine L.op1 rfl rfl (GSpec.plain rfl (spec_loadW (k := 1) rfl Tryz.isAgg27 Tryz.sizeOf27 (Get.tmp rfl) rfl rfl)) ?_
    refine L.op1 rfl rfl (GSpec.plain rfl (spec_build (Rs := [_, Rp.bool false, Rp.int .u8 0, Rp.int .u8 0, Rp.int .u8 0]) rfl ti56 z56 Tryz.underlying56 pl56 (.cons (GetC.one Get.cbool) rfl rfl rfl .nil))) ?_
    refine L.op1 rfl rfl (GSpec.plain rfl (spec_build (Rs := [_, Rp.bool false, Rp.int .u8 0, Rp.int .u8 0, Rp.int .u8 0]) rfl ti56 z56 Tryz.underlying56 pl56 (.cons (GetC.one Get.cbool) rfl rfl rfl .nil))) ?_
    refine L.op1 rfl rfl (GSpec.plain rfl (spec_build (Rs := [_, Rp.bool false, Rp.int .u8 0, Rp.int .u8 0, Rp.int .u8 0]) rfl ti56 z56 Tryz.underlying56 pl56 (.cons (GetC.one Get.cbool) rfl rfl rfl .nil))) ?_
    refine L.op1 rfl rfl (GSpec.plain rfl (spec_buildSliceN (xs := ([⟨true, false, 0, 0, 0⟩, ⟨true, false, 0, 0, 0⟩, ⟨true, false, 0, 0, 0⟩] : List Rw)) (E := eRw) rfl Tryz.underlying40 ti56 z56 (by first | decide | simp) rfl (.cons (GetC.agg (Get.tmp rfl)) rfl rfl rfl (.cons (GetC.agg (Get.tmp rfl)) rfl rfl rfl (.cons (GetC.agg (Get.tmp rfl)) rfl rfl rfl .nil))) rfl rfl)) ?_
    refine L.op1 rfl rfl (GSpec.plain rfl (spec_call rfl Tryz.call24 (run_ok (queueD 2 8) ([⟨true, false, 0, 0, 0⟩, ⟨true, false, 0, 0, 0⟩, ⟨true, false, 0, 0, 0⟩] : List Rw) q28) (.cons (Get.tmp rfl) (.cons (Get.tmp rfl) .nil)))) ?_
    refine L.op1 rfl rfl (GSpec.plain rfl (spec_move rfl (Get.tmp rfl))) ?_
    refine L.op1 rfl rfl (GSpec.plain rfl (spec_extract rfl (Get.tmp rfl) rfl)) ?_
    refine L.op1 rfl rfl (GSpec.plain rfl (spec_extract rfl (Get.tmp rfl) rfl)) ?_
    refine L.box rfl rfl (GSpec.plain rfl (spec_alloc rfl ti45 z45)) (fun r5 => ?_)
    refine L.storeW (k := 0) rfl rfl rfl Tryz.sizeOf45 (Get.tmp rfl) (Get.tmp rfl) rfl rfl rfl ?_
    refine L.op1 rfl rfl (GSpec.plain rfl (spec_assign rfl (Get.tmp rfl))) ?_
    refine L.nil ?_
    refine N.thenW ?_
    refine W.keep (.cons (t := 0) rfl (.cons (t := 3) rfl (.cons (t := 5) rfl (.cons (t := 6) rfl .nil)))) .refl ?_
    refine W.seq ?_
    refine W.region ?_
    refine L.op1 rfl rfl (GSpec.plain rfl (spec_loadW (k := 1) rfl Tryz.isAgg27 Tryz.sizeOf27 (Get.tmp rfl) rfl rfl)) ?_
    refine L.op1 rfl rfl (GSpec.plain rfl (spec_build (Rs := [_, _, _, Rp.int .u8 0, Rp.int .u8 0]) rfl ti56 z56 Tryz.underlying56 pl56 (.cons (GetC.one Get.cbool) rfl rfl rfl (.cons (GetC.one Get.cbool) rfl rfl rfl (.cons (GetC.one (Get.cint rfl)) rfl rfl rfl .nil))))) ?_
    refine L.op1 rfl rfl (GSpec.plain rfl (spec_build (Rs := [_, _, _, Rp.int .u8 0, Rp.int .u8 0]) rfl ti56 z56 Tryz.underlying56 pl56 (.cons (GetC.one Get.cbool) rfl rfl rfl (.cons (GetC.one Get.cbool) rfl rfl rfl (.cons (GetC.one (Get.cint rfl)) rfl rfl rfl .nil))))) ?_
    refine L.op1 rfl rfl (GSpec.plain rfl (spec_build (Rs := [Rp.bool false, _, Rp.int .u8 0, Rp.int .u8 0, Rp.int .u8 0]) rfl ti56 z56 Tryz.underlying56 pl56 (.cons (GetC.one Get.cbool) rfl rfl rfl .nil))) ?_
    refine L.op1 rfl rfl (GSpec.plain rfl (spec_build (Rs := [Rp.bool false, _, Rp.int .u8 0, Rp.int .u8 0, Rp.int .u8 0]) rfl ti56 z56 Tryz.underlying56 pl56 (.cons (GetC.one Get.cbool) rfl rfl rfl .nil))) ?_
    refine L.op1 rfl rfl (GSpec.plain rfl (spec_buildSliceN (xs := ([⟨true, true, 1, 0, 0⟩, ⟨true, true, 2, 0, 0⟩, ⟨false, true, 0, 0, 0⟩, ⟨false, true, 0, 0, 0⟩] : List Rw)) (E := eRw) rfl Tryz.underlying40 ti56 z56 (by first | decide | simp) rfl (.cons (GetC.agg (Get.tmp rfl)) rfl rfl rfl (.cons (GetC.agg (Get.tmp rfl)) rfl rfl rfl (.cons (GetC.agg (Get.tmp rfl)) rfl rfl rfl (.cons (GetC.agg (Get.tmp rfl)) rfl rfl rfl .nil)))) rfl rfl)) ?_
    refine L.op1 rfl rfl (GSpec.plain rfl (spec_call rfl Tryz.call24 (run_ok (swapD 8) ([⟨true, true, 1, 0, 0⟩, ⟨true, true, 2, 0, 0⟩, ⟨false, true, 0, 0, 0⟩, ⟨false, true, 0, 0, 0⟩] : List Rw) s8) (.cons (Get.tmp rfl) (.cons (Get.tmp rfl) .nil)))) ?_
    refine L.op1 rfl rfl (GSpec.plain rfl (spec_move rfl (Get.tmp rfl))) ?_
    refine L.op1 rfl rfl (GSpec.plain rfl (spec_extract rfl (Get.tmp rfl) rfl)) ?_
    refine L.op1 rfl rfl (GSpec.plain rfl (spec_extract rfl (Get.tmp rfl) rfl)) ?_
    refine L.box rfl rfl (GSpec.plain rfl (spec_alloc rfl ti45 z45)) (fun r7 => ?_)
    refine L.storeW (k := 0) rfl rfl rfl Tryz.sizeOf45 (Get.tmp rfl) (Get.tmp rfl) rfl rfl rfl ?_
    refine L.op1 rfl rfl (GSpec.plain rfl (spec_assign rfl (Get.tmp rfl))) ?_
    refine L.nil ?_
    refine N.thenW ?_
    refine W.keep (.cons (t := 0) rfl (.cons (t := 5) rfl (.cons (t := 6) rfl (.cons (t := 7) rfl (.cons (t := 8) rfl .nil))))) .refl ?_
    refine W.seq ?_
    refine W.region ?_
    refine L.op1 rfl rfl (GSpec.plain rfl (spec_move rfl (Get.tmp rfl))) ?_
    refine L.op1 rfl rfl (GSpec.plain rfl (spec_move rfl (Get.tmp rfl))) ?_
    refine L.op1 rfl rfl (GSpec.guard rfl rfl rfl fun hg => (spec_move rfl (Get.tmp rfl))) ?_
    refine L.op1 rfl rfl (GSpec.plain rfl (spec_and rfl (Get.tmp rfl) (fun hb => (Get.opt rfl hb)))) ?_
    refine L.op1 rfl rfl (GSpec.plain rfl (spec_move rfl (Get.tmp rfl))) ?_
    refine L.op1 rfl rfl (GSpec.guard rfl rfl rfl fun hg => (spec_loadW (k := 1) rfl Tryz.isAgg45 Tryz.sizeOf45 (Get.tmp rfl) rfl rfl)) ?_
    refine L.op1 rfl rfl (GSpec.guard rfl rfl rfl fun hg => (spec_call rfl Tryz.call25 (see_ok _ _ _ (by omega) (by omega)) (.cons (Get.opt rfl hg) (.cons (Get.cstr (l := [105, 114, 100, 121]) rfl rfl) (.cons (Get.cint rfl) .nil))))) ?_
    refine L.op1 rfl rfl (GSpec.guard rfl rfl rfl fun hg => (spec_eql rfl (Get.opt rfl hg) (Get.cint rfl))) ?_
    refine L.op1 rfl rfl (GSpec.plain rfl (spec_and rfl (Get.tmp rfl) (fun hb => (Get.opt rfl hb)))) ?_
    refine L.op1 rfl rfl (GSpec.plain rfl (spec_move rfl (Get.tmp rfl))) ?_
    refine L.op1 rfl rfl (GSpec.guard rfl rfl rfl fun hg => (spec_loadW (k := 1) rfl Tryz.isAgg45 Tryz.sizeOf45 (Get.tmp rfl) rfl rfl)) ?_
    refine L.op1 rfl rfl (GSpec.guard rfl rfl rfl fun hg => (spec_call rfl Tryz.call25 (see_ok _ _ _ (by omega) (by omega)) (.cons (Get.opt rfl hg) (.cons (Get.cstr (l := [105, 114, 100, 121]) rfl rfl) (.cons (Get.cint rfl) .nil))))) ?_
    refine L.op1 rfl rfl (GSpec.guard rfl rfl rfl fun hg => (spec_eql rfl (Get.opt rfl hg) (Get.cint rfl))) ?_
    refine L.op1 rfl rfl (GSpec.plain rfl (spec_and rfl (Get.tmp rfl) (fun hb => (Get.opt rfl hb)))) ?_
    refine L.op1 rfl rfl (GSpec.plain rfl (spec_move rfl (Get.tmp rfl))) ?_
    refine L.op1 rfl rfl (GSpec.guard rfl rfl rfl fun hg => (spec_loadW (k := 1) rfl Tryz.isAgg45 Tryz.sizeOf45 (Get.tmp rfl) rfl rfl)) ?_
    refine L.op1 rfl rfl (GSpec.guard rfl rfl rfl fun hg => (spec_call rfl Tryz.call25 (see_ok _ _ _ (by omega) (by omega)) (.cons (Get.opt rfl hg) (.cons (Get.cstr (l := [105, 114, 100, 121]) rfl rfl) (.cons (Get.cint rfl) .nil))))) ?_
    refine L.op1 rfl rfl (GSpec.guard rfl rfl rfl fun hg => (spec_eql rfl (Get.opt rfl hg) (Get.cint rfl))) ?_
    refine L.op1 rfl rfl (GSpec.plain rfl (spec_and rfl (Get.tmp rfl) (fun hb => (Get.opt rfl hb)))) ?_
    refine L.op1 rfl rfl (GSpec.plain rfl (spec_move rfl (Get.tmp rfl))) ?_
    refine L.op1 rfl rfl (GSpec.guard rfl rfl rfl fun hg => (spec_loadW (k := 0) rfl Tryz.isAgg45 Tryz.sizeOf45 (Get.tmp rfl) rfl rfl)) ?_
    refine L.op1 rfl rfl (GSpec.guard rfl rfl rfl fun hg => (spec_call rfl Tryz.call25 (see_ok _ _ _ (by omega) (by omega)) (.cons (Get.opt rfl hg) (.cons (Get.cstr (l := [111, 118]) rfl rfl) (.cons (Get.cint rfl) .nil))))) ?_
    refine L.op1 rfl rfl (GSpec.guard rfl rfl rfl fun hg => (spec_eql rfl (Get.opt rfl hg) (Get.cint rfl))) ?_
    refine L.op1 rfl rfl (GSpec.plain rfl (spec_and rfl (Get.tmp rfl) (fun hb => (Get.opt rfl hb)))) ?_
    refine L.op1 rfl rfl (GSpec.plain rfl (spec_move rfl (Get.tmp rfl))) ?_
    refine L.op1 rfl rfl (GSpec.guard rfl rfl rfl fun hg => (spec_loadW (k := 0) rfl Tryz.isAgg45 Tryz.sizeOf45 (Get.tmp rfl) rfl rfl)) ?_
    refine L.op1 rfl rfl (GSpec.guard rfl rfl rfl fun hg => (spec_call rfl Tryz.call25 (see_ok _ _ _ (by omega) (by omega)) (.cons (Get.opt rfl hg) (.cons (Get.cstr (l := [111, 118]) rfl rfl) (.cons (Get.cint rfl) .nil))))) ?_
    refine L.op1 rfl rfl (GSpec.guard rfl rfl rfl fun hg => (spec_eql rfl (Get.opt rfl hg) (Get.cint rfl))) ?_
    refine L.op1 rfl rfl (GSpec.plain rfl (spec_and rfl (Get.tmp rfl) (fun hb => (Get.opt rfl hb)))) ?_
    refine L.op1 rfl rfl (GSpec.plain rfl (spec_move rfl (Get.tmp rfl))) ?_
    refine L.op1 rfl rfl (GSpec.guard rfl rfl rfl fun hg => (spec_loadW (k := 0) rfl Tryz.isAgg45 Tryz.sizeOf45 (Get.tmp rfl) rfl rfl)) ?_
    refine L.op1 rfl rfl (GSpec.guard rfl rfl rfl fun hg => (spec_call rfl Tryz.call25 (see_ok _ _ _ (by omega) (by omega)) (.cons (Get.opt rfl hg) (.cons (Get.cstr (l := [111, 116]) rfl rfl) (.cons (Get.cint rfl) .nil))))) ?_
    refine L.op1 rfl rfl (GSpec.guard rfl rfl rfl fun hg => (spec_eql rfl (Get.opt rfl hg) (Get.cint rfl))) ?_
    refine L.op1 rfl rfl (GSpec.plain rfl (spec_and rfl (Get.tmp rfl) (fun hb => (Get.opt rfl hb)))) ?_
    refine L.op1 rfl rfl (GSpec.plain rfl (spec_move rfl (Get.tmp rfl))) ?_
    refine L.op1 rfl rfl (GSpec.guard rfl rfl rfl fun hg => (spec_loadW (k := 0) rfl Tryz.isAgg45 Tryz.sizeOf45 (Get.tmp rfl) rfl rfl)) ?_
    refine L.op1 rfl rfl (GSpec.guard rfl rfl rfl fun hg => (spec_call rfl Tryz.call25 (see_ok _ _ _ (by omega) (by omega)) (.cons (Get.opt rfl hg) (.cons (Get.cstr (l := [111, 118]) rfl rfl) (.cons (Get.cint rfl) .nil))))) ?_
    refine L.op1 rfl rfl (GSpec.guard rfl rfl rfl fun hg => (spec_eql rfl (Get.opt rfl hg) (Get.cint rfl))) ?_
    refine L.op1 rfl rfl (GSpec.plain rfl (spec_and rfl (Get.tmp rfl) (fun hb => (Get.opt rfl hb)))) ?_
    refine L.op1 rfl rfl (GSpec.plain rfl (spec_move rfl (Get.tmp rfl))) ?_
    refine L.op1 rfl rfl (GSpec.guard rfl rfl rfl fun hg => (spec_loadW (k := 0) rfl Tryz.isAgg45 Tryz.sizeOf45 (Get.tmp rfl) rfl rfl)) ?_
    refine L.op1 rfl rfl (GSpec.guard rfl rfl rfl fun hg => (spec_call rfl Tryz.call25 (see_ok _ _ _ (by omega) (by omega)) (.cons (Get.opt rfl hg) (.cons (Get.cstr (l := [111, 116]) rfl rfl) (.cons (Get.cint rfl) .nil))))) ?_
    refine L.op1 rfl rfl (GSpec.guard rfl rfl rfl fun hg => (spec_eql rfl (Get.opt rfl hg) (Get.cint rfl))) ?_
    refine L.op1 rfl rfl (GSpec.plain rfl (spec_and rfl (Get.tmp rfl) (fun hb => (Get.opt rfl hb)))) ?_
    refine L.op1 rfl rfl (GSpec.plain rfl (spec_assign rfl (Get.tmp rfl))) ?_
    refine L.nil ?_
    refine N.thenW ?_
    refine W.keep (.cons (t := 0) rfl .nil) .refl ?_
    refine W.ret ?_
    refine N.ret () rfl (.tmp (t := 0) (Get.tmp rfl) .nil) (res1 (eqB ?_)) .nil (fun _ _ h => h)
    exact awake_all

end Go.Proofs.YthlfacmpjehjmaaGreatDoor
set_option linter.unusedSimpArgs false
set_option maxRecDepth 8000
set_option linter.unusedVariables false
namespace Go.Proofs.YthlfacmpjehjmaaGreatDoor
open Go.Sim
theorem LibraryValid_ok (kind n w : Int) : CallT Tryz.prog 4 [Rp.int .u8 kind, Rp.int .u8 n, Rp.int .u8 w] [spG] (.one (Rp.bool true)) := by
  refine W.enter (fn := Tryz.f4) (n := 58) Tryz.func4 rfl Tryz.ntmps4 rfl (fun w₀ C₀ => ?_)
  simp only [argS]
  refine W.fact 0 rfl int_fact fun hk => ?_
  simp only [InR] at hk
  refine W.fact 1 rfl int_fact fun hn => ?_
  simp only [InR] at hn
  refine W.fact 2 rfl int_fact fun hw => ?_
  simp only [InR] at hw
  have hq : DsQ (pickD kind n w) := pick_q (by omega) (by omega) (by omega)
  obtain ⟨K, bl, hc, hno⟩ := pick_cone (kind := kind) (n := n) (w := w) (by omega) (by omega) (by omega)
  have hcl := cone_len (pickD kind n w) bl K
  have hk20 := hc.k20
  refine W.seq ?_
  refine W.region ?_
  refine L.op1 rfl rfl (GSpec.plain rfl (spec_assign rfl Get.cbool)) ?_
  refine L.nil ?_
  refine N.thenW ?_
  refine W.seq ?_
  refine W.region ?_
  refine L.op1 rfl rfl (GSpec.plain rfl (spec_move rfl (Get.tmp rfl))) ?_
  refine L.op1 rfl rfl (GSpec.plain rfl (spec_move rfl (Get.tmp rfl))) ?_
  refine L.op1 rfl rfl (GSpec.plain rfl (spec_move rfl (Get.tmp rfl))) ?_
  refine L.op1 rfl rfl (GSpec.plain rfl (spec_callG (k := 0) rfl Tryz.call21 rfl (pick_ok kind n w) (.cons (Get.tmp rfl) (.cons (Get.tmp rfl) (.cons (Get.tmp rfl) .nil))))) ?_
  refine L.op1 rfl rfl (GSpec.plain rfl (spec_move rfl (Get.tmp rfl))) ?_
  refine L.op1 rfl rfl (GSpec.plain rfl (spec_extract rfl (Get.tmp rfl) rfl)) ?_
  refine L.op1 rfl rfl (GSpec.plain rfl (spec_extract rfl (Get.tmp rfl) rfl)) ?_
  refine L.box rfl rfl (GSpec.plain rfl (spec_alloc rfl ti27 z27)) (fun r7 => ?_)
  refine L.storeW (k := 0) rfl rfl rfl Tryz.sizeOf27 (Get.tmp rfl) (Get.tmp rfl) rfl rfl rfl ?_
  refine L.op1 rfl rfl (GSpec.plain rfl (spec_assign rfl (Get.tmp rfl))) ?_
  refine L.nil ?_
  refine N.thenW ?_
  refine W.keep (.cons (t := 6) rfl (.cons (t := 7) rfl (.cons (t := 8) rfl .nil))) .refl ?_
  refine W.seq ?_
  refine W.seq ?_
  refine W.region ?_
  refine L.op1 rfl rfl (GSpec.plain rfl (spec_move rfl (Get.tmp rfl))) ?_
  refine L.op1 rfl rfl (GSpec.plain rfl (spec_neq rfl (Get.tmp rfl) (Get.cint rfl))) ?_
  refine L.op1 rfl rfl (GSpec.plain rfl (spec_move rfl (Get.tmp rfl))) ?_
  refine L.op1 rfl rfl (GSpec.guard rfl rfl rfl fun hg => (spec_loadW (k := 0) rfl Tryz.isAgg27 Tryz.sizeOf27 (Get.tmp rfl) rfl rfl)) ?_
  refine L.op1 rfl rfl (GSpec.guard rfl rfl rfl fun hg => (spec_call rfl Tryz.call22 (validD_ok _ hq.v) (.cons (Get.opt rfl hg) .nil))) ?_
  refine L.op1 rfl rfl (GSpec.guard rfl rfl rfl fun hg => (spec_neq rfl (Get.opt rfl hg) (Get.cint rfl))) ?_
  refine L.op1 rfl rfl (GSpec.plain rfl (spec_or rfl (Get.tmp rfl) (fun hb => (Get.opt rfl hb)))) ?_
  refine L.nil ?_
  refine N.thenW ?_
  refine W.keep (.cons (t := 6) rfl (.cons (t := 7) rfl (.cons (t := 26) rfl .nil))) .refl ?_
  refine W.cond (Get.tmp rfl) (fun h1 => ?_) (fun h1 => ?_)
  · exfalso; have h := h1; simp at h
  · have ph1 := h1; try simp only [decide_eq_true_eq, decide_eq_false_iff_not, Bool.and_eq_true, Bool.or_eq_true, Bool.and_eq_false_iff, Bool.or_eq_false_iff, Bool.not_eq_true', Bool.not_eq_false', Bool.not_true, Bool.not_false, Int.not_lt, Int.not_le] at ph1
    refine W.skip ?_
    refine N.thenW ?_
    refine W.seq ?_
    refine W.region ?_
    refine L.op1 rfl rfl (GSpec.plain rfl (spec_loadW (k := 0) rfl Tryz.isAgg27 Tryz.sizeOf27 (Get.tmp rfl) rfl rfl)) ?_
    refine L.op1 rfl rfl (GSpec.plain rfl (spec_call rfl Tryz.call23 (cone_ok _ _ bl K hq.v hc) (.cons (Get.tmp rfl) (.cons (Get.cstr (l := [105, 114, 100, 121]) rfl rfl) .nil)))) ?_
    refine L.op1 rfl rfl (GSpec.plain rfl (spec_move rfl (Get.tmp rfl))) ?_
    refine L.op1 rfl rfl (GSpec.plain rfl (spec_extract rfl (Get.tmp rfl) rfl)) ?_
    refine L.op1 rfl rfl (GSpec.plain rfl (spec_extract rfl (Get.tmp rfl) rfl)) ?_
    refine L.op1 rfl rfl (GSpec.plain rfl (spec_assign rfl (Get.tmp rfl))) ?_
    refine L.op1 rfl rfl (GSpec.plain rfl (spec_assign rfl (Get.tmp rfl))) ?_
    refine L.nil ?_
    refine N.thenW ?_
    refine W.keep (.cons (t := 6) rfl (.cons (t := 9) rfl (.cons (t := 10) rfl .nil))) .refl ?_
    refine W.seq ?_
    refine W.seq ?_
    refine W.region ?_
    refine L.op1 rfl rfl (GSpec.plain rfl (spec_move rfl (Get.tmp rfl))) ?_
    refine L.op1 rfl rfl (GSpec.plain rfl (spec_len rfl Tryz.underlying25 (Get.tmp rfl))) ?_
    refine L.op1 rfl rfl (GSpec.plain rfl (spec_move rfl (Get.cint rfl))) ?_
    refine L.nil ?_
    refine N.thenW ?_
    refine W.block ?_
    -- assigned in the loop, not kept: [6]
    refine W.loopK (σ := Nat) (.cons (t := 10) rfl (.cons (t := 32) rfl (.cons (t := 33) rfl .nil))) (fun z => [(34, Rp.int .i64 (z : Nat))]) (fun z => []) (fun z => z ≤ (coneN (pickD kind n w) bl K).length) (fun z => (coneN (pickD kind n w) bl K).length - z) 0 (Nat.zero_le _) (.cons (t := 34) rfl .nil) (.cons 0 rfl (.cons 0 rfl .nil)) ?_
    intro i hI S' M' hS hM
    try dsimp only at hS hM
    simp only [List.cons_append, List.nil_append] at hS hM
    subst hS hM
    try dsimp only
    refine W.seq ?_
    refine W.region ?_
    refine L.op1 rfl rfl (GSpec.plain rfl (spec_lss rfl (Get.tmp rfl) (Get.tmp rfl))) ?_
    refine L.nil ?_
    refine N.thenW ?_
    refine W.seq ?_
    refine W.cond (Get.tmp rfl) (fun h2 => ?_) (fun h2 => ?_)
    · have ph2 := h2; try simp only [decide_eq_true_eq, decide_eq_false_iff_not, Bool.and_eq_true, Bool.or_eq_true, Bool.and_eq_false_iff, Bool.or_eq_false_iff, Bool.not_eq_true', Bool.not_eq_false', Bool.not_true, Bool.not_false, Int.not_lt, Int.not_le] at ph2
      refine W.skip ?_
      refine N.thenW ?_
      refine W.seq ?_
      refine W.block ?_
      refine W.seq ?_
      refine W.region ?_
      refine L.op1 rfl rfl (GSpec.plain rfl (spec_indexAddrD (E := eS) rfl Tryz.underlying25 Tryz.sizeOf9 (fun _ => rfl) (Get.tmp rfl) (Get.tmp rfl) (by (first | omega | (simp only [Int.toNat_natCast]; omega))))) ?_
      refine L.op1 rfl rfl (GSpec.plain rfl (spec_loadP1 rfl Tryz.isAgg9 (Get.tmp rfl))) ?_
      refine L.op1 rfl rfl (GSpec.plain rfl (spec_assign rfl (Get.tmp rfl))) ?_
      refine L.nil ?_
      refine N.thenW ?_
      refine W.seq ?_
      refine W.region ?_
      refine L.op1 rfl rfl (GSpec.plain rfl (spec_move rfl (Get.tmp rfl))) ?_
      refine L.op1 rfl rfl (GSpec.plain rfl (spec_eqlS rfl (Get.tmp rfl) (Get.cstr (l := [105, 118]) rfl rfl))) ?_
      refine L.op1 rfl rfl (GSpec.plain rfl (spec_move rfl (Get.tmp rfl))) ?_
      refine L.op1 rfl rfl (GSpec.guard rfl rfl rfl fun hg => (spec_move rfl (Get.tmp rfl))) ?_
      refine L.op1 rfl rfl (GSpec.guard rfl rfl rfl fun hg => (spec_eqlS rfl (Get.opt rfl hg) (Get.cstr (l := [105, 116]) rfl rfl))) ?_
      refine L.op1 rfl rfl (GSpec.plain rfl (spec_or rfl (Get.tmp rfl) (fun hb => (Get.opt rfl hb)))) ?_
      refine L.op1 rfl rfl (GSpec.plain rfl (spec_move rfl (Get.tmp rfl))) ?_
      refine L.op1 rfl rfl (GSpec.guard rfl rfl rfl fun hg => (spec_move rfl (Get.tmp rfl))) ?_
      refine L.op1 rfl rfl (GSpec.guard rfl rfl rfl fun hg => (spec_eqlS rfl (Get.opt rfl hg) (Get.cstr (l := [105, 97]) rfl rfl))) ?_
      refine L.op1 rfl rfl (GSpec.plain rfl (spec_or rfl (Get.tmp rfl) (fun hb => (Get.opt rfl hb)))) ?_
      refine L.op1 rfl rfl (GSpec.plain rfl (spec_move rfl (Get.tmp rfl))) ?_
      refine L.op1 rfl rfl (GSpec.guard rfl rfl rfl fun hg => (spec_move rfl (Get.tmp rfl))) ?_
      refine L.op1 rfl rfl (GSpec.guard rfl rfl rfl fun hg => (spec_eqlS rfl (Get.opt rfl hg) (Get.cstr (l := [105, 98]) rfl rfl))) ?_
      refine L.op1 rfl rfl (GSpec.plain rfl (spec_or rfl (Get.tmp rfl) (fun hb => (Get.opt rfl hb)))) ?_
      refine L.nil ?_
      refine N.thenW ?_
      refine W.cond (Get.tmp rfl) (fun h3 => ?_) (fun h3 => ?_)
      · exfalso; have h := h3; have hz := hno i (by omega); simp only [Bool.or_eq_true, beq_iff_eq] at h; rcases h with ((h | h) | h) | h; exact hz.1 h; exact hz.2.1 h; exact hz.2.2.1 h; exact hz.2.2.2 h
      · have ph3 := h3; try simp only [decide_eq_true_eq, decide_eq_false_iff_not, Bool.and_eq_true, Bool.or_eq_true, Bool.and_eq_false_iff, Bool.or_eq_false_iff, Bool.not_eq_true', Bool.not_eq_false', Bool.not_true, Bool.not_false, Int.not_lt, Int.not_le] at ph3
        refine W.skip ?_
        refine N.blockNormal ?_
        refine N.thenW ?_
        refine W.region ?_
        first | refine L.op1 rfl rfl (GSpec.plain rfl (fit_i64 (by (first | omega | (simp only [Int.toNat_natCast]; omega))) (by (first | omega | (simp only [Int.toNat_natCast]; omega))) (spec_add rfl (Get.tmp rfl) (Get.cint rfl)))) ?_ | refine L.op1 rfl rfl (GSpec.plain rfl (spec_add rfl (Get.tmp rfl) (Get.cint rfl))) ?_
        refine L.op1 rfl rfl (GSpec.plain rfl (spec_move rfl (Get.tmp rfl))) ?_
        refine L.nil ?_
        refine N.roundK (i + 1) ?hI1 ?hmu1 ?hs1 ?hk1 ?hp1
        case hs1 => exact (.cons (t := 34) rfl .nil)
        case hk1 => exact (.cons (t := 10) rfl (.cons (t := 32) rfl (.cons (t := 33) rfl .nil)))
        case hp1 => exact (.cons 0 rfl (.cons 0 rfl .nil))
        all_goals (first | rfl | trivial | omega | (simp_all; done))
    · have ph2 := h2; try simp only [decide_eq_true_eq, decide_eq_false_iff_not, Bool.and_eq_true, Bool.or_eq_true, Bool.and_eq_false_iff, Bool.or_eq_false_iff, Bool.not_eq_true', Bool.not_eq_false', Bool.not_true, Bool.not_false, Int.not_lt, Int.not_le] at ph2
      refine W.exit ?_
      refine N.thenExit ?_
      refine N.thenExit ?_
      refine N.blockExit ?_
      refine N.thenW ?_
      refine W.seq ?_
      refine W.region ?_
      refine L.op1 rfl rfl (GSpec.plain rfl (spec_move rfl (Get.tmp rfl))) ?_
      refine L.op1 rfl rfl (GSpec.plain rfl (spec_eql rfl (Get.tmp rfl) (Get.cint rfl))) ?_
      refine L.op1 rfl rfl (GSpec.plain rfl (spec_move rfl (Get.tmp rfl))) ?_
      refine L.op1 rfl rfl (GSpec.guard rfl rfl rfl fun hg => (spec_callG (k := 1) rfl Tryz.call20 rfl (awake_ok ) .nil)) ?_
      refine L.op1 rfl rfl (GSpec.plain rfl (spec_and rfl (Get.tmp rfl) (fun hb => (Get.opt rfl hb)))) ?_
      refine L.op1 rfl rfl (GSpec.plain rfl (spec_assign rfl (Get.tmp rfl))) ?_
      refine L.nil ?_
      refine N.thenW ?_
      refine W.keep (.cons (t := 6) rfl .nil) .refl ?_
      refine W.ret ?_
      refine N.ret () rfl (.tmp (t := 6) (Get.tmp rfl) .nil) (res1 (eqB ?_)) .nil (fun _ _ h => h)
      rfl

end Go.Proofs.YthlfacmpjehjmaaGreatDoor
/- What the laws compute, as data. -/
set_option linter.unusedSimpArgs false
set_option linter.unusedVariables false
namespace Go.Proofs.YthlfacmpjehjmaaGreatDoor
open Go.Sim
section
variable {M : List MF} {o : Oper} {σ : Nat → Option Rp}
theorem eql54 {x y : Operand} {n m : Int × Int} {T' : TypeId} (h : o.op = .binOp .eql 54 x y T') (hx : Get σ x (Rp.agg (eI2 n))) (hy : Get σ y (Rp.agg (eI2 m))) : Go.Sim.Spec Tryz.prog σ M o (.one (Rp.bool (decide (n = m)))) :=
  spec_eqlP h Tryz.underlying54 Tryz.underlying3 Tryz.sizeOf3 Tryz.isAgg3 (by kernel_rfl) hx hy
theorem neq54 {x y : Operand} {n m : Int × Int} {T' : TypeId} (h : o.op = .binOp .neq 54 x y T') (hx : Get σ x (Rp.agg (eI2 n))) (hy : Get σ y (Rp.agg (eI2 m))) : Go.Sim.Spec Tryz.prog σ M o (.one (Rp.bool (!decide (n = m)))) :=
  spec_neqP h Tryz.underlying54 Tryz.underlying3 Tryz.sizeOf3 Tryz.isAgg3 (by kernel_rfl) hx hy
end
theorem pl_fact {x : Pl} (w : World) (C : Nat → Prop) (v : Value) (h : (Rp.agg (ePl x)).p w C v) : InR .u8 x.kind ∧ InR .u8 x.n ∧ InR .u8 x.width ∧ x.rows.length ≤ 9223372036854775807 :=
  agg_fact (fun w C vs h => by
    match vs, h with
    | [a, b, c, d], ⟨h1, h2, h3, h4, _⟩ => exact ⟨h1.2, h2.2, h3.2, h4.1⟩) w C v h
def plD (x : Pl) : Ds := pickD x.kind x.n x.width
def StableP (w : Wv) : Prop := ∀ t : Nat, 1 ≤ t → t < w.rows.length → seeV w sOv ((t : Int) - 1) ≠ 0 → seeV w sOrdy ((t : Int) - 1) ≠ 1 → seeV w sOv t ≠ 0 ∧ seeV w sOt t = seeV w sOt ((t : Int) - 1) ∧ seeV w sOa t = seeV w sOa ((t : Int) - 1)
/-- The number that a transfer at the input is expected to send. -/
def trV (w : Wv) (kind : Int) (t n : Nat) : Int := if kind = 1 then IntKind.i64.wrap (seeV w sIa t + seeV w sIb t) else if kind = 2 then (n : Int) else seeV w sIa t
def inE (w : Wv) (kind width : Int) : Nat → List (Int × Int)
  | 0 => []
  | t + 1 => if seeV w sIv t = 1 ∧ seeV w sIrdy t = 1 then inE w kind width t ++ [(seeV w sIt t, bitsOf .and .i64 (trV w kind t (inE w kind width t).length) (maskE width))] else inE w kind width t
def outE (w : Wv) : Nat → List (Int × Int)
  | 0 => []
  | t + 1 => if seeV w sOv t = 1 ∧ seeV w sOrdy t = 1 then outE w t ++ [(seeV w sOt t, seeV w sOa t)] else outE w t
theorem in_yes {w : Wv} {kind width : Int} {t : Nat} (h : seeV w sIv t = 1 ∧ seeV w sIrdy t = 1) : inE w kind width (t + 1) = inE w kind width t ++ [(seeV w sIt t, bitsOf .and .i64 (trV w kind t (inE w kind width t).length) (maskE width))] := by rw [inE, if_pos h]
theorem in_no {w : Wv} {kind width : Int} {t : Nat} (h : ¬ (seeV w sIv t = 1 ∧ seeV w sIrdy t = 1)) : inE w kind width (t + 1) = inE w kind width t := by rw [inE, if_neg h]
theorem out_yes {w : Wv} {t : Nat} (h : seeV w sOv t = 1 ∧ seeV w sOrdy t = 1) : outE w (t + 1) = outE w t ++ [(seeV w sOt t, seeV w sOa t)] := by rw [outE, if_pos h]
theorem out_no {w : Wv} {t : Nat} (h : ¬ (seeV w sOv t = 1 ∧ seeV w sOrdy t = 1)) : outE w (t + 1) = outE w t := by rw [outE, if_neg h]
theorem in_len (w : Wv) (kind width : Int) : ∀ t, (inE w kind width t).length ≤ t
  | 0 => Nat.le_refl _
  | t + 1 => by
    have := in_len w kind width t
    by_cases h : seeV w sIv t = 1 ∧ seeV w sIrdy t = 1
    · rw [in_yes h]; simp; exact this
    · rw [in_no h]; omega
theorem out_len (w : Wv) : ∀ t, (outE w t).length ≤ t
  | 0 => Nat.le_refl _
  | t + 1 => by
    have := out_len w t
    by_cases h : seeV w sOv t = 1 ∧ seeV w sOrdy t = 1
    · rw [out_yes h]; simp; exact this
    · rw [out_no h]; omega
/-- The greedy matching of what leaves with what has entered. -/
def canU (ins : List (Int × Int)) (used : List Bool) (o : Int × Int) (k : Nat) : Bool := !(used.getD k default) && decide (ins.getD k default = o)
def matI (ins : List (Int × Int)) (used : List Bool) (o : Int × Int) : Int := idxI (canU ins used o) (List.range ins.length)
def markU (ins : List (Int × Int)) (used : List Bool) (o : Int × Int) (k : Nat) : List Bool := if 0 ≤ matI ins used o ∧ matI ins used o < k then used.set (matI ins used o).toNat true else used
def fndU (ins : List (Int × Int)) (used : List Bool) (o : Int × Int) (k : Nat) : Bool := decide (0 ≤ matI ins used o ∧ matI ins used o < k)
def useN (kind : Int) (ins outs : List (Int × Int)) : Nat → List Bool
  | 0 => List.replicate ins.length false
  | i + 1 => if kind < 4 then useN kind ins outs i else markU ins (useN kind ins outs i) (outs.getD i default) ins.length
theorem mark_len (ins : List (Int × Int)) (used : List Bool) (o : Int × Int) (k : Nat) : (markU ins used o k).length = used.length := by unfold markU; split <;> simp
theorem use_len (kind : Int) (ins outs : List (Int × Int)) : ∀ i, (useN kind ins outs i).length = ins.length
  | 0 => by simp [useN]
  | i + 1 => by
    rw [useN]; split
    · exact use_len kind ins outs i
    · rw [mark_len]; exact use_len kind ins outs i
theorem mat_lt (ins : List (Int × Int)) (used : List Bool) (o : Int × Int) : matI ins used o < ins.length := by
  have := (idx_ge (canU ins used o) (List.range ins.length)).2
  rw [List.length_range] at this; exact this
theorem mat_at {ins : List (Int × Int)} {used : List Bool} {o : Int × Int} {k : Nat} (hk : k < ins.length) (h : fndU ins used o k = false) : (canU ins used o k = true ↔ matI ins used o = k) := by
  unfold fndU at h
  rw [decide_eq_false_iff_not] at h
  have hr : (List.range ins.length).length = ins.length := by simp
  rcases idx_cases (canU ins used o) (List.range ins.length) with ⟨i, h1, h2, h3, h4⟩ | ⟨h1, h2⟩
  · have e : matI ins used o = i := h4
    rw [hr] at h1
    rw [range_getD h1] at h2
    rw [e] at h ⊢
    constructor
    · intro hc
      by_cases hlt : k < i
      · have := h3 k hlt
        rw [range_getD hk] at this
        rw [this] at hc; cases hc
      · omega
    · intro he
      have : i = k := by omega
      rw [← this]; exact h2
  · have e : matI ins used o = -1 := h2
    rw [e]
    constructor
    · intro hc
      have := h1 k (by omega)
      rw [range_getD hk, hc] at this; cases this
    · intro he; omega
theorem mark_next {ins : List (Int × Int)} {used : List Bool} {o : Int × Int} {k : Nat} (hf : fndU ins used o k = false) (h : matI ins used o = k) : markU ins used o (k + 1) = (markU ins used o k).set k true ∧ fndU ins used o (k + 1) = true := by
  unfold fndU markU at *
  rw [decide_eq_false_iff_not] at hf
  rw [if_pos (by omega), if_neg hf]
  exact ⟨by rw [h]; simp, decide_eq_true (by omega)⟩
theorem mark_same {ins : List (Int × Int)} {used : List Bool} {o : Int × Int} {k : Nat} (h : matI ins used o ≠ k) : markU ins used o (k + 1) = markU ins used o k ∧ fndU ins used o (k + 1) = fndU ins used o k := by
  unfold fndU markU
  have e : (0 ≤ matI ins used o ∧ matI ins used o < ((k + 1 : Nat) : Int)) ↔ (0 ≤ matI ins used o ∧ matI ins used o < (k : Int)) := by omega
  exact ⟨by simp only [e], by simp only [e]⟩
theorem mark_not {ins : List (Int × Int)} {used : List Bool} {o : Int × Int} {k : Nat} (h : fndU ins used o k = false) : markU ins used o k = used := by
  unfold fndU at h; rw [decide_eq_false_iff_not] at h
  unfold markU; rw [if_neg h]
theorem fnd_zero (ins : List (Int × Int)) (used : List Bool) (o : Int × Int) : fndU ins used o 0 = false := by
  unfold fndU; rw [decide_eq_false_iff_not]; omega
theorem mark_zero (ins : List (Int × Int)) (used : List Bool) (o : Int × Int) : markU ins used o 0 = used := mark_not (fnd_zero ins used o)
theorem mat_step {ins : List (Int × Int)} {used : List Bool} {o : Int × Int} {k : Nat} (hk : k < ins.length) : ((!(fndU ins used o k) && !((markU ins used o k).getD k default)) && decide (ins.getD k default = o)) = decide (matI ins used o = k) := by
  cases hf : fndU ins used o k with
  | true =>
    have h : matI ins used o < k := by unfold fndU at hf; exact (of_decide_eq_true hf).2
    simp only [Bool.not_true, Bool.false_and]
    exact (decide_eq_false (by omega)).symm
  | false =>
    rw [mark_not hf]
    have h := mat_at hk hf
    unfold canU at h
    rw [Bool.eq_iff_iff, decide_eq_true_eq, ← h]; simp
theorem mat_end {ins : List (Int × Int)} {used : List Bool} {o : Int × Int} (h : 0 ≤ matI ins used o) : fndU ins used o ins.length = true := by
  unfold fndU; exact decide_eq_true ⟨h, mat_lt _ _ _⟩
structure BehP (kind : Int) (ins outs : List (Int × Int)) : Prop where
  le : outs.length ≤ ins.length
  d8 : ins.length ≤ outs.length + 8
  d2 : kind = 4 → ins.length ≤ outs.length + 2
  eq : kind < 4 → ∀ i, i < outs.length → ins.getD i default = outs.getD i default
  mt : kind = 4 → ∀ i, i < outs.length → 0 ≤ matI ins (useN kind ins outs i) (outs.getD i default)
def drN (l : List Rw) (i : Nat) : List Rw := l.take 40 ++ List.replicate i ⟨false, true, 0, 0, 0⟩
theorem dr_next (l : List Rw) (i : Nat) : drN l (i + 1) = drN l i ++ [⟨false, true, 0, 0, 0⟩] := by
  unfold drN; rw [List.replicate_succ', List.append_assoc]
theorem dr_len (l : List Rw) (i : Nat) : (drN l i).length = min l.length 40 + i := by unfold drN; simp [Nat.min_comm]
theorem wave_len (d : Ds) (rows : List (List Sg)) : (waveE d rows).rows.length = rows.length := rows_len d rows _
theorem rowsS_len (l : List Rw) : (rowsS l).length = min l.length 60 := by rw [rowsS, List.length_map, List.length_take, Nat.min_comm]
end Go.Proofs.YthlfacmpjehjmaaGreatDoor
/- The arguments of the laws, opened; the laid table. -/
set_option linter.unusedSimpArgs false
set_option linter.unusedVariables false
namespace Go.Proofs.YthlfacmpjehjmaaGreatDoor
open Go.Sim Go.ChangeShapes Go.WideShapes
theorem laid_tail {P : Program} {x : String × DataW Unit} {r : List (String × DataW Unit)} {W : World} (h : laidMet P (x :: r) W) : laidMet P r W := by
  obtain ⟨ps, ⟨g, t, cs, fuel, p, q, _, _, _, _, h, rfl⟩, hn, hc⟩ := h
  exact ⟨q, h, (List.nodup_append.1 hn).2.1, fun b off hm => hc b off (List.mem_append.2 (.inr hm))⟩
theorem tab_datum : (Rows.laid_strings_asciiSpace : DataW Unit) = Lib.tabData .u8 spTab := by kernel_rfl
theorem tab_in : ∀ z ∈ spTab, InR .u8 z := by
  have h : spTab.all (fun z => decide (0 ≤ z ∧ z ≤ 255)) = true := by kernel_rfl
  intro z hz
  have := of_decide_eq_true (List.all_eq_true.1 h z hz)
  simp only [InR]; omega
theorem sp_laid {W : World} (h : laidMetH Tryz.prog [("math/bits.deBruijn32tab", Rows.laid_math_bits_deBruijn32tab), ("math/bits.deBruijn64tab", Rows.laid_math_bits_deBruijn64tab), ("internal/strconv.uint64pow10", Rows.laid_internal_strconv_uint64pow10), ("unicode.White_Space", Rows.laid_unicode_White_Space), ("strings.asciiSpace", Rows.laid_strings_asciiSpace)] W) : ∀ F ∈ [spG], F.p W (old W) := fun F hF => by
  rw [List.mem_singleton.1 hF]
  rw [MakeChecks.laidMetH_plain _ _ _ (by kernel_rfl)] at h
  have h3 := laid_tail (laid_tail (laid_tail (laid_tail h)))
  have hg : Tryz.prog.globalNamed "strings.asciiSpace" = some 0 := by kernel_rfl
  rw [tab_datum] at h3
  exact glob_tab hg (Lib.tabIs_of_head (rest := []) hg (by kernel_rfl) Tryz.underlying123 Tryz.underlying5 (by kernel_rfl) (by kernel_rfl) h3) tab_in
theorem ov_u8 : OpensVS Tryz.prog 5 (fun n : Int => Rp.int .u8 n) (fun _ => True) := OpensVS.one (fun N => OpensS.of (Opens.int Tryz.underlying5)) (cells_int Tryz.underlying5)
theorem op_u8 (N : Nat) : OpensS Tryz.prog 5 N (fun n : Int => [Rp.int .u8 n]) (fun _ => True) := OpensS.of (Opens.int Tryz.underlying5)
theorem op_rw (N : Nat) : OpensS Tryz.prog 56 N eRw (fun _ => True) :=
  OpensS.map (OpensS.struct Tryz.underlying56 rfl (.cons (c := 1) rfl (by kernel_rfl) (OpensS.of (Opens.bool Tryz.underlying4)) (.cons (c := 1) rfl (by kernel_rfl) (OpensS.of (Opens.bool Tryz.underlying4)) (.cons (c := 1) rfl (by kernel_rfl) (op_u8 N) (.cons (c := 1) rfl (by kernel_rfl) (op_u8 N) (.cons (c := 1) rfl (by kernel_rfl) (op_u8 N) .nil))))) (by kernel_rfl))
    fun ⟨a, b, c, d, e, _⟩ _ => ⟨⟨a, b, c, d, e⟩, rfl, trivial⟩
theorem op_pl (N : Nat) : OpensS Tryz.prog 42 N ePl (fun _ => True) := by
  refine OpensS.map (OpensS.struct Tryz.underlying42 rfl (.cons (c := 1) rfl (by kernel_rfl) (op_u8 N) (.cons (c := 1) rfl (by kernel_rfl) (op_u8 N) (.cons (c := 1) rfl (by kernel_rfl) (op_u8 N)
    (.cons (c := 1) rfl (by kernel_rfl) (OpensS.slice (E := eRw) (c := 5) (b := 5) Tryz.underlying40 (by kernel_rfl) (by kernel_rfl) (by decide) (fun _ => rfl) (fun n _ => op_rw n)) .nil)))) (by kernel_rfl)) ?_
  rintro ⟨a, b, c, d, u⟩ _
  exact ⟨⟨a, b, c, d⟩, rfl, trivial⟩
end Go.Proofs.YthlfacmpjehjmaaGreatDoor
