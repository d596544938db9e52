/- Lemmas for the claim, part 8: rules for walks, contracts of functions, the data they compute. No conditions. -/
import Derived.Test.YthlfacmpjehjmaaGreatDoorP7
import Derived.Test.YthlfacmpjehjmaaGreatDoorP1
import Derived.Test.YthlfacmpjehjmaaGreatDoorP3
import Derived.Test.YthlfacmpjehjmaaGreatDoorP6
set_option linter.unusedSimpArgs false
set_option maxRecDepth 8000
set_option linter.unusedVariables false
namespace Go.Proofs.YthlfacmpjehjmaaGreatDoor
open Go.Sim
theorem wireB_ok (r : Nat) (v : Value × Value) (d : Ds) (nm : List UInt8) (w : Int) (e : Ex) (hl : d.wires.length ≤ 1000) : CallT Tryz.prog 33 [Rp.ptr r 0, Rp.str nm, Rp.int .i64 w, Rp.agg (eX e)] [MF.box r 111 (bdR d v), MF.osl v.1 77 6 eWr d.wires, MF.osl v.2 81 7 eRg d.regs] (bdX r (addW d nm w e)) := by
  refine W.enter (fn := Tryz.f33) (n := 23) Tryz.func33 rfl Tryz.ntmps33 rfl (fun w₀ C₀ => ?_)
  simp only [argS]
  refine W.sr ?_
  refine L.box rfl rfl (GSpec.plain rfl (spec_box rfl (GetC.agg (Get.tmp rfl)))) (fun r7 => ?_)
  refine L.nt ?_
  apply W.any1 (bs := [true, false, false, false, false, false, false, false, false, false, false]) (Mf := []) 11 mixed (by kernel_rfl) (by kernel_rfl) rfl .nil
  · apply Head1.flo rfl rfl (GSpec.plain rfl (spec_move rfl (Get.tmp rfl)))
    apply Head1.one rfl rfl (GSpec.plain rfl (spec_move rfl (Get.tmp rfl)))
    apply Head1.one rfl rfl (GSpec.plain rfl (spec_nilCheck rfl (Get.tmp rfl)))
    apply Head1.one rfl rfl (GSpec.plain rfl (spec_fieldAddr (f := 0) (off' := 0) rfl Tryz.underlying111 rfl Tryz.sizeOf27 (Get.tmp rfl) rfl))
    apply Head1.one rfl rfl (GSpec.plain rfl (spec_fieldAddr (f := 2) (off' := 2) rfl Tryz.underlying27 rfl Tryz.sizeOf23 (Get.tmp rfl) rfl))
    apply Head1.one rfl rfl (GSpec.plain rfl (spec_load1 (k := 1) rfl Tryz.isAgg23 (Get.tmp rfl) rfl rfl))
    apply Head1.one rfl rfl (GSpec.plain rfl (spec_move rfl (Get.tmp rfl)))
    apply Head1.one rfl rfl (GSpec.plain rfl (spec_move rfl (Get.tmp rfl)))
    apply Head1.one rfl rfl (GSpec.plain rfl (spec_loadW (k := 0) rfl Tryz.isAgg66 Tryz.sizeOf66 (Get.tmp rfl) rfl rfl))
    apply Head1.one rfl rfl (GSpec.plain rfl (spec_build (Rs := [_, _, _, _, _, _]) rfl ti77 z77 Tryz.underlying77 pl77 (.cons (GetC.one (Get.tmp rfl)) rfl rfl rfl (.cons (GetC.one (Get.tmp rfl)) rfl rfl rfl (.cons (GetC.agg (Get.tmp rfl)) rfl rfl rfl .nil)))))
    apply Head1.one rfl rfl (GSpec.plain rfl (spec_buildSlice1 (y := (⟨nm, w, e⟩ : Wr)) (E := eWr) rfl Tryz.underlying23 ti77 z77 (by decide) (GetC.agg (Get.tmp rfl)) (fun _ => rfl)))
    exact Head1.nil
  · rfl
  refine Fin1.flo ?_
  refine Fin1.one ?_
  refine Fin1.one ?_
  refine Fin1.one ?_
  refine Fin1.one ?_
  refine Fin1.one ?_
  refine Fin1.one ?_
  refine Fin1.one ?_
  refine Fin1.one ?_
  refine Fin1.one ?_
  refine Fin1.one ?_
  refine Fin1.nil (fun X => ?_)
  refine L.append (k := 2) (E := eWr) rfl rfl rfl rfl Tryz.underlying23 ti77 rfl (by decide) (fun _ => rfl) (Get.tmp rfl) (Get.tmp rfl) rfl (by (simp only [List.length_cons, List.length_nil]; omega)) (by (simp only [List.length_cons, List.length_nil]; omega)) (fun v19 => ?_)
  refine L.nil ?_
  refine Aft.next ((19, _) :: _) (Sub.push rfl) .nil rfl ?_
  refine L.p1 rfl rfl rfl (spec_nilCheck rfl (Get.tmp rfl)) ?_
  refine L.p1 rfl rfl rfl (spec_fieldAddr (f := 0) (off' := 0) rfl Tryz.underlying111 rfl Tryz.sizeOf27 (Get.tmp rfl) rfl) ?_
  refine L.p1 rfl rfl rfl (spec_fieldAddr (f := 2) (off' := 2) rfl Tryz.underlying27 rfl Tryz.sizeOf23 (Get.tmp rfl) rfl) ?_
  refine L.factM 2 rfl osl_one fun hq => ?_
  haveI := One.val hq
  refine L.storeB (k := 1) (R := Rp.val v19) rfl rfl rfl Tryz.sizeOf23 (Get.tmp rfl) (Get.tmp rfl) rfl rfl ?_
  refine L.nil ?_
  refine N.ret (X := (bdX r (addW d nm w e))) (v19, v.2) rfl .nil res0 (.cons 1 rfl (.cons 1 rfl (.cons 1 rfl .nil))) (fun _ _ h => h)
  skip

theorem regB_ok (r : Nat) (v : Value × Value) (d : Ds) (nm : List UInt8) (w : Int) (e : Ex) (hl : d.regs.length ≤ 1000) : CallT Tryz.prog 40 [Rp.ptr r 0, Rp.str nm, Rp.int .i64 w, Rp.agg (eX e)] [MF.box r 111 (bdR d v), MF.osl v.1 77 6 eWr d.wires, MF.osl v.2 81 7 eRg d.regs] (bdX r (addR d nm w e)) := by
  refine W.enter (fn := Tryz.f40) (n := 23) Tryz.func40 rfl Tryz.ntmps40 rfl (fun w₀ C₀ => ?_)
  simp only [argS]
  refine W.sr ?_
  refine L.box rfl rfl (GSpec.plain rfl (spec_box rfl (GetC.agg (Get.tmp rfl)))) (fun r7 => ?_)
  refine L.nt ?_
  refine W.keep (.cons (t := 0) rfl (.cons (t := 1) rfl (.cons (t := 2) rfl (.cons (t := 7) rfl .nil)))) .refl ?_
  apply W.any1 (bs := [true, false, false, false, false, false, false, false, false, false, false]) (Mf := []) 11 mixed (by kernel_rfl) (by kernel_rfl) rfl .nil
  · apply Head1.flo rfl rfl (GSpec.plain rfl (spec_move rfl (Get.tmp rfl)))
    apply Head1.one rfl rfl (GSpec.plain rfl (spec_move rfl (Get.tmp rfl)))
    apply Head1.one rfl rfl (GSpec.plain rfl (spec_nilCheck rfl (Get.tmp rfl)))
    apply Head1.one rfl rfl (GSpec.plain rfl (spec_fieldAddr (f := 0) (off' := 0) rfl Tryz.underlying111 rfl Tryz.sizeOf27 (Get.tmp rfl) rfl))
    apply Head1.one rfl rfl (GSpec.plain rfl (spec_fieldAddr (f := 3) (off' := 3) rfl Tryz.underlying27 rfl Tryz.sizeOf24 (Get.tmp rfl) rfl))
    apply Head1.one rfl rfl (GSpec.plain rfl (spec_load1 (k := 1) rfl Tryz.isAgg24 (Get.tmp rfl) rfl rfl))
    apply Head1.one rfl rfl (GSpec.plain rfl (spec_move rfl (Get.tmp rfl)))
    apply Head1.one rfl rfl (GSpec.plain rfl (spec_move rfl (Get.tmp rfl)))
    apply Head1.one rfl rfl (GSpec.plain rfl (spec_loadW (k := 0) rfl Tryz.isAgg66 Tryz.sizeOf66 (Get.tmp rfl) rfl rfl))
    apply Head1.one rfl rfl (GSpec.plain rfl (spec_build (Rs := [_, _, Rp.int .i64 0, _, _, _, _]) rfl ti81 z81 Tryz.underlying81 pl81 (.cons (GetC.one (Get.tmp rfl)) rfl rfl rfl (.cons (GetC.one (Get.tmp rfl)) rfl rfl rfl (.cons (GetC.agg (Get.tmp rfl)) rfl rfl rfl .nil)))))
    apply Head1.one rfl rfl (GSpec.plain rfl (spec_buildSlice1 (y := (⟨nm, w, 0, e⟩ : Rg)) (E := eRg) rfl Tryz.underlying24 ti81 z81 (by decide) (GetC.agg (Get.tmp rfl)) (fun _ => rfl)))
    exact Head1.nil
  · rfl
  refine Fin1.flo ?_
  refine Fin1.one ?_
  refine Fin1.one ?_
  refine Fin1.one ?_
  refine Fin1.one ?_
  refine Fin1.one ?_
  refine Fin1.one ?_
  refine Fin1.one ?_
  refine Fin1.one ?_
  refine Fin1.one ?_
  refine Fin1.one ?_
  refine Fin1.nil (fun X => ?_)
  refine L.append (k := 3) (E := eRg) rfl rfl rfl rfl Tryz.underlying24 ti81 rfl (by decide) (fun _ => rfl) (Get.tmp rfl) (Get.tmp rfl) rfl (by (simp only [List.length_cons, List.length_nil]; omega)) (by (simp only [List.length_cons, List.length_nil]; omega)) (fun v19 => ?_)
  refine L.nil ?_
  refine Aft.next ((19, _) :: _) (Sub.push rfl) .nil rfl ?_
  refine L.p1 rfl rfl rfl (spec_nilCheck rfl (Get.tmp rfl)) ?_
  refine L.p1 rfl rfl rfl (spec_fieldAddr (f := 0) (off' := 0) rfl Tryz.underlying111 rfl Tryz.sizeOf27 (Get.tmp rfl) rfl) ?_
  refine L.p1 rfl rfl rfl (spec_fieldAddr (f := 3) (off' := 3) rfl Tryz.underlying27 rfl Tryz.sizeOf24 (Get.tmp rfl) rfl) ?_
  refine L.factM 3 rfl osl_one fun hq => ?_
  haveI := One.val hq
  refine L.storeB (k := 1) (R := Rp.val v19) rfl rfl rfl Tryz.sizeOf24 (Get.tmp rfl) (Get.tmp rfl) rfl rfl ?_
  refine L.nil ?_
  refine N.ret (X := (bdX r (addR d nm w e))) (v.1, v19) rfl .nil res0 (.cons 1 rfl (.cons 1 rfl (.cons 1 rfl .nil))) (fun _ _ h => h)
  skip

theorem push_ok (r : Nat) (v : Value × Value) (d : Ds) (hl : d.wires.length ≤ 900) : CallT Tryz.prog 37 [Rp.ptr r 0] [MF.box r 111 (bdR d v), MF.osl v.1 77 6 eWr d.wires, MF.osl v.2 81 7 eRg d.regs] (bdX r (pushD d)) := by
  refine W.enter (fn := Tryz.f37) (n := 7) Tryz.func37 rfl Tryz.ntmps37 rfl (fun w₀ C₀ => ?_)
  simp only [argS]
  refine W.region ?_
  refine L.mv rfl rfl rfl rfl rfl ?_
  refine L.p1 rfl rfl rfl (spec_call rfl Tryz.call35 (ref_ok _) (.cons (Get.cstr (l := [105, 118]) rfl rfl) .nil)) ?_
  refine L.p1 rfl rfl rfl (spec_call rfl Tryz.call35 (ref_ok _) (.cons (Get.cstr (l := [105, 114, 100, 121]) rfl rfl) .nil)) ?_
  refine L.p1 rfl rfl rfl (spec_call rfl Tryz.call45 (both_ok _ _) (.cons (Get.tmp rfl) (.cons (Get.tmp rfl) .nil))) ?_
  refine L.call rfl rfl rfl rfl Tryz.call33 (wireB_ok _ _ _ _ _ _ (by first | omega | (simp only [addW, addR, pushD, popD, stageD, queue0, delay0, swapW, swap0, beginD, List.length_append, List.length_cons, List.length_nil]; omega) | decide)) (.cons 0 rfl (.cons 0 rfl (.cons 0 rfl .refl))) (.cons (Get.tmp rfl) (.cons (Get.cstr (l := [112, 117, 115, 104]) rfl rfl) (.cons (Get.cint rfl) (.cons (Get.tmp rfl) .nil)))) (fun v6 => ?_)
  try dsimp only
  refine L.nil ?_
  refine N.ret (X := (bdX r (pushD d))) v6 rfl .nil res0 (.cons 0 rfl (.cons 0 rfl (.cons 0 rfl .nil))) (fun _ _ h => h)
  skip

theorem pop_ok (r : Nat) (v : Value × Value) (d : Ds) (hl : d.wires.length ≤ 900) : CallT Tryz.prog 38 [Rp.ptr r 0] [MF.box r 111 (bdR d v), MF.osl v.1 77 6 eWr d.wires, MF.osl v.2 81 7 eRg d.regs] (bdX r (popD d)) := by
  refine W.enter (fn := Tryz.f38) (n := 7) Tryz.func38 rfl Tryz.ntmps38 rfl (fun w₀ C₀ => ?_)
  simp only [argS]
  refine W.region ?_
  refine L.mv rfl rfl rfl rfl rfl ?_
  refine L.p1 rfl rfl rfl (spec_call rfl Tryz.call35 (ref_ok _) (.cons (Get.cstr (l := [111, 118]) rfl rfl) .nil)) ?_
  refine L.p1 rfl rfl rfl (spec_call rfl Tryz.call35 (ref_ok _) (.cons (Get.cstr (l := [111, 114, 100, 121]) rfl rfl) .nil)) ?_
  refine L.p1 rfl rfl rfl (spec_call rfl Tryz.call45 (both_ok _ _) (.cons (Get.tmp rfl) (.cons (Get.tmp rfl) .nil))) ?_
  refine L.call rfl rfl rfl rfl Tryz.call33 (wireB_ok _ _ _ _ _ _ (by first | omega | (simp only [addW, addR, pushD, popD, stageD, queue0, delay0, swapW, swap0, beginD, List.length_append, List.length_cons, List.length_nil]; omega) | decide)) (.cons 0 rfl (.cons 0 rfl (.cons 0 rfl .refl))) (.cons (Get.tmp rfl) (.cons (Get.cstr (l := [112, 111, 112]) rfl rfl) (.cons (Get.cint rfl) (.cons (Get.tmp rfl) .nil)))) (fun v6 => ?_)
  try dsimp only
  refine L.nil ?_
  refine N.ret (X := (bdX r (popD d))) v6 rfl .nil res0 (.cons 0 rfl (.cons 0 rfl (.cons 0 rfl .nil))) (fun _ _ h => h)
  skip

theorem stage_ok (r : Nat) (v : Value × Value) (d : Ds) (w : Int) (hl : d.wires.length ≤ 800) (hl2 : d.regs.length ≤ 800) : CallT Tryz.prog 54 [Rp.ptr r 0, Rp.int .i64 w] [MF.box r 111 (bdR d v), MF.osl v.1 77 6 eWr d.wires, MF.osl v.2 81 7 eRg d.regs] (bdX r (stageD d w)) := by
  refine W.enter (fn := Tryz.f54) (n := 37) Tryz.func54 rfl Tryz.ntmps54 rfl (fun w₀ C₀ => ?_)
  simp only [argS]
  refine W.sr ?_
  refine L.mv rfl rfl rfl rfl rfl ?_
  refine L.p1 rfl rfl rfl (spec_call rfl Tryz.call35 (ref_ok _) (.cons (Get.cstr (l := [118]) rfl rfl) .nil)) ?_
  refine L.p1 rfl rfl rfl (spec_call rfl Tryz.call57 (not_ok _) (.cons (Get.tmp rfl) .nil)) ?_
  refine L.p1 rfl rfl rfl (spec_call rfl Tryz.call35 (ref_ok _) (.cons (Get.cstr (l := [111, 114, 100, 121]) rfl rfl) .nil)) ?_
  refine L.p1 rfl rfl rfl (spec_call rfl Tryz.call56 (either_ok _ _) (.cons (Get.tmp rfl) (.cons (Get.tmp rfl) .nil))) ?_
  refine L.call rfl rfl rfl rfl Tryz.call33 (wireB_ok _ _ _ _ _ _ (by first | omega | (simp only [addW, addR, pushD, popD, stageD, queue0, delay0, swapW, swap0, beginD, List.length_append, List.length_cons, List.length_nil]; omega) | decide)) (.cons 0 rfl (.cons 0 rfl (.cons 0 rfl .refl))) (.cons (Get.tmp rfl) (.cons (Get.cstr (l := [105, 114, 100, 121]) rfl rfl) (.cons (Get.cint rfl) (.cons (Get.tmp rfl) .nil)))) (fun v9 => ?_)
  try dsimp only
  refine L.nt ?_
  refine W.keep (.cons (t := 0) rfl (.cons (t := 1) rfl .nil)) .refl ?_
  refine W.sr ?_
  refine L.mv rfl rfl rfl rfl rfl ?_
  refine L.p1 rfl rfl rfl (spec_call rfl Tryz.call35 (ref_ok _) (.cons (Get.cstr (l := [118]) rfl rfl) .nil)) ?_
  refine L.call rfl rfl rfl rfl Tryz.call33 (wireB_ok _ _ _ _ _ _ (by first | omega | (simp only [addW, addR, pushD, popD, stageD, queue0, delay0, swapW, swap0, beginD, List.length_append, List.length_cons, List.length_nil]; omega) | decide)) (.cons 0 rfl (.cons 0 rfl (.cons 0 rfl .refl))) (.cons (Get.tmp rfl) (.cons (Get.cstr (l := [111, 118]) rfl rfl) (.cons (Get.cint rfl) (.cons (Get.tmp rfl) .nil)))) (fun v12 => ?_)
  try dsimp only
  refine L.nt ?_
  refine W.sr ?_
  refine L.mv rfl rfl rfl rfl rfl ?_
  refine L.p1 rfl rfl rfl (spec_call rfl Tryz.call35 (ref_ok _) (.cons (Get.cstr (l := [116]) rfl rfl) .nil)) ?_
  refine L.call rfl rfl rfl rfl Tryz.call33 (wireB_ok _ _ _ _ _ _ (by first | omega | (simp only [addW, addR, pushD, popD, stageD, queue0, delay0, swapW, swap0, beginD, List.length_append, List.length_cons, List.length_nil]; omega) | decide)) (.cons 0 rfl (.cons 0 rfl (.cons 0 rfl .refl))) (.cons (Get.tmp rfl) (.cons (Get.cstr (l := [111, 116]) rfl rfl) (.cons (Get.cint rfl) (.cons (Get.tmp rfl) .nil)))) (fun v15 => ?_)
  try dsimp only
  refine L.nt ?_
  refine W.keep (.cons (t := 0) rfl (.cons (t := 1) rfl .nil)) .refl ?_
  refine W.sr ?_
  refine L.mv rfl rfl rfl rfl rfl ?_
  refine L.mv rfl rfl rfl rfl rfl ?_
  refine L.p1 rfl rfl rfl (spec_call rfl Tryz.call35 (ref_ok _) (.cons (Get.cstr (l := [97]) rfl rfl) .nil)) ?_
  refine L.call rfl rfl rfl rfl Tryz.call33 (wireB_ok _ _ _ _ _ _ (by first | omega | (simp only [addW, addR, pushD, popD, stageD, queue0, delay0, swapW, swap0, beginD, List.length_append, List.length_cons, List.length_nil]; omega) | decide)) (.cons 0 rfl (.cons 0 rfl (.cons 0 rfl .refl))) (.cons (Get.tmp rfl) (.cons (Get.cstr (l := [111, 97]) rfl rfl) (.cons (Get.tmp rfl) (.cons (Get.tmp rfl) .nil)))) (fun v19 => ?_)
  try dsimp only
  refine L.nt ?_
  refine W.sr ?_
  refine L.mv rfl rfl rfl rfl rfl ?_
  refine L.call rfl rfl rfl rfl Tryz.call37 (push_ok _ _ _ (by first | omega | (simp only [addW, addR, pushD, popD, stageD, queue0, delay0, swapW, swap0, beginD, List.length_append, List.length_cons, List.length_nil]; omega) | decide)) (.cons 0 rfl (.cons 0 rfl (.cons 0 rfl .refl))) (.cons (Get.tmp rfl) .nil) (fun v21 => ?_)
  try dsimp only
  refine L.nt ?_
  refine W.keep (.cons (t := 0) rfl .nil) .refl ?_
  refine W.sr ?_
  refine L.mv rfl rfl rfl rfl rfl ?_
  refine L.p1 rfl rfl rfl (spec_call rfl Tryz.call35 (ref_ok _) (.cons (Get.cstr (l := [112, 117, 115, 104]) rfl rfl) .nil)) ?_
  refine L.p1 rfl rfl rfl (spec_call rfl Tryz.call36 (num_ok _) (.cons (Get.cint rfl) .nil)) ?_
  refine L.p1 rfl rfl rfl (spec_call rfl Tryz.call35 (ref_ok _) (.cons (Get.cstr (l := [111, 114, 100, 121]) rfl rfl) .nil)) ?_
  refine L.p1 rfl rfl rfl (spec_call rfl Tryz.call36 (num_ok _) (.cons (Get.cint rfl) .nil)) ?_
  refine L.p1 rfl rfl rfl (spec_call rfl Tryz.call35 (ref_ok _) (.cons (Get.cstr (l := [118]) rfl rfl) .nil)) ?_
  refine L.p1 rfl rfl rfl (spec_call rfl Tryz.call44 (when_ok _ _ _) (.cons (Get.tmp rfl) (.cons (Get.tmp rfl) (.cons (Get.tmp rfl) .nil)))) ?_
  refine L.p1 rfl rfl rfl (spec_call rfl Tryz.call44 (when_ok _ _ _) (.cons (Get.tmp rfl) (.cons (Get.tmp rfl) (.cons (Get.tmp rfl) .nil)))) ?_
  refine L.call rfl rfl rfl rfl Tryz.call40 (regB_ok _ _ _ _ _ _ (by first | omega | (simp only [addW, addR, pushD, popD, stageD, queue0, delay0, swapW, swap0, beginD, List.length_append, List.length_cons, List.length_nil]; omega) | decide)) (.cons 0 rfl (.cons 0 rfl (.cons 0 rfl .refl))) (.cons (Get.tmp rfl) (.cons (Get.cstr (l := [118]) rfl rfl) (.cons (Get.cint rfl) (.cons (Get.tmp rfl) .nil)))) (fun v30 => ?_)
  try dsimp only
  refine L.nt ?_
  refine W.keep (.cons (t := 0) rfl .nil) .refl ?_
  refine W.region ?_
  refine L.mv rfl rfl rfl rfl rfl ?_
  refine L.p1 rfl rfl rfl (spec_call rfl Tryz.call35 (ref_ok _) (.cons (Get.cstr (l := [112, 117, 115, 104]) rfl rfl) .nil)) ?_
  refine L.p1 rfl rfl rfl (spec_call rfl Tryz.call35 (ref_ok _) (.cons (Get.cstr (l := [105, 116]) rfl rfl) .nil)) ?_
  refine L.p1 rfl rfl rfl (spec_call rfl Tryz.call35 (ref_ok _) (.cons (Get.cstr (l := [116]) rfl rfl) .nil)) ?_
  refine L.p1 rfl rfl rfl (spec_call rfl Tryz.call44 (when_ok _ _ _) (.cons (Get.tmp rfl) (.cons (Get.tmp rfl) (.cons (Get.tmp rfl) .nil)))) ?_
  refine L.call rfl rfl rfl rfl Tryz.call40 (regB_ok _ _ _ _ _ _ (by first | omega | (simp only [addW, addR, pushD, popD, stageD, queue0, delay0, swapW, swap0, beginD, List.length_append, List.length_cons, List.length_nil]; omega) | decide)) (.cons 0 rfl (.cons 0 rfl (.cons 0 rfl .refl))) (.cons (Get.tmp rfl) (.cons (Get.cstr (l := [116]) rfl rfl) (.cons (Get.cint rfl) (.cons (Get.tmp rfl) .nil)))) (fun v36 => ?_)
  try dsimp only
  refine L.nil ?_
  refine N.ret (X := (bdX r (stageD d w))) v36 rfl .nil res0 (.cons 0 rfl (.cons 0 rfl (.cons 0 rfl .nil))) (fun _ _ h => h)
  skip

theorem end_ok (r : Nat) (v : Value × Value) (d : Ds) : CallT Tryz.prog 47 [Rp.ptr r 0] [MF.box r 111 (bdR d v), MF.osl v.1 77 6 eWr d.wires, MF.osl v.2 81 7 eRg d.regs] (.one (Rp.tuple [Rp.agg (eD d), Rp.int .i64 0])) := by
  refine W.enter (fn := Tryz.f47) (n := 8) Tryz.func47 rfl Tryz.ntmps47 rfl (fun w₀ C₀ => ?_)
  simp only [argS]
  refine W.sr ?_
  refine L.box rfl rfl (GSpec.plain rfl (spec_alloc rfl ti27 z27)) (fun r2 => ?_)
  refine L.p1 rfl rfl rfl (spec_assign rfl (Get.cint rfl)) ?_
  refine L.nt ?_
  refine W.pubBox (off := 2) 2 1 rfl rfl rfl (fun _ => rfl) ?_
  refine W.pubBox (off := 3) 2 1 rfl rfl rfl (fun _ => rfl) ?_
  refine W.keep (.cons (t := 0) rfl (.cons (t := 2) rfl (.cons (t := 3) rfl .nil))) .refl ?_
  refine W.sr ?_
  refine L.mv rfl rfl rfl rfl rfl ?_
  refine L.p1 rfl rfl rfl (spec_nilCheck rfl (Get.tmp rfl)) ?_
  refine L.p1 rfl rfl rfl (spec_fieldAddr (f := 0) (off' := 0) rfl Tryz.underlying111 rfl Tryz.sizeOf27 (Get.tmp rfl) rfl) ?_
  refine L.p1 rfl rfl rfl (spec_loadW (k := 1) rfl Tryz.isAgg27 Tryz.sizeOf27 (Get.tmp rfl) rfl rfl) ?_
  refine L.storeW (k := 0) rfl rfl rfl Tryz.sizeOf27 (Get.tmp rfl) (Get.tmp rfl) rfl rfl rfl ?_
  refine L.p1 rfl rfl rfl (spec_assign rfl (Get.cint rfl)) ?_
  refine L.nt ?_
  refine W.keep (.cons (t := 2) rfl (.cons (t := 3) rfl .nil)) .refl ?_
  refine W.ret ?_
  refine N.ret () rfl (.cellA (k := 0) (Get.tmp (t := 2) rfl) rfl Tryz.isAgg27 Tryz.sizeOf27 rfl (.tmp (t := 3) (Get.tmp rfl) .nil)) (res2w (eqA ?_) (eqI ?_)) .nil (fun _ _ h => h)
  all_goals rfl

end Go.Proofs.YthlfacmpjehjmaaGreatDoor
set_option linter.unusedSimpArgs false
set_option maxRecDepth 8000
set_option linter.unusedVariables false
namespace Go.Proofs.YthlfacmpjehjmaaGreatDoor
open Go.Sim
theorem fields_ok  : CallT Tryz.prog 75 [Rp.str txt] [spG] (.one (Rp.slice eS [sIrdy, sOv, sOt, sOa])) := by
  refine W.enter (fn := Tryz.f75) (n := 106) Tryz.func75 rfl Tryz.ntmps75 rfl (fun w₀ C₀ => ?_)
  simp only [argS]
  have htl : txt.length = 13 := rfl
  refine W.sr ?_
  refine L.p1 rfl rfl rfl (spec_assign rfl (Get.cnil (E := eS))) ?_
  refine L.nt ?_
  refine W.sr ?_
  refine L.p1 rfl rfl rfl (spec_assign rfl (Get.cint rfl)) ?_
  refine L.nt ?_
  refine W.sr ?_
  refine L.p1 rfl rfl rfl (spec_assign rfl (Get.cint rfl)) ?_
  refine L.nt ?_
  refine W.sr ?_
  refine L.p1 rfl rfl rfl (spec_assign rfl (Get.cint rfl)) ?_
  refine L.nt ?_
  refine W.seq ?_
  refine W.sr ?_
  refine L.p1 rfl rfl rfl (spec_assign rfl (Get.cint rfl)) ?_
  refine L.nt ?_
  refine W.block ?_
  refine W.loopK (σ := Nat) (.cons (t := 0) rfl (.cons (t := 2) rfl .nil)) (fun z => [(6, Rp.int .i64 (z : Nat)), (3, Rp.int .i64 (cF z).1), (4, Rp.int .i64 (cF z).2.1), (5, Rp.int .u8 (cF z).2.2)]) (fun z => []) (fun z => z ≤ 13) (fun z => 13 - z) 0 (Nat.zero_le _) (.cons (t := 6) rfl (.cons (t := 3) rfl (.cons (t := 4) rfl (.cons (t := 5) rfl .nil)))) (.cons 0 rfl .nil) ?_
  intro i hI S' M' hS hM
  try dsimp only at hS hM
  simp only [List.cons_append, List.nil_append] at hS hM
  subst hS hM
  try dsimp only
  refine W.seq ?_
  refine W.sr ?_
  refine L.mv rfl rfl rfl rfl rfl ?_
  refine L.mv rfl rfl rfl rfl rfl ?_
  refine L.p1 rfl rfl rfl (spec_lenS rfl Tryz.underlying9 (Get.tmp rfl)) ?_
  refine L.p1 rfl rfl rfl (spec_lss rfl (Get.tmp rfl) (Get.tmp rfl)) ?_
  refine L.nt ?_
  refine W.cond (Get.tmp rfl) (fun h1 => ?_) (fun h1 => ?_)
  · have ph1 := h1; try simp only [sbx] at ph1
    refine W.skip ?_
    refine N.thenW ?_
    refine W.seq ?_
    refine W.block ?_
    refine W.sr ?_
    refine L.mv rfl rfl rfl rfl rfl ?_
    refine L.mv rfl rfl rfl rfl rfl ?_
    refine L.p1 rfl rfl rfl (spec_indexS rfl Tryz.underlying9 (Get.tmp rfl) (Get.tmp rfl) (by (first | omega | (simp only [txt, List.length_cons, List.length_nil, Int.toNat_natCast]; omega)))) ?_
    refine L.as rfl rfl rfl rfl rfl ?_
    refine L.nt ?_
    refine W.sr ?_
    refine L.mv rfl rfl rfl rfl rfl ?_
    refine L.mv rfl rfl rfl rfl rfl ?_
    refine L.p1 rfl rfl rfl (spec_bits rfl (by simp) (Get.tmp rfl) (Get.tmp rfl)) ?_
    refine L.as rfl rfl rfl rfl rfl ?_
    refine L.nt ?_
    refine W.sr ?_
    refine L.mv rfl rfl rfl rfl rfl ?_
    refine L.p1 rfl rfl rfl (spec_indexAddrG (k := 0) (zs := spTab) (ke := .u8) rfl Tryz.underlying123 Tryz.sizeOf5 rfl (Get.tmp rfl) (byte_ix _) (by decide)) ?_
    refine L.p1 rfl rfl rfl (spec_loadP1 rfl Tryz.isAgg5 (Get.tmp rfl)) ?_
    first | refine L.op1 rfl rfl (GSpec.plain rfl (fit_i64 (by (first | omega | (simp only [txt, List.length_cons, List.length_nil, Int.toNat_natCast]; omega))) (by (first | omega | (simp only [txt, List.length_cons, List.length_nil, Int.toNat_natCast]; omega))) (spec_conv rfl Tryz.underlying3 ⟨_, Tryz.underlying5⟩ (Get.tmp rfl)))) ?_ | refine L.op1 rfl rfl (GSpec.plain rfl (spec_conv rfl Tryz.underlying3 ⟨_, Tryz.underlying5⟩ (Get.tmp rfl))) ?_
    refine L.as rfl rfl rfl rfl rfl ?_
    refine L.nt ?_
    refine W.sr ?_
    refine L.mv rfl rfl rfl rfl rfl ?_
    refine L.mv rfl rfl rfl rfl rfl ?_
    refine L.mv rfl rfl rfl rfl rfl ?_
    refine L.p1 rfl rfl rfl (spec_xor64 rfl (Get.tmp rfl)) ?_
    refine L.p1 rfl rfl rfl (spec_bits rfl (by simp) (Get.tmp rfl) (Get.tmp rfl)) ?_
    refine L.p1 rfl rfl rfl (spec_add rfl (Get.tmp rfl) (Get.tmp rfl)) ?_
    refine L.as rfl rfl rfl rfl rfl ?_
    refine L.nt ?_
    refine W.region ?_
    refine L.mv rfl rfl rfl rfl rfl ?_
    refine L.as rfl rfl rfl rfl rfl ?_
    refine L.nil ?_
    refine N.blockNormal ?_
    refine N.thenW ?_
    refine W.region ?_
    refine L.mv rfl rfl rfl rfl rfl ?_
    first | refine L.op1 rfl rfl (GSpec.plain rfl (fit_i64 (by (first | omega | (simp only [txt, List.length_cons, List.length_nil, Int.toNat_natCast]; omega))) (by (first | omega | (simp only [txt, List.length_cons, List.length_nil, Int.toNat_natCast]; omega))) (spec_add rfl (Get.tmp rfl) (Get.cint rfl)))) ?_ | refine L.op1 rfl rfl (GSpec.plain rfl (spec_add rfl (Get.tmp rfl) (Get.cint rfl))) ?_
    refine L.as rfl rfl rfl rfl rfl ?_
    refine L.nil ?_
    refine N.roundK (i + 1) ?hI1 ?hmu1 ?hs1 ?hk1 ?hp1
    case hs1 => exact (.cons (t := 6) rfl (.weak (t := 3) rfl (eqI (by rfl)) (.weak (t := 4) rfl (eqI (by rfl)) (.weak (t := 5) rfl (eqI (by rfl)) .nil))))
    case hk1 => exact (.cons (t := 0) rfl (.cons (t := 2) rfl .nil))
    case hp1 => exact (.cons 0 rfl .nil)
    all_goals (first | rfl | trivial | omega | (simp_all; done))
  · have ph1 := h1; try simp only [sbx] at ph1
    refine W.exit ?_
    refine N.thenExit ?_
    refine N.thenExit ?_
    refine N.blockExit ?_
    refine N.thenW ?_
    have hi : i = 13 := by omega
    subst hi
    refine W.keep (.cons (t := 0) rfl (.cons (t := 2) rfl (.cons (t := 3) rfl (.cons (t := 5) rfl .nil)))) .refl ?_
    refine W.seq ?_
    refine W.sr ?_
    refine L.mv rfl rfl rfl rfl rfl ?_
    refine L.p1 rfl rfl rfl (spec_geq rfl (Get.tmp rfl) (Get.cint rfl)) ?_
    refine L.nt ?_
    refine W.cond (Get.tmp rfl) (fun h2 => ?_) (fun h2 => ?_)
    · exfalso; have h := of_decide_eq_true h2; have := cF_end.2; omega
    · have ph2 := h2; try simp only [sbx] at ph2
      refine W.skip ?_
      refine N.thenW ?_
      have e4 : (cF 13).1 = 4 := cF_end.1
      rw [e4]
      refine W.sr ?_
      refine L.mv rfl rfl rfl rfl rfl ?_
      refine L.op rfl rfl (GSpec.plain rfl (spec_makeSlice (z₀ := ([] : List UInt8)) (E := eS) rfl Tryz.underlying25 ti9 z9 (fun _ => rfl) (Get.tmp rfl) (Get.tmp rfl) (by (first | omega | (simp only [txt, List.length_cons, List.length_nil, Int.toNat_natCast]; omega))) (by (first | omega | (simp only [txt, List.length_cons, List.length_nil, Int.toNat_natCast]; omega))) (by (first | omega | (simp only [txt, List.length_cons, List.length_nil, Int.toNat_natCast]; omega))))) (fun v41 => ?_)
      refine L.as rfl rfl rfl rfl rfl ?_
      refine L.nt ?_
      refine W.keep (.cons (t := 0) rfl (.cons (t := 2) rfl (.cons (t := 9) rfl .nil))) .refl ?_
      refine W.sr ?_
      refine L.p1 rfl rfl rfl (spec_assign rfl (Get.cint rfl)) ?_
      refine L.nt ?_
      refine W.sr ?_
      refine L.p1 rfl rfl rfl (spec_assign rfl (Get.cint rfl)) ?_
      refine L.nt ?_
      refine W.sr ?_
      refine L.p1 rfl rfl rfl (spec_assign rfl (Get.cint rfl)) ?_
      refine L.nt ?_
      refine W.seq ?_
      refine W.block ?_
      refine W.loopK (σ := Nat) (.cons (t := 0) rfl (.cons (t := 2) rfl (.cons (t := 9) rfl (.cons (t := 10) rfl (.cons (t := 11) rfl .nil))))) (fun z => [(12, Rp.int .i64 (z : Nat))]) (fun z => []) (fun z => z = 0) (fun z => 0) 0 rfl (.cons (t := 12) rfl .nil) (.cons 0 rfl (.cons 0 rfl .nil)) ?_
      intro z hI S' M' hS hM
      try dsimp only at hS hM
      simp only [List.cons_append, List.nil_append] at hS hM
      subst hS hM
      try dsimp only
      refine W.seq ?_
      refine W.sr ?_
      refine L.mv rfl rfl rfl rfl rfl ?_
      refine L.mv rfl rfl rfl rfl rfl ?_
      refine L.p1 rfl rfl rfl (spec_lenS rfl Tryz.underlying9 (Get.tmp rfl)) ?_
      refine L.p1 rfl rfl rfl (spec_lss rfl (Get.tmp rfl) (Get.tmp rfl)) ?_
      refine L.mv rfl rfl rfl rfl rfl ?_
      refine L.op1 rfl rfl (GSpec.guard rfl rfl rfl fun hg => (spec_move rfl (Get.tmp rfl))) ?_
      refine L.op1 rfl rfl (GSpec.guard rfl rfl rfl fun hg => (spec_move rfl (Get.tmp rfl))) ?_
      refine L.op1 rfl rfl (GSpec.guard rfl rfl rfl fun hg => (spec_indexS rfl Tryz.underlying9 (Get.opt rfl hg) (Get.opt rfl hg) (by (have := of_decide_eq_true hg; first | omega | (simp only [txt, List.length_cons, List.length_nil, Int.toNat_natCast] at *; omega))))) ?_
      refine L.op1 rfl rfl (GSpec.guard rfl rfl rfl fun hg => (spec_indexAddrG (k := 1) (zs := spTab) (ke := .u8) rfl Tryz.underlying123 Tryz.sizeOf5 rfl (Get.opt rfl hg) (byte_ix _) (by decide))) ?_
      refine L.op1 rfl rfl (GSpec.guard rfl rfl rfl fun hg => (spec_loadP1 rfl Tryz.isAgg5 (Get.opt rfl hg))) ?_
      refine L.op1 rfl rfl (GSpec.guard rfl rfl rfl fun hg => (spec_neq rfl (Get.opt rfl hg) (Get.cint rfl))) ?_
      refine L.p1 rfl rfl rfl (spec_and rfl (Get.tmp rfl) (fun hb => (Get.opt rfl hb))) ?_
      refine L.nt ?_
      refine W.cond (Get.tmp rfl) (fun h3 => ?_) (fun h3 => ?_)
      · exfalso; have h := h3; subst hI; revert h; decide
      · have ph3 := h3; try simp only [sbx] at ph3
        refine W.exit ?_
        refine N.thenExit ?_
        refine N.thenExit ?_
        refine N.blockExit ?_
        refine N.thenW ?_
        subst hI
        refine W.keep (.cons (t := 0) rfl (.cons (t := 2) rfl (.cons (t := 9) rfl (.cons (t := 10) rfl (.cons (t := 11) rfl (.cons (t := 12) rfl .nil)))))) .refl ?_
        refine W.sr ?_
        refine L.mv rfl rfl rfl rfl rfl ?_
        refine L.as rfl rfl rfl rfl rfl ?_
        refine L.nt ?_
        refine W.seq ?_
        refine W.block ?_
        refine W.loopK (σ := Nat) (.cons (t := 0) rfl (.cons (t := 2) rfl (.cons (t := 9) rfl .nil))) (fun z => [(12, Rp.int .i64 (z : Nat)), (10, Rp.int .i64 ((fA z).2.1 : Nat)), (11, Rp.int .i64 ((fA z).2.2 : Nat))]) (fun z => [MF.osl v41 9 1 eS (fA z).1]) (fun z => z ≤ 13) (fun z => 13 - z) 0 (Nat.zero_le _) (.cons (t := 12) rfl (.cons (t := 10) rfl (.cons (t := 11) rfl .nil))) (.cons 0 rfl (.cons 0 rfl .nil)) ?_
        intro i hI S' M' hS hM
        try dsimp only at hS hM
        simp only [List.cons_append, List.nil_append] at hS hM
        subst hS hM
        try dsimp only
        refine W.seq ?_
        refine W.sr ?_
        refine L.mv rfl rfl rfl rfl rfl ?_
        refine L.mv rfl rfl rfl rfl rfl ?_
        refine L.p1 rfl rfl rfl (spec_lenS rfl Tryz.underlying9 (Get.tmp rfl)) ?_
        refine L.p1 rfl rfl rfl (spec_lss rfl (Get.tmp rfl) (Get.tmp rfl)) ?_
        refine L.nt ?_
        refine W.cond (Get.tmp rfl) (fun h4 => ?_) (fun h4 => ?_)
        · have ph4 := h4; try simp only [sbx] at ph4
          refine W.skip ?_
          refine N.thenW ?_
          have hbd := fA_bd i (by omega)
          have hal := fA_len i
          refine W.block ?_
          refine W.seq ?_
          refine W.sr ?_
          refine L.mv rfl rfl rfl rfl rfl ?_
          refine L.mv rfl rfl rfl rfl rfl ?_
          refine L.p1 rfl rfl rfl (spec_indexS rfl Tryz.underlying9 (Get.tmp rfl) (Get.tmp rfl) (by (first | omega | (simp only [txt, List.length_cons, List.length_nil, Int.toNat_natCast]; omega)))) ?_
          refine L.p1 rfl rfl rfl (spec_indexAddrG (k := 1) (zs := spTab) (ke := .u8) rfl Tryz.underlying123 Tryz.sizeOf5 rfl (Get.tmp rfl) (byte_ix _) (by decide)) ?_
          refine L.p1 rfl rfl rfl (spec_loadP1 rfl Tryz.isAgg5 (Get.tmp rfl)) ?_
          refine L.p1 rfl rfl rfl (spec_eql rfl (Get.tmp rfl) (Get.cint rfl)) ?_
          refine L.nt ?_
          refine W.cond (Get.tmp rfl) (fun h5 => ?_) (fun h5 => ?_)
          · have hsp : isF i = 0 := by have h := of_decide_eq_true h5; exact h
            have hst := fA_no hsp
            refine W.sr ?_
            refine L.mv rfl rfl rfl rfl rfl ?_
            first | refine L.op1 rfl rfl (GSpec.plain rfl (fit_i64 (by (first | omega | (simp only [txt, List.length_cons, List.length_nil, Int.toNat_natCast]; omega))) (by (first | omega | (simp only [txt, List.length_cons, List.length_nil, Int.toNat_natCast]; omega))) (spec_add rfl (Get.tmp rfl) (Get.cint rfl)))) ?_ | refine L.op1 rfl rfl (GSpec.plain rfl (spec_add rfl (Get.tmp rfl) (Get.cint rfl))) ?_
            refine L.as rfl rfl rfl rfl rfl ?_
            refine L.nt ?_
            refine W.exit ?_
            refine N.thenExit ?_
            refine N.blockExit ?_
            refine N.roundK (i + 1) ?hI2 ?hmu2 ?hs2 ?hk2 ?hp2
            case hs2 => exact (.cons (t := 12) rfl (.weak (t := 10) rfl (eqI (by first | rfl | (rw [hst]; done) | (rw [hst]; rfl) | (rw [hst]; dsimp only; omega))) (.weak (t := 11) rfl (eqI (by first | rfl | (rw [hst]; done) | (rw [hst]; rfl) | (rw [hst]; dsimp only; omega))) .nil)))
            case hk2 => exact (.cons (t := 0) rfl (.cons (t := 2) rfl (.cons (t := 9) rfl .nil)))
            case hp2 => rw [hst]; exact (.cons 0 rfl (.cons 0 rfl .nil))
            all_goals (first | rfl | trivial | omega | (simp_all; done))
          · have hsp : ¬ isF i = 0 := by have h := of_decide_eq_false h5; exact h
            have hst := fA_yes hsp
            have hb2 := hbd.2 hsp
            refine W.skip ?_
            refine N.thenW ?_
            refine W.sr ?_
            refine L.mv rfl rfl rfl rfl rfl ?_
            refine L.mv rfl rfl rfl rfl rfl ?_
            refine L.mv rfl rfl rfl rfl rfl ?_
            refine L.mv rfl rfl rfl rfl rfl ?_
            refine L.mv rfl rfl rfl rfl rfl ?_
            refine L.p1 rfl rfl rfl (spec_sliceS rfl Tryz.underlying9 (Get.tmp rfl) (.some (Get.tmp rfl) (by (first | omega | (simp only [txt, List.length_cons, List.length_nil, Int.toNat_natCast]; omega)))) (.some (Get.tmp rfl) (by (first | omega | (simp only [txt, List.length_cons, List.length_nil, Int.toNat_natCast]; omega)))) (by (first | omega | (simp only [txt, List.length_cons, List.length_nil, Int.toNat_natCast]; omega)))) ?_
            refine L.p1 rfl rfl rfl (spec_indexAddrO (k := 0) (E := eS) rfl Tryz.underlying25 Tryz.sizeOf9 (Get.tmp rfl) (Get.tmp rfl) rfl (by (first | omega | (simp only [txt, List.length_cons, List.length_nil, Int.toNat_natCast]; omega)))) ?_
            refine L.storeO1 (k := 0) (j := 0) (E := eS) rfl rfl rfl Tryz.sizeOf9 (fun _ => rfl) (Get.tmp rfl) (Get.tmp rfl) rfl rfl (by decide) (getD_some (by (first | omega | (simp only [txt, List.length_cons, List.length_nil, Int.toNat_natCast]; omega)))) rfl ?_
            refine L.nt ?_
            refine W.sr ?_
            refine L.mv rfl rfl rfl rfl rfl ?_
            first | refine L.op1 rfl rfl (GSpec.plain rfl (fit_i64 (by (first | omega | (simp only [txt, List.length_cons, List.length_nil, Int.toNat_natCast]; omega))) (by (first | omega | (simp only [txt, List.length_cons, List.length_nil, Int.toNat_natCast]; omega))) (spec_add rfl (Get.tmp rfl) (Get.cint rfl)))) ?_ | refine L.op1 rfl rfl (GSpec.plain rfl (spec_add rfl (Get.tmp rfl) (Get.cint rfl))) ?_
            refine L.as rfl rfl rfl rfl rfl ?_
            refine L.nt ?_
            refine W.sr ?_
            refine L.mv rfl rfl rfl rfl rfl ?_
            first | refine L.op1 rfl rfl (GSpec.plain rfl (fit_i64 (by (first | omega | (simp only [txt, List.length_cons, List.length_nil, Int.toNat_natCast]; omega))) (by (first | omega | (simp only [txt, List.length_cons, List.length_nil, Int.toNat_natCast]; omega))) (spec_add rfl (Get.tmp rfl) (Get.cint rfl)))) ?_ | refine L.op1 rfl rfl (GSpec.plain rfl (spec_add rfl (Get.tmp rfl) (Get.cint rfl))) ?_
            refine L.as rfl rfl rfl rfl rfl ?_
            refine L.nt ?_
            refine W.seq ?_
            refine W.block ?_
            refine W.loopK (σ := Nat) (.cons (t := 0) rfl (.cons (t := 2) rfl (.cons (t := 9) rfl (.cons (t := 10) rfl (.cons (t := 11) rfl (.cons (t := 57) rfl (.cons (t := 58) rfl (.cons (t := 59) rfl (.cons (t := 60) rfl (.cons (t := 61) rfl (.cons (t := 62) rfl (.cons (t := 63) rfl (.cons (t := 64) rfl (.cons (t := 65) rfl (.cons (t := 66) rfl (.cons (t := 69) rfl (.cons (t := 70) rfl (.cons (t := 71) rfl (.cons (t := 72) rfl (.cons (t := 73) rfl (.cons (t := 74) rfl (.cons (t := 75) rfl (.cons (t := 76) rfl (.cons (t := 77) rfl (.cons (t := 78) rfl (.cons (t := 79) rfl .nil)))))))))))))))))))))))))) (fun z => [(12, Rp.int .i64 (z : Nat))]) (fun z => []) (fun z => z = i + 1) (fun z => 0) (i + 1) rfl (.cons (t := 12) rfl .nil) (.cons 0 rfl (.cons 0 rfl .nil)) ?_
            intro q hI S' M' hS hM
            try dsimp only at hS hM
            simp only [List.cons_append, List.nil_append] at hS hM
            subst hS hM
            try dsimp only
            refine W.seq ?_
            refine W.sr ?_
            refine L.mv rfl rfl rfl rfl rfl ?_
            refine L.mv rfl rfl rfl rfl rfl ?_
            refine L.p1 rfl rfl rfl (spec_lenS rfl Tryz.underlying9 (Get.tmp rfl)) ?_
            refine L.p1 rfl rfl rfl (spec_lss rfl (Get.tmp rfl) (Get.tmp rfl)) ?_
            refine L.mv rfl rfl rfl rfl rfl ?_
            refine L.op1 rfl rfl (GSpec.guard rfl rfl rfl fun hg => (spec_move rfl (Get.tmp rfl))) ?_
            refine L.op1 rfl rfl (GSpec.guard rfl rfl rfl fun hg => (spec_move rfl (Get.tmp rfl))) ?_
            refine L.op1 rfl rfl (GSpec.guard rfl rfl rfl fun hg => (spec_indexS rfl Tryz.underlying9 (Get.opt rfl hg) (Get.opt rfl hg) (by (have := of_decide_eq_true hg; first | omega | (simp only [txt, List.length_cons, List.length_nil, Int.toNat_natCast] at *; omega))))) ?_
            refine L.op1 rfl rfl (GSpec.guard rfl rfl rfl fun hg => (spec_indexAddrG (k := 1) (zs := spTab) (ke := .u8) rfl Tryz.underlying123 Tryz.sizeOf5 rfl (Get.opt rfl hg) (byte_ix _) (by decide))) ?_
            refine L.op1 rfl rfl (GSpec.guard rfl rfl rfl fun hg => (spec_loadP1 rfl Tryz.isAgg5 (Get.opt rfl hg))) ?_
            refine L.op1 rfl rfl (GSpec.guard rfl rfl rfl fun hg => (spec_neq rfl (Get.opt rfl hg) (Get.cint rfl))) ?_
            refine L.p1 rfl rfl rfl (spec_and rfl (Get.tmp rfl) (fun hb => (Get.opt rfl hb))) ?_
            refine L.nt ?_
            refine W.cond (Get.tmp rfl) (fun h6 => ?_) (fun h6 => ?_)
            · exfalso; have h := h6; subst hI; have hd := hb2.2; simp only [Bool.and_eq_true, decide_eq_true_eq, Bool.not_eq_true', decide_eq_false_iff_not] at h; exact h.2 (hd (by omega))
            · have ph6 := h6; try simp only [sbx] at ph6
              refine W.exit ?_
              refine N.thenExit ?_
              refine N.thenExit ?_
              refine N.blockExit ?_
              refine N.thenW ?_
              subst hI
              refine W.region ?_
              refine L.mv rfl rfl rfl rfl rfl ?_
              refine L.as rfl rfl rfl rfl rfl ?_
              refine L.nil ?_
              refine N.blockNormal ?_
              refine N.roundK (i + 1) ?hI3 ?hmu3 ?hs3 ?hk3 ?hp3
              case hs3 => exact (.cons (t := 12) rfl (.weak (t := 10) rfl (eqI (by first | rfl | (rw [hst]; done) | (rw [hst]; rfl) | (rw [hst]; dsimp only; omega))) (.weak (t := 11) rfl (eqI (by first | rfl | (rw [hst]; done) | (rw [hst]; rfl) | (rw [hst]; dsimp only; omega))) .nil)))
              case hk3 => exact (.cons (t := 0) rfl (.cons (t := 2) rfl (.cons (t := 9) rfl .nil)))
              case hp3 => rw [hst]; exact (.cons 0 rfl (.cons 0 rfl .nil))
              all_goals (first | rfl | trivial | omega | (simp_all; done))
        · have ph4 := h4; try simp only [sbx] at ph4
          refine W.exit ?_
          refine N.thenExit ?_
          refine N.thenExit ?_
          refine N.blockExit ?_
          refine N.thenW ?_
          have hi : i = 13 := by omega
          subst hi
          rw [fA_end]
          dsimp only
          refine W.seq ?_
          refine W.sr ?_
          refine L.mv rfl rfl rfl rfl rfl ?_
          refine L.mv rfl rfl rfl rfl rfl ?_
          refine L.p1 rfl rfl rfl (spec_lenS rfl Tryz.underlying9 (Get.tmp rfl)) ?_
          refine L.p1 rfl rfl rfl (spec_lss rfl (Get.tmp rfl) (Get.tmp rfl)) ?_
          refine L.nt ?_
          refine W.keep (.cons (t := 0) rfl (.cons (t := 2) rfl (.cons (t := 9) rfl (.cons (t := 10) rfl (.cons (t := 11) rfl (.cons (t := 98) rfl .nil)))))) .refl ?_
          refine W.cond (Get.tmp rfl) (fun h7 => ?_) (fun h7 => ?_)
          · have ph7 := h7; try simp only [sbx] at ph7
            refine W.region ?_
            refine L.mv rfl rfl rfl rfl rfl ?_
            refine L.mv rfl rfl rfl rfl rfl ?_
            refine L.mv rfl rfl rfl rfl rfl ?_
            refine L.mv rfl rfl rfl rfl rfl ?_
            refine L.p1 rfl rfl rfl (spec_sliceS rfl Tryz.underlying9 (Get.tmp rfl) (.some (Get.tmp rfl) (by (first | omega | (simp only [txt, List.length_cons, List.length_nil, Int.toNat_natCast]; omega)))) .none (by (first | omega | (simp only [txt, List.length_cons, List.length_nil, Int.toNat_natCast]; omega)))) ?_
            refine L.p1 rfl rfl rfl (spec_indexAddrO (k := 0) (E := eS) rfl Tryz.underlying25 Tryz.sizeOf9 (Get.tmp rfl) (Get.tmp rfl) rfl (by (first | omega | (simp only [txt, List.length_cons, List.length_nil, Int.toNat_natCast]; omega)))) ?_
            refine L.storeO1 (k := 0) (j := 0) (E := eS) (i := ((3 : Nat) : Int).toNat) rfl rfl rfl Tryz.sizeOf9 (fun _ => rfl) (Get.tmp rfl) (Get.tmp rfl) rfl rfl (by decide) (getD_some (by decide)) rfl ?_
            refine L.nt ?_
            refine W.pub (t := 9) (k := 0) rfl rfl (fun _ => rfl) ?_
            refine W.keep (.cons (t := 2) rfl (.cons (t := 9) rfl .nil)) .refl ?_
            refine W.sr ?_
            refine L.mv rfl rfl rfl rfl rfl ?_
            refine L.as rfl rfl rfl rfl rfl ?_
            refine L.nt ?_
            refine W.ret ?_
            refine N.ret () rfl (.tmp (t := 2) (Get.tmp rfl) .nil) (res1 (eqSl ?_)) .nil (fun _ _ h => h)
            rfl
          · exfalso; have h := of_decide_eq_false h7; omega

end Go.Proofs.YthlfacmpjehjmaaGreatDoor
set_option linter.unusedSimpArgs false
set_option maxRecDepth 8000
set_option linter.unusedVariables false
namespace Go.Proofs.YthlfacmpjehjmaaGreatDoor
open Go.Sim
theorem begin_ok (nm : List UInt8) (w : Int) : CallT Tryz.prog 32 [Rp.str nm, Rp.int .i64 w] [spG] (begX nm w) := by
  refine W.enter (fn := Tryz.f32) (n := 28) Tryz.func32 rfl Tryz.ntmps32 rfl (fun w₀ C₀ => ?_)
  simp only [argS]
  refine W.sr ?_
  refine L.p1 rfl rfl rfl (spec_assign rfl Get.cval) ?_
  refine L.nt ?_
  refine W.sr ?_
  refine L.mv rfl rfl rfl rfl rfl ?_
  refine L.p1 rfl rfl rfl (spec_build (Rs := [_, Rp.val (.slice none 0 0), Rp.val (.slice none 0 0), Rp.val (.slice none 0 0), Rp.val (.slice none 0 0)]) rfl ti27 z27v Tryz.underlying27 pl27 (.cons (GetC.one (Get.tmp rfl)) rfl rfl rfl .nil)) ?_
  refine L.p1 rfl rfl rfl (spec_build (Rs := [_, _, _, _, _]) rfl ti111 z111 Tryz.underlying111 pl111 (.cons (GetC.agg (Get.tmp rfl)) rfl rfl rfl .nil)) ?_
  refine L.box rfl rfl (GSpec.plain rfl (spec_box rfl (GetC.agg (Get.tmp rfl)))) (fun r9 => ?_)
  refine L.as rfl rfl rfl rfl rfl ?_
  refine L.nt ?_
  refine W.sr ?_
  refine L.mv rfl rfl rfl rfl rfl ?_
  refine L.p1 rfl rfl rfl (spec_build (Rs := [_, _]) rfl ti84 z84 Tryz.underlying84 pl84 (.cons (GetC.one (Get.cstr (l := [105, 118]) rfl rfl)) rfl rfl rfl (.cons (GetC.one (Get.cint rfl)) rfl rfl rfl .nil))) ?_
  refine L.p1 rfl rfl rfl (spec_build (Rs := [_, _]) rfl ti84 z84 Tryz.underlying84 pl84 (.cons (GetC.one (Get.cstr (l := [105, 116]) rfl rfl)) rfl rfl rfl (.cons (GetC.one (Get.cint rfl)) rfl rfl rfl .nil))) ?_
  refine L.mv rfl rfl rfl rfl rfl ?_
  refine L.p1 rfl rfl rfl (spec_build (Rs := [_, _]) rfl ti84 z84 Tryz.underlying84 pl84 (.cons (GetC.one (Get.cstr (l := [105, 97]) rfl rfl)) rfl rfl rfl (.cons (GetC.one (Get.tmp rfl)) rfl rfl rfl .nil))) ?_
  refine L.mv rfl rfl rfl rfl rfl ?_
  refine L.p1 rfl rfl rfl (spec_build (Rs := [_, _]) rfl ti84 z84 Tryz.underlying84 pl84 (.cons (GetC.one (Get.cstr (l := [105, 98]) rfl rfl)) rfl rfl rfl (.cons (GetC.one (Get.tmp rfl)) rfl rfl rfl .nil))) ?_
  refine L.p1 rfl rfl rfl (spec_build (Rs := [_, _]) rfl ti84 z84 Tryz.underlying84 pl84 (.cons (GetC.one (Get.cstr (l := [111, 114, 100, 121]) rfl rfl)) rfl rfl rfl (.cons (GetC.one (Get.cint rfl)) rfl rfl rfl .nil))) ?_
  refine L.p1 rfl rfl rfl (spec_buildSliceN (xs := (beginD nm w).inputs) (E := eP) rfl Tryz.underlying22 ti84 z84 (by first | decide | simp) rfl (.cons (GetC.agg (Get.tmp rfl)) rfl rfl rfl (.cons (GetC.agg (Get.tmp rfl)) rfl rfl rfl (.cons (GetC.agg (Get.tmp rfl)) rfl rfl rfl (.cons (GetC.agg (Get.tmp rfl)) rfl rfl rfl (.cons (GetC.agg (Get.tmp rfl)) rfl rfl rfl .nil))))) rfl rfl) ?_
  refine L.p1 rfl rfl rfl (spec_nilCheck rfl (Get.tmp rfl)) ?_
  refine L.p1 rfl rfl rfl (spec_fieldAddr (f := 0) (off' := 0) rfl Tryz.underlying111 rfl Tryz.sizeOf27 (Get.tmp rfl) rfl) ?_
  refine L.p1 rfl rfl rfl (spec_fieldAddr (f := 1) (off' := 1) rfl Tryz.underlying27 rfl Tryz.sizeOf22 (Get.tmp rfl) rfl) ?_
  refine L.storeB (k := 0) rfl rfl rfl Tryz.sizeOf22 (Get.tmp rfl) (Get.tmp rfl) rfl rfl ?_
  refine L.nt ?_
  refine W.keep (.cons (t := 4) rfl (.cons (t := 5) rfl .nil)) .refl ?_
  refine W.sr ?_
  refine L.mv rfl rfl rfl rfl rfl ?_
  refine L.p1 rfl rfl rfl (spec_callG (k := 1) rfl Tryz.call75 rfl (fields_ok ) (.cons (Get.cstr (l := [105, 114, 100, 121, 32, 111, 118, 32, 111, 116, 32, 111, 97]) rfl rfl) .nil)) ?_
  refine L.p1 rfl rfl rfl (spec_nilCheck rfl (Get.tmp rfl)) ?_
  refine L.p1 rfl rfl rfl (spec_fieldAddr (f := 0) (off' := 0) rfl Tryz.underlying111 rfl Tryz.sizeOf27 (Get.tmp rfl) rfl) ?_
  refine L.p1 rfl rfl rfl (spec_fieldAddr (f := 4) (off' := 4) rfl Tryz.underlying27 rfl Tryz.sizeOf25 (Get.tmp rfl) rfl) ?_
  refine L.storeB (k := 0) rfl rfl rfl Tryz.sizeOf25 (Get.tmp rfl) (Get.tmp rfl) rfl rfl ?_
  refine L.nt ?_
  refine W.nil 77 6 eWr ?_
  refine W.nil 81 7 eRg ?_
  refine W.sr ?_
  refine L.mv rfl rfl rfl rfl rfl ?_
  refine L.as rfl rfl rfl rfl rfl ?_
  refine L.nt ?_
  refine W.keep (.cons (t := 4) rfl .nil) .refl ?_
  refine W.ret ?_
  refine N.ret (X := (begX nm w)) (r9, .slice none 0 0, .slice none 0 0) rfl (.tmp (t := 4) (Get.tmp rfl) .nil) (res1 (fun _ _ _ h => h)) (.cons 3 rfl (.cons 2 rfl (.cons 1 rfl (.cons 0 rfl .nil)))) (fun _ _ h => h)
  skip

theorem cell_ok (s inp : List UInt8) (i : Nat) (dep : Int) (hi : i ≤ 7) (hd : 1 ≤ dep ∧ dep ≤ 8) (hs : s.length ≤ 10) : CallT Tryz.prog 42 [Rp.str s, Rp.str inp, Rp.int .i64 (i : Nat), Rp.at [Rp.int .i64 dep]] [] (.one (Rp.agg (eX (cellE dep s inp i)))) := by
  refine W.enter (fn := Tryz.f42) (n := 36) Tryz.func42 rfl Tryz.ntmps42 rfl (fun w₀ C₀ => ?_)
  simp only [argS]
  refine W.sr ?_
  refine L.box rfl rfl (GSpec.plain rfl (spec_alloc rfl ti66 z66)) (fun r7 => ?_)
  refine L.nt ?_
  refine W.sr ?_
  refine L.p1 rfl rfl rfl (spec_call rfl Tryz.call36 (num_ok _) (.cons (Get.cint rfl) .nil)) ?_
  refine L.box rfl rfl (GSpec.plain rfl (spec_alloc rfl ti66 z66)) (fun r8 => ?_)
  refine L.storeW (k := 0) rfl rfl rfl Tryz.sizeOf66 (Get.tmp rfl) (Get.tmp rfl) rfl rfl rfl ?_
  refine L.nt ?_
  refine W.seq ?_
  refine W.sr ?_
  refine L.mv rfl rfl rfl rfl rfl ?_
  refine L.p1 rfl rfl rfl (spec_loadP1 rfl Tryz.isAgg3 (Get.tmp rfl)) ?_
  first | refine L.op1 rfl rfl (GSpec.plain rfl (fit_i64 (by omega) (by omega) (spec_sub rfl (Get.tmp rfl) (Get.cint rfl)))) ?_ | refine L.op1 rfl rfl (GSpec.plain rfl (spec_sub rfl (Get.tmp rfl) (Get.cint rfl))) ?_
  refine L.p1 rfl rfl rfl (spec_lss rfl (Get.tmp rfl) (Get.tmp rfl)) ?_
  refine L.nt ?_
  refine W.cond (Get.tmp rfl) (fun h1 => ?_) (fun h1 => ?_)
  · have ph1 := h1; try simp only [sbx] at ph1
    refine W.region ?_
    refine L.mv rfl rfl rfl rfl rfl ?_
    refine L.mv rfl rfl rfl rfl rfl ?_
    first | refine L.op1 rfl rfl (GSpec.plain rfl (fit_i64 (by omega) (by omega) (spec_add rfl (Get.tmp rfl) (Get.cint rfl)))) ?_ | refine L.op1 rfl rfl (GSpec.plain rfl (spec_add rfl (Get.tmp rfl) (Get.cint rfl))) ?_
    refine L.p1 rfl rfl rfl (spec_call rfl Tryz.call43 (indexed_ok _ _ (by omega) (by omega) (by first | decide | omega | (simp; omega))) (.cons (Get.tmp rfl) (.cons (Get.tmp rfl) .nil))) ?_
    refine L.p1 rfl rfl rfl (spec_call rfl Tryz.call35 (ref_ok _) (.cons (Get.tmp rfl) .nil)) ?_
    refine L.storeW (k := 0) rfl rfl rfl Tryz.sizeOf66 (Get.tmp rfl) (Get.tmp rfl) rfl rfl rfl ?_
    refine L.nt ?_
    refine W.keep (.cons (t := 0) rfl (.cons (t := 1) rfl (.cons (t := 2) rfl (.cons (t := 7) rfl (.cons (t := 8) rfl .nil))))) .refl ?_
    refine W.seq ?_
    apply W.any 8 mixed (by kernel_rfl)
    · apply Head.one rfl rfl (GSpec.plain rfl (spec_call rfl Tryz.call35 (ref_ok _) (.cons (Get.cstr (l := [112, 111, 112]) rfl rfl) .nil)))
      apply Head.one rfl rfl (GSpec.plain rfl (spec_loadW (k := 0) rfl Tryz.isAgg66 Tryz.sizeOf66 (Get.tmp rfl) rfl rfl))
      apply Head.one rfl rfl (GSpec.plain rfl (spec_move rfl (Get.tmp rfl)))
      apply Head.one rfl rfl (GSpec.plain rfl (spec_move rfl (Get.tmp rfl)))
      apply Head.one rfl rfl (GSpec.plain rfl (spec_call rfl Tryz.call43 (indexed_ok _ _ (by omega) (by omega) (by first | decide | omega | (simp; omega))) (.cons (Get.tmp rfl) (.cons (Get.tmp rfl) .nil))))
      apply Head.one rfl rfl (GSpec.plain rfl (spec_call rfl Tryz.call35 (ref_ok _) (.cons (Get.tmp rfl) .nil)))
      apply Head.one rfl rfl (GSpec.plain rfl (spec_call rfl Tryz.call44 (when_ok _ _ _) (.cons (Get.tmp rfl) (.cons (Get.tmp rfl) (.cons (Get.tmp rfl) .nil)))))
      apply Head.sink rfl rfl (GSpec.plain rfl (spec_alloc rfl ti66 z66))
      exact Head.nil
    refine Fin.one ?_
    refine Fin.one ?_
    refine Fin.one ?_
    refine Fin.one ?_
    refine Fin.one ?_
    refine Fin.one ?_
    refine Fin.one ?_
    refine Fin.sink (fun (r9 : Nat) => ?_)
    refine Fin.nil ?_
    refine L.storeW (k := 0) rfl rfl rfl Tryz.sizeOf66 (Get.tmp rfl) (Get.tmp rfl) rfl rfl rfl ?_
    refine L.nt ?_
    refine W.keep (.cons (t := 1) rfl (.cons (t := 2) rfl (.cons (t := 7) rfl (.cons (t := 9) rfl .nil)))) .refl ?_
    refine W.seq ?_
    apply W.any 9 mixed (by kernel_rfl)
    · apply Head.one rfl rfl (GSpec.plain rfl (spec_call rfl Tryz.call35 (ref_ok _) (.cons (Get.cstr (l := [112, 117, 115, 104]) rfl rfl) .nil)))
      apply Head.one rfl rfl (GSpec.plain rfl (spec_call rfl Tryz.call35 (ref_ok _) (.cons (Get.cstr (l := [107]) rfl rfl) .nil)))
      apply Head.one rfl rfl (GSpec.plain rfl (spec_move rfl (Get.tmp rfl)))
      apply Head.one rfl rfl (GSpec.plain rfl (spec_call rfl Tryz.call46 (equal_ok _ _) (.cons (Get.tmp rfl) (.cons (Get.tmp rfl) .nil))))
      apply Head.one rfl rfl (GSpec.plain rfl (spec_call rfl Tryz.call45 (both_ok _ _) (.cons (Get.tmp rfl) (.cons (Get.tmp rfl) .nil))))
      apply Head.one rfl rfl (GSpec.plain rfl (spec_move rfl (Get.tmp rfl)))
      apply Head.one rfl rfl (GSpec.plain rfl (spec_call rfl Tryz.call35 (ref_ok _) (.cons (Get.tmp rfl) .nil)))
      apply Head.one rfl rfl (GSpec.plain rfl (spec_loadW (k := 0) rfl Tryz.isAgg66 Tryz.sizeOf66 (Get.tmp rfl) rfl rfl))
      apply Head.one rfl rfl (GSpec.plain rfl (spec_call rfl Tryz.call44 (when_ok _ _ _) (.cons (Get.tmp rfl) (.cons (Get.tmp rfl) (.cons (Get.tmp rfl) .nil)))))
      exact Head.nil
    refine Fin.one ?_
    refine Fin.one ?_
    refine Fin.one ?_
    refine Fin.one ?_
    refine Fin.one ?_
    refine Fin.one ?_
    refine Fin.one ?_
    refine Fin.one ?_
    refine Fin.one ?_
    refine Fin.nil ?_
    refine L.storeW (k := 2) rfl rfl rfl Tryz.sizeOf66 (Get.tmp rfl) (Get.tmp rfl) rfl rfl rfl ?_
    refine L.nt ?_
    refine W.keep (.cons (t := 7) rfl .nil) .refl ?_
    refine W.ret ?_
    refine N.ret () rfl (.cellA (k := 2) (Get.tmp (t := 7) rfl) rfl Tryz.isAgg66 Tryz.sizeOf66 rfl .nil) (res1 (eqA ?_)) .nil (fun _ _ h => h)
    unfold cellE; rw [if_pos (by have h := of_decide_eq_true h1; omega)]; rfl
  · have ph1 := h1; try simp only [sbx] at ph1
    refine W.skip ?_
    refine N.thenW ?_
    refine W.seq ?_
    apply W.any 8 mixed (by kernel_rfl)
    · apply Head.one rfl rfl (GSpec.plain rfl (spec_call rfl Tryz.call35 (ref_ok _) (.cons (Get.cstr (l := [112, 111, 112]) rfl rfl) .nil)))
      apply Head.one rfl rfl (GSpec.plain rfl (spec_loadW (k := 0) rfl Tryz.isAgg66 Tryz.sizeOf66 (Get.tmp rfl) rfl rfl))
      apply Head.one rfl rfl (GSpec.plain rfl (spec_move rfl (Get.tmp rfl)))
      apply Head.one rfl rfl (GSpec.plain rfl (spec_move rfl (Get.tmp rfl)))
      apply Head.one rfl rfl (GSpec.plain rfl (spec_call rfl Tryz.call43 (indexed_ok _ _ (by omega) (by omega) (by first | decide | omega | (simp; omega))) (.cons (Get.tmp rfl) (.cons (Get.tmp rfl) .nil))))
      apply Head.one rfl rfl (GSpec.plain rfl (spec_call rfl Tryz.call35 (ref_ok _) (.cons (Get.tmp rfl) .nil)))
      apply Head.one rfl rfl (GSpec.plain rfl (spec_call rfl Tryz.call44 (when_ok _ _ _) (.cons (Get.tmp rfl) (.cons (Get.tmp rfl) (.cons (Get.tmp rfl) .nil)))))
      apply Head.sink rfl rfl (GSpec.plain rfl (spec_alloc rfl ti66 z66))
      exact Head.nil
    refine Fin.one ?_
    refine Fin.one ?_
    refine Fin.one ?_
    refine Fin.one ?_
    refine Fin.one ?_
    refine Fin.one ?_
    refine Fin.one ?_
    refine Fin.sink (fun (r9 : Nat) => ?_)
    refine Fin.nil ?_
    refine L.storeW (k := 0) rfl rfl rfl Tryz.sizeOf66 (Get.tmp rfl) (Get.tmp rfl) rfl rfl rfl ?_
    refine L.nt ?_
    refine W.keep (.cons (t := 1) rfl (.cons (t := 2) rfl (.cons (t := 7) rfl (.cons (t := 9) rfl .nil)))) .refl ?_
    refine W.seq ?_
    apply W.any 9 mixed (by kernel_rfl)
    · apply Head.one rfl rfl (GSpec.plain rfl (spec_call rfl Tryz.call35 (ref_ok _) (.cons (Get.cstr (l := [112, 117, 115, 104]) rfl rfl) .nil)))
      apply Head.one rfl rfl (GSpec.plain rfl (spec_call rfl Tryz.call35 (ref_ok _) (.cons (Get.cstr (l := [107]) rfl rfl) .nil)))
      apply Head.one rfl rfl (GSpec.plain rfl (spec_move rfl (Get.tmp rfl)))
      apply Head.one rfl rfl (GSpec.plain rfl (spec_call rfl Tryz.call46 (equal_ok _ _) (.cons (Get.tmp rfl) (.cons (Get.tmp rfl) .nil))))
      apply Head.one rfl rfl (GSpec.plain rfl (spec_call rfl Tryz.call45 (both_ok _ _) (.cons (Get.tmp rfl) (.cons (Get.tmp rfl) .nil))))
      apply Head.one rfl rfl (GSpec.plain rfl (spec_move rfl (Get.tmp rfl)))
      apply Head.one rfl rfl (GSpec.plain rfl (spec_call rfl Tryz.call35 (ref_ok _) (.cons (Get.tmp rfl) .nil)))
      apply Head.one rfl rfl (GSpec.plain rfl (spec_loadW (k := 0) rfl Tryz.isAgg66 Tryz.sizeOf66 (Get.tmp rfl) rfl rfl))
      apply Head.one rfl rfl (GSpec.plain rfl (spec_call rfl Tryz.call44 (when_ok _ _ _) (.cons (Get.tmp rfl) (.cons (Get.tmp rfl) (.cons (Get.tmp rfl) .nil)))))
      exact Head.nil
    refine Fin.one ?_
    refine Fin.one ?_
    refine Fin.one ?_
    refine Fin.one ?_
    refine Fin.one ?_
    refine Fin.one ?_
    refine Fin.one ?_
    refine Fin.one ?_
    refine Fin.one ?_
    refine Fin.nil ?_
    refine L.storeW (k := 2) rfl rfl rfl Tryz.sizeOf66 (Get.tmp rfl) (Get.tmp rfl) rfl rfl rfl ?_
    refine L.nt ?_
    refine W.keep (.cons (t := 7) rfl .nil) .refl ?_
    refine W.ret ?_
    refine N.ret () rfl (.cellA (k := 2) (Get.tmp (t := 7) rfl) rfl Tryz.isAgg66 Tryz.sizeOf66 rfl .nil) (res1 (eqA ?_)) .nil (fun _ _ h => h)
    unfold cellE; rw [if_neg (by have h := of_decide_eq_false h1; omega)]; rfl

end Go.Proofs.YthlfacmpjehjmaaGreatDoor
set_option linter.unusedSimpArgs false
set_option maxRecDepth 8000
set_option linter.unusedVariables false
namespace Go.Proofs.YthlfacmpjehjmaaGreatDoor
open Go.Sim
theorem moves_ok (c : Ex) (a b : List UInt8) : CallT Tryz.prog 58 [Rp.agg (eX c), Rp.str a, Rp.str b] [] (.one (Rp.agg (eX (moveE c a b)))) := by
  refine W.enter (fn := Tryz.f58) (n := 13) Tryz.func58 rfl Tryz.ntmps58 rfl (fun w₀ C₀ => ?_)
  simp only [argS]
  refine W.sr ?_
  refine L.box rfl rfl (GSpec.plain rfl (spec_box rfl (GetC.agg (Get.tmp rfl)))) (fun r3 => ?_)
  refine L.box rfl rfl (GSpec.plain rfl (spec_alloc rfl ti66 z66)) (fun r6 => ?_)
  refine L.nt ?_
  refine W.seq ?_
  apply W.any 6 mixed (by kernel_rfl)
  · apply Head.one rfl rfl (GSpec.plain rfl (spec_loadW (k := 1) rfl Tryz.isAgg66 Tryz.sizeOf66 (Get.tmp rfl) rfl rfl))
    apply Head.one rfl rfl (GSpec.plain rfl (spec_move rfl (Get.tmp rfl)))
    apply Head.one rfl rfl (GSpec.plain rfl (spec_call rfl Tryz.call35 (ref_ok _) (.cons (Get.tmp rfl) .nil)))
    apply Head.one rfl rfl (GSpec.plain rfl (spec_move rfl (Get.tmp rfl)))
    apply Head.one rfl rfl (GSpec.plain rfl (spec_call rfl Tryz.call35 (ref_ok _) (.cons (Get.tmp rfl) .nil)))
    apply Head.one rfl rfl (GSpec.plain rfl (spec_call rfl Tryz.call44 (when_ok _ _ _) (.cons (Get.tmp rfl) (.cons (Get.tmp rfl) (.cons (Get.tmp rfl) .nil)))))
    exact Head.nil
  refine Fin.one ?_
  refine Fin.one ?_
  refine Fin.one ?_
  refine Fin.one ?_
  refine Fin.one ?_
  refine Fin.one ?_
  refine Fin.nil ?_
  refine L.storeW (k := 0) rfl rfl rfl Tryz.sizeOf66 (Get.tmp rfl) (Get.tmp rfl) rfl rfl rfl ?_
  refine L.nt ?_
  refine W.keep (.cons (t := 6) rfl .nil) .refl ?_
  refine W.ret ?_
  refine N.ret () rfl (.cellA (k := 0) (Get.tmp (t := 6) rfl) rfl Tryz.isAgg66 Tryz.sizeOf66 rfl .nil) (res1 (eqA ?_)) .nil (fun _ _ h => h)
  rfl

theorem take_ok (r : Nat) (s : List UInt8) : CallT Tryz.prog 59 [Rp.ptr r 0] [MF.box r 9 [Rp.str s]] (takeX r s) := by
  refine W.enter (fn := Tryz.f59) (n := 6) Tryz.func59 rfl Tryz.ntmps59 rfl (fun w₀ C₀ => ?_)
  simp only [argS]
  refine W.sr ?_
  refine L.box rfl rfl (GSpec.plain rfl (spec_alloc rfl ti66 z66)) (fun r1 => ?_)
  refine L.nt ?_
  refine W.seq ?_
  apply W.any 4 mixed (by kernel_rfl)
  · apply Head.one rfl rfl (GSpec.plain rfl (spec_call rfl Tryz.call35 (ref_ok _) (.cons (Get.cstr (l := [103, 111]) rfl rfl) .nil)))
    apply Head.one rfl rfl (GSpec.plain rfl (spec_load1 (k := 1) rfl Tryz.isAgg9 (Get.tmp rfl) rfl rfl))
    apply Head.one rfl rfl (GSpec.plain rfl (spec_call rfl Tryz.call35 (ref_ok _) (.cons (Get.tmp rfl) .nil)))
    apply Head.one rfl rfl (GSpec.plain rfl (spec_call rfl Tryz.call45 (both_ok _ _) (.cons (Get.tmp rfl) (.cons (Get.tmp rfl) .nil))))
    exact Head.nil
  refine Fin.one ?_
  refine Fin.one ?_
  refine Fin.one ?_
  refine Fin.one ?_
  refine Fin.nil ?_
  refine L.storeW (k := 0) rfl rfl rfl Tryz.sizeOf66 (Get.tmp rfl) (Get.tmp rfl) rfl rfl rfl ?_
  refine L.nt ?_
  refine W.ret ?_
  refine N.ret (X := (takeX r s)) () rfl (.cellA (k := 0) (Get.tmp (t := 1) rfl) rfl Tryz.isAgg66 Tryz.sizeOf66 rfl .nil) (res1 (eqA ?_)) (.cons 1 rfl .nil) (fun _ _ h => h)
  all_goals first | rfl | skip

theorem delay_ok (k w : Int) (hk : 1 ≤ k ∧ k ≤ 8) (hw : 1 ≤ w ∧ w ≤ 8) : CallT Tryz.prog 16 [Rp.int .i64 k, Rp.int .i64 w] [spG] (.one (Rp.tuple [Rp.agg (eD (delayD k.toNat w)), Rp.int .i64 0])) := by
  refine W.enter (fn := Tryz.f16) (n := 103) Tryz.func16 rfl Tryz.ntmps16 rfl (fun w₀ C₀ => ?_)
  simp only [argS]
  obtain ⟨m, rfl⟩ : ∃ m : Nat, k = (m : Int) := ⟨k.toNat, by omega⟩
  refine W.sr ?_
  refine L.box rfl rfl (GSpec.plain rfl (spec_alloc rfl ti27 z27)) (fun r4 => ?_)
  refine L.p1 rfl rfl rfl (spec_assign rfl (Get.cint rfl)) ?_
  refine L.nt ?_
  refine W.seq ?_
  refine W.sr ?_
  refine L.mv rfl rfl rfl rfl rfl ?_
  refine L.p1 rfl rfl rfl (spec_call rfl Tryz.call31 (within_ok _) (.cons (Get.tmp rfl) .nil)) ?_
  refine L.p1 rfl rfl rfl (spec_not rfl (Get.tmp rfl)) ?_
  refine L.mv rfl rfl rfl rfl rfl ?_
  refine L.op1 rfl rfl (GSpec.guard rfl rfl rfl fun hg => (spec_move rfl (Get.tmp rfl))) ?_
  refine L.op1 rfl rfl (GSpec.guard rfl rfl rfl fun hg => (spec_call rfl Tryz.call31 (within_ok _) (.cons (Get.opt rfl hg) .nil))) ?_
  refine L.op1 rfl rfl (GSpec.guard rfl rfl rfl fun hg => (spec_not rfl (Get.opt rfl hg))) ?_
  refine L.p1 rfl rfl rfl (spec_or rfl (Get.tmp rfl) (fun hb => (Get.opt rfl hb))) ?_
  refine L.nt ?_
  refine W.keep (.cons (t := 0) rfl (.cons (t := 1) rfl (.cons (t := 4) rfl (.cons (t := 5) rfl (.cons (t := 21) rfl .nil))))) .refl ?_
  refine W.cond (Get.tmp rfl) (fun h1 => ?_) (fun h1 => ?_)
  · exfalso; have h := h1; simp only [show decide (1 ≤ (m : Int)) = true from decide_eq_true hk.1, show decide ((m : Int) ≤ 8) = true from decide_eq_true hk.2, show decide (1 ≤ w) = true from decide_eq_true hw.1, show decide (w ≤ 8) = true from decide_eq_true hw.2] at h; revert h; decide
  · have ph1 := h1; try simp only [sbx] at ph1
    refine W.skip ?_
    refine N.thenW ?_
    refine W.sr ?_
    refine L.mv rfl rfl rfl rfl rfl ?_
    refine L.call rfl rfl rfl rfl Tryz.call32 (begin_ok _ _) (.cons 1 rfl .refl) (.cons (Get.cstr (l := [100, 101, 108, 97, 121]) rfl rfl) (.cons (Get.tmp rfl) .nil)) (fun v24 => ?_)
    try dsimp only
    refine L.as rfl rfl rfl rfl rfl ?_
    refine L.nt ?_
    refine W.sr ?_
    refine L.mv rfl rfl rfl rfl rfl ?_
    first | refine L.op1 rfl rfl (GSpec.plain rfl (fit_i64 (by omega) (by omega) (spec_sub rfl (Get.tmp rfl) (Get.cint rfl)))) ?_ | refine L.op1 rfl rfl (GSpec.plain rfl (spec_sub rfl (Get.tmp rfl) (Get.cint rfl))) ?_
    refine L.p1 rfl rfl rfl (spec_call rfl Tryz.call43 (indexed_ok _ _ (by omega) (by omega) (by first | decide | omega | (simp; omega))) (.cons (Get.cstr (l := [118]) rfl rfl) (.cons (Get.tmp rfl) .nil))) ?_
    refine L.p1 rfl rfl rfl (spec_call rfl Tryz.call35 (ref_ok _) (.cons (Get.tmp rfl) .nil)) ?_
    refine L.box rfl rfl (GSpec.plain rfl (spec_alloc rfl ti66 z66)) (fun r7 => ?_)
    refine L.storeW (k := 0) rfl rfl rfl Tryz.sizeOf66 (Get.tmp rfl) (Get.tmp rfl) rfl rfl rfl ?_
    refine L.nt ?_
    refine W.keep (.cons (t := 0) rfl (.cons (t := 1) rfl (.cons (t := 4) rfl (.cons (t := 5) rfl (.cons (t := 6) rfl (.cons (t := 7) rfl .nil)))))) .refl ?_
    refine W.sr ?_
    refine L.mv rfl rfl rfl rfl rfl ?_
    refine L.p1 rfl rfl rfl (spec_loadW (k := 0) rfl Tryz.isAgg66 Tryz.sizeOf66 (Get.tmp rfl) rfl rfl) ?_
    refine L.p1 rfl rfl rfl (spec_call rfl Tryz.call57 (not_ok _) (.cons (Get.tmp rfl) .nil)) ?_
    refine L.p1 rfl rfl rfl (spec_call rfl Tryz.call35 (ref_ok _) (.cons (Get.cstr (l := [111, 114, 100, 121]) rfl rfl) .nil)) ?_
    refine L.p1 rfl rfl rfl (spec_call rfl Tryz.call56 (either_ok _ _) (.cons (Get.tmp rfl) (.cons (Get.tmp rfl) .nil))) ?_
    refine L.call rfl rfl rfl rfl Tryz.call33 (wireB_ok _ _ _ _ _ _ (by first | omega | (simp only [addW, addR, pushD, popD, stageD, queue0, delay0, swapW, swap0, beginD, List.length_append, List.length_cons, List.length_nil]; omega) | decide)) (.cons 2 rfl (.cons 2 rfl (.cons 2 rfl .refl))) (.cons (Get.tmp rfl) (.cons (Get.cstr (l := [103, 111]) rfl rfl) (.cons (Get.cint rfl) (.cons (Get.tmp rfl) .nil)))) (fun v34 => ?_)
    try dsimp only
    refine L.nt ?_
    refine W.keep (.cons (t := 0) rfl (.cons (t := 1) rfl (.cons (t := 4) rfl (.cons (t := 5) rfl (.cons (t := 6) rfl (.cons (t := 7) rfl .nil)))))) .refl ?_
    refine W.sr ?_
    refine L.mv rfl rfl rfl rfl rfl ?_
    refine L.p1 rfl rfl rfl (spec_call rfl Tryz.call35 (ref_ok _) (.cons (Get.cstr (l := [103, 111]) rfl rfl) .nil)) ?_
    refine L.call rfl rfl rfl rfl Tryz.call33 (wireB_ok _ _ _ _ _ _ (by first | omega | (simp only [addW, addR, pushD, popD, stageD, queue0, delay0, swapW, swap0, beginD, List.length_append, List.length_cons, List.length_nil]; omega) | decide)) (.cons 0 rfl (.cons 0 rfl (.cons 0 rfl .refl))) (.cons (Get.tmp rfl) (.cons (Get.cstr (l := [105, 114, 100, 121]) rfl rfl) (.cons (Get.cint rfl) (.cons (Get.tmp rfl) .nil)))) (fun v37 => ?_)
    try dsimp only
    refine L.nt ?_
    refine W.sr ?_
    refine L.mv rfl rfl rfl rfl rfl ?_
    refine L.p1 rfl rfl rfl (spec_loadW (k := 3) rfl Tryz.isAgg66 Tryz.sizeOf66 (Get.tmp rfl) rfl rfl) ?_
    refine L.call rfl rfl rfl rfl Tryz.call33 (wireB_ok _ _ _ _ _ _ (by first | omega | (simp only [addW, addR, pushD, popD, stageD, queue0, delay0, swapW, swap0, beginD, List.length_append, List.length_cons, List.length_nil]; omega) | decide)) (.cons 0 rfl (.cons 0 rfl (.cons 0 rfl .refl))) (.cons (Get.tmp rfl) (.cons (Get.cstr (l := [111, 118]) rfl rfl) (.cons (Get.cint rfl) (.cons (Get.tmp rfl) .nil)))) (fun v40 => ?_)
    try dsimp only
    refine L.nt ?_
    refine W.keep (.cons (t := 0) rfl (.cons (t := 1) rfl (.cons (t := 4) rfl (.cons (t := 5) rfl (.cons (t := 6) rfl .nil))))) .refl ?_
    refine W.sr ?_
    refine L.mv rfl rfl rfl rfl rfl ?_
    refine L.mv rfl rfl rfl rfl rfl ?_
    first | refine L.op1 rfl rfl (GSpec.plain rfl (fit_i64 (by omega) (by omega) (spec_sub rfl (Get.tmp rfl) (Get.cint rfl)))) ?_ | refine L.op1 rfl rfl (GSpec.plain rfl (spec_sub rfl (Get.tmp rfl) (Get.cint rfl))) ?_
    refine L.p1 rfl rfl rfl (spec_call rfl Tryz.call43 (indexed_ok _ _ (by omega) (by omega) (by first | decide | omega | (simp; omega))) (.cons (Get.cstr (l := [116]) rfl rfl) (.cons (Get.tmp rfl) .nil))) ?_
    refine L.p1 rfl rfl rfl (spec_call rfl Tryz.call35 (ref_ok _) (.cons (Get.tmp rfl) .nil)) ?_
    refine L.call rfl rfl rfl rfl Tryz.call33 (wireB_ok _ _ _ _ _ _ (by first | omega | (simp only [addW, addR, pushD, popD, stageD, queue0, delay0, swapW, swap0, beginD, List.length_append, List.length_cons, List.length_nil]; omega) | decide)) (.cons 0 rfl (.cons 0 rfl (.cons 0 rfl .refl))) (.cons (Get.tmp rfl) (.cons (Get.cstr (l := [111, 116]) rfl rfl) (.cons (Get.cint rfl) (.cons (Get.tmp rfl) .nil)))) (fun v46 => ?_)
    try dsimp only
    refine L.nt ?_
    refine W.keep (.cons (t := 0) rfl (.cons (t := 1) rfl (.cons (t := 4) rfl (.cons (t := 5) rfl (.cons (t := 6) rfl .nil))))) .refl ?_
    refine W.sr ?_
    refine L.mv rfl rfl rfl rfl rfl ?_
    refine L.mv rfl rfl rfl rfl rfl ?_
    refine L.mv rfl rfl rfl rfl rfl ?_
    first | refine L.op1 rfl rfl (GSpec.plain rfl (fit_i64 (by omega) (by omega) (spec_sub rfl (Get.tmp rfl) (Get.cint rfl)))) ?_ | refine L.op1 rfl rfl (GSpec.plain rfl (spec_sub rfl (Get.tmp rfl) (Get.cint rfl))) ?_
    refine L.p1 rfl rfl rfl (spec_call rfl Tryz.call43 (indexed_ok _ _ (by omega) (by omega) (by first | decide | omega | (simp; omega))) (.cons (Get.cstr (l := [97]) rfl rfl) (.cons (Get.tmp rfl) .nil))) ?_
    refine L.p1 rfl rfl rfl (spec_call rfl Tryz.call35 (ref_ok _) (.cons (Get.tmp rfl) .nil)) ?_
    refine L.call rfl rfl rfl rfl Tryz.call33 (wireB_ok _ _ _ _ _ _ (by first | omega | (simp only [addW, addR, pushD, popD, stageD, queue0, delay0, swapW, swap0, beginD, List.length_append, List.length_cons, List.length_nil]; omega) | decide)) (.cons 0 rfl (.cons 0 rfl (.cons 0 rfl .refl))) (.cons (Get.tmp rfl) (.cons (Get.cstr (l := [111, 97]) rfl rfl) (.cons (Get.tmp rfl) (.cons (Get.tmp rfl) .nil)))) (fun v53 => ?_)
    try dsimp only
    refine L.nt ?_
    refine W.keep (.cons (t := 0) rfl (.cons (t := 1) rfl (.cons (t := 4) rfl (.cons (t := 5) rfl (.cons (t := 6) rfl .nil))))) .refl ?_
    refine W.sr ?_
    refine L.box rfl rfl (GSpec.plain rfl (spec_alloc rfl ti9 z9)) (fun r8 => ?_)
    refine L.storeB (k := 0) rfl rfl rfl Tryz.sizeOf9 (Get.tmp rfl) (Get.cstr (l := [105, 118]) rfl rfl) rfl rfl ?_
    refine L.p1 rfl rfl rfl (spec_assign rfl (Get.cstr (l := [105, 116]) rfl rfl)) ?_
    refine L.p1 rfl rfl rfl (spec_assign rfl (Get.cstr (l := [105, 97]) rfl rfl)) ?_
    refine L.nt ?_
    refine W.seq ?_
    refine W.sr ?_
    refine L.mv rfl rfl rfl rfl rfl ?_
    refine L.p1 rfl rfl rfl (spec_move rfl (Get.cint rfl)) ?_
    refine L.nt ?_
    refine W.block ?_
    refine W.loopK (σ := Nat × (Value × Value)) (.cons (t := 1) rfl (.cons (t := 4) rfl (.cons (t := 5) rfl (.cons (t := 6) rfl (.cons (t := 8) rfl (.cons (t := 54) rfl .nil)))))) (fun z => [(55, Rp.int .i64 (z.1 : Nat)), (9, Rp.str (fromE sT sIt z.1)), (10, Rp.str (fromE sA sIa z.1))]) (fun z => [MF.box v24.1 111 (bdR (stagesD m w z.1) z.2), MF.osl z.2.1 77 6 eWr (stagesD m w z.1).wires, MF.osl z.2.2 81 7 eRg (stagesD m w z.1).regs, MF.box r8 9 [Rp.str (fromE sV sIv z.1)]]) (fun z => z.1 ≤ m) (fun z => m - z.1) (0, v53) (Nat.zero_le _) (.cons (t := 55) rfl (.cons (t := 9) rfl (.cons (t := 10) rfl .nil))) (.cons 1 rfl (.cons 1 rfl (.cons 1 rfl (.cons 0 rfl (.cons 0 rfl (.cons 0 rfl (.cons 0 rfl .nil))))))) ?_
    intro ⟨i, vp⟩ hI S' M' hS hM
    try dsimp only at hS hM
    simp only [List.cons_append, List.nil_append] at hS hM
    subst hS hM
    try dsimp only
    try dsimp only at hI
    have hcl := stages_len m w i
    refine W.sr ?_
    refine L.p1 rfl rfl rfl (spec_lss rfl (Get.tmp rfl) (Get.tmp rfl)) ?_
    refine L.nt ?_
    refine W.seq ?_
    refine W.cond (Get.tmp rfl) (fun h2 => ?_) (fun h2 => ?_)
    · have ph2 := h2; try simp only [sbx] at ph2
      refine W.skip ?_
      refine N.thenW ?_
      refine W.seq ?_
      refine W.block ?_
      refine W.sr ?_
      refine L.mv rfl rfl rfl rfl rfl ?_
      refine L.as rfl rfl rfl rfl rfl ?_
      refine L.nt ?_
      refine W.sr ?_
      refine L.p1 rfl rfl rfl (spec_assign rfl Get.clo) ?_
      refine L.nt ?_
      refine W.sr ?_
      refine L.p1 rfl rfl rfl (spec_makeFunc rfl (.cons (Get.tmp rfl) .nil)) ?_
      refine L.as rfl rfl rfl rfl rfl ?_
      refine L.nt ?_
      refine W.seq ?_
      apply W.any 9 mixed (by kernel_rfl)
      · apply Head.one rfl rfl (GSpec.plain rfl (spec_move rfl (Get.tmp rfl)))
        apply Head.one rfl rfl (GSpec.plain rfl (spec_move rfl (Get.tmp rfl)))
        apply Head.one rfl rfl (GSpec.plain rfl (spec_call rfl Tryz.call43 (indexed_ok _ _ (by omega) (by omega) (by first | decide | omega | (simp; omega))) (.cons (Get.cstr (l := [118]) rfl rfl) (.cons (Get.tmp rfl) .nil))))
        apply Head.one rfl rfl (GSpec.plain rfl (spec_move rfl (Get.tmp rfl)))
        apply Head.one rfl rfl (GSpec.plain rfl (spec_call rfl Tryz.call35 (ref_ok _) (.cons (Get.cstr (l := [103, 111]) rfl rfl) .nil)))
        apply Head.one rfl rfl (GSpec.plain rfl (spec_load1 (k := 3) rfl Tryz.isAgg9 (Get.tmp rfl) rfl rfl))
        apply Head.one rfl rfl (GSpec.plain rfl (spec_move rfl (Get.tmp rfl)))
        apply Head.one rfl rfl (GSpec.plain rfl (spec_call rfl Tryz.call43 (indexed_ok _ _ (by omega) (by omega) (by first | decide | omega | (simp; omega))) (.cons (Get.cstr (l := [118]) rfl rfl) (.cons (Get.tmp rfl) .nil))))
        apply Head.one rfl rfl (GSpec.plain rfl (spec_callC (A := [_, _, _]) rfl (Get.tmp rfl) Tryz.call58 (moves_ok _ _ _) (.cons (Get.tmp rfl) (.cons (Get.tmp rfl) (.cons (Get.tmp rfl) .nil)))))
        exact Head.nil
      refine Fin.one ?_
      refine Fin.one ?_
      refine Fin.one ?_
      refine Fin.one ?_
      refine Fin.one ?_
      refine Fin.one ?_
      refine Fin.one ?_
      refine Fin.one ?_
      refine Fin.one ?_
      refine Fin.nil ?_
      refine L.call rfl rfl rfl rfl Tryz.call40 (regB_ok _ _ _ _ _ _ (by first | omega | (simp only [addW, addR, pushD, popD, stageD, queue0, delay0, swapW, swap0, beginD, List.length_append, List.length_cons, List.length_nil]; omega) | decide)) (.cons 0 rfl (.cons 0 rfl (.cons 0 rfl .refl))) (.cons (Get.tmp rfl) (.cons (Get.tmp rfl) (.cons (Get.cint rfl) (.cons (Get.tmp rfl) .nil)))) (fun v68 => ?_)
      try dsimp only
      refine L.nt ?_
      refine W.sr ?_
      refine L.mv rfl rfl rfl rfl rfl ?_
      refine L.mv rfl rfl rfl rfl rfl ?_
      refine L.p1 rfl rfl rfl (spec_call rfl Tryz.call43 (indexed_ok _ _ (by omega) (by omega) (by first | decide | omega | (simp; omega))) (.cons (Get.cstr (l := [116]) rfl rfl) (.cons (Get.tmp rfl) .nil))) ?_
      refine L.mv rfl rfl rfl rfl rfl ?_
      refine L.mv rfl rfl rfl rfl rfl ?_
      refine L.callC (A := []) rfl rfl rfl rfl (Get.tmp rfl) Tryz.call59 (take_ok _ _) (.cons 3 rfl .refl) .nil (fun _u => ?_)
      try dsimp only
      refine L.mv rfl rfl rfl rfl rfl ?_
      refine L.mv rfl rfl rfl rfl rfl ?_
      refine L.p1 rfl rfl rfl (spec_call rfl Tryz.call43 (indexed_ok _ _ (by omega) (by omega) (by first | decide | omega | (simp; omega))) (.cons (Get.cstr (l := [116]) rfl rfl) (.cons (Get.tmp rfl) .nil))) ?_
      refine L.p1 rfl rfl rfl (spec_callC (A := [_, _, _]) rfl (Get.tmp rfl) Tryz.call58 (moves_ok _ _ _) (.cons (Get.tmp rfl) (.cons (Get.tmp rfl) (.cons (Get.tmp rfl) .nil)))) ?_
      refine L.call rfl rfl rfl rfl Tryz.call40 (regB_ok _ _ _ _ _ _ (by first | omega | (simp only [addW, addR, pushD, popD, stageD, queue0, delay0, swapW, swap0, beginD, List.length_append, List.length_cons, List.length_nil]; omega) | decide)) (.cons 1 rfl (.cons 1 rfl (.cons 1 rfl .refl))) (.cons (Get.tmp rfl) (.cons (Get.tmp rfl) (.cons (Get.cint rfl) (.cons (Get.tmp rfl) .nil)))) (fun v79 => ?_)
      try dsimp only
      refine L.nt ?_
      refine W.sr ?_
      refine L.mv rfl rfl rfl rfl rfl ?_
      refine L.mv rfl rfl rfl rfl rfl ?_
      refine L.p1 rfl rfl rfl (spec_call rfl Tryz.call43 (indexed_ok _ _ (by omega) (by omega) (by first | decide | omega | (simp; omega))) (.cons (Get.cstr (l := [97]) rfl rfl) (.cons (Get.tmp rfl) .nil))) ?_
      refine L.mv rfl rfl rfl rfl rfl ?_
      refine L.mv rfl rfl rfl rfl rfl ?_
      refine L.mv rfl rfl rfl rfl rfl ?_
      refine L.callC (A := []) rfl rfl rfl rfl (Get.tmp rfl) Tryz.call59 (take_ok _ _) (.cons 3 rfl .refl) .nil (fun _u => ?_)
      try dsimp only
      refine L.mv rfl rfl rfl rfl rfl ?_
      refine L.mv rfl rfl rfl rfl rfl ?_
      refine L.p1 rfl rfl rfl (spec_call rfl Tryz.call43 (indexed_ok _ _ (by omega) (by omega) (by first | decide | omega | (simp; omega))) (.cons (Get.cstr (l := [97]) rfl rfl) (.cons (Get.tmp rfl) .nil))) ?_
      refine L.p1 rfl rfl rfl (spec_callC (A := [_, _, _]) rfl (Get.tmp rfl) Tryz.call58 (moves_ok _ _ _) (.cons (Get.tmp rfl) (.cons (Get.tmp rfl) (.cons (Get.tmp rfl) .nil)))) ?_
      refine L.call rfl rfl rfl rfl Tryz.call40 (regB_ok _ _ _ _ _ _ (by first | omega | (simp only [addW, addR, pushD, popD, stageD, queue0, delay0, swapW, swap0, beginD, List.length_append, List.length_cons, List.length_nil]; omega) | decide)) (.cons 1 rfl (.cons 1 rfl (.cons 1 rfl .refl))) (.cons (Get.tmp rfl) (.cons (Get.tmp rfl) (.cons (Get.tmp rfl) (.cons (Get.tmp rfl) .nil)))) (fun v91 => ?_)
      try dsimp only
      refine L.nt ?_
      refine W.region ?_
      refine L.mv rfl rfl rfl rfl rfl ?_
      refine L.p1 rfl rfl rfl (spec_call rfl Tryz.call43 (indexed_ok _ _ (by omega) (by omega) (by first | decide | omega | (simp; omega))) (.cons (Get.cstr (l := [118]) rfl rfl) (.cons (Get.tmp rfl) .nil))) ?_
      refine L.mv rfl rfl rfl rfl rfl ?_
      refine L.p1 rfl rfl rfl (spec_call rfl Tryz.call43 (indexed_ok _ _ (by omega) (by omega) (by first | decide | omega | (simp; omega))) (.cons (Get.cstr (l := [116]) rfl rfl) (.cons (Get.tmp rfl) .nil))) ?_
      refine L.mv rfl rfl rfl rfl rfl ?_
      refine L.p1 rfl rfl rfl (spec_call rfl Tryz.call43 (indexed_ok _ _ (by omega) (by omega) (by first | decide | omega | (simp; omega))) (.cons (Get.cstr (l := [97]) rfl rfl) (.cons (Get.tmp rfl) .nil))) ?_
      refine L.storeB (k := 3) rfl rfl rfl Tryz.sizeOf9 (Get.tmp rfl) (Get.tmp rfl) rfl rfl ?_
      refine L.as rfl rfl rfl rfl rfl ?_
      refine L.as rfl rfl rfl rfl rfl ?_
      refine L.nil ?_
      refine N.blockNormal ?_
      refine N.thenW ?_
      refine W.region ?_
      first | refine L.op1 rfl rfl (GSpec.plain rfl (fit_i64 (by omega) (by omega) (spec_add rfl (Get.tmp rfl) (Get.cint rfl)))) ?_ | refine L.op1 rfl rfl (GSpec.plain rfl (spec_add rfl (Get.tmp rfl) (Get.cint rfl))) ?_
      refine L.mv rfl rfl rfl rfl rfl ?_
      refine L.nil ?_
      refine N.roundK (i + 1, v91) ?hI1 ?hmu1 ?hs1 ?hk1 ?hp1
      case hs1 => exact (.cons (t := 55) rfl (.weak (t := 9) rfl (eqS (by rfl)) (.weak (t := 10) rfl (eqS (by rfl)) .nil)))
      case hk1 => exact (.cons (t := 1) rfl (.cons (t := 4) rfl (.cons (t := 5) rfl (.cons (t := 6) rfl (.cons (t := 8) rfl (.cons (t := 54) rfl .nil))))))
      case hp1 => exact (.cons 0 rfl (.cons 0 rfl (.cons 0 rfl (.cons 0 rfl (.cons 0 rfl (.cons 0 rfl (.cons 0 rfl .nil)))))))
      case hI1 => dsimp only; omega
      case hmu1 => dsimp only; omega
    · have ph2 := h2; try simp only [sbx] at ph2
      refine W.exit ?_
      refine N.thenExit ?_
      refine N.thenExit ?_
      refine N.blockExit ?_
      refine N.thenW ?_
      have hi : i = m := by omega
      subst hi
      have hcl := stages_len i w i
      refine W.keep (.cons (t := 4) rfl (.cons (t := 5) rfl (.cons (t := 6) rfl .nil))) .refl ?_
      refine W.sr ?_
      refine L.mv rfl rfl rfl rfl rfl ?_
      refine L.call rfl rfl rfl rfl Tryz.call47 (end_ok _ _ _) (.cons 0 rfl (.cons 0 rfl (.cons 0 rfl .refl))) (.cons (Get.tmp rfl) .nil) (fun _u => ?_)
      try dsimp only
      refine L.p1 rfl rfl rfl (spec_extract rfl (Get.tmp rfl) rfl) ?_
      refine L.p1 rfl rfl rfl (spec_extract rfl (Get.tmp rfl) rfl) ?_
      refine L.storeW (k := 3) rfl rfl rfl Tryz.sizeOf27 (Get.tmp rfl) (Get.tmp rfl) rfl rfl rfl ?_
      refine L.as rfl rfl rfl rfl rfl ?_
      refine L.nt ?_
      refine W.keep (.cons (t := 4) rfl (.cons (t := 5) rfl .nil)) .refl ?_
      refine W.ret ?_
      refine N.ret () rfl (.cellA (k := 3) (Get.tmp (t := 4) rfl) rfl Tryz.isAgg27 Tryz.sizeOf27 rfl (.tmp (t := 5) (Get.tmp rfl) .nil)) (res2w (eqA ?_) (eqI ?_)) .nil (fun _ _ h => h)
      all_goals rfl

end Go.Proofs.YthlfacmpjehjmaaGreatDoor
set_option linter.unusedSimpArgs false
set_option maxRecDepth 8000
set_option linter.unusedVariables false
namespace Go.Proofs.YthlfacmpjehjmaaGreatDoor
open Go.Sim
theorem queueB_ok (k w : Int) (hx : ¬ (1 ≤ k ∧ k ≤ 8 ∧ 1 ≤ w ∧ w ≤ 8)) : CallT Tryz.prog 9 [Rp.int .i64 k, Rp.int .i64 w] [spG] (.one (Rp.tuple [Rp.agg (eD noD), Rp.int .i64 1])) := by
  refine W.enter (fn := Tryz.f9) (n := 77) Tryz.func9 rfl Tryz.ntmps9 rfl (fun w₀ C₀ => ?_)
  simp only [argS]
  refine W.sr ?_
  refine L.box rfl rfl (GSpec.plain rfl (spec_box rfl (GetC.one (Get.tmp rfl)))) (fun r2 => ?_)
  refine L.box rfl rfl (GSpec.plain rfl (spec_alloc rfl ti27 z27)) (fun r4 => ?_)
  refine L.p1 rfl rfl rfl (spec_assign rfl (Get.cint rfl)) ?_
  refine L.nt ?_
  refine W.seq ?_
  refine W.sr ?_
  refine L.p1 rfl rfl rfl (spec_load1 (k := 1) rfl Tryz.isAgg3 (Get.tmp rfl) rfl rfl) ?_
  refine L.p1 rfl rfl rfl (spec_call rfl Tryz.call31 (within_ok _) (.cons (Get.tmp rfl) .nil)) ?_
  refine L.p1 rfl rfl rfl (spec_not rfl (Get.tmp rfl)) ?_
  refine L.mv rfl rfl rfl rfl rfl ?_
  refine L.op1 rfl rfl (GSpec.guard rfl rfl rfl fun hg => (spec_move rfl (Get.tmp rfl))) ?_
  refine L.op1 rfl rfl (GSpec.guard rfl rfl rfl fun hg => (spec_call rfl Tryz.call31 (within_ok _) (.cons (Get.opt rfl hg) .nil))) ?_
  refine L.op1 rfl rfl (GSpec.guard rfl rfl rfl fun hg => (spec_not rfl (Get.opt rfl hg))) ?_
  refine L.p1 rfl rfl rfl (spec_or rfl (Get.tmp rfl) (fun hb => (Get.opt rfl hb))) ?_
  refine L.nt ?_
  refine W.keep (.cons (t := 1) rfl (.cons (t := 2) rfl (.cons (t := 4) rfl (.cons (t := 5) rfl (.cons (t := 16) rfl .nil))))) .refl ?_
  refine W.cond (Get.tmp rfl) (fun h1 => ?_) (fun h1 => ?_)
  · have ph1 := h1; try simp only [sbx] at ph1
    refine W.sr ?_
    refine L.p1 rfl rfl rfl (spec_build (Rs := [Rp.str [], Rp.slice eP [], Rp.slice eWr [], Rp.slice eRg [], Rp.slice eS []]) rfl ti27 z27 Tryz.underlying27 pl27 .nil) ?_
    refine L.storeW (k := 0) rfl rfl rfl Tryz.sizeOf27 (Get.tmp rfl) (Get.tmp rfl) rfl rfl rfl ?_
    refine L.p1 rfl rfl rfl (spec_assign rfl (Get.cint rfl)) ?_
    refine L.nt ?_
    refine W.ret ?_
    refine N.ret () rfl (.cellA (k := 0) (Get.tmp (t := 4) rfl) rfl Tryz.isAgg27 Tryz.sizeOf27 rfl (.tmp (t := 5) (Get.tmp rfl) .nil)) (res2w (eqA ?_) (eqI ?_)) .nil (fun _ _ h => h)
    all_goals rfl
  · exfalso; have h := h1; simp only [Bool.or_eq_false_iff, Bool.not_eq_false', Bool.not_eq_true', Bool.not_eq_eq_eq_not, Bool.not_false, Bool.and_eq_true, decide_eq_true_eq, decide_eq_false_iff_not] at h; omega

theorem adderB_ok (w : Int) (hx : ¬ (1 ≤ w ∧ w ≤ 8)) : CallT Tryz.prog 12 [Rp.int .i64 w] [spG] (.one (Rp.tuple [Rp.agg (eD noD), Rp.int .i64 1])) := by
  refine W.enter (fn := Tryz.f12) (n := 27) Tryz.func12 rfl Tryz.ntmps12 rfl (fun w₀ C₀ => ?_)
  simp only [argS]
  refine W.sr ?_
  refine L.box rfl rfl (GSpec.plain rfl (spec_alloc rfl ti27 z27)) (fun r2 => ?_)
  refine L.p1 rfl rfl rfl (spec_assign rfl (Get.cint rfl)) ?_
  refine L.nt ?_
  refine W.seq ?_
  refine W.sr ?_
  refine L.mv rfl rfl rfl rfl rfl ?_
  refine L.p1 rfl rfl rfl (spec_call rfl Tryz.call31 (within_ok _) (.cons (Get.tmp rfl) .nil)) ?_
  refine L.p1 rfl rfl rfl (spec_not rfl (Get.tmp rfl)) ?_
  refine L.nt ?_
  refine W.keep (.cons (t := 0) rfl (.cons (t := 2) rfl (.cons (t := 3) rfl (.cons (t := 7) rfl .nil)))) .refl ?_
  refine W.cond (Get.tmp rfl) (fun h1 => ?_) (fun h1 => ?_)
  · have ph1 := h1; try simp only [sbx] at ph1
    refine W.sr ?_
    refine L.p1 rfl rfl rfl (spec_build (Rs := [Rp.str [], Rp.slice eP [], Rp.slice eWr [], Rp.slice eRg [], Rp.slice eS []]) rfl ti27 z27 Tryz.underlying27 pl27 .nil) ?_
    refine L.storeW (k := 0) rfl rfl rfl Tryz.sizeOf27 (Get.tmp rfl) (Get.tmp rfl) rfl rfl rfl ?_
    refine L.p1 rfl rfl rfl (spec_assign rfl (Get.cint rfl)) ?_
    refine L.nt ?_
    refine W.ret ?_
    refine N.ret () rfl (.cellA (k := 0) (Get.tmp (t := 2) rfl) rfl Tryz.isAgg27 Tryz.sizeOf27 rfl (.tmp (t := 3) (Get.tmp rfl) .nil)) (res2w (eqA ?_) (eqI ?_)) .nil (fun _ _ h => h)
    all_goals rfl
  · exfalso; have h := h1; simp only [Bool.or_eq_false_iff, Bool.not_eq_false', Bool.not_eq_true', Bool.not_eq_eq_eq_not, Bool.not_false, Bool.and_eq_true, decide_eq_true_eq, decide_eq_false_iff_not] at h; omega

theorem counterB_ok (w : Int) (hx : ¬ (1 ≤ w ∧ w ≤ 8)) : CallT Tryz.prog 14 [Rp.int .i64 w] [spG] (.one (Rp.tuple [Rp.agg (eD noD), Rp.int .i64 1])) := by
  refine W.enter (fn := Tryz.f14) (n := 34) Tryz.func14 rfl Tryz.ntmps14 rfl (fun w₀ C₀ => ?_)
  simp only [argS]
  refine W.sr ?_
  refine L.box rfl rfl (GSpec.plain rfl (spec_alloc rfl ti27 z27)) (fun r2 => ?_)
  refine L.p1 rfl rfl rfl (spec_assign rfl (Get.cint rfl)) ?_
  refine L.nt ?_
  refine W.seq ?_
  refine W.sr ?_
  refine L.mv rfl rfl rfl rfl rfl ?_
  refine L.p1 rfl rfl rfl (spec_call rfl Tryz.call31 (within_ok _) (.cons (Get.tmp rfl) .nil)) ?_
  refine L.p1 rfl rfl rfl (spec_not rfl (Get.tmp rfl)) ?_
  refine L.nt ?_
  refine W.cond (Get.tmp rfl) (fun h1 => ?_) (fun h1 => ?_)
  · have ph1 := h1; try simp only [sbx] at ph1
    refine W.sr ?_
    refine L.p1 rfl rfl rfl (spec_build (Rs := [Rp.str [], Rp.slice eP [], Rp.slice eWr [], Rp.slice eRg [], Rp.slice eS []]) rfl ti27 z27 Tryz.underlying27 pl27 .nil) ?_
    refine L.storeW (k := 0) rfl rfl rfl Tryz.sizeOf27 (Get.tmp rfl) (Get.tmp rfl) rfl rfl rfl ?_
    refine L.p1 rfl rfl rfl (spec_assign rfl (Get.cint rfl)) ?_
    refine L.nt ?_
    refine W.keep (.cons (t := 0) rfl (.cons (t := 2) rfl (.cons (t := 3) rfl .nil))) .refl ?_
    refine W.ret ?_
    refine N.ret () rfl (.cellA (k := 0) (Get.tmp (t := 2) rfl) rfl Tryz.isAgg27 Tryz.sizeOf27 rfl (.tmp (t := 3) (Get.tmp rfl) .nil)) (res2w (eqA ?_) (eqI ?_)) .nil (fun _ _ h => h)
    all_goals rfl
  · exfalso; have h := h1; simp only [Bool.or_eq_false_iff, Bool.not_eq_false', Bool.not_eq_true', Bool.not_eq_eq_eq_not, Bool.not_false, Bool.and_eq_true, decide_eq_true_eq, decide_eq_false_iff_not] at h; omega

theorem delayB_ok (k w : Int) (hx : ¬ (1 ≤ k ∧ k ≤ 8 ∧ 1 ≤ w ∧ w ≤ 8)) : CallT Tryz.prog 16 [Rp.int .i64 k, Rp.int .i64 w] [spG] (.one (Rp.tuple [Rp.agg (eD noD), Rp.int .i64 1])) := by
  refine W.enter (fn := Tryz.f16) (n := 103) Tryz.func16 rfl Tryz.ntmps16 rfl (fun w₀ C₀ => ?_)
  simp only [argS]
  refine W.sr ?_
  refine L.box rfl rfl (GSpec.plain rfl (spec_alloc rfl ti27 z27)) (fun r4 => ?_)
  refine L.p1 rfl rfl rfl (spec_assign rfl (Get.cint rfl)) ?_
  refine L.nt ?_
  refine W.keep (.cons (t := 0) rfl (.cons (t := 1) rfl (.cons (t := 4) rfl (.cons (t := 5) rfl .nil)))) .refl ?_
  refine W.seq ?_
  refine W.sr ?_
  refine L.mv rfl rfl rfl rfl rfl ?_
  refine L.p1 rfl rfl rfl (spec_call rfl Tryz.call31 (within_ok _) (.cons (Get.tmp rfl) .nil)) ?_
  refine L.p1 rfl rfl rfl (spec_not rfl (Get.tmp rfl)) ?_
  refine L.mv rfl rfl rfl rfl rfl ?_
  refine L.op1 rfl rfl (GSpec.guard rfl rfl rfl fun hg => (spec_move rfl (Get.tmp rfl))) ?_
  refine L.op1 rfl rfl (GSpec.guard rfl rfl rfl fun hg => (spec_call rfl Tryz.call31 (within_ok _) (.cons (Get.opt rfl hg) .nil))) ?_
  refine L.op1 rfl rfl (GSpec.guard rfl rfl rfl fun hg => (spec_not rfl (Get.opt rfl hg))) ?_
  refine L.p1 rfl rfl rfl (spec_or rfl (Get.tmp rfl) (fun hb => (Get.opt rfl hb))) ?_
  refine L.nt ?_
  refine W.keep (.cons (t := 0) rfl (.cons (t := 1) rfl (.cons (t := 4) rfl (.cons (t := 5) rfl (.cons (t := 21) rfl .nil))))) .refl ?_
  refine W.cond (Get.tmp rfl) (fun h1 => ?_) (fun h1 => ?_)
  · have ph1 := h1; try simp only [sbx] at ph1
    refine W.sr ?_
    refine L.p1 rfl rfl rfl (spec_build (Rs := [Rp.str [], Rp.slice eP [], Rp.slice eWr [], Rp.slice eRg [], Rp.slice eS []]) rfl ti27 z27 Tryz.underlying27 pl27 .nil) ?_
    refine L.storeW (k := 0) rfl rfl rfl Tryz.sizeOf27 (Get.tmp rfl) (Get.tmp rfl) rfl rfl rfl ?_
    refine L.p1 rfl rfl rfl (spec_assign rfl (Get.cint rfl)) ?_
    refine L.nt ?_
    refine W.ret ?_
    refine N.ret () rfl (.cellA (k := 0) (Get.tmp (t := 4) rfl) rfl Tryz.isAgg27 Tryz.sizeOf27 rfl (.tmp (t := 5) (Get.tmp rfl) .nil)) (res2w (eqA ?_) (eqI ?_)) .nil (fun _ _ h => h)
    all_goals rfl
  · exfalso; have h := h1; simp only [Bool.or_eq_false_iff, Bool.not_eq_false', Bool.not_eq_true', Bool.not_eq_eq_eq_not, Bool.not_false, Bool.and_eq_true, decide_eq_true_eq, decide_eq_false_iff_not] at h; omega

theorem swapB_ok (w : Int) (hx : ¬ (1 ≤ w ∧ w ≤ 8)) : CallT Tryz.prog 18 [Rp.int .i64 w] [spG] (.one (Rp.tuple [Rp.agg (eD noD), Rp.int .i64 1])) := by
  refine W.enter (fn := Tryz.f18) (n := 132) Tryz.func18 rfl Tryz.ntmps18 rfl (fun w₀ C₀ => ?_)
  simp only [argS]
  refine W.sr ?_
  refine L.box rfl rfl (GSpec.plain rfl (spec_alloc rfl ti27 z27)) (fun r2 => ?_)
  refine L.p1 rfl rfl rfl (spec_assign rfl (Get.cint rfl)) ?_
  refine L.nt ?_
  refine W.seq ?_
  refine W.sr ?_
  refine L.mv rfl rfl rfl rfl rfl ?_
  refine L.p1 rfl rfl rfl (spec_call rfl Tryz.call31 (within_ok _) (.cons (Get.tmp rfl) .nil)) ?_
  refine L.p1 rfl rfl rfl (spec_not rfl (Get.tmp rfl)) ?_
  refine L.nt ?_
  refine W.keep (.cons (t := 0) rfl (.cons (t := 2) rfl (.cons (t := 3) rfl (.cons (t := 15) rfl .nil)))) .refl ?_
  refine W.cond (Get.tmp rfl) (fun h1 => ?_) (fun h1 => ?_)
  · have ph1 := h1; try simp only [sbx] at ph1
    refine W.sr ?_
    refine L.p1 rfl rfl rfl (spec_build (Rs := [Rp.str [], Rp.slice eP [], Rp.slice eWr [], Rp.slice eRg [], Rp.slice eS []]) rfl ti27 z27 Tryz.underlying27 pl27 .nil) ?_
    refine L.storeW (k := 0) rfl rfl rfl Tryz.sizeOf27 (Get.tmp rfl) (Get.tmp rfl) rfl rfl rfl ?_
    refine L.p1 rfl rfl rfl (spec_assign rfl (Get.cint rfl)) ?_
    refine L.nt ?_
    refine W.ret ?_
    refine N.ret () rfl (.cellA (k := 0) (Get.tmp (t := 2) rfl) rfl Tryz.isAgg27 Tryz.sizeOf27 rfl (.tmp (t := 3) (Get.tmp rfl) .nil)) (res2w (eqA ?_) (eqI ?_)) .nil (fun _ _ h => h)
    all_goals rfl
  · exfalso; have h := h1; simp only [Bool.or_eq_false_iff, Bool.not_eq_false', Bool.not_eq_true', Bool.not_eq_eq_eq_not, Bool.not_false, Bool.and_eq_true, decide_eq_true_eq, decide_eq_false_iff_not] at h; omega

theorem queue33B_ok (k w : Int) (hx : ¬ (1 ≤ k ∧ k ≤ 8 ∧ 1 ≤ w ∧ w ≤ 8)) : CallT Tryz.prog 10 [Rp.int .i64 k, Rp.int .i64 w] [] (.one (Rp.tuple [Rp.agg (eD noD), Rp.int .i64 1])) := by
  refine W.enter (fn := Tryz.f10) (n := 96) Tryz.func10 rfl Tryz.ntmps10 rfl (fun w₀ C₀ => ?_)
  simp only [argS]
  refine W.sr ?_
  refine L.box rfl rfl (GSpec.plain rfl (spec_alloc rfl ti27 z27)) (fun r4 => ?_)
  refine L.p1 rfl rfl rfl (spec_assign rfl (Get.cint rfl)) ?_
  refine L.nt ?_
  refine W.seq ?_
  refine W.sr ?_
  refine L.mv rfl rfl rfl rfl rfl ?_
  refine L.p1 rfl rfl rfl (spec_call rfl Tryz.call48 (wrong33_ok _) (.cons (Get.tmp rfl) .nil)) ?_
  refine L.mv rfl rfl rfl rfl rfl ?_
  refine L.op1 rfl rfl (GSpec.guard rfl rfl rfl fun hg => (spec_move rfl (Get.tmp rfl))) ?_
  refine L.op1 rfl rfl (GSpec.guard rfl rfl rfl fun hg => (spec_call rfl Tryz.call48 (wrong33_ok _) (.cons (Get.opt rfl hg) .nil))) ?_
  refine L.p1 rfl rfl rfl (spec_or rfl (Get.tmp rfl) (fun hb => (Get.opt rfl hb))) ?_
  refine L.nt ?_
  refine W.keep (.cons (t := 0) rfl (.cons (t := 1) rfl (.cons (t := 4) rfl (.cons (t := 5) rfl (.cons (t := 16) rfl .nil))))) .refl ?_
  refine W.cond (Get.tmp rfl) (fun h1 => ?_) (fun h1 => ?_)
  · have ph1 := h1; try simp only [sbx] at ph1
    refine W.sr ?_
    refine L.p1 rfl rfl rfl (spec_build (Rs := [Rp.str [], Rp.slice eP [], Rp.slice eWr [], Rp.slice eRg [], Rp.slice eS []]) rfl ti27 z27 Tryz.underlying27 pl27 .nil) ?_
    refine L.storeW (k := 0) rfl rfl rfl Tryz.sizeOf27 (Get.tmp rfl) (Get.tmp rfl) rfl rfl rfl ?_
    refine L.p1 rfl rfl rfl (spec_assign rfl (Get.cint rfl)) ?_
    refine L.nt ?_
    refine W.ret ?_
    refine N.ret () rfl (.cellA (k := 0) (Get.tmp (t := 4) rfl) rfl Tryz.isAgg27 Tryz.sizeOf27 rfl (.tmp (t := 5) (Get.tmp rfl) .nil)) (res2w (eqA ?_) (eqI ?_)) .nil (fun _ _ h => h)
    all_goals rfl
  · exfalso; have h := h1; simp only [Bool.or_eq_false_iff, Bool.not_eq_false', Bool.not_eq_true', Bool.not_eq_eq_eq_not, Bool.not_false, Bool.and_eq_true, decide_eq_true_eq, decide_eq_false_iff_not] at h; omega

theorem adder33B_ok (w : Int) (hx : ¬ (1 ≤ w ∧ w ≤ 8)) : CallT Tryz.prog 13 [Rp.int .i64 w] [] (.one (Rp.tuple [Rp.agg (eD noD), Rp.int .i64 1])) := by
  refine W.enter (fn := Tryz.f13) (n := 9) Tryz.func13 rfl Tryz.ntmps13 rfl (fun w₀ C₀ => ?_)
  simp only [argS]
  refine W.sr ?_
  refine L.box rfl rfl (GSpec.plain rfl (spec_alloc rfl ti27 z27)) (fun r2 => ?_)
  refine L.p1 rfl rfl rfl (spec_assign rfl (Get.cint rfl)) ?_
  refine L.nt ?_
  refine W.seq ?_
  refine W.sr ?_
  refine L.mv rfl rfl rfl rfl rfl ?_
  refine L.p1 rfl rfl rfl (spec_call rfl Tryz.call48 (wrong33_ok _) (.cons (Get.tmp rfl) .nil)) ?_
  refine L.nt ?_
  refine W.cond (Get.tmp rfl) (fun h1 => ?_) (fun h1 => ?_)
  · have ph1 := h1; try simp only [sbx] at ph1
    refine W.sr ?_
    refine L.p1 rfl rfl rfl (spec_build (Rs := [Rp.str [], Rp.slice eP [], Rp.slice eWr [], Rp.slice eRg [], Rp.slice eS []]) rfl ti27 z27 Tryz.underlying27 pl27 .nil) ?_
    refine L.storeW (k := 0) rfl rfl rfl Tryz.sizeOf27 (Get.tmp rfl) (Get.tmp rfl) rfl rfl rfl ?_
    refine L.p1 rfl rfl rfl (spec_assign rfl (Get.cint rfl)) ?_
    refine L.nt ?_
    refine W.keep (.cons (t := 0) rfl (.cons (t := 2) rfl (.cons (t := 3) rfl .nil))) .refl ?_
    refine W.ret ?_
    refine N.ret () rfl (.cellA (k := 0) (Get.tmp (t := 2) rfl) rfl Tryz.isAgg27 Tryz.sizeOf27 rfl (.tmp (t := 3) (Get.tmp rfl) .nil)) (res2w (eqA ?_) (eqI ?_)) .nil (fun _ _ h => h)
    all_goals rfl
  · exfalso; have h := h1; simp only [Bool.or_eq_false_iff, Bool.not_eq_false', Bool.not_eq_true', Bool.not_eq_eq_eq_not, Bool.not_false, Bool.and_eq_true, decide_eq_true_eq, decide_eq_false_iff_not] at h; omega

theorem counter33B_ok (w : Int) (hx : ¬ (1 ≤ w ∧ w ≤ 8)) : CallT Tryz.prog 15 [Rp.int .i64 w] [] (.one (Rp.tuple [Rp.agg (eD noD), Rp.int .i64 1])) := by
  refine W.enter (fn := Tryz.f15) (n := 18) Tryz.func15 rfl Tryz.ntmps15 rfl (fun w₀ C₀ => ?_)
  simp only [argS]
  refine W.sr ?_
  refine L.box rfl rfl (GSpec.plain rfl (spec_alloc rfl ti27 z27)) (fun r2 => ?_)
  refine L.p1 rfl rfl rfl (spec_assign rfl (Get.cint rfl)) ?_
  refine L.nt ?_
  refine W.keep (.cons (t := 0) rfl (.cons (t := 2) rfl (.cons (t := 3) rfl .nil))) .refl ?_
  refine W.seq ?_
  refine W.sr ?_
  refine L.mv rfl rfl rfl rfl rfl ?_
  refine L.p1 rfl rfl rfl (spec_call rfl Tryz.call48 (wrong33_ok _) (.cons (Get.tmp rfl) .nil)) ?_
  refine L.nt ?_
  refine W.cond (Get.tmp rfl) (fun h1 => ?_) (fun h1 => ?_)
  · have ph1 := h1; try simp only [sbx] at ph1
    refine W.sr ?_
    refine L.p1 rfl rfl rfl (spec_build (Rs := [Rp.str [], Rp.slice eP [], Rp.slice eWr [], Rp.slice eRg [], Rp.slice eS []]) rfl ti27 z27 Tryz.underlying27 pl27 .nil) ?_
    refine L.storeW (k := 0) rfl rfl rfl Tryz.sizeOf27 (Get.tmp rfl) (Get.tmp rfl) rfl rfl rfl ?_
    refine L.p1 rfl rfl rfl (spec_assign rfl (Get.cint rfl)) ?_
    refine L.nt ?_
    refine W.ret ?_
    refine N.ret () rfl (.cellA (k := 0) (Get.tmp (t := 2) rfl) rfl Tryz.isAgg27 Tryz.sizeOf27 rfl (.tmp (t := 3) (Get.tmp rfl) .nil)) (res2w (eqA ?_) (eqI ?_)) .nil (fun _ _ h => h)
    all_goals rfl
  · exfalso; have h := h1; simp only [Bool.or_eq_false_iff, Bool.not_eq_false', Bool.not_eq_true', Bool.not_eq_eq_eq_not, Bool.not_false, Bool.and_eq_true, decide_eq_true_eq, decide_eq_false_iff_not] at h; omega

theorem delay33B_ok (k w : Int) (hx : ¬ (1 ≤ k ∧ k ≤ 8 ∧ 1 ≤ w ∧ w ≤ 8)) : CallT Tryz.prog 17 [Rp.int .i64 k, Rp.int .i64 w] [] (.one (Rp.tuple [Rp.agg (eD noD), Rp.int .i64 1])) := by
  refine W.enter (fn := Tryz.f17) (n := 113) Tryz.func17 rfl Tryz.ntmps17 rfl (fun w₀ C₀ => ?_)
  simp only [argS]
  refine W.sr ?_
  refine L.box rfl rfl (GSpec.plain rfl (spec_alloc rfl ti27 z27)) (fun r4 => ?_)
  refine L.p1 rfl rfl rfl (spec_assign rfl (Get.cint rfl)) ?_
  refine L.nt ?_
  refine W.seq ?_
  refine W.sr ?_
  refine L.mv rfl rfl rfl rfl rfl ?_
  refine L.p1 rfl rfl rfl (spec_call rfl Tryz.call48 (wrong33_ok _) (.cons (Get.tmp rfl) .nil)) ?_
  refine L.mv rfl rfl rfl rfl rfl ?_
  refine L.op1 rfl rfl (GSpec.guard rfl rfl rfl fun hg => (spec_move rfl (Get.tmp rfl))) ?_
  refine L.op1 rfl rfl (GSpec.guard rfl rfl rfl fun hg => (spec_call rfl Tryz.call48 (wrong33_ok _) (.cons (Get.opt rfl hg) .nil))) ?_
  refine L.p1 rfl rfl rfl (spec_or rfl (Get.tmp rfl) (fun hb => (Get.opt rfl hb))) ?_
  refine L.nt ?_
  refine W.keep (.cons (t := 0) rfl (.cons (t := 1) rfl (.cons (t := 4) rfl (.cons (t := 5) rfl (.cons (t := 17) rfl .nil))))) .refl ?_
  refine W.cond (Get.tmp rfl) (fun h1 => ?_) (fun h1 => ?_)
  · have ph1 := h1; try simp only [sbx] at ph1
    refine W.sr ?_
    refine L.p1 rfl rfl rfl (spec_build (Rs := [Rp.str [], Rp.slice eP [], Rp.slice eWr [], Rp.slice eRg [], Rp.slice eS []]) rfl ti27 z27 Tryz.underlying27 pl27 .nil) ?_
    refine L.storeW (k := 0) rfl rfl rfl Tryz.sizeOf27 (Get.tmp rfl) (Get.tmp rfl) rfl rfl rfl ?_
    refine L.p1 rfl rfl rfl (spec_assign rfl (Get.cint rfl)) ?_
    refine L.nt ?_
    refine W.ret ?_
    refine N.ret () rfl (.cellA (k := 0) (Get.tmp (t := 4) rfl) rfl Tryz.isAgg27 Tryz.sizeOf27 rfl (.tmp (t := 5) (Get.tmp rfl) .nil)) (res2w (eqA ?_) (eqI ?_)) .nil (fun _ _ h => h)
    all_goals rfl
  · exfalso; have h := h1; simp only [Bool.or_eq_false_iff, Bool.not_eq_false', Bool.not_eq_true', Bool.not_eq_eq_eq_not, Bool.not_false, Bool.and_eq_true, decide_eq_true_eq, decide_eq_false_iff_not] at h; omega

theorem swap33B_ok (w : Int) (hx : ¬ (1 ≤ w ∧ w ≤ 8)) : CallT Tryz.prog 19 [Rp.int .i64 w] [] (.one (Rp.tuple [Rp.agg (eD noD), Rp.int .i64 1])) := by
  refine W.enter (fn := Tryz.f19) (n := 32) Tryz.func19 rfl Tryz.ntmps19 rfl (fun w₀ C₀ => ?_)
  simp only [argS]
  refine W.sr ?_
  refine L.box rfl rfl (GSpec.plain rfl (spec_alloc rfl ti27 z27)) (fun r2 => ?_)
  refine L.p1 rfl rfl rfl (spec_assign rfl (Get.cint rfl)) ?_
  refine L.nt ?_
  refine W.seq ?_
  refine W.sr ?_
  refine L.mv rfl rfl rfl rfl rfl ?_
  refine L.p1 rfl rfl rfl (spec_call rfl Tryz.call48 (wrong33_ok _) (.cons (Get.tmp rfl) .nil)) ?_
  refine L.nt ?_
  refine W.cond (Get.tmp rfl) (fun h1 => ?_) (fun h1 => ?_)
  · have ph1 := h1; try simp only [sbx] at ph1
    refine W.sr ?_
    refine L.p1 rfl rfl rfl (spec_build (Rs := [Rp.str [], Rp.slice eP [], Rp.slice eWr [], Rp.slice eRg [], Rp.slice eS []]) rfl ti27 z27 Tryz.underlying27 pl27 .nil) ?_
    refine L.storeW (k := 0) rfl rfl rfl Tryz.sizeOf27 (Get.tmp rfl) (Get.tmp rfl) rfl rfl rfl ?_
    refine L.p1 rfl rfl rfl (spec_assign rfl (Get.cint rfl)) ?_
    refine L.nt ?_
    refine W.keep (.cons (t := 0) rfl (.cons (t := 2) rfl (.cons (t := 3) rfl .nil))) .refl ?_
    refine W.ret ?_
    refine N.ret () rfl (.cellA (k := 0) (Get.tmp (t := 2) rfl) rfl Tryz.isAgg27 Tryz.sizeOf27 rfl (.tmp (t := 3) (Get.tmp rfl) .nil)) (res2w (eqA ?_) (eqI ?_)) .nil (fun _ _ h => h)
    all_goals rfl
  · exfalso; have h := h1; simp only [Bool.or_eq_false_iff, Bool.not_eq_false', Bool.not_eq_true', Bool.not_eq_eq_eq_not, Bool.not_false, Bool.and_eq_true, decide_eq_true_eq, decide_eq_false_iff_not] at h; omega

end Go.Proofs.YthlfacmpjehjmaaGreatDoor
set_option linter.unusedSimpArgs false
set_option maxRecDepth 8000
set_option linter.unusedVariables false
namespace Go.Proofs.YthlfacmpjehjmaaGreatDoor
open Go.Sim
theorem queue_ok (k w : Int) (hk : 1 ≤ k ∧ k ≤ 8) (hw : 1 ≤ w ∧ w ≤ 8) : CallT Tryz.prog 9 [Rp.int .i64 k, Rp.int .i64 w] [spG] (.one (Rp.tuple [Rp.agg (eD (queueD k.toNat w)), Rp.int .i64 0])) := by
  refine W.enter (fn := Tryz.f9) (n := 77) Tryz.func9 rfl Tryz.ntmps9 rfl (fun w₀ C₀ => ?_)
  simp only [argS]
  obtain ⟨m, rfl⟩ : ∃ m : Nat, k = (m : Int) := ⟨k.toNat, by omega⟩
  refine W.sr ?_
  refine L.box rfl rfl (GSpec.plain rfl (spec_box rfl (GetC.one (Get.tmp rfl)))) (fun r2 => ?_)
  refine L.box rfl rfl (GSpec.plain rfl (spec_alloc rfl ti27 z27)) (fun r4 => ?_)
  refine L.p1 rfl rfl rfl (spec_assign rfl (Get.cint rfl)) ?_
  refine L.nt ?_
  refine W.pubB 2 1 rfl rfl ?_
  refine W.seq ?_
  refine W.sr ?_
  refine L.p1 rfl rfl rfl (spec_loadP1 rfl Tryz.isAgg3 (Get.tmp rfl)) ?_
  refine L.p1 rfl rfl rfl (spec_call rfl Tryz.call31 (within_ok _) (.cons (Get.tmp rfl) .nil)) ?_
  refine L.p1 rfl rfl rfl (spec_not rfl (Get.tmp rfl)) ?_
  refine L.mv rfl rfl rfl rfl rfl ?_
  refine L.op1 rfl rfl (GSpec.guard rfl rfl rfl fun hg => (spec_move rfl (Get.tmp rfl))) ?_
  refine L.op1 rfl rfl (GSpec.guard rfl rfl rfl fun hg => (spec_call rfl Tryz.call31 (within_ok _) (.cons (Get.opt rfl hg) .nil))) ?_
  refine L.op1 rfl rfl (GSpec.guard rfl rfl rfl fun hg => (spec_not rfl (Get.opt rfl hg))) ?_
  refine L.p1 rfl rfl rfl (spec_or rfl (Get.tmp rfl) (fun hb => (Get.opt rfl hb))) ?_
  refine L.nt ?_
  refine W.keep (.cons (t := 1) rfl (.cons (t := 2) rfl (.cons (t := 4) rfl (.cons (t := 5) rfl (.cons (t := 16) rfl .nil))))) .refl ?_
  refine W.cond (Get.tmp rfl) (fun h1 => ?_) (fun h1 => ?_)
  · exfalso; have h := h1; simp only [show decide (1 ≤ (m : Int)) = true from decide_eq_true hk.1, show decide ((m : Int) ≤ 8) = true from decide_eq_true hk.2, show decide (1 ≤ w) = true from decide_eq_true hw.1, show decide (w ≤ 8) = true from decide_eq_true hw.2] at h; revert h; decide
  · have ph1 := h1; try simp only [sbx] at ph1
    refine W.skip ?_
    refine N.thenW ?_
    refine W.sr ?_
    refine L.mv rfl rfl rfl rfl rfl ?_
    refine L.call rfl rfl rfl rfl Tryz.call32 (begin_ok _ _) (.cons 1 rfl .refl) (.cons (Get.cstr (l := [113, 117, 101, 117, 101]) rfl rfl) (.cons (Get.tmp rfl) .nil)) (fun v19 => ?_)
    try dsimp only
    refine L.as rfl rfl rfl rfl rfl ?_
    refine L.nt ?_
    refine W.seq ?_
    apply W.any 5 mixed (by kernel_rfl)
    · apply Head.one rfl rfl (GSpec.plain rfl (spec_move rfl (Get.tmp rfl)))
      apply Head.one rfl rfl (GSpec.plain rfl (spec_call rfl Tryz.call35 (ref_ok _) (.cons (Get.cstr (l := [110]) rfl rfl) .nil)))
      apply Head.one rfl rfl (GSpec.plain rfl (spec_loadP1 rfl Tryz.isAgg3 (Get.tmp rfl)))
      apply Head.one rfl rfl (GSpec.plain rfl (spec_call rfl Tryz.call36 (num_ok _) (.cons (Get.tmp rfl) .nil)))
      apply Head.one rfl rfl (GSpec.plain rfl (spec_call rfl Tryz.call34 (less_ok _ _) (.cons (Get.tmp rfl) (.cons (Get.tmp rfl) .nil))))
      exact Head.nil
    refine Fin.one ?_
    refine Fin.one ?_
    refine Fin.one ?_
    refine Fin.one ?_
    refine Fin.one ?_
    refine Fin.nil ?_
    refine L.call rfl rfl rfl rfl Tryz.call33 (wireB_ok _ _ _ _ _ _ (by first | omega | (simp only [addW, addR, pushD, popD, stageD, queue0, delay0, swapW, swap0, beginD, List.length_append, List.length_cons, List.length_nil]; omega) | decide)) (.cons 1 rfl (.cons 1 rfl (.cons 1 rfl .refl))) (.cons (Get.tmp rfl) (.cons (Get.cstr (l := [105, 114, 100, 121]) rfl rfl) (.cons (Get.cint rfl) (.cons (Get.tmp rfl) .nil)))) (fun v25 => ?_)
    try dsimp only
    refine L.nt ?_
    refine W.keep (.cons (t := 1) rfl (.cons (t := 2) rfl (.cons (t := 4) rfl (.cons (t := 5) rfl (.cons (t := 6) rfl .nil))))) .refl ?_
    refine W.sr ?_
    refine L.mv rfl rfl rfl rfl rfl ?_
    refine L.p1 rfl rfl rfl (spec_call rfl Tryz.call36 (num_ok _) (.cons (Get.cint rfl) .nil)) ?_
    refine L.p1 rfl rfl rfl (spec_call rfl Tryz.call35 (ref_ok _) (.cons (Get.cstr (l := [110]) rfl rfl) .nil)) ?_
    refine L.p1 rfl rfl rfl (spec_call rfl Tryz.call34 (less_ok _ _) (.cons (Get.tmp rfl) (.cons (Get.tmp rfl) .nil))) ?_
    refine L.call rfl rfl rfl rfl Tryz.call33 (wireB_ok _ _ _ _ _ _ (by first | omega | (simp only [addW, addR, pushD, popD, stageD, queue0, delay0, swapW, swap0, beginD, List.length_append, List.length_cons, List.length_nil]; omega) | decide)) (.cons 0 rfl (.cons 0 rfl (.cons 0 rfl .refl))) (.cons (Get.tmp rfl) (.cons (Get.cstr (l := [111, 118]) rfl rfl) (.cons (Get.cint rfl) (.cons (Get.tmp rfl) .nil)))) (fun v30 => ?_)
    try dsimp only
    refine L.nt ?_
    refine W.sr ?_
    refine L.mv rfl rfl rfl rfl rfl ?_
    refine L.p1 rfl rfl rfl (spec_call rfl Tryz.call35 (ref_ok _) (.cons (Get.cstr (l := [116, 48]) rfl rfl) .nil)) ?_
    refine L.call rfl rfl rfl rfl Tryz.call33 (wireB_ok _ _ _ _ _ _ (by first | omega | (simp only [addW, addR, pushD, popD, stageD, queue0, delay0, swapW, swap0, beginD, List.length_append, List.length_cons, List.length_nil]; omega) | decide)) (.cons 0 rfl (.cons 0 rfl (.cons 0 rfl .refl))) (.cons (Get.tmp rfl) (.cons (Get.cstr (l := [111, 116]) rfl rfl) (.cons (Get.cint rfl) (.cons (Get.tmp rfl) .nil)))) (fun v33 => ?_)
    try dsimp only
    refine L.nt ?_
    refine W.keep (.cons (t := 1) rfl (.cons (t := 2) rfl (.cons (t := 4) rfl (.cons (t := 5) rfl (.cons (t := 6) rfl .nil))))) .refl ?_
    refine W.sr ?_
    refine L.mv rfl rfl rfl rfl rfl ?_
    refine L.mv rfl rfl rfl rfl rfl ?_
    refine L.p1 rfl rfl rfl (spec_call rfl Tryz.call35 (ref_ok _) (.cons (Get.cstr (l := [97, 48]) rfl rfl) .nil)) ?_
    refine L.call rfl rfl rfl rfl Tryz.call33 (wireB_ok _ _ _ _ _ _ (by first | omega | (simp only [addW, addR, pushD, popD, stageD, queue0, delay0, swapW, swap0, beginD, List.length_append, List.length_cons, List.length_nil]; omega) | decide)) (.cons 0 rfl (.cons 0 rfl (.cons 0 rfl .refl))) (.cons (Get.tmp rfl) (.cons (Get.cstr (l := [111, 97]) rfl rfl) (.cons (Get.tmp rfl) (.cons (Get.tmp rfl) .nil)))) (fun v37 => ?_)
    try dsimp only
    refine L.nt ?_
    refine W.sr ?_
    refine L.mv rfl rfl rfl rfl rfl ?_
    refine L.call rfl rfl rfl rfl Tryz.call37 (push_ok _ _ _ (by first | omega | (simp only [addW, addR, pushD, popD, stageD, queue0, delay0, swapW, swap0, beginD, List.length_append, List.length_cons, List.length_nil]; omega) | decide)) (.cons 0 rfl (.cons 0 rfl (.cons 0 rfl .refl))) (.cons (Get.tmp rfl) .nil) (fun v39 => ?_)
    try dsimp only
    refine L.nt ?_
    refine W.keep (.cons (t := 1) rfl (.cons (t := 2) rfl (.cons (t := 4) rfl (.cons (t := 5) rfl (.cons (t := 6) rfl .nil))))) .refl ?_
    refine W.sr ?_
    refine L.mv rfl rfl rfl rfl rfl ?_
    refine L.call rfl rfl rfl rfl Tryz.call38 (pop_ok _ _ _ (by first | omega | (simp only [addW, addR, pushD, popD, stageD, queue0, delay0, swapW, swap0, beginD, List.length_append, List.length_cons, List.length_nil]; omega) | decide)) (.cons 0 rfl (.cons 0 rfl (.cons 0 rfl .refl))) (.cons (Get.tmp rfl) .nil) (fun v41 => ?_)
    try dsimp only
    refine L.nt ?_
    refine W.sr ?_
    refine L.mv rfl rfl rfl rfl rfl ?_
    refine L.p1 rfl rfl rfl (spec_call rfl Tryz.call35 (ref_ok _) (.cons (Get.cstr (l := [110]) rfl rfl) .nil)) ?_
    refine L.p1 rfl rfl rfl (spec_call rfl Tryz.call35 (ref_ok _) (.cons (Get.cstr (l := [112, 111, 112]) rfl rfl) .nil)) ?_
    refine L.p1 rfl rfl rfl (spec_call rfl Tryz.call39 (minus_ok _ _) (.cons (Get.tmp rfl) (.cons (Get.tmp rfl) .nil))) ?_
    refine L.call rfl rfl rfl rfl Tryz.call33 (wireB_ok _ _ _ _ _ _ (by first | omega | (simp only [addW, addR, pushD, popD, stageD, queue0, delay0, swapW, swap0, beginD, List.length_append, List.length_cons, List.length_nil]; omega) | decide)) (.cons 0 rfl (.cons 0 rfl (.cons 0 rfl .refl))) (.cons (Get.tmp rfl) (.cons (Get.cstr (l := [107]) rfl rfl) (.cons (Get.cint rfl) (.cons (Get.tmp rfl) .nil)))) (fun v46 => ?_)
    try dsimp only
    refine L.nt ?_
    refine W.keep (.cons (t := 1) rfl (.cons (t := 2) rfl (.cons (t := 4) rfl (.cons (t := 5) rfl (.cons (t := 6) rfl .nil))))) .refl ?_
    refine W.sr ?_
    refine L.mv rfl rfl rfl rfl rfl ?_
    refine L.p1 rfl rfl rfl (spec_call rfl Tryz.call35 (ref_ok _) (.cons (Get.cstr (l := [107]) rfl rfl) .nil)) ?_
    refine L.p1 rfl rfl rfl (spec_call rfl Tryz.call35 (ref_ok _) (.cons (Get.cstr (l := [112, 117, 115, 104]) rfl rfl) .nil)) ?_
    refine L.p1 rfl rfl rfl (spec_call rfl Tryz.call41 (plus_ok _ _) (.cons (Get.tmp rfl) (.cons (Get.tmp rfl) .nil))) ?_
    refine L.call rfl rfl rfl rfl Tryz.call40 (regB_ok _ _ _ _ _ _ (by first | omega | (simp only [addW, addR, pushD, popD, stageD, queue0, delay0, swapW, swap0, beginD, List.length_append, List.length_cons, List.length_nil]; omega) | decide)) (.cons 0 rfl (.cons 0 rfl (.cons 0 rfl .refl))) (.cons (Get.tmp rfl) (.cons (Get.cstr (l := [110]) rfl rfl) (.cons (Get.cint rfl) (.cons (Get.tmp rfl) .nil)))) (fun v51 => ?_)
    try dsimp only
    refine L.nt ?_
    refine W.sr ?_
    refine L.p1 rfl rfl rfl (spec_makeFunc rfl (.cons (Get.tmp rfl) .nil)) ?_
    refine L.as rfl rfl rfl rfl rfl ?_
    refine L.nt ?_
    refine W.keep (.cons (t := 1) rfl (.cons (t := 2) rfl (.cons (t := 4) rfl (.cons (t := 5) rfl (.cons (t := 6) rfl (.cons (t := 7) rfl .nil)))))) .refl ?_
    refine W.seq ?_
    refine W.sr ?_
    refine L.p1 rfl rfl rfl (spec_loadP1 rfl Tryz.isAgg3 (Get.tmp rfl)) ?_
    refine L.p1 rfl rfl rfl (spec_move rfl (Get.cint rfl)) ?_
    refine L.nt ?_
    refine W.block ?_
    refine W.loopK (σ := Nat × (Value × Value)) (.cons (t := 1) rfl (.cons (t := 4) rfl (.cons (t := 5) rfl (.cons (t := 6) rfl (.cons (t := 7) rfl (.cons (t := 53) rfl .nil)))))) (fun z => [(54, Rp.int .i64 (z.1 : Nat))]) (fun z => [MF.box v19.1 111 (bdR (cellsD (m : Int) w z.1) z.2), MF.osl z.2.1 77 6 eWr (cellsD (m : Int) w z.1).wires, MF.osl z.2.2 81 7 eRg (cellsD (m : Int) w z.1).regs]) (fun z => z.1 ≤ m) (fun z => m - z.1) (0, v51) (Nat.zero_le _) (.cons (t := 54) rfl .nil) (.cons 0 rfl (.cons 0 rfl (.cons 0 rfl (.cons 0 rfl (.cons 0 rfl .nil))))) ?_
    intro ⟨i, vp⟩ hI S' M' hS hM
    try dsimp only at hS hM
    simp only [List.cons_append, List.nil_append] at hS hM
    subst hS hM
    try dsimp only
    try dsimp only at hI
    have hcl := cells_len (m : Int) w i
    refine W.sr ?_
    refine L.p1 rfl rfl rfl (spec_lss rfl (Get.tmp rfl) (Get.tmp rfl)) ?_
    refine L.nt ?_
    refine W.seq ?_
    refine W.cond (Get.tmp rfl) (fun h2 => ?_) (fun h2 => ?_)
    · have ph2 := h2; try simp only [sbx] at ph2
      refine W.skip ?_
      refine N.thenW ?_
      refine W.seq ?_
      refine W.block ?_
      refine W.sr ?_
      refine L.mv rfl rfl rfl rfl rfl ?_
      refine L.as rfl rfl rfl rfl rfl ?_
      refine L.nt ?_
      refine W.sr ?_
      refine L.mv rfl rfl rfl rfl rfl ?_
      refine L.mv rfl rfl rfl rfl rfl ?_
      refine L.p1 rfl rfl rfl (spec_call rfl Tryz.call43 (indexed_ok _ _ (by omega) (by omega) (by first | decide | omega | (simp; omega))) (.cons (Get.cstr (l := [116]) rfl rfl) (.cons (Get.tmp rfl) .nil))) ?_
      refine L.mv rfl rfl rfl rfl rfl ?_
      refine L.mv rfl rfl rfl rfl rfl ?_
      refine L.p1 rfl rfl rfl (spec_callC (A := [_, _, _]) rfl (Get.tmp rfl) Tryz.call42 (cell_ok _ _ _ _ (by omega) (by omega) (by first | decide | omega)) (.cons (Get.cstr (l := [116]) rfl rfl) (.cons (Get.cstr (l := [105, 116]) rfl rfl) (.cons (Get.tmp rfl) .nil)))) ?_
      refine L.call rfl rfl rfl rfl Tryz.call40 (regB_ok _ _ _ _ _ _ (by first | omega | (simp only [addW, addR, pushD, popD, stageD, queue0, delay0, swapW, swap0, beginD, List.length_append, List.length_cons, List.length_nil]; omega) | decide)) (.cons 0 rfl (.cons 0 rfl (.cons 0 rfl .refl))) (.cons (Get.tmp rfl) (.cons (Get.tmp rfl) (.cons (Get.cint rfl) (.cons (Get.tmp rfl) .nil)))) (fun v63 => ?_)
      try dsimp only
      refine L.nt ?_
      refine W.region ?_
      refine L.mv rfl rfl rfl rfl rfl ?_
      refine L.mv rfl rfl rfl rfl rfl ?_
      refine L.p1 rfl rfl rfl (spec_call rfl Tryz.call43 (indexed_ok _ _ (by omega) (by omega) (by first | decide | omega | (simp; omega))) (.cons (Get.cstr (l := [97]) rfl rfl) (.cons (Get.tmp rfl) .nil))) ?_
      refine L.mv rfl rfl rfl rfl rfl ?_
      refine L.mv rfl rfl rfl rfl rfl ?_
      refine L.mv rfl rfl rfl rfl rfl ?_
      refine L.p1 rfl rfl rfl (spec_callC (A := [_, _, _]) rfl (Get.tmp rfl) Tryz.call42 (cell_ok _ _ _ _ (by omega) (by omega) (by first | decide | omega)) (.cons (Get.cstr (l := [97]) rfl rfl) (.cons (Get.cstr (l := [105, 97]) rfl rfl) (.cons (Get.tmp rfl) .nil)))) ?_
      refine L.call rfl rfl rfl rfl Tryz.call40 (regB_ok _ _ _ _ _ _ (by first | omega | (simp only [addW, addR, pushD, popD, stageD, queue0, delay0, swapW, swap0, beginD, List.length_append, List.length_cons, List.length_nil]; omega) | decide)) (.cons 0 rfl (.cons 0 rfl (.cons 0 rfl .refl))) (.cons (Get.tmp rfl) (.cons (Get.tmp rfl) (.cons (Get.tmp rfl) (.cons (Get.tmp rfl) .nil)))) (fun v71 => ?_)
      try dsimp only
      refine L.nil ?_
      refine N.blockNormal ?_
      refine N.thenW ?_
      refine W.region ?_
      first | refine L.op1 rfl rfl (GSpec.plain rfl (fit_i64 (by omega) (by omega) (spec_add rfl (Get.tmp rfl) (Get.cint rfl)))) ?_ | refine L.op1 rfl rfl (GSpec.plain rfl (spec_add rfl (Get.tmp rfl) (Get.cint rfl))) ?_
      refine L.mv rfl rfl rfl rfl rfl ?_
      refine L.nil ?_
      refine N.roundK (i + 1, v71) ?hI1 ?hmu1 ?hs1 ?hk1 ?hp1
      case hs1 => exact (.cons (t := 54) rfl .nil)
      case hk1 => exact (.cons (t := 1) rfl (.cons (t := 4) rfl (.cons (t := 5) rfl (.cons (t := 6) rfl (.cons (t := 7) rfl (.cons (t := 53) rfl .nil))))))
      case hp1 => exact (.cons 0 rfl (.cons 0 rfl (.cons 0 rfl (.cons 0 rfl (.cons 0 rfl .nil)))))
      case hI1 => dsimp only; omega
      case hmu1 => dsimp only; omega
    · have ph2 := h2; try simp only [sbx] at ph2
      refine W.exit ?_
      refine N.thenExit ?_
      refine N.thenExit ?_
      refine N.blockExit ?_
      refine N.thenW ?_
      have hi : i = m := by omega
      subst hi
      have hcl := cells_len (i : Int) w i
      refine W.sr ?_
      refine L.mv rfl rfl rfl rfl rfl ?_
      refine L.call rfl rfl rfl rfl Tryz.call47 (end_ok _ _ _) (.cons 0 rfl (.cons 0 rfl (.cons 0 rfl .refl))) (.cons (Get.tmp rfl) .nil) (fun _u => ?_)
      try dsimp only
      refine L.p1 rfl rfl rfl (spec_extract rfl (Get.tmp rfl) rfl) ?_
      refine L.p1 rfl rfl rfl (spec_extract rfl (Get.tmp rfl) rfl) ?_
      refine L.storeW (k := 1) rfl rfl rfl Tryz.sizeOf27 (Get.tmp rfl) (Get.tmp rfl) rfl rfl rfl ?_
      refine L.as rfl rfl rfl rfl rfl ?_
      refine L.nt ?_
      refine W.keep (.cons (t := 4) rfl (.cons (t := 5) rfl .nil)) .refl ?_
      refine W.ret ?_
      refine N.ret () rfl (.cellA (k := 1) (Get.tmp (t := 4) rfl) rfl Tryz.isAgg27 Tryz.sizeOf27 rfl (.tmp (t := 5) (Get.tmp rfl) .nil)) (res2w (eqA ?_) (eqI ?_)) .nil (fun _ _ h => h)
      all_goals rfl

end Go.Proofs.YthlfacmpjehjmaaGreatDoor
set_option linter.unusedSimpArgs false
set_option maxRecDepth 8000
set_option linter.unusedVariables false
namespace Go.Proofs.YthlfacmpjehjmaaGreatDoor
open Go.Sim
theorem adder_ok (w : Int) (hw : 1 ≤ w ∧ w ≤ 8) : CallT Tryz.prog 12 [Rp.int .i64 w] [spG] (.one (Rp.tuple [Rp.agg (eD (adderD w)), Rp.int .i64 0])) := by
  refine W.enter (fn := Tryz.f12) (n := 27) Tryz.func12 rfl Tryz.ntmps12 rfl (fun w₀ C₀ => ?_)
  simp only [argS]
  refine W.sr ?_
  refine L.box rfl rfl (GSpec.plain rfl (spec_alloc rfl ti27 z27)) (fun r2 => ?_)
  refine L.p1 rfl rfl rfl (spec_assign rfl (Get.cint rfl)) ?_
  refine L.nt ?_
  refine W.seq ?_
  refine W.sr ?_
  refine L.mv rfl rfl rfl rfl rfl ?_
  refine L.p1 rfl rfl rfl (spec_call rfl Tryz.call31 (within_ok _) (.cons (Get.tmp rfl) .nil)) ?_
  refine L.p1 rfl rfl rfl (spec_not rfl (Get.tmp rfl)) ?_
  refine L.nt ?_
  refine W.cond (Get.tmp rfl) (fun h1 => ?_) (fun h1 => ?_)
  · exfalso; have h := h1; simp only [show decide (1 ≤ w) = true from decide_eq_true hw.1, show decide (w ≤ 8) = true from decide_eq_true hw.2] at h; revert h; decide
  · have ph1 := h1; try simp only [sbx] at ph1
    refine W.skip ?_
    refine N.thenW ?_
    refine W.sr ?_
    refine L.mv rfl rfl rfl rfl rfl ?_
    refine L.call rfl rfl rfl rfl Tryz.call32 (begin_ok _ _) (.cons 1 rfl .refl) (.cons (Get.cstr (l := [97, 100, 100, 101, 114]) rfl rfl) (.cons (Get.tmp rfl) .nil)) (fun v10 => ?_)
    try dsimp only
    refine L.as rfl rfl rfl rfl rfl ?_
    refine L.nt ?_
    refine W.sr ?_
    refine L.mv rfl rfl rfl rfl rfl ?_
    refine L.mv rfl rfl rfl rfl rfl ?_
    refine L.call rfl rfl rfl rfl Tryz.call54 (stage_ok _ _ _ _ (by first | omega | (simp only [addW, addR, pushD, popD, stageD, queue0, delay0, swapW, swap0, beginD, List.length_append, List.length_cons, List.length_nil]; omega) | decide) (by first | omega | (simp only [addW, addR, pushD, popD, stageD, queue0, delay0, swapW, swap0, beginD, List.length_append, List.length_cons, List.length_nil]; omega) | decide)) (.cons 1 rfl (.cons 1 rfl (.cons 1 rfl .refl))) (.cons (Get.tmp rfl) (.cons (Get.tmp rfl) .nil)) (fun v13 => ?_)
    try dsimp only
    refine L.nt ?_
    refine W.keep (.cons (t := 0) rfl (.cons (t := 2) rfl (.cons (t := 3) rfl (.cons (t := 4) rfl .nil)))) .refl ?_
    refine W.sr ?_
    refine L.mv rfl rfl rfl rfl rfl ?_
    refine L.mv rfl rfl rfl rfl rfl ?_
    refine L.p1 rfl rfl rfl (spec_call rfl Tryz.call35 (ref_ok _) (.cons (Get.cstr (l := [112, 117, 115, 104]) rfl rfl) .nil)) ?_
    refine L.p1 rfl rfl rfl (spec_call rfl Tryz.call35 (ref_ok _) (.cons (Get.cstr (l := [105, 97]) rfl rfl) .nil)) ?_
    refine L.p1 rfl rfl rfl (spec_call rfl Tryz.call35 (ref_ok _) (.cons (Get.cstr (l := [105, 98]) rfl rfl) .nil)) ?_
    refine L.p1 rfl rfl rfl (spec_call rfl Tryz.call41 (plus_ok _ _) (.cons (Get.tmp rfl) (.cons (Get.tmp rfl) .nil))) ?_
    refine L.p1 rfl rfl rfl (spec_call rfl Tryz.call35 (ref_ok _) (.cons (Get.cstr (l := [97]) rfl rfl) .nil)) ?_
    refine L.p1 rfl rfl rfl (spec_call rfl Tryz.call44 (when_ok _ _ _) (.cons (Get.tmp rfl) (.cons (Get.tmp rfl) (.cons (Get.tmp rfl) .nil)))) ?_
    refine L.call rfl rfl rfl rfl Tryz.call40 (regB_ok _ _ _ _ _ _ (by first | omega | (simp only [addW, addR, pushD, popD, stageD, queue0, delay0, swapW, swap0, beginD, List.length_append, List.length_cons, List.length_nil]; omega) | decide)) (.cons 0 rfl (.cons 0 rfl (.cons 0 rfl .refl))) (.cons (Get.tmp rfl) (.cons (Get.cstr (l := [97]) rfl rfl) (.cons (Get.tmp rfl) (.cons (Get.tmp rfl) .nil)))) (fun v22 => ?_)
    try dsimp only
    refine L.nt ?_
    refine W.keep (.cons (t := 2) rfl (.cons (t := 3) rfl (.cons (t := 4) rfl .nil))) .refl ?_
    refine W.sr ?_
    refine L.mv rfl rfl rfl rfl rfl ?_
    refine L.call rfl rfl rfl rfl Tryz.call47 (end_ok _ _ _) (.cons 0 rfl (.cons 0 rfl (.cons 0 rfl .refl))) (.cons (Get.tmp rfl) .nil) (fun _u => ?_)
    try dsimp only
    refine L.p1 rfl rfl rfl (spec_extract rfl (Get.tmp rfl) rfl) ?_
    refine L.p1 rfl rfl rfl (spec_extract rfl (Get.tmp rfl) rfl) ?_
    refine L.storeW (k := 1) rfl rfl rfl Tryz.sizeOf27 (Get.tmp rfl) (Get.tmp rfl) rfl rfl rfl ?_
    refine L.as rfl rfl rfl rfl rfl ?_
    refine L.nt ?_
    refine W.keep (.cons (t := 2) rfl (.cons (t := 3) rfl .nil)) .refl ?_
    refine W.ret ?_
    refine N.ret () rfl (.cellA (k := 1) (Get.tmp (t := 2) rfl) rfl Tryz.isAgg27 Tryz.sizeOf27 rfl (.tmp (t := 3) (Get.tmp rfl) .nil)) (res2w (eqA ?_) (eqI ?_)) .nil (fun _ _ h => h)
    all_goals rfl

theorem counter_ok (w : Int) (hw : 1 ≤ w ∧ w ≤ 8) : CallT Tryz.prog 14 [Rp.int .i64 w] [spG] (.one (Rp.tuple [Rp.agg (eD (counterD w)), Rp.int .i64 0])) := by
  refine W.enter (fn := Tryz.f14) (n := 34) Tryz.func14 rfl Tryz.ntmps14 rfl (fun w₀ C₀ => ?_)
  simp only [argS]
  refine W.sr ?_
  refine L.box rfl rfl (GSpec.plain rfl (spec_alloc rfl ti27 z27)) (fun r2 => ?_)
  refine L.p1 rfl rfl rfl (spec_assign rfl (Get.cint rfl)) ?_
  refine L.nt ?_
  refine W.seq ?_
  refine W.sr ?_
  refine L.mv rfl rfl rfl rfl rfl ?_
  refine L.p1 rfl rfl rfl (spec_call rfl Tryz.call31 (within_ok _) (.cons (Get.tmp rfl) .nil)) ?_
  refine L.p1 rfl rfl rfl (spec_not rfl (Get.tmp rfl)) ?_
  refine L.nt ?_
  refine W.cond (Get.tmp rfl) (fun h1 => ?_) (fun h1 => ?_)
  · exfalso; have h := h1; simp only [show decide (1 ≤ w) = true from decide_eq_true hw.1, show decide (w ≤ 8) = true from decide_eq_true hw.2] at h; revert h; decide
  · have ph1 := h1; try simp only [sbx] at ph1
    refine W.skip ?_
    refine N.thenW ?_
    refine W.sr ?_
    refine L.mv rfl rfl rfl rfl rfl ?_
    refine L.call rfl rfl rfl rfl Tryz.call32 (begin_ok _ _) (.cons 1 rfl .refl) (.cons (Get.cstr (l := [99, 111, 117, 110, 116, 101, 114]) rfl rfl) (.cons (Get.tmp rfl) .nil)) (fun v10 => ?_)
    try dsimp only
    refine L.as rfl rfl rfl rfl rfl ?_
    refine L.nt ?_
    refine W.keep (.cons (t := 0) rfl (.cons (t := 2) rfl (.cons (t := 3) rfl (.cons (t := 4) rfl .nil)))) .refl ?_
    refine W.sr ?_
    refine L.mv rfl rfl rfl rfl rfl ?_
    refine L.mv rfl rfl rfl rfl rfl ?_
    refine L.call rfl rfl rfl rfl Tryz.call54 (stage_ok _ _ _ _ (by first | omega | (simp only [addW, addR, pushD, popD, stageD, queue0, delay0, swapW, swap0, beginD, List.length_append, List.length_cons, List.length_nil]; omega) | decide) (by first | omega | (simp only [addW, addR, pushD, popD, stageD, queue0, delay0, swapW, swap0, beginD, List.length_append, List.length_cons, List.length_nil]; omega) | decide)) (.cons 1 rfl (.cons 1 rfl (.cons 1 rfl .refl))) (.cons (Get.tmp rfl) (.cons (Get.tmp rfl) .nil)) (fun v13 => ?_)
    try dsimp only
    refine L.nt ?_
    refine W.sr ?_
    refine L.mv rfl rfl rfl rfl rfl ?_
    refine L.mv rfl rfl rfl rfl rfl ?_
    refine L.p1 rfl rfl rfl (spec_call rfl Tryz.call35 (ref_ok _) (.cons (Get.cstr (l := [112, 117, 115, 104]) rfl rfl) .nil)) ?_
    refine L.p1 rfl rfl rfl (spec_call rfl Tryz.call35 (ref_ok _) (.cons (Get.cstr (l := [110]) rfl rfl) .nil)) ?_
    refine L.p1 rfl rfl rfl (spec_call rfl Tryz.call35 (ref_ok _) (.cons (Get.cstr (l := [97]) rfl rfl) .nil)) ?_
    refine L.p1 rfl rfl rfl (spec_call rfl Tryz.call44 (when_ok _ _ _) (.cons (Get.tmp rfl) (.cons (Get.tmp rfl) (.cons (Get.tmp rfl) .nil)))) ?_
    refine L.call rfl rfl rfl rfl Tryz.call40 (regB_ok _ _ _ _ _ _ (by first | omega | (simp only [addW, addR, pushD, popD, stageD, queue0, delay0, swapW, swap0, beginD, List.length_append, List.length_cons, List.length_nil]; omega) | decide)) (.cons 0 rfl (.cons 0 rfl (.cons 0 rfl .refl))) (.cons (Get.tmp rfl) (.cons (Get.cstr (l := [97]) rfl rfl) (.cons (Get.tmp rfl) (.cons (Get.tmp rfl) .nil)))) (fun v20 => ?_)
    try dsimp only
    refine L.nt ?_
    refine W.keep (.cons (t := 0) rfl (.cons (t := 2) rfl (.cons (t := 3) rfl (.cons (t := 4) rfl .nil)))) .refl ?_
    refine W.sr ?_
    refine L.mv rfl rfl rfl rfl rfl ?_
    refine L.mv rfl rfl rfl rfl rfl ?_
    refine L.p1 rfl rfl rfl (spec_call rfl Tryz.call35 (ref_ok _) (.cons (Get.cstr (l := [112, 117, 115, 104]) rfl rfl) .nil)) ?_
    refine L.p1 rfl rfl rfl (spec_call rfl Tryz.call35 (ref_ok _) (.cons (Get.cstr (l := [110]) rfl rfl) .nil)) ?_
    refine L.p1 rfl rfl rfl (spec_call rfl Tryz.call36 (num_ok _) (.cons (Get.cint rfl) .nil)) ?_
    refine L.p1 rfl rfl rfl (spec_call rfl Tryz.call41 (plus_ok _ _) (.cons (Get.tmp rfl) (.cons (Get.tmp rfl) .nil))) ?_
    refine L.p1 rfl rfl rfl (spec_call rfl Tryz.call35 (ref_ok _) (.cons (Get.cstr (l := [110]) rfl rfl) .nil)) ?_
    refine L.p1 rfl rfl rfl (spec_call rfl Tryz.call44 (when_ok _ _ _) (.cons (Get.tmp rfl) (.cons (Get.tmp rfl) (.cons (Get.tmp rfl) .nil)))) ?_
    refine L.call rfl rfl rfl rfl Tryz.call40 (regB_ok _ _ _ _ _ _ (by first | omega | (simp only [addW, addR, pushD, popD, stageD, queue0, delay0, swapW, swap0, beginD, List.length_append, List.length_cons, List.length_nil]; omega) | decide)) (.cons 0 rfl (.cons 0 rfl (.cons 0 rfl .refl))) (.cons (Get.tmp rfl) (.cons (Get.cstr (l := [110]) rfl rfl) (.cons (Get.tmp rfl) (.cons (Get.tmp rfl) .nil)))) (fun v29 => ?_)
    try dsimp only
    refine L.nt ?_
    refine W.keep (.cons (t := 2) rfl (.cons (t := 3) rfl (.cons (t := 4) rfl .nil))) .refl ?_
    refine W.sr ?_
    refine L.mv rfl rfl rfl rfl rfl ?_
    refine L.call rfl rfl rfl rfl Tryz.call47 (end_ok _ _ _) (.cons 0 rfl (.cons 0 rfl (.cons 0 rfl .refl))) (.cons (Get.tmp rfl) .nil) (fun _u => ?_)
    try dsimp only
    refine L.p1 rfl rfl rfl (spec_extract rfl (Get.tmp rfl) rfl) ?_
    refine L.p1 rfl rfl rfl (spec_extract rfl (Get.tmp rfl) rfl) ?_
    refine L.storeW (k := 1) rfl rfl rfl Tryz.sizeOf27 (Get.tmp rfl) (Get.tmp rfl) rfl rfl rfl ?_
    refine L.as rfl rfl rfl rfl rfl ?_
    refine L.nt ?_
    refine W.keep (.cons (t := 2) rfl (.cons (t := 3) rfl .nil)) .refl ?_
    refine W.ret ?_
    refine N.ret () rfl (.cellA (k := 1) (Get.tmp (t := 2) rfl) rfl Tryz.isAgg27 Tryz.sizeOf27 rfl (.tmp (t := 3) (Get.tmp rfl) .nil)) (res2w (eqA ?_) (eqI ?_)) .nil (fun _ _ h => h)
    all_goals rfl

end Go.Proofs.YthlfacmpjehjmaaGreatDoor
set_option linter.unusedSimpArgs false
set_option maxRecDepth 8000
set_option linter.unusedVariables false
namespace Go.Proofs.YthlfacmpjehjmaaGreatDoor
open Go.Sim
theorem takeS_ok (i : Nat) : CallT Tryz.prog 61 [Rp.at (eX (refE sN)), Rp.at [Rp.int .i64 (i : Nat)]] [] (.one (Rp.agg (eX (takeS i)))) := by
  refine W.enter (fn := Tryz.f61) (n := 8) Tryz.func61 rfl Tryz.ntmps61 rfl (fun w₀ C₀ => ?_)
  simp only [argS]
  refine W.sr ?_
  refine L.box rfl rfl (GSpec.plain rfl (spec_alloc rfl ti66 z66)) (fun r2 => ?_)
  refine L.nt ?_
  refine W.seq ?_
  apply W.any 5 mixed (by kernel_rfl)
  · apply Head.one rfl rfl (GSpec.plain rfl (spec_call rfl Tryz.call35 (ref_ok _) (.cons (Get.cstr (l := [112, 117, 115, 104]) rfl rfl) .nil)))
    apply Head.one rfl rfl (GSpec.plain rfl (spec_loadPA rfl Tryz.isAgg66 Tryz.sizeOf66 (Get.tmp rfl) rfl))
    apply Head.one rfl rfl (GSpec.plain rfl (spec_loadP1 rfl Tryz.isAgg3 (Get.tmp rfl)))
    apply Head.one rfl rfl (GSpec.plain rfl (spec_call rfl Tryz.call46 (equal_ok _ _) (.cons (Get.tmp rfl) (.cons (Get.tmp rfl) .nil))))
    apply Head.one rfl rfl (GSpec.plain rfl (spec_call rfl Tryz.call45 (both_ok _ _) (.cons (Get.tmp rfl) (.cons (Get.tmp rfl) .nil))))
    exact Head.nil
  refine Fin.one ?_
  refine Fin.one ?_
  refine Fin.one ?_
  refine Fin.one ?_
  refine Fin.one ?_
  refine Fin.nil ?_
  refine L.storeW (k := 0) rfl rfl rfl Tryz.sizeOf66 (Get.tmp rfl) (Get.tmp rfl) rfl rfl rfl ?_
  refine L.nt ?_
  refine W.ret ?_
  refine N.ret () rfl (.cellA (k := 0) (Get.tmp (t := 2) rfl) rfl Tryz.isAgg66 Tryz.sizeOf66 rfl .nil) (res1 (eqA ?_)) .nil (fun _ _ h => h)
  rfl

theorem swap_ok (w : Int) (hw : 1 ≤ w ∧ w ≤ 8) : CallT Tryz.prog 18 [Rp.int .i64 w] [spG] (.one (Rp.tuple [Rp.agg (eD (swapD w)), Rp.int .i64 0])) := by
  refine W.enter (fn := Tryz.f18) (n := 132) Tryz.func18 rfl Tryz.ntmps18 rfl (fun w₀ C₀ => ?_)
  simp only [argS]
  refine W.sr ?_
  refine L.box rfl rfl (GSpec.plain rfl (spec_alloc rfl ti27 z27)) (fun r2 => ?_)
  refine L.p1 rfl rfl rfl (spec_assign rfl (Get.cint rfl)) ?_
  refine L.nt ?_
  refine W.seq ?_
  refine W.sr ?_
  refine L.mv rfl rfl rfl rfl rfl ?_
  refine L.p1 rfl rfl rfl (spec_call rfl Tryz.call31 (within_ok _) (.cons (Get.tmp rfl) .nil)) ?_
  refine L.p1 rfl rfl rfl (spec_not rfl (Get.tmp rfl)) ?_
  refine L.nt ?_
  refine W.keep (.cons (t := 0) rfl (.cons (t := 2) rfl (.cons (t := 3) rfl (.cons (t := 15) rfl .nil)))) .refl ?_
  refine W.cond (Get.tmp rfl) (fun h1 => ?_) (fun h1 => ?_)
  · exfalso; have h := h1; simp only [show decide (1 ≤ w) = true from decide_eq_true hw.1, show decide (w ≤ 8) = true from decide_eq_true hw.2] at h; revert h; decide
  · have ph1 := h1; try simp only [sbx] at ph1
    refine W.skip ?_
    refine N.thenW ?_
    refine W.sr ?_
    refine L.mv rfl rfl rfl rfl rfl ?_
    refine L.call rfl rfl rfl rfl Tryz.call32 (begin_ok _ _) (.cons 1 rfl .refl) (.cons (Get.cstr (l := [115, 119, 97, 112]) rfl rfl) (.cons (Get.tmp rfl) .nil)) (fun v18 => ?_)
    try dsimp only
    refine L.as rfl rfl rfl rfl rfl ?_
    refine L.nt ?_
    refine W.sr ?_
    refine L.p1 rfl rfl rfl (spec_call rfl Tryz.call35 (ref_ok _) (.cons (Get.cstr (l := [110]) rfl rfl) .nil)) ?_
    refine L.p1 rfl rfl rfl (spec_call rfl Tryz.call35 (ref_ok _) (.cons (Get.cstr (l := [114]) rfl rfl) .nil)) ?_
    refine L.p1 rfl rfl rfl (spec_call rfl Tryz.call35 (ref_ok _) (.cons (Get.cstr (l := [115]) rfl rfl) .nil)) ?_
    refine L.p1 rfl rfl rfl (spec_call rfl Tryz.call35 (ref_ok _) (.cons (Get.cstr (l := [109]) rfl rfl) .nil)) ?_
    refine L.box rfl rfl (GSpec.plain rfl (spec_alloc rfl ti66 z66)) (fun r5 => ?_)
    refine L.box rfl rfl (GSpec.plain rfl (spec_alloc rfl ti66 z66)) (fun r6 => ?_)
    refine L.box rfl rfl (GSpec.plain rfl (spec_alloc rfl ti66 z66)) (fun r7 => ?_)
    refine L.box rfl rfl (GSpec.plain rfl (spec_alloc rfl ti66 z66)) (fun r8 => ?_)
    refine L.storeW (k := 3) rfl rfl rfl Tryz.sizeOf66 (Get.tmp rfl) (Get.tmp rfl) rfl rfl rfl ?_
    refine L.storeW (k := 2) rfl rfl rfl Tryz.sizeOf66 (Get.tmp rfl) (Get.tmp rfl) rfl rfl rfl ?_
    refine L.storeW (k := 1) rfl rfl rfl Tryz.sizeOf66 (Get.tmp rfl) (Get.tmp rfl) rfl rfl rfl ?_
    refine L.storeW (k := 0) rfl rfl rfl Tryz.sizeOf66 (Get.tmp rfl) (Get.tmp rfl) rfl rfl rfl ?_
    refine L.nt ?_
    refine W.pubB 5 3 rfl rfl ?_
    refine W.keep (.cons (t := 0) rfl (.cons (t := 2) rfl (.cons (t := 3) rfl (.cons (t := 4) rfl (.cons (t := 5) rfl (.cons (t := 6) rfl (.cons (t := 7) rfl (.cons (t := 8) rfl .nil)))))))) .refl ?_
    refine W.seq ?_
    apply W.any 7 mixed (by kernel_rfl)
    · apply Head.one rfl rfl (GSpec.plain rfl (spec_move rfl (Get.tmp rfl)))
      apply Head.one rfl rfl (GSpec.plain rfl (spec_loadW (k := 0) rfl Tryz.isAgg66 Tryz.sizeOf66 (Get.tmp rfl) rfl rfl))
      apply Head.one rfl rfl (GSpec.plain rfl (spec_call rfl Tryz.call57 (not_ok _) (.cons (Get.tmp rfl) .nil)))
      apply Head.one rfl rfl (GSpec.plain rfl (spec_loadPA rfl Tryz.isAgg66 Tryz.sizeOf66 (Get.tmp rfl) rfl))
      apply Head.one rfl rfl (GSpec.plain rfl (spec_call rfl Tryz.call36 (num_ok _) (.cons (Get.cint rfl) .nil)))
      apply Head.one rfl rfl (GSpec.plain rfl (spec_call rfl Tryz.call34 (less_ok _ _) (.cons (Get.tmp rfl) (.cons (Get.tmp rfl) .nil))))
      apply Head.one rfl rfl (GSpec.plain rfl (spec_call rfl Tryz.call45 (both_ok _ _) (.cons (Get.tmp rfl) (.cons (Get.tmp rfl) .nil))))
      exact Head.nil
    refine Fin.one ?_
    refine Fin.one ?_
    refine Fin.one ?_
    refine Fin.one ?_
    refine Fin.one ?_
    refine Fin.one ?_
    refine Fin.one ?_
    refine Fin.nil ?_
    refine L.call rfl rfl rfl rfl Tryz.call33 (wireB_ok _ _ _ _ _ _ (by first | omega | (simp only [addW, addR, pushD, popD, stageD, queue0, delay0, swapW, swap0, beginD, List.length_append, List.length_cons, List.length_nil]; omega) | decide)) (.cons 4 rfl (.cons 4 rfl (.cons 4 rfl .refl))) (.cons (Get.tmp rfl) (.cons (Get.cstr (l := [105, 114, 100, 121]) rfl rfl) (.cons (Get.cint rfl) (.cons (Get.tmp rfl) .nil)))) (fun v30 => ?_)
    try dsimp only
    refine L.nt ?_
    refine W.keep (.cons (t := 0) rfl (.cons (t := 2) rfl (.cons (t := 3) rfl (.cons (t := 4) rfl (.cons (t := 5) rfl (.cons (t := 6) rfl (.cons (t := 7) rfl (.cons (t := 8) rfl .nil)))))))) .refl ?_
    refine W.sr ?_
    refine L.mv rfl rfl rfl rfl rfl ?_
    refine L.p1 rfl rfl rfl (spec_loadW (k := 3) rfl Tryz.isAgg66 Tryz.sizeOf66 (Get.tmp rfl) rfl rfl) ?_
    refine L.call rfl rfl rfl rfl Tryz.call33 (wireB_ok _ _ _ _ _ _ (by first | omega | (simp only [addW, addR, pushD, popD, stageD, queue0, delay0, swapW, swap0, beginD, List.length_append, List.length_cons, List.length_nil]; omega) | decide)) (.cons 0 rfl (.cons 0 rfl (.cons 0 rfl .refl))) (.cons (Get.tmp rfl) (.cons (Get.cstr (l := [111, 118]) rfl rfl) (.cons (Get.cint rfl) (.cons (Get.tmp rfl) .nil)))) (fun v33 => ?_)
    try dsimp only
    refine L.nt ?_
    refine W.sr ?_
    refine L.mv rfl rfl rfl rfl rfl ?_
    refine L.p1 rfl rfl rfl (spec_loadPA rfl Tryz.isAgg66 Tryz.sizeOf66 (Get.tmp rfl) rfl) ?_
    refine L.p1 rfl rfl rfl (spec_call rfl Tryz.call46 (equal_ok _ _) (.cons (Get.tmp rfl) (.cons (Get.cint rfl) .nil))) ?_
    refine L.p1 rfl rfl rfl (spec_call rfl Tryz.call35 (ref_ok _) (.cons (Get.cstr (l := [116, 49]) rfl rfl) .nil)) ?_
    refine L.p1 rfl rfl rfl (spec_call rfl Tryz.call35 (ref_ok _) (.cons (Get.cstr (l := [116, 48]) rfl rfl) .nil)) ?_
    refine L.p1 rfl rfl rfl (spec_call rfl Tryz.call44 (when_ok _ _ _) (.cons (Get.tmp rfl) (.cons (Get.tmp rfl) (.cons (Get.tmp rfl) .nil)))) ?_
    refine L.call rfl rfl rfl rfl Tryz.call33 (wireB_ok _ _ _ _ _ _ (by first | omega | (simp only [addW, addR, pushD, popD, stageD, queue0, delay0, swapW, swap0, beginD, List.length_append, List.length_cons, List.length_nil]; omega) | decide)) (.cons 0 rfl (.cons 0 rfl (.cons 0 rfl .refl))) (.cons (Get.tmp rfl) (.cons (Get.cstr (l := [111, 116]) rfl rfl) (.cons (Get.cint rfl) (.cons (Get.tmp rfl) .nil)))) (fun v40 => ?_)
    try dsimp only
    refine L.nt ?_
    refine W.keep (.cons (t := 0) rfl (.cons (t := 2) rfl (.cons (t := 3) rfl (.cons (t := 4) rfl (.cons (t := 5) rfl (.cons (t := 6) rfl (.cons (t := 7) rfl (.cons (t := 8) rfl .nil)))))))) .refl ?_
    refine W.sr ?_
    refine L.mv rfl rfl rfl rfl rfl ?_
    refine L.mv rfl rfl rfl rfl rfl ?_
    refine L.p1 rfl rfl rfl (spec_loadPA rfl Tryz.isAgg66 Tryz.sizeOf66 (Get.tmp rfl) rfl) ?_
    refine L.p1 rfl rfl rfl (spec_call rfl Tryz.call46 (equal_ok _ _) (.cons (Get.tmp rfl) (.cons (Get.cint rfl) .nil))) ?_
    refine L.p1 rfl rfl rfl (spec_call rfl Tryz.call35 (ref_ok _) (.cons (Get.cstr (l := [97, 49]) rfl rfl) .nil)) ?_
    refine L.p1 rfl rfl rfl (spec_call rfl Tryz.call35 (ref_ok _) (.cons (Get.cstr (l := [97, 48]) rfl rfl) .nil)) ?_
    refine L.p1 rfl rfl rfl (spec_call rfl Tryz.call44 (when_ok _ _ _) (.cons (Get.tmp rfl) (.cons (Get.tmp rfl) (.cons (Get.tmp rfl) .nil)))) ?_
    refine L.call rfl rfl rfl rfl Tryz.call33 (wireB_ok _ _ _ _ _ _ (by first | omega | (simp only [addW, addR, pushD, popD, stageD, queue0, delay0, swapW, swap0, beginD, List.length_append, List.length_cons, List.length_nil]; omega) | decide)) (.cons 0 rfl (.cons 0 rfl (.cons 0 rfl .refl))) (.cons (Get.tmp rfl) (.cons (Get.cstr (l := [111, 97]) rfl rfl) (.cons (Get.tmp rfl) (.cons (Get.tmp rfl) .nil)))) (fun v48 => ?_)
    try dsimp only
    refine L.nt ?_
    refine W.keep (.cons (t := 0) rfl (.cons (t := 2) rfl (.cons (t := 3) rfl (.cons (t := 4) rfl (.cons (t := 5) rfl (.cons (t := 6) rfl (.cons (t := 7) rfl (.cons (t := 8) rfl .nil)))))))) .refl ?_
    refine W.sr ?_
    refine L.mv rfl rfl rfl rfl rfl ?_
    refine L.call rfl rfl rfl rfl Tryz.call37 (push_ok _ _ _ (by first | omega | (simp only [addW, addR, pushD, popD, stageD, queue0, delay0, swapW, swap0, beginD, List.length_append, List.length_cons, List.length_nil]; omega) | decide)) (.cons 0 rfl (.cons 0 rfl (.cons 0 rfl .refl))) (.cons (Get.tmp rfl) .nil) (fun v50 => ?_)
    try dsimp only
    refine L.nt ?_
    refine W.sr ?_
    refine L.mv rfl rfl rfl rfl rfl ?_
    refine L.call rfl rfl rfl rfl Tryz.call38 (pop_ok _ _ _ (by first | omega | (simp only [addW, addR, pushD, popD, stageD, queue0, delay0, swapW, swap0, beginD, List.length_append, List.length_cons, List.length_nil]; omega) | decide)) (.cons 0 rfl (.cons 0 rfl (.cons 0 rfl .refl))) (.cons (Get.tmp rfl) .nil) (fun v52 => ?_)
    try dsimp only
    refine L.nt ?_
    refine W.seq ?_
    apply W.any 6 mixed (by kernel_rfl)
    · apply Head.one rfl rfl (GSpec.plain rfl (spec_move rfl (Get.tmp rfl)))
      apply Head.one rfl rfl (GSpec.plain rfl (spec_loadPA rfl Tryz.isAgg66 Tryz.sizeOf66 (Get.tmp rfl) rfl))
      apply Head.one rfl rfl (GSpec.plain rfl (spec_call rfl Tryz.call35 (ref_ok _) (.cons (Get.cstr (l := [112, 117, 115, 104]) rfl rfl) .nil)))
      apply Head.one rfl rfl (GSpec.plain rfl (spec_call rfl Tryz.call41 (plus_ok _ _) (.cons (Get.tmp rfl) (.cons (Get.tmp rfl) .nil))))
      apply Head.one rfl rfl (GSpec.plain rfl (spec_call rfl Tryz.call35 (ref_ok _) (.cons (Get.cstr (l := [112, 111, 112]) rfl rfl) .nil)))
      apply Head.one rfl rfl (GSpec.plain rfl (spec_call rfl Tryz.call39 (minus_ok _ _) (.cons (Get.tmp rfl) (.cons (Get.tmp rfl) .nil))))
      exact Head.nil
    refine Fin.one ?_
    refine Fin.one ?_
    refine Fin.one ?_
    refine Fin.one ?_
    refine Fin.one ?_
    refine Fin.one ?_
    refine Fin.nil ?_
    refine L.call rfl rfl rfl rfl Tryz.call33 (wireB_ok _ _ _ _ _ _ (by first | omega | (simp only [addW, addR, pushD, popD, stageD, queue0, delay0, swapW, swap0, beginD, List.length_append, List.length_cons, List.length_nil]; omega) | decide)) (.cons 0 rfl (.cons 0 rfl (.cons 0 rfl .refl))) (.cons (Get.tmp rfl) (.cons (Get.cstr (l := [114]) rfl rfl) (.cons (Get.cint rfl) (.cons (Get.tmp rfl) .nil)))) (fun v59 => ?_)
    try dsimp only
    refine L.nt ?_
    refine W.keep (.cons (t := 0) rfl (.cons (t := 2) rfl (.cons (t := 3) rfl (.cons (t := 4) rfl (.cons (t := 5) rfl (.cons (t := 6) rfl (.cons (t := 7) rfl (.cons (t := 8) rfl .nil)))))))) .refl ?_
    refine W.sr ?_
    refine L.mv rfl rfl rfl rfl rfl ?_
    refine L.p1 rfl rfl rfl (spec_loadW (k := 5) rfl Tryz.isAgg66 Tryz.sizeOf66 (Get.tmp rfl) rfl rfl) ?_
    refine L.call rfl rfl rfl rfl Tryz.call40 (regB_ok _ _ _ _ _ _ (by first | omega | (simp only [addW, addR, pushD, popD, stageD, queue0, delay0, swapW, swap0, beginD, List.length_append, List.length_cons, List.length_nil]; omega) | decide)) (.cons 0 rfl (.cons 0 rfl (.cons 0 rfl .refl))) (.cons (Get.tmp rfl) (.cons (Get.cstr (l := [110]) rfl rfl) (.cons (Get.cint rfl) (.cons (Get.tmp rfl) .nil)))) (fun v62 => ?_)
    try dsimp only
    refine L.nt ?_
    refine W.seq ?_
    apply W.any 5 mixed (by kernel_rfl)
    · apply Head.one rfl rfl (GSpec.plain rfl (spec_loadW (k := 5) rfl Tryz.isAgg66 Tryz.sizeOf66 (Get.tmp rfl) rfl rfl))
      apply Head.one rfl rfl (GSpec.plain rfl (spec_call rfl Tryz.call36 (num_ok _) (.cons (Get.cint rfl) .nil)))
      apply Head.one rfl rfl (GSpec.plain rfl (spec_buildSliceN (xs := [refE sR, numE 0]) (E := eX) rfl Tryz.underlying64 ti66 z66 (by first | decide | simp) rfl (.cons (GetC.agg (Get.tmp rfl)) rfl rfl rfl (.cons (GetC.agg (Get.tmp rfl)) rfl rfl rfl .nil)) rfl rfl))
      apply Head.one rfl rfl (GSpec.plain rfl (spec_call rfl Tryz.call60 (node_ok _ _ (by first | decide | omega | (simp; done))) (.cons (Get.cint rfl) (.cons (Get.tmp rfl) .nil))))
      apply Head.sink rfl rfl (GSpec.plain rfl (spec_alloc rfl ti66 z66))
      exact Head.nil
    refine Fin.one ?_
    refine Fin.one ?_
    refine Fin.one ?_
    refine Fin.one ?_
    refine Fin.sink (fun (r9 : Nat) => ?_)
    refine Fin.nil ?_
    refine L.storeW (k := 0) rfl rfl rfl Tryz.sizeOf66 (Get.tmp rfl) (Get.tmp rfl) rfl rfl rfl ?_
    refine L.nt ?_
    refine W.keep (.cons (t := 0) rfl (.cons (t := 2) rfl (.cons (t := 3) rfl (.cons (t := 4) rfl (.cons (t := 5) rfl (.cons (t := 6) rfl (.cons (t := 7) rfl (.cons (t := 8) rfl (.cons (t := 9) rfl .nil))))))))) .refl ?_
    refine W.seq ?_
    apply W.any 12 mixed (by kernel_rfl)
    · apply Head.one rfl rfl (GSpec.plain rfl (spec_move rfl (Get.tmp rfl)))
      apply Head.one rfl rfl (GSpec.plain rfl (spec_loadW (k := 4) rfl Tryz.isAgg66 Tryz.sizeOf66 (Get.tmp rfl) rfl rfl))
      apply Head.one rfl rfl (GSpec.plain rfl (spec_loadW (k := 0) rfl Tryz.isAgg66 Tryz.sizeOf66 (Get.tmp rfl) rfl rfl))
      apply Head.one rfl rfl (GSpec.plain rfl (spec_loadW (k := 6) rfl Tryz.isAgg66 Tryz.sizeOf66 (Get.tmp rfl) rfl rfl))
      apply Head.one rfl rfl (GSpec.plain rfl (spec_call rfl Tryz.call46 (equal_ok _ _) (.cons (Get.tmp rfl) (.cons (Get.cint rfl) .nil))))
      apply Head.one rfl rfl (GSpec.plain rfl (spec_loadW (k := 6) rfl Tryz.isAgg66 Tryz.sizeOf66 (Get.tmp rfl) rfl rfl))
      apply Head.one rfl rfl (GSpec.plain rfl (spec_call rfl Tryz.call46 (equal_ok _ _) (.cons (Get.tmp rfl) (.cons (Get.cint rfl) .nil))))
      apply Head.one rfl rfl (GSpec.plain rfl (spec_loadW (k := 5) rfl Tryz.isAgg66 Tryz.sizeOf66 (Get.tmp rfl) rfl rfl))
      apply Head.one rfl rfl (GSpec.plain rfl (spec_call rfl Tryz.call46 (equal_ok _ _) (.cons (Get.tmp rfl) (.cons (Get.cint rfl) .nil))))
      apply Head.one rfl rfl (GSpec.plain rfl (spec_call rfl Tryz.call45 (both_ok _ _) (.cons (Get.tmp rfl) (.cons (Get.tmp rfl) .nil))))
      apply Head.one rfl rfl (GSpec.plain rfl (spec_call rfl Tryz.call56 (either_ok _ _) (.cons (Get.tmp rfl) (.cons (Get.tmp rfl) .nil))))
      apply Head.one rfl rfl (GSpec.plain rfl (spec_call rfl Tryz.call44 (when_ok _ _ _) (.cons (Get.tmp rfl) (.cons (Get.tmp rfl) (.cons (Get.tmp rfl) .nil)))))
      exact Head.nil
    refine Fin.one ?_
    refine Fin.one ?_
    refine Fin.one ?_
    refine Fin.one ?_
    refine Fin.one ?_
    refine Fin.one ?_
    refine Fin.one ?_
    refine Fin.one ?_
    refine Fin.one ?_
    refine Fin.one ?_
    refine Fin.one ?_
    refine Fin.one ?_
    refine Fin.nil ?_
    refine L.call rfl rfl rfl rfl Tryz.call40 (regB_ok _ _ _ _ _ _ (by first | omega | (simp only [addW, addR, pushD, popD, stageD, queue0, delay0, swapW, swap0, beginD, List.length_append, List.length_cons, List.length_nil]; omega) | decide)) (.cons 1 rfl (.cons 1 rfl (.cons 1 rfl .refl))) (.cons (Get.tmp rfl) (.cons (Get.cstr (l := [109]) rfl rfl) (.cons (Get.cint rfl) (.cons (Get.tmp rfl) .nil)))) (fun v79 => ?_)
    try dsimp only
    refine L.nt ?_
    refine W.keep (.cons (t := 0) rfl (.cons (t := 2) rfl (.cons (t := 3) rfl (.cons (t := 4) rfl (.cons (t := 5) rfl (.cons (t := 7) rfl (.cons (t := 8) rfl .nil))))))) .refl ?_
    refine W.seq ?_
    apply W.any 13 mixed (by kernel_rfl)
    · apply Head.one rfl rfl (GSpec.plain rfl (spec_loadW (k := 4) rfl Tryz.isAgg66 Tryz.sizeOf66 (Get.tmp rfl) rfl rfl))
      apply Head.one rfl rfl (GSpec.plain rfl (spec_call rfl Tryz.call57 (not_ok _) (.cons (Get.tmp rfl) .nil)))
      apply Head.one rfl rfl (GSpec.plain rfl (spec_loadPA rfl Tryz.isAgg66 Tryz.sizeOf66 (Get.tmp rfl) rfl))
      apply Head.one rfl rfl (GSpec.plain rfl (spec_call rfl Tryz.call46 (equal_ok _ _) (.cons (Get.tmp rfl) (.cons (Get.cint rfl) .nil))))
      apply Head.one rfl rfl (GSpec.plain rfl (spec_call rfl Tryz.call45 (both_ok _ _) (.cons (Get.tmp rfl) (.cons (Get.tmp rfl) .nil))))
      apply Head.one rfl rfl (GSpec.plain rfl (spec_call rfl Tryz.call35 (ref_ok _) (.cons (Get.cstr (l := [112, 117, 115, 104]) rfl rfl) .nil)))
      apply Head.one rfl rfl (GSpec.plain rfl (spec_call rfl Tryz.call57 (not_ok _) (.cons (Get.tmp rfl) .nil)))
      apply Head.one rfl rfl (GSpec.plain rfl (spec_call rfl Tryz.call45 (both_ok _ _) (.cons (Get.tmp rfl) (.cons (Get.tmp rfl) .nil))))
      apply Head.one rfl rfl (GSpec.plain rfl (spec_loadW (k := 5) rfl Tryz.isAgg66 Tryz.sizeOf66 (Get.tmp rfl) rfl rfl))
      apply Head.one rfl rfl (GSpec.plain rfl (spec_call rfl Tryz.call36 (num_ok _) (.cons (Get.cint rfl) .nil)))
      apply Head.one rfl rfl (GSpec.plain rfl (spec_call rfl Tryz.call34 (less_ok _ _) (.cons (Get.tmp rfl) (.cons (Get.tmp rfl) .nil))))
      apply Head.one rfl rfl (GSpec.plain rfl (spec_call rfl Tryz.call45 (both_ok _ _) (.cons (Get.tmp rfl) (.cons (Get.tmp rfl) .nil))))
      apply Head.sink rfl rfl (GSpec.plain rfl (spec_alloc rfl ti66 z66))
      exact Head.nil
    refine Fin.one ?_
    refine Fin.one ?_
    refine Fin.one ?_
    refine Fin.one ?_
    refine Fin.one ?_
    refine Fin.one ?_
    refine Fin.one ?_
    refine Fin.one ?_
    refine Fin.one ?_
    refine Fin.one ?_
    refine Fin.one ?_
    refine Fin.one ?_
    refine Fin.sink (fun (r10 : Nat) => ?_)
    refine Fin.nil ?_
    refine L.storeW (k := 0) rfl rfl rfl Tryz.sizeOf66 (Get.tmp rfl) (Get.tmp rfl) rfl rfl rfl ?_
    refine L.nt ?_
    refine W.keep (.cons (t := 0) rfl (.cons (t := 2) rfl (.cons (t := 3) rfl (.cons (t := 4) rfl (.cons (t := 5) rfl (.cons (t := 7) rfl (.cons (t := 10) rfl .nil))))))) .refl ?_
    refine W.seq ?_
    apply W.any 7 mixed (by kernel_rfl)
    · apply Head.one rfl rfl (GSpec.plain rfl (spec_move rfl (Get.tmp rfl)))
      apply Head.one rfl rfl (GSpec.plain rfl (spec_loadW (k := 0) rfl Tryz.isAgg66 Tryz.sizeOf66 (Get.tmp rfl) rfl rfl))
      apply Head.one rfl rfl (GSpec.plain rfl (spec_loadW (k := 6) rfl Tryz.isAgg66 Tryz.sizeOf66 (Get.tmp rfl) rfl rfl))
      apply Head.one rfl rfl (GSpec.plain rfl (spec_call rfl Tryz.call36 (num_ok _) (.cons (Get.cint rfl) .nil)))
      apply Head.one rfl rfl (GSpec.plain rfl (spec_call rfl Tryz.call41 (plus_ok _ _) (.cons (Get.tmp rfl) (.cons (Get.tmp rfl) .nil))))
      apply Head.one rfl rfl (GSpec.plain rfl (spec_call rfl Tryz.call36 (num_ok _) (.cons (Get.cint rfl) .nil)))
      apply Head.one rfl rfl (GSpec.plain rfl (spec_call rfl Tryz.call44 (when_ok _ _ _) (.cons (Get.tmp rfl) (.cons (Get.tmp rfl) (.cons (Get.tmp rfl) .nil)))))
      exact Head.nil
    refine Fin.one ?_
    refine Fin.one ?_
    refine Fin.one ?_
    refine Fin.one ?_
    refine Fin.one ?_
    refine Fin.one ?_
    refine Fin.one ?_
    refine Fin.nil ?_
    refine L.call rfl rfl rfl rfl Tryz.call40 (regB_ok _ _ _ _ _ _ (by first | omega | (simp only [addW, addR, pushD, popD, stageD, queue0, delay0, swapW, swap0, beginD, List.length_append, List.length_cons, List.length_nil]; omega) | decide)) (.cons 1 rfl (.cons 1 rfl (.cons 1 rfl .refl))) (.cons (Get.tmp rfl) (.cons (Get.cstr (l := [115]) rfl rfl) (.cons (Get.cint rfl) (.cons (Get.tmp rfl) .nil)))) (fun v99 => ?_)
    try dsimp only
    refine L.nt ?_
    refine W.keep (.cons (t := 0) rfl (.cons (t := 2) rfl (.cons (t := 3) rfl (.cons (t := 4) rfl (.cons (t := 5) rfl .nil))))) .refl ?_
    refine W.seq ?_
    refine W.sr ?_
    refine L.p1 rfl rfl rfl (spec_move rfl (Get.cint rfl)) ?_
    refine L.nt ?_
    refine W.block ?_
    refine W.loopK (σ := Nat × (Value × Value)) (.cons (t := 0) rfl (.cons (t := 2) rfl (.cons (t := 3) rfl (.cons (t := 4) rfl (.cons (t := 5) rfl .nil))))) (fun z => [(100, Rp.int .i64 (z.1 : Nat))]) (fun z => [MF.box v18.1 111 (bdR (swapsD w z.1) z.2), MF.osl z.2.1 77 6 eWr (swapsD w z.1).wires, MF.osl z.2.2 81 7 eRg (swapsD w z.1).regs]) (fun z => z.1 ≤ 2) (fun z => 2 - z.1) (0, v99) (Nat.zero_le _) (.cons (t := 100) rfl .nil) (.cons 0 rfl (.cons 0 rfl (.cons 0 rfl (.cons 0 rfl (.cons 0 rfl (.cons 0 rfl (.cons 0 rfl (.cons 0 rfl (.cons 0 rfl (.cons 0 rfl .nil)))))))))) ?_
    intro ⟨i, vp⟩ hI S' M' hS hM
    try dsimp only at hS hM
    simp only [List.cons_append, List.nil_append] at hS hM
    subst hS hM
    try dsimp only
    try dsimp only at hI
    have hcl := swaps_len w i
    refine W.sr ?_
    refine L.p1 rfl rfl rfl (spec_lss rfl (Get.tmp rfl) (Get.cint rfl)) ?_
    refine L.nt ?_
    refine W.seq ?_
    refine W.cond (Get.tmp rfl) (fun h2 => ?_) (fun h2 => ?_)
    · have ph2 := h2; try simp only [sbx] at ph2
      refine W.skip ?_
      refine N.thenW ?_
      refine W.seq ?_
      refine W.block ?_
      refine W.sr ?_
      refine L.mv rfl rfl rfl rfl rfl ?_
      refine L.box rfl rfl (GSpec.plain rfl (spec_alloc rfl ti3 z3)) (fun r11 => ?_)
      refine L.storeB (k := 0) rfl rfl rfl Tryz.sizeOf3 (Get.tmp rfl) (Get.tmp rfl) rfl rfl ?_
      refine L.nt ?_
      refine W.pubB 11 0 rfl rfl ?_
      refine W.sr ?_
      refine L.p1 rfl rfl rfl (spec_makeFunc rfl (.cons (Get.tmp rfl) (.cons (Get.tmp rfl) .nil))) ?_
      refine L.as rfl rfl rfl rfl rfl ?_
      refine L.nt ?_
      refine W.seq ?_
      apply W.any 10 mixed (by kernel_rfl)
      · apply Head.one rfl rfl (GSpec.plain rfl (spec_move rfl (Get.tmp rfl)))
        apply Head.one rfl rfl (GSpec.plain rfl (spec_loadP1 rfl Tryz.isAgg3 (Get.tmp rfl)))
        apply Head.one rfl rfl (GSpec.plain rfl (spec_call rfl Tryz.call43 (indexed_ok _ _ (by omega) (by omega) (by first | decide | omega | (simp; omega))) (.cons (Get.cstr (l := [116]) rfl rfl) (.cons (Get.tmp rfl) .nil))))
        apply Head.one rfl rfl (GSpec.plain rfl (spec_move rfl (Get.tmp rfl)))
        apply Head.one rfl rfl (GSpec.plain rfl (spec_callC (A := []) rfl (Get.tmp rfl) Tryz.call61 (takeS_ok _) .nil))
        apply Head.one rfl rfl (GSpec.plain rfl (spec_call rfl Tryz.call35 (ref_ok _) (.cons (Get.cstr (l := [105, 116]) rfl rfl) .nil)))
        apply Head.one rfl rfl (GSpec.plain rfl (spec_loadP1 rfl Tryz.isAgg3 (Get.tmp rfl)))
        apply Head.one rfl rfl (GSpec.plain rfl (spec_call rfl Tryz.call43 (indexed_ok _ _ (by omega) (by omega) (by first | decide | omega | (simp; omega))) (.cons (Get.cstr (l := [116]) rfl rfl) (.cons (Get.tmp rfl) .nil))))
        apply Head.one rfl rfl (GSpec.plain rfl (spec_call rfl Tryz.call35 (ref_ok _) (.cons (Get.tmp rfl) .nil)))
        apply Head.one rfl rfl (GSpec.plain rfl (spec_call rfl Tryz.call44 (when_ok _ _ _) (.cons (Get.tmp rfl) (.cons (Get.tmp rfl) (.cons (Get.tmp rfl) .nil)))))
        exact Head.nil
      refine Fin.one ?_
      refine Fin.one ?_
      refine Fin.one ?_
      refine Fin.one ?_
      refine Fin.one ?_
      refine Fin.one ?_
      refine Fin.one ?_
      refine Fin.one ?_
      refine Fin.one ?_
      refine Fin.one ?_
      refine Fin.nil ?_
      refine L.call rfl rfl rfl rfl Tryz.call40 (regB_ok _ _ _ _ _ _ (by first | omega | (simp only [addW, addR, pushD, popD, stageD, queue0, delay0, swapW, swap0, beginD, List.length_append, List.length_cons, List.length_nil]; omega) | decide)) (.cons 0 rfl (.cons 0 rfl (.cons 0 rfl .refl))) (.cons (Get.tmp rfl) (.cons (Get.tmp rfl) (.cons (Get.cint rfl) (.cons (Get.tmp rfl) .nil)))) (fun v114 => ?_)
      try dsimp only
      refine L.nt ?_
      apply W.any 11 mixed (by kernel_rfl)
      · apply Head.one rfl rfl (GSpec.plain rfl (spec_move rfl (Get.tmp rfl)))
        apply Head.one rfl rfl (GSpec.plain rfl (spec_loadP1 rfl Tryz.isAgg3 (Get.tmp rfl)))
        apply Head.one rfl rfl (GSpec.plain rfl (spec_call rfl Tryz.call43 (indexed_ok _ _ (by omega) (by omega) (by first | decide | omega | (simp; omega))) (.cons (Get.cstr (l := [97]) rfl rfl) (.cons (Get.tmp rfl) .nil))))
        apply Head.one rfl rfl (GSpec.plain rfl (spec_move rfl (Get.tmp rfl)))
        apply Head.one rfl rfl (GSpec.plain rfl (spec_move rfl (Get.tmp rfl)))
        apply Head.one rfl rfl (GSpec.plain rfl (spec_callC (A := []) rfl (Get.tmp rfl) Tryz.call61 (takeS_ok _) .nil))
        apply Head.one rfl rfl (GSpec.plain rfl (spec_call rfl Tryz.call35 (ref_ok _) (.cons (Get.cstr (l := [105, 97]) rfl rfl) .nil)))
        apply Head.one rfl rfl (GSpec.plain rfl (spec_loadP1 rfl Tryz.isAgg3 (Get.tmp rfl)))
        apply Head.one rfl rfl (GSpec.plain rfl (spec_call rfl Tryz.call43 (indexed_ok _ _ (by omega) (by omega) (by first | decide | omega | (simp; omega))) (.cons (Get.cstr (l := [97]) rfl rfl) (.cons (Get.tmp rfl) .nil))))
        apply Head.one rfl rfl (GSpec.plain rfl (spec_call rfl Tryz.call35 (ref_ok _) (.cons (Get.tmp rfl) .nil)))
        apply Head.one rfl rfl (GSpec.plain rfl (spec_call rfl Tryz.call44 (when_ok _ _ _) (.cons (Get.tmp rfl) (.cons (Get.tmp rfl) (.cons (Get.tmp rfl) .nil)))))
        exact Head.nil
      refine Fin.one ?_
      refine Fin.one ?_
      refine Fin.one ?_
      refine Fin.one ?_
      refine Fin.one ?_
      refine Fin.one ?_
      refine Fin.one ?_
      refine Fin.one ?_
      refine Fin.one ?_
      refine Fin.one ?_
      refine Fin.one ?_
      refine Fin.nil ?_
      refine L.call rfl rfl rfl rfl Tryz.call40 (regB_ok _ _ _ _ _ _ (by first | omega | (simp only [addW, addR, pushD, popD, stageD, queue0, delay0, swapW, swap0, beginD, List.length_append, List.length_cons, List.length_nil]; omega) | decide)) (.cons 0 rfl (.cons 0 rfl (.cons 0 rfl .refl))) (.cons (Get.tmp rfl) (.cons (Get.tmp rfl) (.cons (Get.tmp rfl) (.cons (Get.tmp rfl) .nil)))) (fun v126 => ?_)
      try dsimp only
      refine L.nil ?_
      refine N.blockNormal ?_
      refine N.thenW ?_
      refine W.region ?_
      first | refine L.op1 rfl rfl (GSpec.plain rfl (fit_i64 (by omega) (by omega) (spec_add rfl (Get.tmp rfl) (Get.cint rfl)))) ?_ | refine L.op1 rfl rfl (GSpec.plain rfl (spec_add rfl (Get.tmp rfl) (Get.cint rfl))) ?_
      refine L.mv rfl rfl rfl rfl rfl ?_
      refine L.nil ?_
      refine N.roundK (i + 1, v126) ?hI1 ?hmu1 ?hs1 ?hk1 ?hp1
      case hs1 => exact (.cons (t := 100) rfl .nil)
      case hk1 => exact (.cons (t := 0) rfl (.cons (t := 2) rfl (.cons (t := 3) rfl (.cons (t := 4) rfl (.cons (t := 5) rfl .nil)))))
      case hp1 => exact (.cons 0 rfl (.cons 0 rfl (.cons 0 rfl (.cons 0 rfl (.cons 0 rfl (.cons 0 rfl (.cons 0 rfl (.cons 0 rfl (.cons 0 rfl (.cons 0 rfl .nil))))))))))
      case hI1 => dsimp only; omega
      case hmu1 => dsimp only; omega
    · have ph2 := h2; try simp only [sbx] at ph2
      refine W.exit ?_
      refine N.thenExit ?_
      refine N.thenExit ?_
      refine N.blockExit ?_
      refine N.thenW ?_
      have hi : i = 2 := by omega
      subst hi
      have hcl := swaps_len w 2
      refine W.sr ?_
      refine L.mv rfl rfl rfl rfl rfl ?_
      refine L.call rfl rfl rfl rfl Tryz.call47 (end_ok _ _ _) (.cons 0 rfl (.cons 0 rfl (.cons 0 rfl .refl))) (.cons (Get.tmp rfl) .nil) (fun _u => ?_)
      try dsimp only
      refine L.p1 rfl rfl rfl (spec_extract rfl (Get.tmp rfl) rfl) ?_
      refine L.p1 rfl rfl rfl (spec_extract rfl (Get.tmp rfl) rfl) ?_
      refine L.storeW (k := 6) rfl rfl rfl Tryz.sizeOf27 (Get.tmp rfl) (Get.tmp rfl) rfl rfl rfl ?_
      refine L.as rfl rfl rfl rfl rfl ?_
      refine L.nt ?_
      refine W.keep (.cons (t := 2) rfl (.cons (t := 3) rfl .nil)) .refl ?_
      refine W.ret ?_
      refine N.ret () rfl (.cellA (k := 6) (Get.tmp (t := 2) rfl) rfl Tryz.isAgg27 Tryz.sizeOf27 rfl (.tmp (t := 3) (Get.tmp rfl) .nil)) (res2w (eqA ?_) (eqI ?_)) .nil (fun _ _ h => h)
      all_goals rfl

end Go.Proofs.YthlfacmpjehjmaaGreatDoor
/- Total contracts of the designs; equality of ports. -/
set_option linter.unusedSimpArgs false
set_option linter.unusedVariables false
namespace Go.Proofs.YthlfacmpjehjmaaGreatDoor
open Go.Sim
section
variable {M : List MF} {o : Oper} {σ : Nat → Option Rp}
theorem fld84 : FldP Tryz.prog [({ name := "Name", type := 9, offset := 0, embedded := false, tag := "", pkgPath := "", byteOffset := 0 } : Field), { name := "Width", type := 3, offset := 1, embedded := false, tag := "", pkgPath := "", byteOffset := 16 }] [.str, .int] 0 :=
  .cons (by decide) rfl Tryz.underlying9 trivial Tryz.isAgg9 (.cons (by decide) rfl Tryz.underlying3 trivial Tryz.isAgg3 .nil)
theorem eq84 (n m : Pt) : ([decide (n.name = m.name), decide (n.width = m.width)].all id) = decide (n = m) := by
  rw [Bool.eq_iff_iff]; cases n; cases m; simp
theorem neq84 {x y : Operand} {n m : Pt} {T' : TypeId} (h : o.op = .binOp .neq 84 x y T') (hx : Get σ x (Rp.agg (eP n))) (hy : Get σ y (Rp.agg (eP m))) : Go.Sim.Spec Tryz.prog σ M o (.one (Rp.bool (!decide (n = m)))) := by
  rw [← eq84]; exact spec_neqA h Tryz.underlying84 (by kernel_rfl) (by kernel_rfl) fld84 (.str (.int .nil)) hx hy
end
theorem ds_fact {d : Ds} (w : World) (C : Nat → Prop) (v : Value) (h : (Rp.agg (eD d)).p w C v) : d.inputs.length ≤ 9223372036854775807 ∧ d.wires.length ≤ 9223372036854775807 ∧ d.regs.length ≤ 9223372036854775807 ∧ d.outputs.length ≤ 9223372036854775807 :=
  agg_fact (fun w C vs h => by
    match vs, h with
    | [a, b, c, e, f], ⟨_, h2, h3, h4, h5, _⟩ => exact ⟨slice_fact w C b h2, slice_fact w C c h3, slice_fact w C e h4, slice_fact w C f h5⟩) w C v h
def in2 (k w : Int) : Prop := 1 ≤ k ∧ k ≤ 8 ∧ 1 ≤ w ∧ w ≤ 8
def in1 (w : Int) : Prop := 1 ≤ w ∧ w ≤ 8
instance (k w : Int) : Decidable (in2 k w) := by unfold in2; infer_instance
instance (w : Int) : Decidable (in1 w) := by unfold in1; infer_instance
def dQ (k w : Int) : Ds := if in2 k w then queueD k.toNat w else noD
def dL (k w : Int) : Ds := if in2 k w then delayD k.toNat w else noD
def dA (w : Int) : Ds := if in1 w then adderD w else noD
def dC (w : Int) : Ds := if in1 w then counterD w else noD
def dW (w : Int) : Ds := if in1 w then swapD w else noD
def er2 (k w : Int) : Int := if in2 k w then 0 else 1
def er1 (w : Int) : Int := if in1 w then 0 else 1
theorem queue_tot (k w : Int) : CallT Tryz.prog 9 [Rp.int .i64 k, Rp.int .i64 w] [spG] (.one (Rp.tuple [Rp.agg (eD (dQ k w)), Rp.int .i64 (er2 k w)])) := by
  by_cases h : in2 k w
  · unfold dQ er2; rw [if_pos h, if_pos h]; exact queue_ok k w ⟨h.1, h.2.1⟩ h.2.2
  · unfold dQ er2; rw [if_neg h, if_neg h]; exact queueB_ok k w h
theorem adder_tot (w : Int) : CallT Tryz.prog 12 [Rp.int .i64 w] [spG] (.one (Rp.tuple [Rp.agg (eD (dA w)), Rp.int .i64 (er1 w)])) := by
  by_cases h : in1 w
  · unfold dA er1; rw [if_pos h, if_pos h]; exact adder_ok w h
  · unfold dA er1; rw [if_neg h, if_neg h]; exact adderB_ok w h
theorem counter_tot (w : Int) : CallT Tryz.prog 14 [Rp.int .i64 w] [spG] (.one (Rp.tuple [Rp.agg (eD (dC w)), Rp.int .i64 (er1 w)])) := by
  by_cases h : in1 w
  · unfold dC er1; rw [if_pos h, if_pos h]; exact counter_ok w h
  · unfold dC er1; rw [if_neg h, if_neg h]; exact counterB_ok w h
theorem delay_tot (k w : Int) : CallT Tryz.prog 16 [Rp.int .i64 k, Rp.int .i64 w] [spG] (.one (Rp.tuple [Rp.agg (eD (dL k w)), Rp.int .i64 (er2 k w)])) := by
  by_cases h : in2 k w
  · unfold dL er2; rw [if_pos h, if_pos h]; exact delay_ok k w ⟨h.1, h.2.1⟩ h.2.2
  · unfold dL er2; rw [if_neg h, if_neg h]; exact delayB_ok k w h
theorem swap_tot (w : Int) : CallT Tryz.prog 18 [Rp.int .i64 w] [spG] (.one (Rp.tuple [Rp.agg (eD (dW w)), Rp.int .i64 (er1 w)])) := by
  by_cases h : in1 w
  · unfold dW er1; rw [if_pos h, if_pos h]; exact swap_ok w h
  · unfold dW er1; rw [if_neg h, if_neg h]; exact swapB_ok w h
theorem queue33_tot (k w : Int) : CallT Tryz.prog 10 [Rp.int .i64 k, Rp.int .i64 w] [] (.one (Rp.tuple [Rp.agg (eD (dQ k w)), Rp.int .i64 (er2 k w)])) := by
  by_cases h : in2 k w
  · unfold dQ er2; rw [if_pos h, if_pos h]; exact queue33_ok k w ⟨h.1, h.2.1⟩ h.2.2
  · unfold dQ er2; rw [if_neg h, if_neg h]; exact queue33B_ok k w h
theorem adder33_tot (w : Int) : CallT Tryz.prog 13 [Rp.int .i64 w] [] (.one (Rp.tuple [Rp.agg (eD (dA w)), Rp.int .i64 (er1 w)])) := by
  by_cases h : in1 w
  · unfold dA er1; rw [if_pos h, if_pos h]; exact adder33_ok w h
  · unfold dA er1; rw [if_neg h, if_neg h]; exact adder33B_ok w h
theorem counter33_tot (w : Int) : CallT Tryz.prog 15 [Rp.int .i64 w] [] (.one (Rp.tuple [Rp.agg (eD (dC w)), Rp.int .i64 (er1 w)])) := by
  by_cases h : in1 w
  · unfold dC er1; rw [if_pos h, if_pos h]; exact counter33_ok w h
  · unfold dC er1; rw [if_neg h, if_neg h]; exact counter33B_ok w h
theorem delay33_tot (k w : Int) : CallT Tryz.prog 17 [Rp.int .i64 k, Rp.int .i64 w] [] (.one (Rp.tuple [Rp.agg (eD (dL k w)), Rp.int .i64 (er2 k w)])) := by
  by_cases h : in2 k w
  · unfold dL er2; rw [if_pos h, if_pos h]; exact delay33_ok k w ⟨h.1, h.2.1⟩ h.2.2
  · unfold dL er2; rw [if_neg h, if_neg h]; exact delay33B_ok k w h
theorem swap33_tot (w : Int) : CallT Tryz.prog 19 [Rp.int .i64 w] [] (.one (Rp.tuple [Rp.agg (eD (dW w)), Rp.int .i64 (er1 w)])) := by
  by_cases h : in1 w
  · unfold dW er1; rw [if_pos h, if_pos h]; exact swap33_ok w h
  · unfold dW er1; rw [if_neg h, if_neg h]; exact swap33B_ok w h
theorem gD_0 {s : List UInt8} (h : (s == [113, 117, 101, 117, 101]) = true) : getD1 s = queueD 4 8 := by rw [eq_of_beq h]; kernel_rfl
theorem gE_0 {s : List UInt8} (h : (s == [113, 117, 101, 117, 101]) = true) : getE1 s = 0 := by rw [eq_of_beq h]; kernel_rfl
theorem gD_1 {s : List UInt8} (h : (s == [97, 100, 100, 101, 114]) = true) : getD1 s = adderD 8 := by rw [eq_of_beq h]; kernel_rfl
theorem gE_1 {s : List UInt8} (h : (s == [97, 100, 100, 101, 114]) = true) : getE1 s = 0 := by rw [eq_of_beq h]; kernel_rfl
theorem gD_2 {s : List UInt8} (h : (s == [99, 111, 117, 110, 116, 101, 114]) = true) : getD1 s = counterD 8 := by rw [eq_of_beq h]; kernel_rfl
theorem gE_2 {s : List UInt8} (h : (s == [99, 111, 117, 110, 116, 101, 114]) = true) : getE1 s = 0 := by rw [eq_of_beq h]; kernel_rfl
theorem gD_3 {s : List UInt8} (h : (s == [100, 101, 108, 97, 121]) = true) : getD1 s = delayD 2 8 := by rw [eq_of_beq h]; kernel_rfl
theorem gE_3 {s : List UInt8} (h : (s == [100, 101, 108, 97, 121]) = true) : getE1 s = 0 := by rw [eq_of_beq h]; kernel_rfl
theorem gD_4 {s : List UInt8} (h : (s == [115, 119, 97, 112]) = true) : getD1 s = swapD 8 := by rw [eq_of_beq h]; kernel_rfl
theorem gE_4 {s : List UInt8} (h : (s == [115, 119, 97, 112]) = true) : getE1 s = 0 := by rw [eq_of_beq h]; kernel_rfl
theorem g_no {s : List UInt8} (h0 : (s == [113, 117, 101, 117, 101]) = false) (h1 : (s == [97, 100, 100, 101, 114]) = false) (h2 : (s == [99, 111, 117, 110, 116, 101, 114]) = false) (h3 : (s == [100, 101, 108, 97, 121]) = false) (h4 : (s == [115, 119, 97, 112]) = false) : getI s = -1 :=
  get_no fun j hj e => by
    rcases (show j = 0 ∨ j = 1 ∨ j = 2 ∨ j = 3 ∨ j = 4 by omega) with q | q | q | q | q <;> subst q
    · exact absurd e.symm (by rw [beq_eq_false_iff_ne] at h0; exact h0)
    · exact absurd e.symm (by rw [beq_eq_false_iff_ne] at h1; exact h1)
    · exact absurd e.symm (by rw [beq_eq_false_iff_ne] at h2; exact h2)
    · exact absurd e.symm (by rw [beq_eq_false_iff_ne] at h3; exact h3)
    · exact absurd e.symm (by rw [beq_eq_false_iff_ne] at h4; exact h4)
theorem gD_n {s : List UInt8} (h : getI s = -1) : getD1 s = noD := by unfold getD1; rw [h]; rfl
theorem gE_n {s : List UInt8} (h : getI s = -1) : getE1 s = 7 := by unfold getE1; rw [h]; rfl
def names33 : List (List UInt8) := ents.map (·.name)
end Go.Proofs.YthlfacmpjehjmaaGreatDoor
set_option linter.unusedSimpArgs false
set_option maxRecDepth 8000
set_option linter.unusedVariables false
namespace Go.Proofs.YthlfacmpjehjmaaGreatDoor
open Go.Sim
theorem sameX_ok  : ∀ (e : Ex), CallT Tryz.prog 53 [Rp.agg (eX e), Rp.agg (eX e)] [] (.one (Rp.bool true)) := by
  refine Ex.ind fun e ih => ?_
  refine W.enter (fn := Tryz.f53) (n := 53) Tryz.func53 rfl Tryz.ntmps53 rfl (fun w₀ C₀ => ?_)
  simp only [argS]
  refine W.fact 0 rfl ex_fact fun hal => ?_
  refine W.sr ?_
  refine L.box rfl rfl (GSpec.plain rfl (spec_box rfl (GetC.agg (Get.tmp rfl)))) (fun r2 => ?_)
  refine L.box rfl rfl (GSpec.plain rfl (spec_box rfl (GetC.agg (Get.tmp rfl)))) (fun r3 => ?_)
  refine L.p1 rfl rfl rfl (spec_assign rfl Get.cbool) ?_
  refine L.nt ?_
  refine W.seq ?_
  refine W.sr ?_
  refine L.p1 rfl rfl rfl (spec_fieldAddr (f := 0) (off' := 0) rfl Tryz.underlying66 rfl Tryz.sizeOf3 (Get.tmp rfl) rfl) ?_
  refine L.p1 rfl rfl rfl (spec_load1 (k := 1) rfl Tryz.isAgg3 (Get.tmp rfl) rfl rfl) ?_
  refine L.p1 rfl rfl rfl (spec_fieldAddr (f := 0) (off' := 0) rfl Tryz.underlying66 rfl Tryz.sizeOf3 (Get.tmp rfl) rfl) ?_
  refine L.p1 rfl rfl rfl (spec_load1 (k := 0) rfl Tryz.isAgg3 (Get.tmp rfl) rfl rfl) ?_
  refine L.p1 rfl rfl rfl (spec_neq rfl (Get.tmp rfl) (Get.tmp rfl)) ?_
  refine L.mv rfl rfl rfl rfl rfl ?_
  refine L.op1 rfl rfl (GSpec.guard rfl rfl rfl fun hg => (spec_fieldAddr (f := 1) (off' := 1) rfl Tryz.underlying66 rfl Tryz.sizeOf3 (Get.tmp rfl) rfl)) ?_
  refine L.op1 rfl rfl (GSpec.guard rfl rfl rfl fun hg => (spec_load1 (k := 1) rfl Tryz.isAgg3 (Get.opt rfl hg) rfl rfl)) ?_
  refine L.op1 rfl rfl (GSpec.guard rfl rfl rfl fun hg => (spec_fieldAddr (f := 1) (off' := 1) rfl Tryz.underlying66 rfl Tryz.sizeOf3 (Get.tmp rfl) rfl)) ?_
  refine L.op1 rfl rfl (GSpec.guard rfl rfl rfl fun hg => (spec_load1 (k := 0) rfl Tryz.isAgg3 (Get.opt rfl hg) rfl rfl)) ?_
  refine L.op1 rfl rfl (GSpec.guard rfl rfl rfl fun hg => (spec_neq rfl (Get.opt rfl hg) (Get.opt rfl hg))) ?_
  refine L.p1 rfl rfl rfl (spec_or rfl (Get.tmp rfl) (fun hb => (Get.opt rfl hb))) ?_
  refine L.mv rfl rfl rfl rfl rfl ?_
  refine L.op1 rfl rfl (GSpec.guard rfl rfl rfl fun hg => (spec_fieldAddr (f := 2) (off' := 2) rfl Tryz.underlying66 rfl Tryz.sizeOf9 (Get.tmp rfl) rfl)) ?_
  refine L.op1 rfl rfl (GSpec.guard rfl rfl rfl fun hg => (spec_load1 (k := 1) rfl Tryz.isAgg9 (Get.opt rfl hg) rfl rfl)) ?_
  refine L.op1 rfl rfl (GSpec.guard rfl rfl rfl fun hg => (spec_fieldAddr (f := 2) (off' := 2) rfl Tryz.underlying66 rfl Tryz.sizeOf9 (Get.tmp rfl) rfl)) ?_
  refine L.op1 rfl rfl (GSpec.guard rfl rfl rfl fun hg => (spec_load1 (k := 0) rfl Tryz.isAgg9 (Get.opt rfl hg) rfl rfl)) ?_
  refine L.op1 rfl rfl (GSpec.guard rfl rfl rfl fun hg => (spec_neqS rfl (Get.opt rfl hg) (Get.opt rfl hg))) ?_
  refine L.p1 rfl rfl rfl (spec_or rfl (Get.tmp rfl) (fun hb => (Get.opt rfl hb))) ?_
  refine L.mv rfl rfl rfl rfl rfl ?_
  refine L.op1 rfl rfl (GSpec.guard rfl rfl rfl fun hg => (spec_fieldAddr (f := 3) (off' := 3) rfl Tryz.underlying66 rfl Tryz.sizeOf64 (Get.tmp rfl) rfl)) ?_
  refine L.op1 rfl rfl (GSpec.guard rfl rfl rfl fun hg => (Spec.eq (exs_eq _) (spec_load1 (k := 1) rfl Tryz.isAgg64 (Get.opt rfl hg) rfl rfl))) ?_
  refine L.op1 rfl rfl (GSpec.guard rfl rfl rfl fun hg => (spec_len rfl Tryz.underlying64 (Get.opt rfl hg))) ?_
  refine L.op1 rfl rfl (GSpec.guard rfl rfl rfl fun hg => (spec_fieldAddr (f := 3) (off' := 3) rfl Tryz.underlying66 rfl Tryz.sizeOf64 (Get.tmp rfl) rfl)) ?_
  refine L.op1 rfl rfl (GSpec.guard rfl rfl rfl fun hg => (Spec.eq (exs_eq _) (spec_load1 (k := 0) rfl Tryz.isAgg64 (Get.opt rfl hg) rfl rfl))) ?_
  refine L.op1 rfl rfl (GSpec.guard rfl rfl rfl fun hg => (spec_len rfl Tryz.underlying64 (Get.opt rfl hg))) ?_
  refine L.op1 rfl rfl (GSpec.guard rfl rfl rfl fun hg => (spec_neq rfl (Get.opt rfl hg) (Get.opt rfl hg))) ?_
  refine L.p1 rfl rfl rfl (spec_or rfl (Get.tmp rfl) (fun hb => (Get.opt rfl hb))) ?_
  refine L.nt ?_
  refine W.keep (.cons (t := 2) rfl (.cons (t := 3) rfl (.cons (t := 4) rfl (.cons (t := 33) rfl .nil)))) .refl ?_
  refine W.cond (Get.tmp rfl) (fun h1 => ?_) (fun h1 => ?_)
  · exfalso; have h := h1; simp at h
  · have ph1 := h1; try simp only [sbx] at ph1
    refine W.skip ?_
    refine N.thenW ?_
    refine W.seq ?_
    refine W.sr ?_
    refine L.p1 rfl rfl rfl (spec_assign rfl (Get.cint rfl)) ?_
    refine L.nt ?_
    refine W.block ?_
    refine W.loopK (σ := Nat) (.cons (t := 2) rfl (.cons (t := 3) rfl .nil)) (fun z => [(5, Rp.int .i64 (z : Nat))]) (fun z => []) (fun z => z ≤ e.args.length) (fun z => e.args.length - z) 0 (Nat.zero_le _) (.cons (t := 5) rfl .nil) (.cons 0 rfl (.cons 0 rfl .nil)) ?_
    intro i hI S' M' hS hM
    try dsimp only at hS hM
    simp only [List.cons_append, List.nil_append] at hS hM
    subst hS hM
    try dsimp only
    refine W.seq ?_
    refine W.sr ?_
    refine L.mv rfl rfl rfl rfl rfl ?_
    refine L.p1 rfl rfl rfl (spec_fieldAddr (f := 3) (off' := 3) rfl Tryz.underlying66 rfl Tryz.sizeOf64 (Get.tmp rfl) rfl) ?_
    refine L.p1 rfl rfl rfl (Spec.eq (exs_eq _) (spec_load1 (k := 1) rfl Tryz.isAgg64 (Get.tmp rfl) rfl rfl)) ?_
    refine L.p1 rfl rfl rfl (spec_len rfl Tryz.underlying64 (Get.tmp rfl)) ?_
    refine L.p1 rfl rfl rfl (spec_lss rfl (Get.tmp rfl) (Get.tmp rfl)) ?_
    refine L.nt ?_
    refine W.cond (Get.tmp rfl) (fun h2 => ?_) (fun h2 => ?_)
    · have ph2 := h2; try simp only [sbx] at ph2
      refine W.skip ?_
      refine N.thenW ?_
      refine W.seq ?_
      refine W.block ?_
      refine W.seq ?_
      apply W.any 12 mixed (by kernel_rfl)
      · apply Head.one rfl rfl (GSpec.plain rfl (spec_fieldAddr (f := 3) (off' := 3) rfl Tryz.underlying66 rfl Tryz.sizeOf64 (Get.tmp rfl) rfl))
        apply Head.one rfl rfl (GSpec.plain rfl (Spec.eq (exs_eq _) (spec_load1 (k := 1) rfl Tryz.isAgg64 (Get.tmp rfl) rfl rfl)))
        apply Head.one rfl rfl (GSpec.plain rfl (spec_move rfl (Get.tmp rfl)))
        apply Head.one rfl rfl (GSpec.plain rfl (spec_indexAddrD (E := eX) rfl Tryz.underlying64 Tryz.sizeOf66 (fun _ => rfl) (Get.tmp rfl) (Get.tmp rfl) (by omega)))
        apply Head.one rfl rfl (GSpec.plain rfl (spec_loadPA rfl Tryz.isAgg66 Tryz.sizeOf66 (Get.tmp rfl) rfl))
        apply Head.one rfl rfl (GSpec.plain rfl (spec_fieldAddr (f := 3) (off' := 3) rfl Tryz.underlying66 rfl Tryz.sizeOf64 (Get.tmp rfl) rfl))
        apply Head.one rfl rfl (GSpec.plain rfl (Spec.eq (exs_eq _) (spec_load1 (k := 0) rfl Tryz.isAgg64 (Get.tmp rfl) rfl rfl)))
        apply Head.one rfl rfl (GSpec.plain rfl (spec_move rfl (Get.tmp rfl)))
        apply Head.one rfl rfl (GSpec.plain rfl (spec_indexAddrD (E := eX) rfl Tryz.underlying64 Tryz.sizeOf66 (fun _ => rfl) (Get.tmp rfl) (Get.tmp rfl) (by omega)))
        apply Head.one rfl rfl (GSpec.plain rfl (spec_loadPA rfl Tryz.isAgg66 Tryz.sizeOf66 (Get.tmp rfl) rfl))
        apply Head.one rfl rfl (GSpec.plain rfl (spec_call rfl Tryz.call53 (ih _ (getD_mem' (by omega))) (.cons (Get.tmp rfl) (.cons (Get.tmp rfl) .nil))))
        apply Head.one rfl rfl (GSpec.plain rfl (spec_not rfl (Get.tmp rfl)))
        exact Head.nil
      refine Fin.one ?_
      refine Fin.one ?_
      refine Fin.one ?_
      refine Fin.one ?_
      refine Fin.one ?_
      refine Fin.one ?_
      refine Fin.one ?_
      refine Fin.one ?_
      refine Fin.one ?_
      refine Fin.one ?_
      refine Fin.one ?_
      refine Fin.one ?_
      refine Fin.nil ?_
      refine L.nt ?_
      refine W.cond (Get.tmp rfl) (fun h3 => ?_) (fun h3 => ?_)
      · exfalso; have h := h3; simp at h
      · have ph3 := h3; try simp only [sbx] at ph3
        refine W.skip ?_
        refine N.blockNormal ?_
        refine N.thenW ?_
        refine W.region ?_
        refine L.mv rfl rfl rfl rfl rfl ?_
        first | refine L.op1 rfl rfl (GSpec.plain rfl (fit_i64 (by omega) (by omega) (spec_add rfl (Get.tmp rfl) (Get.cint rfl)))) ?_ | refine L.op1 rfl rfl (GSpec.plain rfl (spec_add rfl (Get.tmp rfl) (Get.cint rfl))) ?_
        refine L.as rfl rfl rfl rfl rfl ?_
        refine L.nil ?_
        refine N.roundK (i + 1) ?hI1 ?hmu1 ?hs1 ?hk1 ?hp1
        case hs1 => exact (.cons (t := 5) rfl .nil)
        case hk1 => exact (.cons (t := 2) rfl (.cons (t := 3) rfl .nil))
        case hp1 => exact (.cons 0 rfl (.cons 0 rfl .nil))
        all_goals (first | rfl | trivial | omega | (simp_all; done))
    · have ph2 := h2; try simp only [sbx] at ph2
      refine W.exit ?_
      refine N.thenExit ?_
      refine N.thenExit ?_
      refine N.blockExit ?_
      refine N.thenW ?_
      refine W.keep .nil .refl ?_
      refine W.sr ?_
      refine L.p1 rfl rfl rfl (spec_assign rfl Get.cbool) ?_
      refine L.nt ?_
      refine W.ret ?_
      refine N.ret () rfl (.tmp (t := 4) (Get.tmp rfl) .nil) (res1 (eqB ?_)) .nil (fun _ _ h => h)
      all_goals (first | rfl | (simp_all []; done) | omega)

end Go.Proofs.YthlfacmpjehjmaaGreatDoor
