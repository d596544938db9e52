import Derived.Test.YteannfdcbblooaaDoorThE
set_option linter.unusedSimpArgs false
set_option maxRecDepth 8000
set_option linter.unusedVariables false
namespace Go.Proofs.YteannfdcbblooaaDoor
open Go.Sim
theorem awake_ok  : CallT Tryd.prog 14 [] [tabG] (.one (Rp.bool true)) := by
  refine W.enter (fn := Tryd.f14) (n := 67) Tryd.func14 rfl Tryd.ntmps14 rfl (fun w₀ C₀ => ?_)
  simp only [argS]
  refine W.seq ?_
  refine W.region ?_
  refine L.op1 rfl rfl (GSpec.plain rfl (spec_assign rfl Get.cbool)) ?_
  refine L.nil ?_
  refine N.thenW ?_
  refine W.seq ?_
  refine W.region ?_
  refine L.op1 rfl rfl (GSpec.plain rfl (spec_callG0 (k := 0) rfl Tryd.call15 rfl rfl (childT_ok _ _ (by first | omega | decide)) (.cons (Get.cstr (l := [48, 46, 50]) rfl rfl) (.cons (Get.cint rfl) .nil)))) ?_
  refine L.op1 rfl rfl (GSpec.plain rfl (spec_move rfl (Get.tmp rfl))) ?_
  refine L.op1 rfl rfl (GSpec.plain rfl (spec_extract rfl (Get.tmp rfl) rfl)) ?_
  refine L.op1 rfl rfl (GSpec.plain rfl (spec_extract rfl (Get.tmp rfl) rfl)) ?_
  refine L.op1 rfl rfl (GSpec.plain rfl (spec_assign rfl (Get.tmp rfl))) ?_
  refine L.op1 rfl rfl (GSpec.plain rfl (spec_assign rfl (Get.tmp rfl))) ?_
  refine L.nil ?_
  refine N.thenW ?_
  refine W.seq ?_
  refine W.region ?_
  refine L.op1 rfl rfl (GSpec.plain rfl (spec_callG0 (k := 0) rfl Tryd.call17 rfl rfl (parent_ok _ (by first | omega | decide)) (.cons (Get.cstr (l := [48, 46, 50, 46, 49, 49]) rfl rfl) .nil))) ?_
  refine L.op1 rfl rfl (GSpec.plain rfl (spec_move rfl (Get.tmp rfl))) ?_
  refine L.op1 rfl rfl (GSpec.plain rfl (spec_extract rfl (Get.tmp rfl) rfl)) ?_
  refine L.op1 rfl rfl (GSpec.plain rfl (spec_extract rfl (Get.tmp rfl) rfl)) ?_
  refine L.op1 rfl rfl (GSpec.plain rfl (spec_assign rfl (Get.tmp rfl))) ?_
  refine L.op1 rfl rfl (GSpec.plain rfl (spec_assign rfl (Get.tmp rfl))) ?_
  refine L.nil ?_
  refine N.thenW ?_
  refine W.keep (.cons (t := 0) rfl (.cons (t := 1) rfl (.cons (t := 2) rfl (.cons (t := 3) rfl (.cons (t := 4) rfl .nil))))) .refl ?_
  refine W.seq ?_
  refine W.region ?_
  refine L.op1 rfl rfl (GSpec.plain rfl (spec_callG0 (k := 0) rfl Tryd.call23 rfl rfl (stream_ok _ _ (by first | omega | decide)) (.cons (Get.cU (BitVec.ofNat 64 7) (by kernel_rfl)) (.cons (Get.cstr (l := []) rfl rfl) .nil)))) ?_
  refine L.op1 rfl rfl (GSpec.plain rfl (spec_move rfl (Get.tmp rfl))) ?_
  refine L.op1 rfl rfl (GSpec.plain rfl (spec_extract rfl (Get.tmp rfl) rfl)) ?_
  refine L.op1 rfl rfl (GSpec.plain rfl (spec_extract rfl (Get.tmp rfl) rfl)) ?_
  refine L.box rfl rfl (GSpec.plain rfl (spec_alloc rfl ti34 z34)) (fun r5 => ?_)
  refine L.storeW (k := 0) rfl rfl rfl Tryd.sizeOf34 (Get.tmp rfl) (Get.tmp rfl) rfl rfl rfl ?_
  refine L.op1 rfl rfl (GSpec.plain rfl (spec_assign rfl (Get.tmp rfl))) ?_
  refine L.nil ?_
  refine N.thenW ?_
  refine W.seq ?_
  apply W.any 49 mixed (by kernel_rfl)
  · apply Head.one rfl rfl (GSpec.plain rfl (spec_move rfl (Get.tmp rfl)))
    apply Head.one rfl rfl (GSpec.plain rfl (spec_eqlS rfl (Get.tmp rfl) (Get.cstr (l := [48, 46, 50, 46, 49, 49]) rfl rfl)))
    apply Head.one rfl rfl (GSpec.plain rfl (spec_move rfl (Get.tmp rfl)))
    apply Head.one rfl rfl (GSpec.guard rfl rfl rfl fun hg => (spec_move rfl (Get.tmp rfl)))
    apply Head.one rfl rfl (GSpec.guard rfl rfl rfl fun hg => (spec_eql rfl (Get.opt rfl hg) (Get.cint rfl)))
    apply Head.one rfl rfl (GSpec.plain rfl (spec_and rfl (Get.tmp rfl) (fun hb => (Get.opt rfl hb))))
    apply Head.one rfl rfl (GSpec.plain rfl (spec_move rfl (Get.tmp rfl)))
    apply Head.one rfl rfl (GSpec.guard rfl rfl rfl fun hg => (spec_move rfl (Get.tmp rfl)))
    apply Head.one rfl rfl (GSpec.guard rfl rfl rfl fun hg => (spec_eqlS rfl (Get.opt rfl hg) (Get.cstr (l := [48, 46, 50]) rfl rfl)))
    apply Head.one rfl rfl (GSpec.plain rfl (spec_and rfl (Get.tmp rfl) (fun hb => (Get.opt rfl hb))))
    apply Head.one rfl rfl (GSpec.plain rfl (spec_move rfl (Get.tmp rfl)))
    apply Head.one rfl rfl (GSpec.guard rfl rfl rfl fun hg => (spec_move rfl (Get.tmp rfl)))
    apply Head.one rfl rfl (GSpec.plain rfl (spec_and rfl (Get.tmp rfl) (fun hb => (Get.opt rfl hb))))
    apply Head.one rfl rfl (GSpec.plain rfl (spec_move rfl (Get.tmp rfl)))
    apply Head.one rfl rfl (GSpec.guard rfl rfl rfl fun hg => (spec_call rfl Tryd.call19 (less_ok _ _ (by first | omega | decide) (by first | omega | decide)) (.cons (Get.cstr (l := [48, 46, 50]) rfl rfl) (.cons (Get.cstr (l := [48, 46, 49, 49]) rfl rfl) .nil))))
    apply Head.one rfl rfl (GSpec.plain rfl (spec_and rfl (Get.tmp rfl) (fun hb => (Get.opt rfl hb))))
    apply Head.one rfl rfl (GSpec.plain rfl (spec_move rfl (Get.tmp rfl)))
    apply Head.one rfl rfl (GSpec.guard rfl rfl rfl fun hg => (spec_call rfl Tryd.call21 (above_ok _ _ (by first | omega | decide) (by first | omega | decide)) (.cons (Get.cstr (l := [48, 46, 50]) rfl rfl) (.cons (Get.cstr (l := [48, 46, 50, 46, 49, 49]) rfl rfl) .nil))))
    apply Head.one rfl rfl (GSpec.plain rfl (spec_and rfl (Get.tmp rfl) (fun hb => (Get.opt rfl hb))))
    apply Head.one rfl rfl (GSpec.plain rfl (spec_move rfl (Get.tmp rfl)))
    apply Head.one rfl rfl (GSpec.guard rfl rfl rfl fun hg => (spec_call rfl Tryd.call21 (above_ok _ _ (by first | omega | decide) (by first | omega | decide)) (.cons (Get.cstr (l := [48, 46, 50]) rfl rfl) (.cons (Get.cstr (l := [48, 46, 50, 49]) rfl rfl) .nil))))
    apply Head.one rfl rfl (GSpec.guard rfl rfl rfl fun hg => (spec_not rfl (Get.opt rfl hg)))
    apply Head.one rfl rfl (GSpec.plain rfl (spec_and rfl (Get.tmp rfl) (fun hb => (Get.opt rfl hb))))
    apply Head.one rfl rfl (GSpec.plain rfl (spec_move rfl (Get.tmp rfl)))
    apply Head.one rfl rfl (GSpec.guard rfl rfl rfl fun hg => (spec_call rfl Tryd.call10 (valid_ok _ (by first | omega | decide)) (.cons (Get.cstr (l := [48, 46]) rfl rfl) .nil)))
    apply Head.one rfl rfl (GSpec.guard rfl rfl rfl fun hg => (spec_not rfl (Get.opt rfl hg)))
    apply Head.one rfl rfl (GSpec.plain rfl (spec_and rfl (Get.tmp rfl) (fun hb => (Get.opt rfl hb))))
    apply Head.one rfl rfl (GSpec.plain rfl (spec_move rfl (Get.tmp rfl)))
    apply Head.one rfl rfl (GSpec.guard rfl rfl rfl fun hg => (spec_call rfl Tryd.call10 (valid_ok _ (by first | omega | decide)) (.cons (Get.cstr (l := [48, 49]) rfl rfl) .nil)))
    apply Head.one rfl rfl (GSpec.guard rfl rfl rfl fun hg => (spec_not rfl (Get.opt rfl hg)))
    apply Head.one rfl rfl (GSpec.plain rfl (spec_and rfl (Get.tmp rfl) (fun hb => (Get.opt rfl hb))))
    apply Head.one rfl rfl (GSpec.plain rfl (spec_move rfl (Get.tmp rfl)))
    apply Head.one rfl rfl (GSpec.guard rfl rfl rfl fun hg => (spec_call rfl Tryd.call10 (valid_ok _ (by first | omega | decide)) (.cons (Get.cstr (l := [49, 48, 52, 56, 53, 55, 54]) rfl rfl) .nil)))
    apply Head.one rfl rfl (GSpec.guard rfl rfl rfl fun hg => (spec_not rfl (Get.opt rfl hg)))
    apply Head.one rfl rfl (GSpec.plain rfl (spec_and rfl (Get.tmp rfl) (fun hb => (Get.opt rfl hb))))
    apply Head.one rfl rfl (GSpec.plain rfl (spec_move rfl (Get.tmp rfl)))
    apply Head.one rfl rfl (GSpec.guard rfl rfl rfl fun hg => (spec_call rfl Tryd.call12 (depth_ok _ (by first | omega | decide)) (.cons (Get.cstr (l := [48, 46, 50]) rfl rfl) .nil)))
    apply Head.one rfl rfl (GSpec.guard rfl rfl rfl fun hg => (spec_eql rfl (Get.opt rfl hg) (Get.cint rfl)))
    apply Head.one rfl rfl (GSpec.plain rfl (spec_and rfl (Get.tmp rfl) (fun hb => (Get.opt rfl hb))))
    apply Head.one rfl rfl (GSpec.plain rfl (spec_move rfl (Get.tmp rfl)))
    apply Head.one rfl rfl (GSpec.guard rfl rfl rfl fun hg => (spec_loadW (k := 0) rfl Tryd.isAgg34 Tryd.sizeOf34 (Get.tmp rfl) rfl rfl))
    apply Head.one rfl rfl (GSpec.guard rfl rfl rfl fun hg => (spec_call rfl Tryd.call30 (rnew_ok _) (.cons (Get.cU (BitVec.ofNat 64 7) (by kernel_rfl)) .nil)))
    first | apply Head.one rfl rfl (GSpec.guard rfl rfl rfl fun hg => (eql34 rfl (Get.opt rfl hg) (Get.opt rfl hg))) | apply Head.one rfl rfl (GSpec.guard rfl rfl rfl fun hg => (eql34 (n := ⟨_, _⟩) rfl (Get.opt rfl hg) (Get.opt rfl hg))) | apply Head.one rfl rfl (GSpec.guard rfl rfl rfl fun hg => (eql34 (m := ⟨_, _⟩) rfl (Get.opt rfl hg) (Get.opt rfl hg))) | apply Head.one rfl rfl (GSpec.guard rfl rfl rfl fun hg => (eql34 (n := ⟨_, _⟩) (m := ⟨_, _⟩) rfl (Get.opt rfl hg) (Get.opt rfl hg)))
    apply Head.one rfl rfl (GSpec.plain rfl (spec_and rfl (Get.tmp rfl) (fun hb => (Get.opt rfl hb))))
    apply Head.one rfl rfl (GSpec.plain rfl (spec_move rfl (Get.tmp rfl)))
    apply Head.one rfl rfl (GSpec.guard rfl rfl rfl fun hg => (spec_move rfl (Get.tmp rfl)))
    apply Head.one rfl rfl (GSpec.guard rfl rfl rfl fun hg => (spec_eql rfl (Get.opt rfl hg) (Get.cint rfl)))
    apply Head.one rfl rfl (GSpec.plain rfl (spec_and rfl (Get.tmp rfl) (fun hb => (Get.opt rfl hb))))
    apply Head.one rfl rfl (GSpec.plain rfl (spec_assign rfl (Get.tmp rfl)))
    exact Head.nil
  refine Fin.one ?_
  refine Fin.one ?_
  refine Fin.one ?_
  refine Fin.one ?_
  refine Fin.one ?_
  refine Fin.one ?_
  refine Fin.one ?_
  refine Fin.one ?_
  refine Fin.one ?_
  refine Fin.one ?_
  refine Fin.one ?_
  refine Fin.one ?_
  refine Fin.one ?_
  refine Fin.one ?_
  refine Fin.one ?_
  refine Fin.one ?_
  refine Fin.one ?_
  refine Fin.one ?_
  refine Fin.one ?_
  refine Fin.one ?_
  refine Fin.one ?_
  refine Fin.one ?_
  refine Fin.one ?_
  refine Fin.one ?_
  refine Fin.one ?_
  refine Fin.one ?_
  refine Fin.one ?_
  refine Fin.one ?_
  refine Fin.one ?_
  refine Fin.one ?_
  refine Fin.one ?_
  refine Fin.one ?_
  refine Fin.one ?_
  refine Fin.one ?_
  refine Fin.one ?_
  refine Fin.one ?_
  refine Fin.one ?_
  refine Fin.one ?_
  refine Fin.one ?_
  refine Fin.one ?_
  refine Fin.one ?_
  refine Fin.one ?_
  refine Fin.one ?_
  refine Fin.one ?_
  refine Fin.one ?_
  refine Fin.one ?_
  refine Fin.one ?_
  refine Fin.one ?_
  refine Fin.one ?_
  refine Fin.nil ?_
  refine L.nil ?_
  refine N.thenW ?_
  refine W.keep (.cons (t := 0) rfl .nil) .refl ?_
  refine W.ret ?_
  refine N.ret () rfl (.tmp (t := 0) (Get.tmp rfl) .nil) (res1 (eqB ?_)) .nil (fun _ _ h => h)
  simp [ex1, ex2, ex3, ex4, ex5, ex6, ex7, ex8, ex9, ex10]

theorem ThreadPaths_ok (s : List UInt8) (hs : s.length ≤ 1048576) : CallT Tryd.prog 3 [Rp.str s] [tabG] (.one (Rp.bool true)) := by
  refine W.enter (fn := Tryd.f3) (n := 18) Tryd.func3 rfl Tryd.ntmps3 rfl (fun w₀ C₀ => ?_)
  simp only [argS]
  refine W.seq ?_
  refine W.region ?_
  refine L.op1 rfl rfl (GSpec.plain rfl (spec_assign rfl Get.cbool)) ?_
  refine L.nil ?_
  refine N.thenW ?_
  refine W.seq ?_
  refine W.region ?_
  refine L.op1 rfl rfl (GSpec.plain rfl (spec_move rfl (Get.tmp rfl))) ?_
  refine L.op1 rfl rfl (GSpec.plain rfl (spec_call rfl Tryd.call10 (valid_ok _ (by first | omega | decide)) (.cons (Get.tmp rfl) .nil))) ?_
  refine L.op1 rfl rfl (GSpec.plain rfl (spec_move rfl (Get.tmp rfl))) ?_
  refine L.op1 rfl rfl (GSpec.plain rfl (spec_call rfl Tryd.call11 (rvalid_ok _ (by first | omega | decide)) (.cons (Get.tmp rfl) .nil))) ?_
  refine L.op1 rfl rfl (GSpec.plain rfl (spec_eqlB rfl Tryd.underlying4 (Get.tmp rfl) (Get.tmp rfl))) ?_
  refine L.op1 rfl rfl (GSpec.plain rfl (spec_move rfl (Get.tmp rfl))) ?_
  refine L.op1 rfl rfl (GSpec.guard rfl rfl rfl fun hg => (spec_move rfl (Get.tmp rfl))) ?_
  refine L.op1 rfl rfl (GSpec.guard rfl rfl rfl fun hg => (spec_call rfl Tryd.call12 (depth_ok _ (by first | omega | decide)) (.cons (Get.opt rfl hg) .nil))) ?_
  refine L.op1 rfl rfl (GSpec.guard rfl rfl rfl fun hg => (spec_move rfl (Get.tmp rfl))) ?_
  refine L.op1 rfl rfl (GSpec.guard rfl rfl rfl fun hg => (spec_call rfl Tryd.call13 (rdepth_ok _ (by first | omega | decide)) (.cons (Get.opt rfl hg) .nil))) ?_
  refine L.op1 rfl rfl (GSpec.guard rfl rfl rfl fun hg => (spec_eql rfl (Get.opt rfl hg) (Get.opt rfl hg))) ?_
  refine L.op1 rfl rfl (GSpec.plain rfl (spec_and rfl (Get.tmp rfl) (fun hb => (Get.opt rfl hb)))) ?_
  refine L.op1 rfl rfl (GSpec.plain rfl (spec_move rfl (Get.tmp rfl))) ?_
  refine L.op1 rfl rfl (GSpec.guard rfl rfl rfl fun hg => (spec_callG0 (k := 0) rfl Tryd.call14 rfl rfl (awake_ok ) .nil)) ?_
  refine L.op1 rfl rfl (GSpec.plain rfl (spec_and rfl (Get.tmp rfl) (fun hb => (Get.opt rfl hb)))) ?_
  refine L.op1 rfl rfl (GSpec.plain rfl (spec_assign rfl (Get.tmp rfl))) ?_
  refine L.nil ?_
  refine N.thenW ?_
  refine W.keep (.cons (t := 2) rfl .nil) .refl ?_
  refine W.ret ?_
  refine N.ret () rfl (.tmp (t := 2) (Get.tmp rfl) .nil) (res1 (eqB ?_)) .nil (fun _ _ h => h)
  simp [ok_eq, dep_eq, child_eq, parent_eq, less_eq, above_eq, stream_eq]

theorem ThreadFamily_ok (s : List UInt8) (i : Int) (hs : s.length ≤ 1048576) : CallT Tryd.prog 4 [Rp.str s, Rp.int .i64 i] [tabG] (.one (Rp.bool true)) := by
  refine W.enter (fn := Tryd.f4) (n := 56) Tryd.func4 rfl Tryd.ntmps4 rfl (fun w₀ C₀ => ?_)
  simp only [argS]
  refine W.seq ?_
  refine W.region ?_
  refine L.op1 rfl rfl (GSpec.plain rfl (spec_assign rfl Get.cbool)) ?_
  refine L.nil ?_
  refine N.thenW ?_
  refine W.seq ?_
  refine W.region ?_
  refine L.op1 rfl rfl (GSpec.plain rfl (spec_move rfl (Get.tmp rfl))) ?_
  refine L.op1 rfl rfl (GSpec.plain rfl (spec_move rfl (Get.tmp rfl))) ?_
  refine L.op1 rfl rfl (GSpec.plain rfl (spec_callG0 (k := 0) rfl Tryd.call15 rfl rfl (childT_ok _ _ (by first | omega | decide)) (.cons (Get.tmp rfl) (.cons (Get.tmp rfl) .nil)))) ?_
  refine L.op1 rfl rfl (GSpec.plain rfl (spec_move rfl (Get.tmp rfl))) ?_
  refine L.op1 rfl rfl (GSpec.plain rfl (spec_extract rfl (Get.tmp rfl) rfl)) ?_
  refine L.op1 rfl rfl (GSpec.plain rfl (spec_extract rfl (Get.tmp rfl) rfl)) ?_
  refine L.op1 rfl rfl (GSpec.plain rfl (spec_assign rfl (Get.tmp rfl))) ?_
  refine L.op1 rfl rfl (GSpec.plain rfl (spec_assign rfl (Get.tmp rfl))) ?_
  refine L.nil ?_
  refine N.thenW ?_
  refine W.seq ?_
  refine W.region ?_
  refine L.op1 rfl rfl (GSpec.plain rfl (spec_move rfl (Get.tmp rfl))) ?_
  refine L.op1 rfl rfl (GSpec.plain rfl (spec_move rfl (Get.tmp rfl))) ?_
  refine L.op1 rfl rfl (GSpec.plain rfl (spec_call rfl Tryd.call16 (rchildT_ok _ _ (by first | omega | decide)) (.cons (Get.tmp rfl) (.cons (Get.tmp rfl) .nil)))) ?_
  refine L.op1 rfl rfl (GSpec.plain rfl (spec_move rfl (Get.tmp rfl))) ?_
  refine L.op1 rfl rfl (GSpec.plain rfl (spec_extract rfl (Get.tmp rfl) rfl)) ?_
  refine L.op1 rfl rfl (GSpec.plain rfl (spec_extract rfl (Get.tmp rfl) rfl)) ?_
  refine L.op1 rfl rfl (GSpec.plain rfl (spec_assign rfl (Get.tmp rfl))) ?_
  refine L.op1 rfl rfl (GSpec.plain rfl (spec_assign rfl (Get.tmp rfl))) ?_
  refine L.nil ?_
  refine N.thenW ?_
  refine W.keep (.cons (t := 0) rfl (.cons (t := 4) rfl (.cons (t := 5) rfl (.cons (t := 6) rfl (.cons (t := 7) rfl (.cons (t := 8) rfl .nil)))))) .refl ?_
  refine W.seq ?_
  refine W.region ?_
  refine L.op1 rfl rfl (GSpec.plain rfl (spec_move rfl (Get.tmp rfl))) ?_
  refine L.op1 rfl rfl (GSpec.plain rfl (spec_callG0 (k := 0) rfl Tryd.call17 rfl rfl (parent_ok _ (by first | omega | decide)) (.cons (Get.tmp rfl) .nil))) ?_
  refine L.op1 rfl rfl (GSpec.plain rfl (spec_move rfl (Get.tmp rfl))) ?_
  refine L.op1 rfl rfl (GSpec.plain rfl (spec_extract rfl (Get.tmp rfl) rfl)) ?_
  refine L.op1 rfl rfl (GSpec.plain rfl (spec_extract rfl (Get.tmp rfl) rfl)) ?_
  refine L.op1 rfl rfl (GSpec.plain rfl (spec_assign rfl (Get.tmp rfl))) ?_
  refine L.op1 rfl rfl (GSpec.plain rfl (spec_assign rfl (Get.tmp rfl))) ?_
  refine L.nil ?_
  refine N.thenW ?_
  refine W.seq ?_
  refine W.region ?_
  refine L.op1 rfl rfl (GSpec.plain rfl (spec_move rfl (Get.tmp rfl))) ?_
  refine L.op1 rfl rfl (GSpec.plain rfl (spec_call rfl Tryd.call18 (rparent_ok _ (by first | omega | decide)) (.cons (Get.tmp rfl) .nil))) ?_
  refine L.op1 rfl rfl (GSpec.plain rfl (spec_move rfl (Get.tmp rfl))) ?_
  refine L.op1 rfl rfl (GSpec.plain rfl (spec_extract rfl (Get.tmp rfl) rfl)) ?_
  refine L.op1 rfl rfl (GSpec.plain rfl (spec_extract rfl (Get.tmp rfl) rfl)) ?_
  refine L.op1 rfl rfl (GSpec.plain rfl (spec_assign rfl (Get.tmp rfl))) ?_
  refine L.op1 rfl rfl (GSpec.plain rfl (spec_assign rfl (Get.tmp rfl))) ?_
  refine L.nil ?_
  refine N.thenW ?_
  refine W.keep (.cons (t := 4) rfl (.cons (t := 5) rfl (.cons (t := 6) rfl (.cons (t := 7) rfl (.cons (t := 8) rfl (.cons (t := 9) rfl (.cons (t := 10) rfl (.cons (t := 11) rfl (.cons (t := 12) rfl .nil))))))))) .refl ?_
  refine W.seq ?_
  refine W.region ?_
  refine L.op1 rfl rfl (GSpec.plain rfl (spec_move rfl (Get.tmp rfl))) ?_
  refine L.op1 rfl rfl (GSpec.plain rfl (spec_move rfl (Get.tmp rfl))) ?_
  refine L.op1 rfl rfl (GSpec.plain rfl (spec_eqlS rfl (Get.tmp rfl) (Get.tmp rfl))) ?_
  refine L.op1 rfl rfl (GSpec.plain rfl (spec_move rfl (Get.tmp rfl))) ?_
  refine L.op1 rfl rfl (GSpec.guard rfl rfl rfl fun hg => (spec_move rfl (Get.tmp rfl))) ?_
  refine L.op1 rfl rfl (GSpec.guard rfl rfl rfl fun hg => (spec_move rfl (Get.tmp rfl))) ?_
  refine L.op1 rfl rfl (GSpec.guard rfl rfl rfl fun hg => (spec_eql rfl (Get.opt rfl hg) (Get.opt rfl hg))) ?_
  refine L.op1 rfl rfl (GSpec.plain rfl (spec_and rfl (Get.tmp rfl) (fun hb => (Get.opt rfl hb)))) ?_
  refine L.op1 rfl rfl (GSpec.plain rfl (spec_move rfl (Get.tmp rfl))) ?_
  refine L.op1 rfl rfl (GSpec.guard rfl rfl rfl fun hg => (spec_move rfl (Get.tmp rfl))) ?_
  refine L.op1 rfl rfl (GSpec.guard rfl rfl rfl fun hg => (spec_move rfl (Get.tmp rfl))) ?_
  refine L.op1 rfl rfl (GSpec.guard rfl rfl rfl fun hg => (spec_eqlS rfl (Get.opt rfl hg) (Get.opt rfl hg))) ?_
  refine L.op1 rfl rfl (GSpec.plain rfl (spec_and rfl (Get.tmp rfl) (fun hb => (Get.opt rfl hb)))) ?_
  refine L.op1 rfl rfl (GSpec.plain rfl (spec_move rfl (Get.tmp rfl))) ?_
  refine L.op1 rfl rfl (GSpec.guard rfl rfl rfl fun hg => (spec_move rfl (Get.tmp rfl))) ?_
  refine L.op1 rfl rfl (GSpec.guard rfl rfl rfl fun hg => (spec_move rfl (Get.tmp rfl))) ?_
  refine L.op1 rfl rfl (GSpec.guard rfl rfl rfl fun hg => (spec_eqlB rfl Tryd.underlying4 (Get.opt rfl hg) (Get.opt rfl hg))) ?_
  refine L.op1 rfl rfl (GSpec.plain rfl (spec_and rfl (Get.tmp rfl) (fun hb => (Get.opt rfl hb)))) ?_
  refine L.op1 rfl rfl (GSpec.plain rfl (spec_move rfl (Get.tmp rfl))) ?_
  refine L.op1 rfl rfl (GSpec.guard rfl rfl rfl fun hg => (spec_callG0 (k := 0) rfl Tryd.call14 rfl rfl (awake_ok ) .nil)) ?_
  refine L.op1 rfl rfl (GSpec.plain rfl (spec_and rfl (Get.tmp rfl) (fun hb => (Get.opt rfl hb)))) ?_
  refine L.op1 rfl rfl (GSpec.plain rfl (spec_assign rfl (Get.tmp rfl))) ?_
  refine L.nil ?_
  refine N.thenW ?_
  refine W.keep (.cons (t := 4) rfl .nil) .refl ?_
  refine W.ret ?_
  refine N.ret () rfl (.tmp (t := 4) (Get.tmp rfl) .nil) (res1 (eqB ?_)) .nil (fun _ _ h => h)
  simp [ok_eq, dep_eq, child_eq, parent_eq, less_eq, above_eq, stream_eq]

theorem ThreadOrder_ok (a b : List UInt8) (ha : a.length ≤ 1048576) (hb : b.length ≤ 1048576) : CallT Tryd.prog 5 [Rp.str a, Rp.str b] [tabG] (.one (Rp.bool true)) := by
  refine W.enter (fn := Tryd.f5) (n := 24) Tryd.func5 rfl Tryd.ntmps5 rfl (fun w₀ C₀ => ?_)
  simp only [argS]
  refine W.seq ?_
  refine W.region ?_
  refine L.op1 rfl rfl (GSpec.plain rfl (spec_assign rfl Get.cbool)) ?_
  refine L.nil ?_
  refine N.thenW ?_
  refine W.seq ?_
  refine W.region ?_
  refine L.op1 rfl rfl (GSpec.plain rfl (spec_move rfl (Get.tmp rfl))) ?_
  refine L.op1 rfl rfl (GSpec.plain rfl (spec_move rfl (Get.tmp rfl))) ?_
  refine L.op1 rfl rfl (GSpec.plain rfl (spec_call rfl Tryd.call19 (less_ok _ _ (by first | omega | decide) (by first | omega | decide)) (.cons (Get.tmp rfl) (.cons (Get.tmp rfl) .nil)))) ?_
  refine L.op1 rfl rfl (GSpec.plain rfl (spec_move rfl (Get.tmp rfl))) ?_
  refine L.op1 rfl rfl (GSpec.plain rfl (spec_move rfl (Get.tmp rfl))) ?_
  refine L.op1 rfl rfl (GSpec.plain rfl (spec_call rfl Tryd.call20 (rless_ok _ _ (by first | omega | decide) (by first | omega | decide)) (.cons (Get.tmp rfl) (.cons (Get.tmp rfl) .nil)))) ?_
  refine L.op1 rfl rfl (GSpec.plain rfl (spec_eqlB rfl Tryd.underlying4 (Get.tmp rfl) (Get.tmp rfl))) ?_
  refine L.op1 rfl rfl (GSpec.plain rfl (spec_move rfl (Get.tmp rfl))) ?_
  refine L.op1 rfl rfl (GSpec.guard rfl rfl rfl fun hg => (spec_move rfl (Get.tmp rfl))) ?_
  refine L.op1 rfl rfl (GSpec.guard rfl rfl rfl fun hg => (spec_move rfl (Get.tmp rfl))) ?_
  refine L.op1 rfl rfl (GSpec.guard rfl rfl rfl fun hg => (spec_call rfl Tryd.call21 (above_ok _ _ (by first | omega | decide) (by first | omega | decide)) (.cons (Get.opt rfl hg) (.cons (Get.opt rfl hg) .nil)))) ?_
  refine L.op1 rfl rfl (GSpec.guard rfl rfl rfl fun hg => (spec_move rfl (Get.tmp rfl))) ?_
  refine L.op1 rfl rfl (GSpec.guard rfl rfl rfl fun hg => (spec_move rfl (Get.tmp rfl))) ?_
  refine L.op1 rfl rfl (GSpec.guard rfl rfl rfl fun hg => (spec_call rfl Tryd.call22 (rabove_ok _ _ (by first | omega | decide) (by first | omega | decide)) (.cons (Get.opt rfl hg) (.cons (Get.opt rfl hg) .nil)))) ?_
  refine L.op1 rfl rfl (GSpec.guard rfl rfl rfl fun hg => (spec_eqlB rfl Tryd.underlying4 (Get.opt rfl hg) (Get.opt rfl hg))) ?_
  refine L.op1 rfl rfl (GSpec.plain rfl (spec_and rfl (Get.tmp rfl) (fun hb => (Get.opt rfl hb)))) ?_
  refine L.op1 rfl rfl (GSpec.plain rfl (spec_move rfl (Get.tmp rfl))) ?_
  refine L.op1 rfl rfl (GSpec.guard rfl rfl rfl fun hg => (spec_callG0 (k := 0) rfl Tryd.call14 rfl rfl (awake_ok ) .nil)) ?_
  refine L.op1 rfl rfl (GSpec.plain rfl (spec_and rfl (Get.tmp rfl) (fun hb => (Get.opt rfl hb)))) ?_
  refine L.op1 rfl rfl (GSpec.plain rfl (spec_assign rfl (Get.tmp rfl))) ?_
  refine L.nil ?_
  refine N.thenW ?_
  refine W.keep (.cons (t := 4) rfl .nil) .refl ?_
  refine W.ret ?_
  refine N.ret () rfl (.tmp (t := 4) (Get.tmp rfl) .nil) (res1 (eqB ?_)) .nil (fun _ _ h => h)
  simp [ok_eq, dep_eq, child_eq, parent_eq, less_eq, above_eq, stream_eq]

theorem ThreadStreams_ok (x : B64) (s : List UInt8) (hs : s.length ≤ 1048576) : CallT Tryd.prog 6 [Rp.int .u64 (U x), Rp.str s] [tabG] (.one (Rp.bool true)) := by
  refine W.enter (fn := Tryd.f6) (n := 32) Tryd.func6 rfl Tryd.ntmps6 rfl (fun w₀ C₀ => ?_)
  simp only [argS]
  refine W.seq ?_
  refine W.region ?_
  refine L.op1 rfl rfl (GSpec.plain rfl (spec_assign rfl Get.cbool)) ?_
  refine L.nil ?_
  refine N.thenW ?_
  refine W.seq ?_
  refine W.region ?_
  refine L.op1 rfl rfl (GSpec.plain rfl (spec_move rfl (Get.tmp rfl))) ?_
  refine L.op1 rfl rfl (GSpec.plain rfl (spec_move rfl (Get.tmp rfl))) ?_
  refine L.op1 rfl rfl (GSpec.plain rfl (spec_callG0 (k := 0) rfl Tryd.call23 rfl rfl (stream_ok _ _ (by first | omega | decide)) (.cons (Get.tmp rfl) (.cons (Get.tmp rfl) .nil)))) ?_
  refine L.op1 rfl rfl (GSpec.plain rfl (spec_move rfl (Get.tmp rfl))) ?_
  refine L.op1 rfl rfl (GSpec.plain rfl (spec_extract rfl (Get.tmp rfl) rfl)) ?_
  refine L.op1 rfl rfl (GSpec.plain rfl (spec_extract rfl (Get.tmp rfl) rfl)) ?_
  refine L.box rfl rfl (GSpec.plain rfl (spec_alloc rfl ti34 z34)) (fun r5 => ?_)
  refine L.storeW (k := 0) rfl rfl rfl Tryd.sizeOf34 (Get.tmp rfl) (Get.tmp rfl) rfl rfl rfl ?_
  refine L.op1 rfl rfl (GSpec.plain rfl (spec_assign rfl (Get.tmp rfl))) ?_
  refine L.nil ?_
  refine N.thenW ?_
  refine W.seq ?_
  refine W.region ?_
  refine L.op1 rfl rfl (GSpec.plain rfl (spec_move rfl (Get.tmp rfl))) ?_
  refine L.op1 rfl rfl (GSpec.plain rfl (spec_move rfl (Get.tmp rfl))) ?_
  refine L.op1 rfl rfl (GSpec.plain rfl (spec_call rfl Tryd.call24 (rstream_ok _ _ (by first | omega | decide)) (.cons (Get.tmp rfl) (.cons (Get.tmp rfl) .nil)))) ?_
  refine L.op1 rfl rfl (GSpec.plain rfl (spec_move rfl (Get.tmp rfl))) ?_
  refine L.op1 rfl rfl (GSpec.plain rfl (spec_extract rfl (Get.tmp rfl) rfl)) ?_
  refine L.op1 rfl rfl (GSpec.plain rfl (spec_extract rfl (Get.tmp rfl) rfl)) ?_
  refine L.box rfl rfl (GSpec.plain rfl (spec_alloc rfl ti34 z34)) (fun r7 => ?_)
  refine L.storeW (k := 0) rfl rfl rfl Tryd.sizeOf34 (Get.tmp rfl) (Get.tmp rfl) rfl rfl rfl ?_
  refine L.op1 rfl rfl (GSpec.plain rfl (spec_assign rfl (Get.tmp rfl))) ?_
  refine L.nil ?_
  refine N.thenW ?_
  refine W.keep (.cons (t := 4) rfl (.cons (t := 5) rfl (.cons (t := 6) rfl (.cons (t := 7) rfl (.cons (t := 8) rfl .nil))))) .refl ?_
  refine W.seq ?_
  refine W.region ?_
  refine L.op1 rfl rfl (GSpec.plain rfl (spec_loadW (k := 1) rfl Tryd.isAgg34 Tryd.sizeOf34 (Get.tmp rfl) rfl rfl)) ?_
  refine L.op1 rfl rfl (GSpec.plain rfl (spec_loadW (k := 0) rfl Tryd.isAgg34 Tryd.sizeOf34 (Get.tmp rfl) rfl rfl)) ?_
  first | refine L.op1 rfl rfl (GSpec.plain rfl (eql34 rfl (Get.tmp rfl) (Get.tmp rfl))) ?_ | refine L.op1 rfl rfl (GSpec.plain rfl (eql34 (n := ⟨_, _⟩) rfl (Get.tmp rfl) (Get.tmp rfl))) ?_ | refine L.op1 rfl rfl (GSpec.plain rfl (eql34 (m := ⟨_, _⟩) rfl (Get.tmp rfl) (Get.tmp rfl))) ?_ | refine L.op1 rfl rfl (GSpec.plain rfl (eql34 (n := ⟨_, _⟩) (m := ⟨_, _⟩) rfl (Get.tmp rfl) (Get.tmp rfl))) ?_
  refine L.op1 rfl rfl (GSpec.plain rfl (spec_move rfl (Get.tmp rfl))) ?_
  refine L.op1 rfl rfl (GSpec.guard rfl rfl rfl fun hg => (spec_move rfl (Get.tmp rfl))) ?_
  refine L.op1 rfl rfl (GSpec.guard rfl rfl rfl fun hg => (spec_move rfl (Get.tmp rfl))) ?_
  refine L.op1 rfl rfl (GSpec.guard rfl rfl rfl fun hg => (spec_eql rfl (Get.opt rfl hg) (Get.opt rfl hg))) ?_
  refine L.op1 rfl rfl (GSpec.plain rfl (spec_and rfl (Get.tmp rfl) (fun hb => (Get.opt rfl hb)))) ?_
  refine L.op1 rfl rfl (GSpec.plain rfl (spec_move rfl (Get.tmp rfl))) ?_
  refine L.op1 rfl rfl (GSpec.guard rfl rfl rfl fun hg => (spec_callG0 (k := 2) rfl Tryd.call14 rfl rfl (awake_ok ) .nil)) ?_
  refine L.op1 rfl rfl (GSpec.plain rfl (spec_and rfl (Get.tmp rfl) (fun hb => (Get.opt rfl hb)))) ?_
  refine L.op1 rfl rfl (GSpec.plain rfl (spec_assign rfl (Get.tmp rfl))) ?_
  refine L.nil ?_
  refine N.thenW ?_
  refine W.keep (.cons (t := 4) rfl .nil) .refl ?_
  refine W.ret ?_
  refine N.ret () rfl (.tmp (t := 4) (Get.tmp rfl) .nil) (res1 (eqB ?_)) .nil (fun _ _ h => h)
  simp [ok_eq, dep_eq, child_eq, parent_eq, less_eq, above_eq, stream_eq]

end Go.Proofs.YteannfdcbblooaaDoor
