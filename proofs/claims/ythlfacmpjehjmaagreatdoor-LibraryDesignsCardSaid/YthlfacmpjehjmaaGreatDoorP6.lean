/- Lemmas for the claim, part 6: rules for walks, contracts of functions, the data they compute. No conditions. -/
import Derived.Test.YthlfacmpjehjmaaGreatDoorP5
import Derived.Test.YthlfacmpjehjmaaGreatDoorP1
import Derived.Test.YthlfacmpjehjmaaGreatDoorP3
import Derived.Test.YthlfacmpjehjmaaGreatDoorP2
set_option linter.unusedSimpArgs false
set_option maxRecDepth 8000
set_option linter.unusedVariables false
namespace Go.Proofs.YthlfacmpjehjmaaGreatDoor
open Go.Sim
theorem over_ok (e : Ex) (hg : GN e) (hs : szX e ≤ 1000000) : CallT Tryz.prog 103 [Rp.agg (eX e)] [] (.one (Rp.at (walkP (seeE e)))) := by
  refine W.enter (fn := Tryz.f103) (n := 10) Tryz.func103 rfl Tryz.ntmps103 rfl (fun w₀ C₀ => ?_)
  simp only [argS]
  refine W.sr ?_
  refine L.box rfl rfl (GSpec.plain rfl (spec_box rfl (GetC.agg (Get.tmp rfl)))) (fun r1 => ?_)
  refine L.p1 rfl rfl rfl (spec_assign rfl Get.cval) ?_
  refine L.nt ?_
  refine W.sr ?_
  refine L.p1 rfl rfl rfl (spec_build (Rs := [Rp.int .i64 0, Rp.int .i64 0, Rp.int .i64 0, Rp.val (.slice none 0 0), Rp.val (.slice none 0 0)]) rfl ti132 z132v Tryz.underlying132 pl132 .nil) ?_
  refine L.box rfl rfl (GSpec.plain rfl (spec_box rfl (GetC.agg (Get.tmp rfl)))) (fun r5 => ?_)
  refine L.as rfl rfl rfl rfl rfl ?_
  refine L.nt ?_
  refine W.nil 9 1 eS ?_
  refine W.pubBox (off := 4) 0 0 rfl rfl rfl (fun _ => rfl) ?_
  refine W.nil 9 1 eS ?_
  refine W.sr ?_
  refine L.mv rfl rfl rfl rfl rfl ?_
  refine L.p1 rfl rfl rfl (spec_loadW (k := 2) rfl Tryz.isAgg66 Tryz.sizeOf66 (Get.tmp rfl) rfl rfl) ?_
  refine L.call rfl rfl rfl rfl Tryz.call116 (see_step e hg r5 _ 1 ⟨0, 0, []⟩ (by simpa using hs)) (.cons 1 rfl (.cons 0 rfl .refl)) (.cons (Get.tmp rfl) (.cons (Get.tmp rfl) (.cons (Get.cint rfl) .nil))) (fun v8 => ?_)
  try dsimp only
  refine L.nt ?_
  refine W.pubBox (off := 3) 1 0 rfl rfl rfl (fun _ => rfl) ?_
  refine W.pubB 3 0 rfl rfl ?_
  refine W.keep (.cons (t := 2) rfl (.cons (t := 3) rfl .nil)) .refl ?_
  refine W.sr ?_
  refine L.mv rfl rfl rfl rfl rfl ?_
  refine L.as rfl rfl rfl rfl rfl ?_
  refine L.nt ?_
  refine W.ret ?_
  refine N.ret () rfl (.tmp (t := 2) (Get.tmp rfl) .nil) (res1 (fun _ _ _ h => h)) .nil (fun _ _ h => h)
  skip

theorem xvalid_ok (e : Ex) (hx : XOk e) : CallT Tryz.prog 83 [Rp.agg (eX e)] [] (.one (Rp.int .i64 0)) := by
  refine W.enter (fn := Tryz.f83) (n := 29) Tryz.func83 rfl Tryz.ntmps83 rfl (fun w₀ C₀ => ?_)
  simp only [argS]
  have hd := hx.d
  have hn := hx.n
  refine W.sr ?_
  refine L.box rfl rfl (GSpec.plain rfl (spec_box rfl (GetC.agg (Get.tmp rfl)))) (fun r1 => ?_)
  refine L.p1 rfl rfl rfl (spec_assign rfl (Get.cint rfl)) ?_
  refine L.nt ?_
  refine W.sr ?_
  refine L.p1 rfl rfl rfl (spec_loadW (k := 0) rfl Tryz.isAgg66 Tryz.sizeOf66 (Get.tmp rfl) rfl rfl) ?_
  refine L.p1 rfl rfl rfl (spec_call rfl Tryz.call103 (over_ok _ hx.g hx.sz) (.cons (Get.tmp rfl) .nil)) ?_
  refine L.as rfl rfl rfl rfl rfl ?_
  refine L.nt ?_
  refine W.keep (.cons (t := 2) rfl (.cons (t := 3) rfl .nil)) .refl ?_
  refine W.seq ?_
  refine W.sr ?_
  refine L.mv rfl rfl rfl rfl rfl ?_
  refine L.p1 rfl rfl rfl (spec_nilCheck rfl (Get.tmp rfl)) ?_
  refine L.p1 rfl rfl rfl (spec_fieldAddrP (f := 2) rfl Tryz.underlying132 rfl Tryz.sizeOf28 (Get.tmp rfl) rfl rfl) ?_
  refine L.p1 rfl rfl rfl (spec_loadP1 rfl Tryz.isAgg28 (Get.tmp rfl)) ?_
  refine L.p1 rfl rfl rfl (spec_eql rfl (Get.tmp rfl) (Get.cint rfl)) ?_
  refine L.mv rfl rfl rfl rfl rfl ?_
  refine L.op1 rfl rfl (GSpec.guard rfl rfl rfl fun hg => (spec_move rfl (Get.tmp rfl))) ?_
  refine L.op1 rfl rfl (GSpec.guard rfl rfl rfl fun hg => (spec_nilCheck rfl (Get.opt rfl hg))) ?_
  refine L.op1 rfl rfl (GSpec.guard rfl rfl rfl fun hg => (spec_fieldAddrP (f := 1) rfl Tryz.underlying132 rfl Tryz.sizeOf3 (Get.opt rfl hg) rfl rfl)) ?_
  refine L.op1 rfl rfl (GSpec.guard rfl rfl rfl fun hg => (spec_loadP1 rfl Tryz.isAgg3 (Get.opt rfl hg))) ?_
  refine L.op1 rfl rfl (GSpec.guard rfl rfl rfl fun hg => (spec_gtr rfl (Get.opt rfl hg) (Get.cint rfl))) ?_
  refine L.op1 rfl rfl (GSpec.guard rfl rfl rfl fun hg => (spec_move rfl (Get.opt rfl hg))) ?_
  refine L.op1 rfl rfl (GSpec.guardOpt rfl rfl rfl fun hg => (spec_move rfl (Get.tmp rfl))) ?_
  refine L.op1 rfl rfl (GSpec.guardOpt rfl rfl rfl fun hg => (spec_nilCheck rfl (Get.opt rfl hg))) ?_
  refine L.op1 rfl rfl (GSpec.guardOpt rfl rfl rfl fun hg => (spec_fieldAddrP (f := 0) rfl Tryz.underlying132 rfl Tryz.sizeOf3 (Get.opt rfl hg) rfl rfl)) ?_
  refine L.op1 rfl rfl (GSpec.guardOpt rfl rfl rfl fun hg => (spec_loadP1 rfl Tryz.isAgg3 (Get.opt rfl hg))) ?_
  refine L.op1 rfl rfl (GSpec.guardOpt rfl rfl rfl fun hg => (spec_gtr rfl (Get.opt rfl hg) (Get.cint rfl))) ?_
  refine L.op1 rfl rfl (GSpec.guard rfl rfl rfl fun hg => (spec_or rfl (Get.opt rfl hg) (fun hb => (Get.opt rfl ⟨hg, hb⟩)))) ?_
  refine L.p1 rfl rfl rfl (spec_and rfl (Get.tmp rfl) (fun hb => (Get.opt rfl hb))) ?_
  refine L.nt ?_
  refine W.keep (.cons (t := 2) rfl (.cons (t := 3) rfl (.cons (t := 24) rfl .nil))) .refl ?_
  refine W.cond (Get.tmp rfl) (fun h1 => ?_) (fun h1 => ?_)
  · exfalso; have h := h1; simp at h; omega
  · have ph1 := h1; try simp only [sbx] at ph1
    refine W.skip ?_
    refine N.thenW ?_
    refine W.sr ?_
    refine L.mv rfl rfl rfl rfl rfl ?_
    refine L.p1 rfl rfl rfl (spec_nilCheck rfl (Get.tmp rfl)) ?_
    refine L.p1 rfl rfl rfl (spec_fieldAddrP (f := 2) rfl Tryz.underlying132 rfl Tryz.sizeOf28 (Get.tmp rfl) rfl rfl) ?_
    refine L.p1 rfl rfl rfl (spec_loadP1 rfl Tryz.isAgg28 (Get.tmp rfl)) ?_
    refine L.as rfl rfl rfl rfl rfl ?_
    refine L.nt ?_
    refine W.keep (.cons (t := 2) rfl .nil) .refl ?_
    refine W.ret ?_
    refine N.ret () rfl (.tmp (t := 2) (Get.tmp rfl) .nil) (res1 (eqI ?_)) .nil (fun _ _ h => h)
    rfl

theorem xnames_ok (e : Ex) (hx : XOk e) : CallT Tryz.prog 85 [Rp.agg (eX e)] [] (.one (Rp.slice eS (seeE e).vs)) := by
  refine W.enter (fn := Tryz.f85) (n := 8) Tryz.func85 rfl Tryz.ntmps85 rfl (fun w₀ C₀ => ?_)
  simp only [argS]
  refine W.sr ?_
  refine L.box rfl rfl (GSpec.plain rfl (spec_box rfl (GetC.agg (Get.tmp rfl)))) (fun r1 => ?_)
  refine L.p1 rfl rfl rfl (spec_assign rfl (Get.cnil (E := eS))) ?_
  refine L.nt ?_
  refine W.sr ?_
  refine L.p1 rfl rfl rfl (spec_loadW (k := 0) rfl Tryz.isAgg66 Tryz.sizeOf66 (Get.tmp rfl) rfl rfl) ?_
  refine L.p1 rfl rfl rfl (spec_call rfl Tryz.call103 (over_ok _ hx.g hx.sz) (.cons (Get.tmp rfl) .nil)) ?_
  refine L.p1 rfl rfl rfl (spec_nilCheck rfl (Get.tmp rfl)) ?_
  refine L.p1 rfl rfl rfl (spec_fieldAddrP (f := 3) rfl Tryz.underlying132 rfl Tryz.sizeOf25 (Get.tmp rfl) rfl rfl) ?_
  refine L.p1 rfl rfl rfl (spec_loadP1 rfl Tryz.isAgg25 (Get.tmp rfl)) ?_
  refine L.as rfl rfl rfl rfl rfl ?_
  refine L.nt ?_
  refine W.keep (.cons (t := 2) rfl .nil) .refl ?_
  refine W.ret ?_
  refine N.ret () rfl (.tmp (t := 2) (Get.tmp rfl) .nil) (res1 (eqSl ?_)) .nil (fun _ _ h => h)
  rfl

theorem xarrays_ok (e : Ex) (hx : XOk e) : CallT Tryz.prog 84 [Rp.agg (eX e)] [] (.one (Rp.slice eS [])) := by
  refine W.enter (fn := Tryz.f84) (n := 8) Tryz.func84 rfl Tryz.ntmps84 rfl (fun w₀ C₀ => ?_)
  simp only [argS]
  refine W.sr ?_
  refine L.box rfl rfl (GSpec.plain rfl (spec_box rfl (GetC.agg (Get.tmp rfl)))) (fun r1 => ?_)
  refine L.p1 rfl rfl rfl (spec_assign rfl (Get.cnil (E := eS))) ?_
  refine L.nt ?_
  refine W.sr ?_
  refine L.p1 rfl rfl rfl (spec_loadW (k := 0) rfl Tryz.isAgg66 Tryz.sizeOf66 (Get.tmp rfl) rfl rfl) ?_
  refine L.p1 rfl rfl rfl (spec_call rfl Tryz.call103 (over_ok _ hx.g hx.sz) (.cons (Get.tmp rfl) .nil)) ?_
  refine L.p1 rfl rfl rfl (spec_nilCheck rfl (Get.tmp rfl)) ?_
  refine L.p1 rfl rfl rfl (spec_fieldAddrP (f := 4) rfl Tryz.underlying132 rfl Tryz.sizeOf25 (Get.tmp rfl) rfl rfl) ?_
  refine L.p1 rfl rfl rfl (spec_loadP1 rfl Tryz.isAgg25 (Get.tmp rfl)) ?_
  refine L.as rfl rfl rfl rfl rfl ?_
  refine L.nt ?_
  refine W.keep (.cons (t := 2) rfl .nil) .refl ?_
  refine W.ret ?_
  refine N.ret () rfl (.tmp (t := 2) (Get.tmp rfl) .nil) (res1 (eqSl ?_)) .nil (fun _ _ h => h)
  rfl

theorem eval_ok (e : Ex) (env : List Sg) (hx : XOk e) (hg : GX (fun s => (findS env s).2 = true) e) : CallT Tryz.prog 121 [Rp.agg (eX e), Rp.slice eSg env] [] (.one (Rp.tuple [Rp.int .i64 (valX env e), Rp.int .i64 0])) := by
  refine W.enter (fn := Tryz.f121) (n := 14) Tryz.func121 rfl Tryz.ntmps121 rfl (fun w₀ C₀ => ?_)
  simp only [argS]
  refine W.sr ?_
  refine L.box rfl rfl (GSpec.plain rfl (spec_box rfl (GetC.agg (Get.tmp rfl)))) (fun r2 => ?_)
  refine L.p1 rfl rfl rfl (spec_assign rfl (Get.cint rfl)) ?_
  refine L.p1 rfl rfl rfl (spec_assign rfl (Get.cint rfl)) ?_
  refine L.nt ?_
  refine W.seq ?_
  refine W.sr ?_
  refine L.p1 rfl rfl rfl (spec_loadW (k := 0) rfl Tryz.isAgg66 Tryz.sizeOf66 (Get.tmp rfl) rfl rfl) ?_
  refine L.p1 rfl rfl rfl (spec_call rfl Tryz.call83 (xvalid_ok _ (by assumption)) (.cons (Get.tmp rfl) .nil)) ?_
  refine L.p1 rfl rfl rfl (spec_neq rfl (Get.tmp rfl) (Get.cint rfl)) ?_
  refine L.nt ?_
  refine W.cond (Get.tmp rfl) (fun h1 => ?_) (fun h1 => ?_)
  · exfalso; have h := h1; simp at h
  · have ph1 := h1; try simp only [sbx] at ph1
    refine W.skip ?_
    refine N.thenW ?_
    refine W.sr ?_
    refine L.p1 rfl rfl rfl (spec_loadW (k := 0) rfl Tryz.isAgg66 Tryz.sizeOf66 (Get.tmp rfl) rfl rfl) ?_
    refine L.mv rfl rfl rfl rfl rfl ?_
    refine L.p1 rfl rfl rfl (spec_call rfl Tryz.call137 (value_ok env e hg) (.cons (Get.tmp rfl) (.cons (Get.tmp rfl) .nil))) ?_
    refine L.p1 rfl rfl rfl (spec_extract rfl (Get.tmp rfl) rfl) ?_
    refine L.p1 rfl rfl rfl (spec_extract rfl (Get.tmp rfl) rfl) ?_
    refine L.as rfl rfl rfl rfl rfl ?_
    refine L.as rfl rfl rfl rfl rfl ?_
    refine L.nt ?_
    refine W.keep (.cons (t := 4) rfl (.cons (t := 5) rfl .nil)) .refl ?_
    refine W.ret ?_
    refine N.ret () rfl (.tmp (t := 4) (Get.tmp rfl) (.tmp (t := 5) (Get.tmp rfl) .nil)) (res2w (eqI ?_) (eqI ?_)) .nil (fun _ _ h => h)
    all_goals rfl

theorem xvalue_ok (e : Ex) (env : List Sg) (hx : XOk e) (hg : GX (fun s => (findS env s).2 = true) e) : CallT Tryz.prog 106 [Rp.agg (eX e), Rp.slice eSg env] [] (.one (Rp.int .i64 (valX env e))) := by
  refine W.enter (fn := Tryz.f106) (n := 14) Tryz.func106 rfl Tryz.ntmps106 rfl (fun w₀ C₀ => ?_)
  simp only [argS]
  refine W.sr ?_
  refine L.box rfl rfl (GSpec.plain rfl (spec_box rfl (GetC.agg (Get.tmp rfl)))) (fun r2 => ?_)
  refine L.p1 rfl rfl rfl (spec_assign rfl (Get.cint rfl)) ?_
  refine L.nt ?_
  refine W.sr ?_
  refine L.p1 rfl rfl rfl (spec_loadW (k := 0) rfl Tryz.isAgg66 Tryz.sizeOf66 (Get.tmp rfl) rfl rfl) ?_
  refine L.mv rfl rfl rfl rfl rfl ?_
  refine L.p1 rfl rfl rfl (spec_call rfl Tryz.call121 (eval_ok _ _ (by assumption) (by assumption)) (.cons (Get.tmp rfl) (.cons (Get.tmp rfl) .nil))) ?_
  refine L.mv rfl rfl rfl rfl rfl ?_
  refine L.p1 rfl rfl rfl (spec_extract rfl (Get.tmp rfl) rfl) ?_
  refine L.p1 rfl rfl rfl (spec_extract rfl (Get.tmp rfl) rfl) ?_
  refine L.as rfl rfl rfl rfl rfl ?_
  refine L.as rfl rfl rfl rfl rfl ?_
  refine L.nt ?_
  refine W.keep (.cons (t := 4) rfl (.cons (t := 5) rfl .nil)) .refl ?_
  refine W.sr ?_
  refine L.mv rfl rfl rfl rfl rfl ?_
  refine L.as rfl rfl rfl rfl rfl ?_
  refine L.nt ?_
  refine W.ret ?_
  refine N.ret () rfl (.tmp (t := 4) (Get.tmp rfl) .nil) (res1 (eqI ?_)) .nil (fun _ _ h => h)
  rfl

end Go.Proofs.YthlfacmpjehjmaaGreatDoor
set_option linter.unusedSimpArgs false
set_option maxRecDepth 8000
set_option linter.unusedVariables false
namespace Go.Proofs.YthlfacmpjehjmaaGreatDoor
open Go.Sim
theorem synt_ok (l : List Tk) (hl : Toks l) (F : Nat) (e : Ex) (b : Nat) (h : exprP l F 1 0 = some (e, b)) : CallT Tryz.prog 110 [Rp.slice eTk l, Rp.int .i64 0] [] (.one (Rp.tuple [Rp.agg (eX e), Rp.int .i64 (b : Nat), Rp.int .i64 0])) := by
  refine W.enter (fn := Tryz.f110) (n := 24) Tryz.func110 rfl Tryz.ntmps110 rfl (fun w₀ C₀ => ?_)
  simp only [argS]
  refine W.sr ?_
  refine L.box rfl rfl (GSpec.plain rfl (spec_alloc rfl ti66 z66)) (fun r4 => ?_)
  refine L.p1 rfl rfl rfl (spec_assign rfl (Get.cint rfl)) ?_
  refine L.p1 rfl rfl rfl (spec_assign rfl (Get.cint rfl)) ?_
  refine L.nt ?_
  refine W.sr ?_
  refine L.mv rfl rfl rfl rfl rfl ?_
  refine L.mv rfl rfl rfl rfl rfl ?_
  refine L.p1 rfl rfl rfl (spec_build (Rs := [_, _, Rp.int .i64 0]) rfl ti181 z181 Tryz.underlying181 pl181 (.cons (GetC.one (Get.tmp rfl)) rfl rfl rfl (.cons (GetC.one (Get.tmp rfl)) rfl rfl rfl .nil))) ?_
  refine L.box rfl rfl (GSpec.plain rfl (spec_box rfl (GetC.agg (Get.tmp rfl)))) (fun r12 => ?_)
  refine L.as rfl rfl rfl rfl rfl ?_
  refine L.nt ?_
  refine W.sr ?_
  refine L.mv rfl rfl rfl rfl rfl ?_
  refine L.call rfl rfl rfl rfl Tryz.call131 (expr_ok l hl F 1 r12 0 e b (by omega) (by omega) (by omega) h) (.cons 0 rfl .refl) (.cons (Get.tmp rfl) (.cons (Get.cint rfl) .nil)) (fun _u => ?_)
  try dsimp only
  refine L.box rfl rfl (GSpec.plain rfl (spec_alloc rfl ti66 z66)) (fun r8 => ?_)
  refine L.storeW (k := 0) rfl rfl rfl Tryz.sizeOf66 (Get.tmp rfl) (Get.tmp rfl) rfl rfl rfl ?_
  refine L.nt ?_
  refine W.keep (.cons (t := 4) rfl (.cons (t := 5) rfl (.cons (t := 6) rfl (.cons (t := 7) rfl (.cons (t := 8) rfl .nil))))) .refl ?_
  refine W.seq ?_
  apply W.anyH [_] [_, _] mixed (.cons 2 rfl (.cons 0 rfl (.cons 0 rfl .nil)))
  refine AH.first 0 rfl (by kernel_rfl) (by kernel_rfl) (by kernel_rfl) rfl rfl rfl (QSpec.plain rfl (qs_loadW (k := 0) rfl Tryz.isAgg66 Tryz.sizeOf66 (Get.tmp rfl) rfl rfl)) ?_
  refine AH.first 1 rfl (by kernel_rfl) (by kernel_rfl) (by kernel_rfl) rfl rfl rfl (QSpec.plain rfl (qs_move rfl (Get.tmp rfl))) ?_
  refine AH.first 2 rfl (by kernel_rfl) (by kernel_rfl) (by kernel_rfl) rfl rfl rfl (QSpec.plain rfl (qs_nilCheck rfl (Get.tmp rfl))) ?_
  refine AH.first 3 rfl (by kernel_rfl) (by kernel_rfl) (by kernel_rfl) rfl rfl rfl (QSpec.plain rfl (qs_fieldAddr (f := 1) (off' := 1) rfl Tryz.underlying181 rfl Tryz.sizeOf3 (Get.tmp rfl) rfl)) ?_
  refine AH.first 4 rfl (by kernel_rfl) (by kernel_rfl) (by kernel_rfl) rfl rfl rfl (QSpec.plain rfl (qs_load1 (k := 1) rfl Tryz.isAgg3 (Get.tmp rfl) rfl rfl)) ?_
  refine AH.first 5 rfl (by kernel_rfl) (by kernel_rfl) (by kernel_rfl) rfl rfl rfl (QSpec.plain rfl (qs_move rfl (Get.tmp rfl))) ?_
  refine AH.first 6 rfl (by kernel_rfl) (by kernel_rfl) (by kernel_rfl) rfl rfl rfl (QSpec.plain rfl (qs_nilCheck rfl (Get.tmp rfl))) ?_
  refine AH.first 7 rfl (by kernel_rfl) (by kernel_rfl) (by kernel_rfl) rfl rfl rfl (QSpec.plain rfl (qs_fieldAddr (f := 2) (off' := 2) rfl Tryz.underlying181 rfl Tryz.sizeOf28 (Get.tmp rfl) rfl)) ?_
  refine AH.first 8 rfl (by kernel_rfl) (by kernel_rfl) (by kernel_rfl) rfl rfl rfl (QSpec.plain rfl (qs_load1 (k := 1) rfl Tryz.isAgg28 (Get.tmp rfl) rfl rfl)) ?_
  refine AH.only 9 rfl (by kernel_rfl) rfl (fun w1 C1 => ?_)
  refine L.storeW (k := 0) rfl rfl rfl Tryz.sizeOf66 (Get.tmp rfl) (Get.tmp rfl) rfl rfl rfl ?_
  refine L.nil ?_
  refine AftH.next ?_
  refine AH.first 10 rfl (by kernel_rfl) (by kernel_rfl) (by kernel_rfl) rfl rfl rfl (QSpec.plain rfl (qs_assign rfl (Get.tmp rfl))) ?_
  refine AH.first 11 rfl (by kernel_rfl) (by kernel_rfl) (by kernel_rfl) rfl rfl rfl (QSpec.plain rfl (qs_assign rfl (Get.tmp rfl))) ?_
  refine AH.done (by kernel_rfl) ?_
  try simp only [List.cons_append, List.nil_append]
  refine N.thenW ?_
  refine W.keep (.cons (t := 4) rfl (.cons (t := 5) rfl (.cons (t := 6) rfl .nil))) .refl ?_
  refine W.ret ?_
  refine N.ret () rfl (.cellA (k := 0) (Get.tmp (t := 4) rfl) rfl Tryz.isAgg66 Tryz.sizeOf66 rfl (.tmp (t := 5) (Get.tmp rfl) (.tmp (t := 6) (Get.tmp rfl) .nil))) (res3w (eqA ?_) (eqI ?_) (eqI ?_)) .nil (fun _ _ h => h)
  all_goals rfl

theorem parse_ok (s : List UInt8) (e : Ex) (hp : Reads s e) : CallT Tryz.prog 98 [Rp.str s] [] (.one (Rp.tuple [Rp.agg (eX e), Rp.int .i64 0, Rp.int .i64 0])) := by
  refine W.enter (fn := Tryz.f98) (n := 52) Tryz.func98 rfl Tryz.ntmps98 rfl (fun w₀ C₀ => ?_)
  simp only [argS]
  obtain ⟨K, F, hlx, htk, hpx, hxo⟩ := hp
  have hkl : (tokE s K).length = K := lex_len s K
  refine W.sr ?_
  refine L.box rfl rfl (GSpec.plain rfl (spec_alloc rfl ti66 z66)) (fun r2 => ?_)
  refine L.p1 rfl rfl rfl (spec_assign rfl (Get.cint rfl)) ?_
  refine L.p1 rfl rfl rfl (spec_assign rfl (Get.cint rfl)) ?_
  refine L.nt ?_
  refine W.sr ?_
  refine L.mv rfl rfl rfl rfl rfl ?_
  refine L.p1 rfl rfl rfl (spec_call rfl Tryz.call109 (tokens_ok s K hlx) (.cons (Get.tmp rfl) .nil)) ?_
  refine L.mv rfl rfl rfl rfl rfl ?_
  refine L.p1 rfl rfl rfl (spec_extract rfl (Get.tmp rfl) rfl) ?_
  refine L.p1 rfl rfl rfl (spec_extract rfl (Get.tmp rfl) rfl) ?_
  refine L.p1 rfl rfl rfl (spec_extract rfl (Get.tmp rfl) rfl) ?_
  refine L.as rfl rfl rfl rfl rfl ?_
  refine L.as rfl rfl rfl rfl rfl ?_
  refine L.as rfl rfl rfl rfl rfl ?_
  refine L.nt ?_
  refine W.keep (.cons (t := 2) rfl (.cons (t := 3) rfl (.cons (t := 4) rfl (.cons (t := 5) rfl (.cons (t := 6) rfl (.cons (t := 7) rfl .nil)))))) .refl ?_
  refine W.seq ?_
  refine W.sr ?_
  refine L.mv rfl rfl rfl rfl rfl ?_
  refine L.p1 rfl rfl rfl (spec_neq rfl (Get.tmp rfl) (Get.cint rfl)) ?_
  refine L.nt ?_
  refine W.cond (Get.tmp rfl) (fun h1 => ?_) (fun h1 => ?_)
  · exfalso; have h := h1; simp at h
  · have ph1 := h1; try simp only [sbx] at ph1
    refine W.skip ?_
    refine N.thenW ?_
    refine W.sr ?_
    refine L.mv rfl rfl rfl rfl rfl ?_
    refine L.p1 rfl rfl rfl (spec_call rfl Tryz.call110 (synt_ok (tokE s K) htk F e K hpx) (.cons (Get.tmp rfl) (.cons (Get.cint rfl) .nil))) ?_
    refine L.mv rfl rfl rfl rfl rfl ?_
    refine L.p1 rfl rfl rfl (spec_extract rfl (Get.tmp rfl) rfl) ?_
    refine L.p1 rfl rfl rfl (spec_extract rfl (Get.tmp rfl) rfl) ?_
    refine L.p1 rfl rfl rfl (spec_extract rfl (Get.tmp rfl) rfl) ?_
    refine L.box rfl rfl (GSpec.plain rfl (spec_alloc rfl ti66 z66)) (fun r8 => ?_)
    refine L.storeW (k := 0) rfl rfl rfl Tryz.sizeOf66 (Get.tmp rfl) (Get.tmp rfl) rfl rfl rfl ?_
    refine L.as rfl rfl rfl rfl rfl ?_
    refine L.as rfl rfl rfl rfl rfl ?_
    refine L.nt ?_
    refine W.keep (.cons (t := 2) rfl (.cons (t := 3) rfl (.cons (t := 4) rfl (.cons (t := 5) rfl (.cons (t := 8) rfl (.cons (t := 9) rfl (.cons (t := 10) rfl .nil))))))) .refl ?_
    refine W.seq ?_
    refine W.sr ?_
    refine L.mv rfl rfl rfl rfl rfl ?_
    refine L.p1 rfl rfl rfl (spec_neq rfl (Get.tmp rfl) (Get.cint rfl)) ?_
    refine L.nt ?_
    refine W.cond (Get.tmp rfl) (fun h2 => ?_) (fun h2 => ?_)
    · exfalso; have h := h2; simp at h
    · have ph2 := h2; try simp only [sbx] at ph2
      refine W.skip ?_
      refine N.thenW ?_
      refine W.seq ?_
      refine W.sr ?_
      refine L.mv rfl rfl rfl rfl rfl ?_
      refine L.mv rfl rfl rfl rfl rfl ?_
      refine L.p1 rfl rfl rfl (spec_len rfl Tryz.underlying144 (Get.tmp rfl)) ?_
      refine L.p1 rfl rfl rfl (spec_lss rfl (Get.tmp rfl) (Get.tmp rfl)) ?_
      refine L.nt ?_
      refine W.cond (Get.tmp rfl) (fun h3 => ?_) (fun h3 => ?_)
      · exfalso; have h := of_decide_eq_true h3; omega
      · have ph3 := h3; try simp only [sbx] at ph3
        refine W.skip ?_
        refine N.thenW ?_
        refine W.keep (.cons (t := 2) rfl (.cons (t := 3) rfl (.cons (t := 4) rfl (.cons (t := 8) rfl (.cons (t := 10) rfl .nil))))) .refl ?_
        refine W.sr ?_
        refine L.p1 rfl rfl rfl (spec_loadW (k := 0) rfl Tryz.isAgg66 Tryz.sizeOf66 (Get.tmp rfl) rfl rfl) ?_
        refine L.p1 rfl rfl rfl (spec_call rfl Tryz.call83 (xvalid_ok e hxo) (.cons (Get.tmp rfl) .nil)) ?_
        refine L.as rfl rfl rfl rfl rfl ?_
        refine L.nt ?_
        refine W.seq ?_
        refine W.sr ?_
        refine L.mv rfl rfl rfl rfl rfl ?_
        refine L.p1 rfl rfl rfl (spec_neq rfl (Get.tmp rfl) (Get.cint rfl)) ?_
        refine L.nt ?_
        refine W.cond (Get.tmp rfl) (fun h4 => ?_) (fun h4 => ?_)
        · exfalso; have h := h4; simp at h
        · have ph4 := h4; try simp only [sbx] at ph4
          refine W.skip ?_
          refine N.thenW ?_
          refine W.keep (.cons (t := 2) rfl (.cons (t := 3) rfl (.cons (t := 4) rfl (.cons (t := 8) rfl .nil)))) .refl ?_
          refine W.sr ?_
          refine L.p1 rfl rfl rfl (spec_loadW (k := 0) rfl Tryz.isAgg66 Tryz.sizeOf66 (Get.tmp rfl) rfl rfl) ?_
          refine L.storeW (k := 1) rfl rfl rfl Tryz.sizeOf66 (Get.tmp rfl) (Get.tmp rfl) rfl rfl rfl ?_
          refine L.p1 rfl rfl rfl (spec_assign rfl (Get.cint rfl)) ?_
          refine L.p1 rfl rfl rfl (spec_assign rfl (Get.cint rfl)) ?_
          refine L.nt ?_
          refine W.ret ?_
          refine N.ret () rfl (.cellA (k := 1) (Get.tmp (t := 2) rfl) rfl Tryz.isAgg66 Tryz.sizeOf66 rfl (.tmp (t := 3) (Get.tmp rfl) (.tmp (t := 4) (Get.tmp rfl) .nil))) (res3w (eqA ?_) (eqI ?_) (eqI ?_)) .nil (fun _ _ h => h)
          all_goals rfl

theorem rexpr_ok (s : List UInt8) (e : Ex) (hp : Reads s e) : CallT Tryz.prog 77 [Rp.str s] [] (.one (Rp.agg (eX e))) := by
  refine W.enter (fn := Tryz.f77) (n := 13) Tryz.func77 rfl Tryz.ntmps77 rfl (fun w₀ C₀ => ?_)
  simp only [argS]
  refine W.sr ?_
  refine L.box rfl rfl (GSpec.plain rfl (spec_alloc rfl ti66 z66)) (fun r2 => ?_)
  refine L.nt ?_
  refine W.keep (.cons (t := 0) rfl (.cons (t := 2) rfl .nil)) .refl ?_
  refine W.sr ?_
  refine L.mv rfl rfl rfl rfl rfl ?_
  refine L.p1 rfl rfl rfl (spec_call rfl Tryz.call98 (parse_ok s e hp) (.cons (Get.tmp rfl) .nil)) ?_
  refine L.mv rfl rfl rfl rfl rfl ?_
  refine L.p1 rfl rfl rfl (spec_extract rfl (Get.tmp rfl) rfl) ?_
  refine L.p1 rfl rfl rfl (spec_extract rfl (Get.tmp rfl) rfl) ?_
  refine L.p1 rfl rfl rfl (spec_extract rfl (Get.tmp rfl) rfl) ?_
  refine L.box rfl rfl (GSpec.plain rfl (spec_alloc rfl ti66 z66)) (fun r3 => ?_)
  refine L.storeW (k := 0) rfl rfl rfl Tryz.sizeOf66 (Get.tmp rfl) (Get.tmp rfl) rfl rfl rfl ?_
  refine L.as rfl rfl rfl rfl rfl ?_
  refine L.as rfl rfl rfl rfl rfl ?_
  refine L.nt ?_
  refine W.keep (.cons (t := 2) rfl (.cons (t := 3) rfl .nil)) .refl ?_
  refine W.sr ?_
  refine L.p1 rfl rfl rfl (spec_loadW (k := 0) rfl Tryz.isAgg66 Tryz.sizeOf66 (Get.tmp rfl) rfl rfl) ?_
  refine L.storeW (k := 1) rfl rfl rfl Tryz.sizeOf66 (Get.tmp rfl) (Get.tmp rfl) rfl rfl rfl ?_
  refine L.nt ?_
  refine W.ret ?_
  refine N.ret () rfl (.cellA (k := 1) (Get.tmp (t := 2) rfl) rfl Tryz.isAgg66 Tryz.sizeOf66 rfl .nil) (res1 (eqA ?_)) .nil (fun _ _ h => h)
  rfl

end Go.Proofs.YthlfacmpjehjmaaGreatDoor
/- A slice of several elements, owned. -/
set_option linter.unusedSimpArgs false
set_option linter.unusedVariables false
namespace Go.Sim
section
variable {P : Program} {M : List MF} {o : Oper} {σ : Nat → Option Rp}
theorem spec_buildSliceNO {α : Type} {T e sz bytes len : Nat} {E : α → List Rp} {xs : List α} {ps : Array (Nat × Operand)} {z : Value} {Zs Rs : List Rp} (h : o.op = .buildSlice T len ps) (hu : P.underlying T = some (.slice e)) (hT : TI P e sz bytes z)
    (hz : ∀ w C, AllR Zs w C z.cells.toList) (hb : len * sz ≤ 16777216 ∧ 0 < len * sz) (hzl : Zs.length = sz) (hps : Parts σ (fun i => some (i * sz, sz)) ps.toList (List.replicate len Zs).flatten Rs) (hR : Rs = xs.flatMap E) (hl : xs.length = len) (hE : ∀ x, (E x).length = sz) : Spec P σ M o (.own e sz E xs) :=
  Spec.new (A := .own e sz E xs) (fun r => .slice (some ⟨r, 0, none⟩) len len) fun a w C hs hm => by
    have hzs : z.cells.size = sz := by rw [← Array.length_toList, (hz w C).1.length, hzl]
    have hrow := zero_row (z := z.cells) hzs len
    obtain ⟨cells', h1, h2⟩ := fill_parts hs hps ((Array.range (len * sz)).map (z.cells[· % z.cells.size]!)) (by rw [hrow]; exact (hz w C).rep len)
    have hsz0 : 0 < sz := by
      rcases Nat.eq_zero_or_pos sz with h0 | h0
      · rw [h0] at hb; simp at hb
      · exact h0
    have hln : len ≤ 16777216 := Nat.le_trans (Nat.le_mul_of_pos_right len hsz0) hb.1
    have hcl : cells'.toList.length = len * sz := by
      rw [h2.1.length, hR, ← hl]
      clear hR h2 h1 hps hl
      induction xs with
      | nil => simp
      | cons x r ih => rw [List.flatMap_cons, List.length_append, hE, ih, List.length_cons, Nat.add_mul]; omega
    refine ⟨.slice (some ⟨w.heap.size, 0, none⟩) len len, .cells cells' e, ?_, rfl, rfl, fun G hG => ?_⟩
    · have h0 : ¬ (len * sz > 2 ^ 24) := by omega
      have h0' : ¬ (len * sz = 0) := by omega
      simp only [execOp, h, Instr.buildSlice, Sem.run_bind, run_underlying hu, Result.andThen_ok, hT.size, h0, if_false, h0', hT.zero, Sem.run_pure]
      simp only [Array.toList_map] at h1 ⊢
      simp only [h1]
      simp [newRow]
    · have : G = MF.osl (.slice (some ⟨w.heap.size, 0, none⟩) len len) e sz E xs := by simpa [RA.own] using hG
      subst this
      refine ⟨cells'.toList, ⟨by rw [hcl, hl], .inr ⟨w.heap.size, len, cells', by rw [hl], Nat.zero_le _, new_at _ _, by omega, by simp only [maxLen]; omega, by rw [← Array.length_toList, hcl], ?_⟩⟩, ?_, by omega⟩
      · rw [List.take_of_length_le (by rw [hcl, hl]; exact Nat.le_refl _)]
      · rw [← hR]
        refine AllR.mono (fun b hb => ⟨hb, ?_⟩) h2
        exact (new_eff w C (.cells cells' e)).keep b (hm.wf b hb) (by simp)
end
end Go.Sim
set_option linter.unusedSimpArgs false
set_option maxRecDepth 8000
set_option linter.unusedVariables false
namespace Go.Proofs.YthlfacmpjehjmaaGreatDoor
open Go.Sim
theorem wrong33_ok (n : Int) : CallT Tryz.prog 48 [Rp.int .i64 n] [] (.one (Rp.bool (decide (n < 1) || decide (8 < n)))) := by
  refine W.enter (fn := Tryz.f48) (n := 9) Tryz.func48 rfl Tryz.ntmps48 rfl (fun w₀ C₀ => ?_)
  simp only [argS]
  refine W.sr ?_
  refine L.p1 rfl rfl rfl (spec_assign rfl Get.cbool) ?_
  refine L.nt ?_
  refine W.sr ?_
  refine L.mv rfl rfl rfl rfl rfl ?_
  refine L.p1 rfl rfl rfl (spec_lss rfl (Get.tmp rfl) (Get.cint rfl)) ?_
  refine L.mv rfl rfl rfl rfl rfl ?_
  refine L.op1 rfl rfl (GSpec.guard rfl rfl rfl fun hg => (spec_move rfl (Get.tmp rfl))) ?_
  refine L.op1 rfl rfl (GSpec.guard rfl rfl rfl fun hg => (spec_gtr rfl (Get.opt rfl hg) (Get.cint rfl))) ?_
  refine L.p1 rfl rfl rfl (spec_or rfl (Get.tmp rfl) (fun hb => (Get.opt rfl hb))) ?_
  refine L.as rfl rfl rfl rfl rfl ?_
  refine L.nt ?_
  refine W.keep (.cons (t := 2) rfl .nil) .refl ?_
  refine W.ret ?_
  refine N.ret () rfl (.tmp (t := 2) (Get.tmp rfl) .nil) (res1 (eqB ?_)) .nil (fun _ _ h => h)
  rfl

theorem num33_ok (n : Int) (h0 : 0 ≤ n) (h1 : n ≤ 9) : CallT Tryz.prog 51 [Rp.int .i64 n] [] (.one (Rp.str (digT n.toNat))) := by
  refine W.enter (fn := Tryz.f51) (n := 11) Tryz.func51 rfl Tryz.ntmps51 rfl (fun w₀ C₀ => ?_)
  simp only [argS]
  obtain ⟨m, rfl⟩ : ∃ m : Nat, n = (m : Int) := ⟨n.toNat, by omega⟩
  refine W.sr ?_
  refine L.p1 rfl rfl rfl (spec_assign rfl (Get.cstr (l := []) rfl rfl)) ?_
  refine L.nt ?_
  refine W.sr ?_
  refine L.mv rfl rfl rfl rfl rfl ?_
  refine L.p1 rfl rfl rfl (spec_call rfl Tryz.call78 (num3_ok _ (by omega)) (.cons (Get.tmp rfl) .nil)) ?_
  refine L.as rfl rfl rfl rfl rfl ?_
  refine L.nt ?_
  refine W.sr ?_
  refine L.mv rfl rfl rfl rfl rfl ?_
  refine L.mv rfl rfl rfl rfl rfl ?_
  refine L.p1 rfl rfl rfl (spec_lenS rfl Tryz.underlying9 (Get.tmp rfl)) ?_
  first | refine L.op1 rfl rfl (GSpec.plain rfl (fit_i64 (by (simp only [digT, List.length_append, List.length_cons, List.length_nil]; omega)) (by (simp only [digT, List.length_append, List.length_cons, List.length_nil]; omega)) (spec_sub rfl (Get.tmp rfl) (Get.cint rfl)))) ?_ | refine L.op1 rfl rfl (GSpec.plain rfl (spec_sub rfl (Get.tmp rfl) (Get.cint rfl))) ?_
  refine L.p1 rfl rfl rfl (spec_sliceS rfl Tryz.underlying9 (Get.tmp rfl) .none (.some (Get.tmp rfl) (by (simp only [digT, List.length_append, List.length_cons, List.length_nil]; omega))) (by (simp only [digT, List.length_append, List.length_cons, List.length_nil]; omega))) ?_
  refine L.as rfl rfl rfl rfl rfl ?_
  refine L.nt ?_
  refine W.keep (.cons (t := 2) rfl .nil) .refl ?_
  refine W.ret ?_
  refine N.ret () rfl (.tmp (t := 2) (Get.tmp rfl) .nil) (res1 (eqS ?_)) .nil (fun _ _ h => h)
  rfl

theorem begin33_ok (nm : List UInt8) (w : Int) : CallT Tryz.prog 49 [Rp.str nm, Rp.int .i64 w] [] (.one (Rp.agg (beR nm w))) := by
  refine W.enter (fn := Tryz.f49) (n := 16) Tryz.func49 rfl Tryz.ntmps49 rfl (fun w₀ C₀ => ?_)
  simp only [argS]
  refine W.sr ?_
  refine L.box rfl rfl (GSpec.plain rfl (spec_alloc rfl ti27 z27)) (fun r4 => ?_)
  refine L.nt ?_
  refine W.sr ?_
  refine L.mv rfl rfl rfl rfl rfl ?_
  refine L.p1 rfl rfl rfl (spec_build (Rs := [_, _]) rfl ti84 z84 Tryz.underlying84 pl84 (.cons (GetC.one (Get.cstr (l := [105, 118]) rfl rfl)) rfl rfl rfl (.cons (GetC.one (Get.cint rfl)) rfl rfl rfl .nil))) ?_
  refine L.p1 rfl rfl rfl (spec_build (Rs := [_, _]) rfl ti84 z84 Tryz.underlying84 pl84 (.cons (GetC.one (Get.cstr (l := [105, 116]) rfl rfl)) rfl rfl rfl (.cons (GetC.one (Get.cint rfl)) rfl rfl rfl .nil))) ?_
  refine L.mv rfl rfl rfl rfl rfl ?_
  refine L.p1 rfl rfl rfl (spec_build (Rs := [_, _]) rfl ti84 z84 Tryz.underlying84 pl84 (.cons (GetC.one (Get.cstr (l := [105, 97]) rfl rfl)) rfl rfl rfl (.cons (GetC.one (Get.tmp rfl)) rfl rfl rfl .nil))) ?_
  refine L.mv rfl rfl rfl rfl rfl ?_
  refine L.p1 rfl rfl rfl (spec_build (Rs := [_, _]) rfl ti84 z84 Tryz.underlying84 pl84 (.cons (GetC.one (Get.cstr (l := [105, 98]) rfl rfl)) rfl rfl rfl (.cons (GetC.one (Get.tmp rfl)) rfl rfl rfl .nil))) ?_
  refine L.p1 rfl rfl rfl (spec_build (Rs := [_, _]) rfl ti84 z84 Tryz.underlying84 pl84 (.cons (GetC.one (Get.cstr (l := [111, 114, 100, 121]) rfl rfl)) rfl rfl rfl (.cons (GetC.one (Get.cint rfl)) rfl rfl rfl .nil))) ?_
  refine L.p1 rfl rfl rfl (spec_buildSliceN (xs := (beginD nm w).inputs) (E := eP) rfl Tryz.underlying22 ti84 z84 (by first | decide | simp) rfl (.cons (GetC.agg (Get.tmp rfl)) rfl rfl rfl (.cons (GetC.agg (Get.tmp rfl)) rfl rfl rfl (.cons (GetC.agg (Get.tmp rfl)) rfl rfl rfl (.cons (GetC.agg (Get.tmp rfl)) rfl rfl rfl (.cons (GetC.agg (Get.tmp rfl)) rfl rfl rfl .nil))))) rfl rfl) ?_
  refine L.p1 rfl rfl rfl (spec_buildSliceN (xs := ([sIrdy, sOv, sOt, sOa] : List (List UInt8))) (E := eS) rfl Tryz.underlying25 ti9 z9 (by first | decide | simp) rfl (.cons (GetC.one (Get.cstr (l := [105, 114, 100, 121]) rfl rfl)) rfl rfl rfl (.cons (GetC.one (Get.cstr (l := [111, 118]) rfl rfl)) rfl rfl rfl (.cons (GetC.one (Get.cstr (l := [111, 116]) rfl rfl)) rfl rfl rfl (.cons (GetC.one (Get.cstr (l := [111, 97]) rfl rfl)) rfl rfl rfl .nil)))) rfl rfl) ?_
  refine L.p1 rfl rfl rfl (spec_build (Rs := [_, _, Rp.val (.slice none 0 0), Rp.val (.slice none 0 0), _]) rfl ti27 z27v Tryz.underlying27 pl27 (.cons (GetC.one (Get.tmp rfl)) rfl rfl rfl (.cons (GetC.one (Get.tmp rfl)) rfl rfl rfl (.cons (GetC.one (Get.tmp rfl)) rfl rfl rfl .nil)))) ?_
  refine L.storeW (k := 0) rfl rfl rfl Tryz.sizeOf27 (Get.tmp rfl) (Get.tmp rfl) rfl rfl rfl ?_
  refine L.nt ?_
  refine W.keep (.cons (t := 4) rfl .nil) .refl ?_
  refine W.ret ?_
  refine N.ret () rfl (.cellA (k := 0) (Get.tmp (t := 4) rfl) rfl Tryz.isAgg27 Tryz.sizeOf27 rfl .nil) (res1 (eqA ?_)) .nil (fun _ _ h => h)
  rfl

theorem wire33_ok (nm : List UInt8) (w : Int) (s : List UInt8) (e : Ex) (hp : Reads s e) : CallT Tryz.prog 50 [Rp.str nm, Rp.int .i64 w, Rp.str s] [] (.one (Rp.agg (eWr ⟨nm, w, e⟩))) := by
  refine W.enter (fn := Tryz.f50) (n := 12) Tryz.func50 rfl Tryz.ntmps50 rfl (fun w₀ C₀ => ?_)
  simp only [argS]
  refine W.sr ?_
  refine L.box rfl rfl (GSpec.plain rfl (spec_alloc rfl ti77 z77)) (fun r6 => ?_)
  refine L.nt ?_
  refine W.sr ?_
  refine L.mv rfl rfl rfl rfl rfl ?_
  refine L.mv rfl rfl rfl rfl rfl ?_
  refine L.mv rfl rfl rfl rfl rfl ?_
  refine L.p1 rfl rfl rfl (spec_call rfl Tryz.call77 (rexpr_ok s e hp) (.cons (Get.tmp rfl) .nil)) ?_
  refine L.p1 rfl rfl rfl (spec_build (Rs := [_, _, _, _, _, _]) rfl ti77 z77 Tryz.underlying77 pl77 (.cons (GetC.one (Get.tmp rfl)) rfl rfl rfl (.cons (GetC.one (Get.tmp rfl)) rfl rfl rfl (.cons (GetC.agg (Get.tmp rfl)) rfl rfl rfl .nil)))) ?_
  refine L.storeW (k := 0) rfl rfl rfl Tryz.sizeOf77 (Get.tmp rfl) (Get.tmp rfl) rfl rfl rfl ?_
  refine L.nt ?_
  refine W.keep (.cons (t := 6) rfl .nil) .refl ?_
  refine W.ret ?_
  refine N.ret () rfl (.cellA (k := 0) (Get.tmp (t := 6) rfl) rfl Tryz.isAgg77 Tryz.sizeOf77 rfl .nil) (res1 (eqA ?_)) .nil (fun _ _ h => h)
  rfl

theorem reg33_ok (nm : List UInt8) (w : Int) (s : List UInt8) (e : Ex) (hp : Reads s e) : CallT Tryz.prog 52 [Rp.str nm, Rp.int .i64 w, Rp.str s] [] (.one (Rp.agg (eRg ⟨nm, w, 0, e⟩))) := by
  refine W.enter (fn := Tryz.f52) (n := 12) Tryz.func52 rfl Tryz.ntmps52 rfl (fun w₀ C₀ => ?_)
  simp only [argS]
  refine W.sr ?_
  refine L.box rfl rfl (GSpec.plain rfl (spec_alloc rfl ti81 z81)) (fun r6 => ?_)
  refine L.nt ?_
  refine W.sr ?_
  refine L.mv rfl rfl rfl rfl rfl ?_
  refine L.mv rfl rfl rfl rfl rfl ?_
  refine L.mv rfl rfl rfl rfl rfl ?_
  refine L.p1 rfl rfl rfl (spec_call rfl Tryz.call77 (rexpr_ok s e hp) (.cons (Get.tmp rfl) .nil)) ?_
  refine L.p1 rfl rfl rfl (spec_build (Rs := [_, _, Rp.int .i64 0, _, _, _, _]) rfl ti81 z81 Tryz.underlying81 pl81 (.cons (GetC.one (Get.tmp rfl)) rfl rfl rfl (.cons (GetC.one (Get.tmp rfl)) rfl rfl rfl (.cons (GetC.agg (Get.tmp rfl)) rfl rfl rfl .nil)))) ?_
  refine L.storeW (k := 0) rfl rfl rfl Tryz.sizeOf81 (Get.tmp rfl) (Get.tmp rfl) rfl rfl rfl ?_
  refine L.nt ?_
  refine W.keep (.cons (t := 6) rfl .nil) .refl ?_
  refine W.ret ?_
  refine N.ret () rfl (.cellA (k := 0) (Get.tmp (t := 6) rfl) rfl Tryz.isAgg81 Tryz.sizeOf81 rfl .nil) (res1 (eqA ?_)) .nil (fun _ _ h => h)
  rfl

theorem stage33_ok (nm : List UInt8) (w : Int) (s : List UInt8) (nx : Ex) (hn : Reads (txNx s) (whenE (refE sPush) nx (refE sA))) (hs : s.length ≤ 50) : CallT Tryz.prog 55 [Rp.str nm, Rp.int .i64 w, Rp.str s] [] (stX nm w nx) := by
  refine W.enter (fn := Tryz.f55) (n := 29) Tryz.func55 rfl Tryz.ntmps55 rfl (fun w₀ C₀ => ?_)
  simp only [argS]
  refine W.sr ?_
  refine L.box rfl rfl (GSpec.plain rfl (spec_alloc rfl ti27 z27)) (fun r6 => ?_)
  refine L.nt ?_
  refine W.sr ?_
  refine L.mv rfl rfl rfl rfl rfl ?_
  refine L.mv rfl rfl rfl rfl rfl ?_
  refine L.p1 rfl rfl rfl (spec_call rfl Tryz.call49 (begin33_ok _ _) (.cons (Get.tmp rfl) (.cons (Get.tmp rfl) .nil))) ?_
  refine L.box rfl rfl (GSpec.plain rfl (spec_alloc rfl ti27 z27)) (fun r7 => ?_)
  refine L.storeW (k := 0) rfl rfl rfl Tryz.sizeOf27 (Get.tmp rfl) (Get.tmp rfl) rfl rfl rfl ?_
  refine L.nt ?_
  refine W.sr ?_
  refine L.p1 rfl rfl rfl (spec_call rfl Tryz.call50 (wire33_ok _ _ _ _ tx_irdyS) (.cons (Get.cstr (l := [105, 114, 100, 121]) rfl rfl) (.cons (Get.cint rfl) (.cons (Get.cstr (l := [33, 118, 32, 124, 124, 32, 111, 114, 100, 121]) rfl rfl) .nil)))) ?_
  refine L.p1 rfl rfl rfl (spec_call rfl Tryz.call50 (wire33_ok _ _ _ _ tx_v) (.cons (Get.cstr (l := [111, 118]) rfl rfl) (.cons (Get.cint rfl) (.cons (Get.cstr (l := [118]) rfl rfl) .nil)))) ?_
  refine L.p1 rfl rfl rfl (spec_call rfl Tryz.call50 (wire33_ok _ _ _ _ tx_t) (.cons (Get.cstr (l := [111, 116]) rfl rfl) (.cons (Get.cint rfl) (.cons (Get.cstr (l := [116]) rfl rfl) .nil)))) ?_
  refine L.mv rfl rfl rfl rfl rfl ?_
  refine L.p1 rfl rfl rfl (spec_call rfl Tryz.call50 (wire33_ok _ _ _ _ tx_a) (.cons (Get.cstr (l := [111, 97]) rfl rfl) (.cons (Get.tmp rfl) (.cons (Get.cstr (l := [97]) rfl rfl) .nil)))) ?_
  refine L.p1 rfl rfl rfl (spec_call rfl Tryz.call50 (wire33_ok _ _ _ _ tx_push) (.cons (Get.cstr (l := [112, 117, 115, 104]) rfl rfl) (.cons (Get.cint rfl) (.cons (Get.cstr (l := [105, 118, 32, 38, 38, 32, 105, 114, 100, 121]) rfl rfl) .nil)))) ?_
  refine L.p1 rfl rfl rfl (spec_buildSliceN (xs := ([⟨sIrdy, 1, eitherE (notE (refE sV)) (refE sOrdy)⟩, ⟨sOv, 1, refE sV⟩, ⟨sOt, 4, refE sT⟩, ⟨sOa, w, refE sA⟩, ⟨sPush, 1, bothE (refE sIv) (refE sIrdy)⟩] : List Wr)) (E := eWr) rfl Tryz.underlying23 ti77 z77 (by first | decide | simp) rfl (.cons (GetC.agg (Get.tmp rfl)) rfl rfl rfl (.cons (GetC.agg (Get.tmp rfl)) rfl rfl rfl (.cons (GetC.agg (Get.tmp rfl)) rfl rfl rfl (.cons (GetC.agg (Get.tmp rfl)) rfl rfl rfl (.cons (GetC.agg (Get.tmp rfl)) rfl rfl rfl .nil))))) rfl rfl) ?_
  refine L.p1 rfl rfl rfl (spec_fieldAddr (f := 2) (off' := 2) rfl Tryz.underlying27 rfl Tryz.sizeOf23 (Get.tmp rfl) rfl) ?_
  refine L.storeB (k := 0) rfl rfl rfl Tryz.sizeOf23 (Get.tmp rfl) (Get.tmp rfl) rfl rfl ?_
  refine L.nt ?_
  refine W.keep (.cons (t := 1) rfl (.cons (t := 2) rfl (.cons (t := 6) rfl (.cons (t := 7) rfl .nil)))) .refl ?_
  refine W.sr ?_
  refine L.p1 rfl rfl rfl (spec_call rfl Tryz.call52 (reg33_ok _ _ _ _ tx_rv) (.cons (Get.cstr (l := [118]) rfl rfl) (.cons (Get.cint rfl) (.cons (Get.cstr (l := [112, 117, 115, 104, 32, 63, 32, 49, 32, 58, 32, 111, 114, 100, 121, 32, 63, 32, 48, 32, 58, 32, 118]) rfl rfl) .nil)))) ?_
  refine L.p1 rfl rfl rfl (spec_call rfl Tryz.call52 (reg33_ok _ _ _ _ tx_rt) (.cons (Get.cstr (l := [116]) rfl rfl) (.cons (Get.cint rfl) (.cons (Get.cstr (l := [112, 117, 115, 104, 32, 63, 32, 105, 116, 32, 58, 32, 116]) rfl rfl) .nil)))) ?_
  refine L.mv rfl rfl rfl rfl rfl ?_
  refine L.mv rfl rfl rfl rfl rfl ?_
  refine L.p1 rfl rfl rfl (spec_addS rfl (Get.cstr (l := [112, 117, 115, 104, 32, 63, 32]) rfl rfl) (Get.tmp rfl) (by (simp only [List.length_append, List.length_cons, List.length_nil]; omega))) ?_
  refine L.p1 rfl rfl rfl (spec_addS rfl (Get.tmp rfl) (Get.cstr (l := [32, 58, 32, 97]) rfl rfl) (by (simp only [List.length_append, List.length_cons, List.length_nil]; omega))) ?_
  refine L.p1 rfl rfl rfl (spec_call rfl Tryz.call52 (reg33_ok _ _ _ _ hn) (.cons (Get.cstr (l := [97]) rfl rfl) (.cons (Get.tmp rfl) (.cons (Get.tmp rfl) .nil)))) ?_
  refine L.op rfl rfl (GSpec.plain rfl (spec_buildSliceNO (xs := ([⟨sV, 1, 0, whenE (refE sPush) (numE 1) (whenE (refE sOrdy) (numE 0) (refE sV))⟩, ⟨sT, 4, 0, whenE (refE sPush) (refE sIt) (refE sT)⟩, ⟨sA, w, 0, whenE (refE sPush) nx (refE sA)⟩] : List Rg)) (E := eRg) rfl Tryz.underlying24 ti81 z81 (by first | decide | simp) rfl (.cons (GetC.agg (Get.tmp rfl)) rfl rfl rfl (.cons (GetC.agg (Get.tmp rfl)) rfl rfl rfl (.cons (GetC.agg (Get.tmp rfl)) rfl rfl rfl .nil))) rfl rfl (fun _ => rfl))) (fun v26 => ?_)
  refine L.p1 rfl rfl rfl (spec_fieldAddr (f := 3) (off' := 3) rfl Tryz.underlying27 rfl Tryz.sizeOf24 (Get.tmp rfl) rfl) ?_
  refine L.factM 0 rfl osl_one fun hq => ?_
  haveI := One.val hq
  refine L.storeB (k := 1) (R := Rp.val v26) rfl rfl rfl Tryz.sizeOf24 (Get.tmp rfl) (Get.tmp rfl) rfl rfl ?_
  refine L.nt ?_
  refine W.keep (.cons (t := 6) rfl (.cons (t := 7) rfl .nil)) .refl ?_
  refine W.sr ?_
  refine L.p1 rfl rfl rfl (spec_loadW (k := 1) rfl Tryz.isAgg27 Tryz.sizeOf27 (Get.tmp rfl) rfl rfl) ?_
  refine L.storeW (k := 2) rfl rfl rfl Tryz.sizeOf27 (Get.tmp rfl) (Get.tmp rfl) rfl rfl rfl ?_
  refine L.nt ?_
  refine W.ret ?_
  refine N.ret (X := (stX nm w nx)) v26 rfl (.cellA (k := 2) (Get.tmp (t := 6) rfl) rfl Tryz.isAgg27 Tryz.sizeOf27 rfl .nil) (res1 (eqA ?_)) (.cons 0 rfl .nil) (fun _ _ h => h)
  rfl

theorem adder33_ok (w : Int) (hw : 1 ≤ w ∧ w ≤ 8) : CallT Tryz.prog 13 [Rp.int .i64 w] [] (.one (Rp.tuple [Rp.agg (eD (adderD w)), Rp.int .i64 0])) := by
  refine W.enter (fn := Tryz.f13) (n := 9) Tryz.func13 rfl Tryz.ntmps13 rfl (fun w₀ C₀ => ?_)
  simp only [argS]
  refine W.sr ?_
  refine L.box rfl rfl (GSpec.plain rfl (spec_alloc rfl ti27 z27)) (fun r2 => ?_)
  refine L.p1 rfl rfl rfl (spec_assign rfl (Get.cint rfl)) ?_
  refine L.nt ?_
  refine W.seq ?_
  refine W.sr ?_
  refine L.mv rfl rfl rfl rfl rfl ?_
  refine L.p1 rfl rfl rfl (spec_call rfl Tryz.call48 (wrong33_ok _) (.cons (Get.tmp rfl) .nil)) ?_
  refine L.nt ?_
  refine W.cond (Get.tmp rfl) (fun h1 => ?_) (fun h1 => ?_)
  · exfalso; have h := h1; simp only [Bool.or_eq_true, decide_eq_true_eq] at h; omega
  · have ph1 := h1; try simp only [sbx] at ph1
    refine W.skip ?_
    refine N.thenW ?_
    refine W.sr ?_
    refine L.mv rfl rfl rfl rfl rfl ?_
    refine L.call rfl rfl rfl rfl Tryz.call55 (stage33_ok _ w _ _ tx_nxA (by decide)) .refl (.cons (Get.cstr (l := [97, 100, 100, 101, 114]) rfl rfl) (.cons (Get.tmp rfl) (.cons (Get.cstr (l := [105, 97, 32, 43, 32, 105, 98]) rfl rfl) .nil))) (fun v8 => ?_)
    try dsimp only
    refine L.storeW (k := 1) rfl rfl rfl Tryz.sizeOf27 (Get.tmp rfl) (Get.tmp rfl) rfl rfl rfl ?_
    refine L.pubBox (off := 3) 0 0 rfl rfl rfl (fun _ => rfl) ?_
    refine L.p1 rfl rfl rfl (spec_assign rfl (Get.cint rfl)) ?_
    refine L.nt ?_
    refine W.keep (.cons (t := 2) rfl (.cons (t := 3) rfl .nil)) .refl ?_
    refine W.ret ?_
    refine N.ret () rfl (.cellA (k := 0) (Get.tmp (t := 2) rfl) rfl Tryz.isAgg27 Tryz.sizeOf27 rfl (.tmp (t := 3) (Get.tmp rfl) .nil)) (res2w (eqA ?_) (eqI ?_)) .nil (fun _ _ h => h)
    all_goals rfl

theorem counter33_ok (w : Int) (hw : 1 ≤ w ∧ w ≤ 8) : CallT Tryz.prog 15 [Rp.int .i64 w] [] (.one (Rp.tuple [Rp.agg (eD (counterD w)), Rp.int .i64 0])) := by
  refine W.enter (fn := Tryz.f15) (n := 18) Tryz.func15 rfl Tryz.ntmps15 rfl (fun w₀ C₀ => ?_)
  simp only [argS]
  have hrl3 : ∀ nm e, (addR (stageD (beginD nm w) w) sA w e).regs.length = 3 := fun _ _ => rfl
  refine W.sr ?_
  refine L.box rfl rfl (GSpec.plain rfl (spec_alloc rfl ti27 z27)) (fun r2 => ?_)
  refine L.p1 rfl rfl rfl (spec_assign rfl (Get.cint rfl)) ?_
  refine L.nt ?_
  refine W.seq ?_
  refine W.sr ?_
  refine L.mv rfl rfl rfl rfl rfl ?_
  refine L.p1 rfl rfl rfl (spec_call rfl Tryz.call48 (wrong33_ok _) (.cons (Get.tmp rfl) .nil)) ?_
  refine L.nt ?_
  refine W.cond (Get.tmp rfl) (fun h1 => ?_) (fun h1 => ?_)
  · exfalso; have h := h1; simp only [Bool.or_eq_true, decide_eq_true_eq] at h; omega
  · have ph1 := h1; try simp only [sbx] at ph1
    refine W.skip ?_
    refine N.thenW ?_
    refine W.sr ?_
    refine L.mv rfl rfl rfl rfl rfl ?_
    refine L.call rfl rfl rfl rfl Tryz.call55 (stage33_ok _ w _ _ tx_nxC (by decide)) .refl (.cons (Get.cstr (l := [99, 111, 117, 110, 116, 101, 114]) rfl rfl) (.cons (Get.tmp rfl) (.cons (Get.cstr (l := [110]) rfl rfl) .nil))) (fun v9 => ?_)
    try dsimp only
    refine L.box rfl rfl (GSpec.plain rfl (spec_alloc rfl ti27 z27)) (fun r4 => ?_)
    refine L.storeW (k := 0) rfl rfl rfl Tryz.sizeOf27 (Get.tmp rfl) (Get.tmp rfl) rfl rfl rfl ?_
    refine L.nt ?_
    refine W.seq ?_
    apply W.any 5 mixed (by kernel_rfl)
    · apply Head.one rfl rfl (GSpec.plain rfl (spec_fieldAddr (f := 3) (off' := 3) rfl Tryz.underlying27 rfl Tryz.sizeOf24 (Get.tmp rfl) rfl))
      apply Head.one rfl rfl (GSpec.plain rfl (spec_load1 (k := 0) rfl Tryz.isAgg24 (Get.tmp rfl) rfl rfl))
      apply Head.one rfl rfl (GSpec.plain rfl (spec_move rfl (Get.tmp rfl)))
      apply Head.one rfl rfl (GSpec.plain rfl (spec_call rfl Tryz.call52 (reg33_ok _ _ _ _ tx_cn) (.cons (Get.cstr (l := [110]) rfl rfl) (.cons (Get.tmp rfl) (.cons (Get.cstr (l := [112, 117, 115, 104, 32, 63, 32, 110, 32, 43, 32, 49, 32, 58, 32, 110]) rfl rfl) .nil)))))
      apply Head.one rfl rfl (GSpec.plain rfl (spec_buildSlice1 (y := (⟨sN, w, 0, whenE (refE sPush) (plusE (refE sN) (numE 1)) (refE sN)⟩ : Rg)) (E := eRg) rfl Tryz.underlying24 ti81 z81 (by decide) (GetC.agg (Get.tmp rfl)) (fun _ => rfl)))
      exact Head.nil
    refine Fin.one ?_
    refine Fin.one ?_
    refine Fin.one ?_
    refine Fin.one ?_
    refine Fin.one ?_
    refine Fin.nil ?_
    refine L.append (k := 1) (E := eRg) rfl rfl rfl rfl Tryz.underlying24 ti81 rfl (by decide) (fun _ => rfl) (Get.tmp rfl) (Get.tmp rfl) rfl (by (rw [hrl3]; simp only [List.length_cons, List.length_nil]; omega)) (by (rw [hrl3]; simp only [List.length_cons, List.length_nil]; omega)) (fun v15 => ?_)
    refine L.p1 rfl rfl rfl (spec_fieldAddr (f := 3) (off' := 3) rfl Tryz.underlying27 rfl Tryz.sizeOf24 (Get.tmp rfl) rfl) ?_
    refine L.factM 1 rfl osl_one fun hq => ?_
    haveI := One.val hq
    refine L.storeB (k := 0) (R := Rp.val v15) rfl rfl rfl Tryz.sizeOf24 (Get.tmp rfl) (Get.tmp rfl) rfl rfl ?_
    refine L.nt ?_
    refine W.pubBox (off := 3) 1 0 rfl rfl rfl (fun _ => rfl) ?_
    refine W.keep (.cons (t := 2) rfl (.cons (t := 3) rfl (.cons (t := 4) rfl .nil))) .refl ?_
    refine W.sr ?_
    refine L.p1 rfl rfl rfl (spec_loadW (k := 0) rfl Tryz.isAgg27 Tryz.sizeOf27 (Get.tmp rfl) rfl rfl) ?_
    refine L.storeW (k := 1) rfl rfl rfl Tryz.sizeOf27 (Get.tmp rfl) (Get.tmp rfl) rfl rfl rfl ?_
    refine L.p1 rfl rfl rfl (spec_assign rfl (Get.cint rfl)) ?_
    refine L.nt ?_
    refine W.ret ?_
    refine N.ret () rfl (.cellA (k := 1) (Get.tmp (t := 2) rfl) rfl Tryz.isAgg27 Tryz.sizeOf27 rfl (.tmp (t := 3) (Get.tmp rfl) .nil)) (res2w (eqA ?_) (eqI ?_)) .nil (fun _ _ h => h)
    all_goals rfl

theorem swap33_ok (w : Int) (hw : 1 ≤ w ∧ w ≤ 8) : CallT Tryz.prog 19 [Rp.int .i64 w] [] (.one (Rp.tuple [Rp.agg (eD (swapD w)), Rp.int .i64 0])) := by
  refine W.enter (fn := Tryz.f19) (n := 32) Tryz.func19 rfl Tryz.ntmps19 rfl (fun w₀ C₀ => ?_)
  simp only [argS]
  refine W.sr ?_
  refine L.box rfl rfl (GSpec.plain rfl (spec_alloc rfl ti27 z27)) (fun r2 => ?_)
  refine L.p1 rfl rfl rfl (spec_assign rfl (Get.cint rfl)) ?_
  refine L.nt ?_
  refine W.seq ?_
  refine W.sr ?_
  refine L.mv rfl rfl rfl rfl rfl ?_
  refine L.p1 rfl rfl rfl (spec_call rfl Tryz.call48 (wrong33_ok _) (.cons (Get.tmp rfl) .nil)) ?_
  refine L.nt ?_
  refine W.cond (Get.tmp rfl) (fun h1 => ?_) (fun h1 => ?_)
  · exfalso; have h := h1; simp only [Bool.or_eq_true, decide_eq_true_eq] at h; omega
  · have ph1 := h1; try simp only [sbx] at ph1
    refine W.skip ?_
    refine N.thenW ?_
    refine W.keep (.cons (t := 0) rfl (.cons (t := 2) rfl (.cons (t := 3) rfl .nil))) .refl ?_
    refine W.sr ?_
    refine L.mv rfl rfl rfl rfl rfl ?_
    refine L.p1 rfl rfl rfl (spec_call rfl Tryz.call49 (begin33_ok _ _) (.cons (Get.cstr (l := [115, 119, 97, 112]) rfl rfl) (.cons (Get.tmp rfl) .nil))) ?_
    refine L.box rfl rfl (GSpec.plain rfl (spec_alloc rfl ti27 z27)) (fun r4 => ?_)
    refine L.storeW (k := 0) rfl rfl rfl Tryz.sizeOf27 (Get.tmp rfl) (Get.tmp rfl) rfl rfl rfl ?_
    refine L.nt ?_
    refine W.sr ?_
    refine L.p1 rfl rfl rfl (spec_call rfl Tryz.call50 (wire33_ok _ _ _ _ tx_irdyW) (.cons (Get.cstr (l := [105, 114, 100, 121]) rfl rfl) (.cons (Get.cint rfl) (.cons (Get.cstr (l := [33, 109, 32, 38, 38, 32, 110, 32, 60, 32, 50]) rfl rfl) .nil)))) ?_
    refine L.p1 rfl rfl rfl (spec_call rfl Tryz.call50 (wire33_ok _ _ _ _ tx_m) (.cons (Get.cstr (l := [111, 118]) rfl rfl) (.cons (Get.cint rfl) (.cons (Get.cstr (l := [109]) rfl rfl) .nil)))) ?_
    refine L.p1 rfl rfl rfl (spec_call rfl Tryz.call50 (wire33_ok _ _ _ _ tx_otW) (.cons (Get.cstr (l := [111, 116]) rfl rfl) (.cons (Get.cint rfl) (.cons (Get.cstr (l := [110, 32, 61, 61, 32, 50, 32, 63, 32, 116, 49, 32, 58, 32, 116, 48]) rfl rfl) .nil)))) ?_
    refine L.mv rfl rfl rfl rfl rfl ?_
    refine L.p1 rfl rfl rfl (spec_call rfl Tryz.call50 (wire33_ok _ _ _ _ tx_oaW) (.cons (Get.cstr (l := [111, 97]) rfl rfl) (.cons (Get.tmp rfl) (.cons (Get.cstr (l := [110, 32, 61, 61, 32, 50, 32, 63, 32, 97, 49, 32, 58, 32, 97, 48]) rfl rfl) .nil)))) ?_
    refine L.p1 rfl rfl rfl (spec_call rfl Tryz.call50 (wire33_ok _ _ _ _ tx_push) (.cons (Get.cstr (l := [112, 117, 115, 104]) rfl rfl) (.cons (Get.cint rfl) (.cons (Get.cstr (l := [105, 118, 32, 38, 38, 32, 105, 114, 100, 121]) rfl rfl) .nil)))) ?_
    refine L.p1 rfl rfl rfl (spec_call rfl Tryz.call50 (wire33_ok _ _ _ _ tx_pop) (.cons (Get.cstr (l := [112, 111, 112]) rfl rfl) (.cons (Get.cint rfl) (.cons (Get.cstr (l := [111, 118, 32, 38, 38, 32, 111, 114, 100, 121]) rfl rfl) .nil)))) ?_
    refine L.p1 rfl rfl rfl (spec_call rfl Tryz.call50 (wire33_ok _ _ _ _ tx_rW) (.cons (Get.cstr (l := [114]) rfl rfl) (.cons (Get.cint rfl) (.cons (Get.cstr (l := [110, 32, 43, 32, 112, 117, 115, 104, 32, 45, 32, 112, 111, 112]) rfl rfl) .nil)))) ?_
    refine L.p1 rfl rfl rfl (spec_buildSliceN (xs := ([⟨sIrdy, 1, bothE (notE (refE sM)) (lessE (refE sN) (numE 2))⟩, ⟨sOv, 1, refE sM⟩, ⟨sOt, 4, whenE (equalE (refE sN) 2) (refE [116, 49]) (refE [116, 48])⟩, ⟨sOa, w, whenE (equalE (refE sN) 2) (refE [97, 49]) (refE [97, 48])⟩, ⟨sPush, 1, bothE (refE sIv) (refE sIrdy)⟩, ⟨sPop, 1, bothE (refE sOv) (refE sOrdy)⟩, ⟨sR, 2, minusE (plusE (refE sN) (refE sPush)) (refE sPop)⟩] : List Wr)) (E := eWr) rfl Tryz.underlying23 ti77 z77 (by first | decide | simp) rfl (.cons (GetC.agg (Get.tmp rfl)) rfl rfl rfl (.cons (GetC.agg (Get.tmp rfl)) rfl rfl rfl (.cons (GetC.agg (Get.tmp rfl)) rfl rfl rfl (.cons (GetC.agg (Get.tmp rfl)) rfl rfl rfl (.cons (GetC.agg (Get.tmp rfl)) rfl rfl rfl (.cons (GetC.agg (Get.tmp rfl)) rfl rfl rfl (.cons (GetC.agg (Get.tmp rfl)) rfl rfl rfl .nil))))))) rfl rfl) ?_
    refine L.p1 rfl rfl rfl (spec_fieldAddr (f := 2) (off' := 2) rfl Tryz.underlying27 rfl Tryz.sizeOf23 (Get.tmp rfl) rfl) ?_
    refine L.storeB (k := 0) rfl rfl rfl Tryz.sizeOf23 (Get.tmp rfl) (Get.tmp rfl) rfl rfl ?_
    refine L.nt ?_
    refine W.keep (.cons (t := 0) rfl (.cons (t := 2) rfl (.cons (t := 3) rfl (.cons (t := 4) rfl .nil)))) .refl ?_
    refine W.sr ?_
    refine L.p1 rfl rfl rfl (spec_call rfl Tryz.call52 (reg33_ok _ _ _ _ tx_r) (.cons (Get.cstr (l := [110]) rfl rfl) (.cons (Get.cint rfl) (.cons (Get.cstr (l := [114]) rfl rfl) .nil)))) ?_
    refine L.p1 rfl rfl rfl (spec_call rfl Tryz.call52 (reg33_ok _ _ _ _ tx_mW) (.cons (Get.cstr (l := [109]) rfl rfl) (.cons (Get.cint rfl) (.cons (Get.cstr (l := [109, 32, 63, 32, 114, 32, 33, 61, 32, 48, 32, 58, 32, 114, 32, 61, 61, 32, 50, 32, 124, 124, 32, 114, 32, 61, 61, 32, 49, 32, 38, 38, 32, 115, 32, 61, 61, 32, 51]) rfl rfl) .nil)))) ?_
    refine L.p1 rfl rfl rfl (spec_call rfl Tryz.call52 (reg33_ok _ _ _ _ tx_sW) (.cons (Get.cstr (l := [115]) rfl rfl) (.cons (Get.cint rfl) (.cons (Get.cstr (l := [33, 109, 32, 38, 38, 32, 110, 32, 61, 61, 32, 49, 32, 38, 38, 32, 33, 112, 117, 115, 104, 32, 38, 38, 32, 115, 32, 60, 32, 51, 32, 63, 32, 115, 32, 43, 32, 49, 32, 58, 32, 48]) rfl rfl) .nil)))) ?_
    refine L.p1 rfl rfl rfl (spec_call rfl Tryz.call52 (reg33_ok _ _ _ _ tx_wt0) (.cons (Get.cstr (l := [116, 48]) rfl rfl) (.cons (Get.cint rfl) (.cons (Get.cstr (l := [112, 117, 115, 104, 32, 38, 38, 32, 110, 32, 61, 61, 32, 48, 32, 63, 32, 105, 116, 32, 58, 32, 116, 48]) rfl rfl) .nil)))) ?_
    refine L.mv rfl rfl rfl rfl rfl ?_
    refine L.p1 rfl rfl rfl (spec_call rfl Tryz.call52 (reg33_ok _ _ _ _ tx_wa0) (.cons (Get.cstr (l := [97, 48]) rfl rfl) (.cons (Get.tmp rfl) (.cons (Get.cstr (l := [112, 117, 115, 104, 32, 38, 38, 32, 110, 32, 61, 61, 32, 48, 32, 63, 32, 105, 97, 32, 58, 32, 97, 48]) rfl rfl) .nil)))) ?_
    refine L.p1 rfl rfl rfl (spec_call rfl Tryz.call52 (reg33_ok _ _ _ _ tx_wt1) (.cons (Get.cstr (l := [116, 49]) rfl rfl) (.cons (Get.cint rfl) (.cons (Get.cstr (l := [112, 117, 115, 104, 32, 38, 38, 32, 110, 32, 61, 61, 32, 49, 32, 63, 32, 105, 116, 32, 58, 32, 116, 49]) rfl rfl) .nil)))) ?_
    refine L.mv rfl rfl rfl rfl rfl ?_
    refine L.p1 rfl rfl rfl (spec_call rfl Tryz.call52 (reg33_ok _ _ _ _ tx_wa1) (.cons (Get.cstr (l := [97, 49]) rfl rfl) (.cons (Get.tmp rfl) (.cons (Get.cstr (l := [112, 117, 115, 104, 32, 38, 38, 32, 110, 32, 61, 61, 32, 49, 32, 63, 32, 105, 97, 32, 58, 32, 97, 49]) rfl rfl) .nil)))) ?_
    refine L.p1 rfl rfl rfl (spec_buildSliceN (xs := ([⟨sN, 2, 0, refE sR⟩, ⟨sM, 1, 0, whenE (refE sM) leftE (eitherE (equalE (refE sR) 2) (bothE (equalE (refE sR) 1) (equalE (refE sS) 3)))⟩, ⟨sS, 2, 0, whenE waitsE (plusE (refE sS) (numE 1)) (numE 0)⟩, ⟨ixN sT 0, 4, 0, whenE (takeS 0) (refE sIt) (refE (ixN sT 0))⟩, ⟨ixN sA 0, w, 0, whenE (takeS 0) (refE sIa) (refE (ixN sA 0))⟩, ⟨ixN sT 1, 4, 0, whenE (takeS 1) (refE sIt) (refE (ixN sT 1))⟩, ⟨ixN sA 1, w, 0, whenE (takeS 1) (refE sIa) (refE (ixN sA 1))⟩] : List Rg)) (E := eRg) rfl Tryz.underlying24 ti81 z81 (by first | decide | simp) rfl (.cons (GetC.agg (Get.tmp rfl)) rfl rfl rfl (.cons (GetC.agg (Get.tmp rfl)) rfl rfl rfl (.cons (GetC.agg (Get.tmp rfl)) rfl rfl rfl (.cons (GetC.agg (Get.tmp rfl)) rfl rfl rfl (.cons (GetC.agg (Get.tmp rfl)) rfl rfl rfl (.cons (GetC.agg (Get.tmp rfl)) rfl rfl rfl (.cons (GetC.agg (Get.tmp rfl)) rfl rfl rfl .nil))))))) rfl rfl) ?_
    refine L.p1 rfl rfl rfl (spec_fieldAddr (f := 3) (off' := 3) rfl Tryz.underlying27 rfl Tryz.sizeOf24 (Get.tmp rfl) rfl) ?_
    refine L.storeB (k := 0) rfl rfl rfl Tryz.sizeOf24 (Get.tmp rfl) (Get.tmp rfl) rfl rfl ?_
    refine L.nt ?_
    refine W.keep (.cons (t := 2) rfl (.cons (t := 3) rfl (.cons (t := 4) rfl .nil))) .refl ?_
    refine W.sr ?_
    refine L.p1 rfl rfl rfl (spec_loadW (k := 0) rfl Tryz.isAgg27 Tryz.sizeOf27 (Get.tmp rfl) rfl rfl) ?_
    refine L.storeW (k := 1) rfl rfl rfl Tryz.sizeOf27 (Get.tmp rfl) (Get.tmp rfl) rfl rfl rfl ?_
    refine L.p1 rfl rfl rfl (spec_assign rfl (Get.cint rfl)) ?_
    refine L.nt ?_
    refine W.ret ?_
    refine N.ret () rfl (.cellA (k := 1) (Get.tmp (t := 2) rfl) rfl Tryz.isAgg27 Tryz.sizeOf27 rfl (.tmp (t := 3) (Get.tmp rfl) .nil)) (res2w (eqA ?_) (eqI ?_)) .nil (fun _ _ h => h)
    all_goals rfl

end Go.Proofs.YthlfacmpjehjmaaGreatDoor
set_option linter.unusedSimpArgs false
set_option maxRecDepth 8000
set_option linter.unusedVariables false
namespace Go.Proofs.YthlfacmpjehjmaaGreatDoor
open Go.Sim
set_option maxHeartbeats 2000000 in
theorem delay33_ok (k w : Int) (hk : 1 ≤ k ∧ k ≤ 8) (hw : 1 ≤ w ∧ w ≤ 8) : CallT Tryz.prog 17 [Rp.int .i64 k, Rp.int .i64 w] [] (.one (Rp.tuple [Rp.agg (eD (delayD k.toNat w)), Rp.int .i64 0])) := by
  refine W.enter (fn := Tryz.f17) (n := 113) Tryz.func17 rfl Tryz.ntmps17 rfl (fun w₀ C₀ => ?_)
  simp only [argS]
  obtain ⟨m, rfl⟩ : ∃ m : Nat, k = (m : Int) := ⟨k.toNat, by omega⟩
  have hlm : lastN m < 8 := by unfold lastN; omega
  refine W.sr ?_
  refine L.box rfl rfl (GSpec.plain rfl (spec_alloc rfl ti27 z27)) (fun r4 => ?_)
  refine L.p1 rfl rfl rfl (spec_assign rfl (Get.cint rfl)) ?_
  refine L.nt ?_
  refine W.seq ?_
  refine W.sr ?_
  refine L.mv rfl rfl rfl rfl rfl ?_
  refine L.p1 rfl rfl rfl (spec_call rfl Tryz.call48 (wrong33_ok _) (.cons (Get.tmp rfl) .nil)) ?_
  refine L.mv rfl rfl rfl rfl rfl ?_
  refine L.op1 rfl rfl (GSpec.guard rfl rfl rfl fun hg => (spec_move rfl (Get.tmp rfl))) ?_
  refine L.op1 rfl rfl (GSpec.guard rfl rfl rfl fun hg => (spec_call rfl Tryz.call48 (wrong33_ok _) (.cons (Get.opt rfl hg) .nil))) ?_
  refine L.p1 rfl rfl rfl (spec_or rfl (Get.tmp rfl) (fun hb => (Get.opt rfl hb))) ?_
  refine L.nt ?_
  refine W.cond (Get.tmp rfl) (fun h1 => ?_) (fun h1 => ?_)
  · exfalso; have h := h1; simp only [Bool.or_eq_true, decide_eq_true_eq] at h; omega
  · have ph1 := h1; try simp only [sbx] at ph1
    refine W.skip ?_
    refine N.thenW ?_
    refine W.sr ?_
    refine L.mv rfl rfl rfl rfl rfl ?_
    refine L.p1 rfl rfl rfl (spec_call rfl Tryz.call49 (begin33_ok _ _) (.cons (Get.cstr (l := [100, 101, 108, 97, 121]) rfl rfl) (.cons (Get.tmp rfl) .nil))) ?_
    refine L.box rfl rfl (GSpec.plain rfl (spec_alloc rfl ti27 z27)) (fun r6 => ?_)
    refine L.storeW (k := 0) rfl rfl rfl Tryz.sizeOf27 (Get.tmp rfl) (Get.tmp rfl) rfl rfl rfl ?_
    refine L.nt ?_
    refine W.keep (.cons (t := 0) rfl (.cons (t := 1) rfl (.cons (t := 4) rfl (.cons (t := 5) rfl (.cons (t := 6) rfl .nil))))) .refl ?_
    refine W.sr ?_
    refine L.mv rfl rfl rfl rfl rfl ?_
    first | refine L.op1 rfl rfl (GSpec.plain rfl (fit_i64 (by (first | omega | (have ht1 := from_len sV sIv (by decide) (by decide) i; have ht2 := from_len sT sIt (by decide) (by decide) i; have ht3 := from_len sA sIa (by decide) (by decide) i; simp only [digT, List.length_append, List.length_cons, List.length_nil]; omega) | (simp only [digT, List.length_append, List.length_cons, List.length_nil]; omega))) (by (first | omega | (have ht1 := from_len sV sIv (by decide) (by decide) i; have ht2 := from_len sT sIt (by decide) (by decide) i; have ht3 := from_len sA sIa (by decide) (by decide) i; simp only [digT, List.length_append, List.length_cons, List.length_nil]; omega) | (simp only [digT, List.length_append, List.length_cons, List.length_nil]; omega))) (spec_sub rfl (Get.tmp rfl) (Get.cint rfl)))) ?_ | refine L.op1 rfl rfl (GSpec.plain rfl (spec_sub rfl (Get.tmp rfl) (Get.cint rfl))) ?_
    refine L.p1 rfl rfl rfl (spec_call rfl Tryz.call51 (num33_ok _ (by omega) (by omega)) (.cons (Get.tmp rfl) .nil)) ?_
    refine L.as rfl rfl rfl rfl rfl ?_
    refine L.nt ?_
    refine W.sr ?_
    refine L.mv rfl rfl rfl rfl rfl ?_
    refine L.p1 rfl rfl rfl (spec_addS rfl (Get.cstr (l := [33, 118]) rfl rfl) (Get.tmp rfl) (by (first | omega | (have ht1 := from_len sV sIv (by decide) (by decide) i; have ht2 := from_len sT sIt (by decide) (by decide) i; have ht3 := from_len sA sIa (by decide) (by decide) i; simp only [digT, List.length_append, List.length_cons, List.length_nil]; omega) | (simp only [digT, List.length_append, List.length_cons, List.length_nil]; omega)))) ?_
    refine L.p1 rfl rfl rfl (spec_addS rfl (Get.tmp rfl) (Get.cstr (l := [32, 124, 124, 32, 111, 114, 100, 121]) rfl rfl) (by (first | omega | (have ht1 := from_len sV sIv (by decide) (by decide) i; have ht2 := from_len sT sIt (by decide) (by decide) i; have ht3 := from_len sA sIa (by decide) (by decide) i; simp only [digT, List.length_append, List.length_cons, List.length_nil]; omega) | (simp only [digT, List.length_append, List.length_cons, List.length_nil]; omega)))) ?_
    refine L.p1 rfl rfl rfl (spec_call rfl Tryz.call50 (wire33_ok _ _ _ _ (tx_goD (k := lastN m) hlm)) (.cons (Get.cstr (l := [103, 111]) rfl rfl) (.cons (Get.cint rfl) (.cons (Get.tmp rfl) .nil)))) ?_
    refine L.p1 rfl rfl rfl (spec_call rfl Tryz.call50 (wire33_ok _ _ _ _ tx_go) (.cons (Get.cstr (l := [105, 114, 100, 121]) rfl rfl) (.cons (Get.cint rfl) (.cons (Get.cstr (l := [103, 111]) rfl rfl) .nil)))) ?_
    refine L.mv rfl rfl rfl rfl rfl ?_
    refine L.p1 rfl rfl rfl (spec_addS rfl (Get.cstr (l := [118]) rfl rfl) (Get.tmp rfl) (by (first | omega | (have ht1 := from_len sV sIv (by decide) (by decide) i; have ht2 := from_len sT sIt (by decide) (by decide) i; have ht3 := from_len sA sIa (by decide) (by decide) i; simp only [digT, List.length_append, List.length_cons, List.length_nil]; omega) | (simp only [digT, List.length_append, List.length_cons, List.length_nil]; omega)))) ?_
    refine L.p1 rfl rfl rfl (spec_call rfl Tryz.call50 (wire33_ok _ _ _ _ (tx_lv (k := lastN m) hlm)) (.cons (Get.cstr (l := [111, 118]) rfl rfl) (.cons (Get.cint rfl) (.cons (Get.tmp rfl) .nil)))) ?_
    refine L.mv rfl rfl rfl rfl rfl ?_
    refine L.p1 rfl rfl rfl (spec_addS rfl (Get.cstr (l := [116]) rfl rfl) (Get.tmp rfl) (by (first | omega | (have ht1 := from_len sV sIv (by decide) (by decide) i; have ht2 := from_len sT sIt (by decide) (by decide) i; have ht3 := from_len sA sIa (by decide) (by decide) i; simp only [digT, List.length_append, List.length_cons, List.length_nil]; omega) | (simp only [digT, List.length_append, List.length_cons, List.length_nil]; omega)))) ?_
    refine L.p1 rfl rfl rfl (spec_call rfl Tryz.call50 (wire33_ok _ _ _ _ (tx_lt (k := lastN m) hlm)) (.cons (Get.cstr (l := [111, 116]) rfl rfl) (.cons (Get.cint rfl) (.cons (Get.tmp rfl) .nil)))) ?_
    refine L.mv rfl rfl rfl rfl rfl ?_
    refine L.mv rfl rfl rfl rfl rfl ?_
    refine L.p1 rfl rfl rfl (spec_addS rfl (Get.cstr (l := [97]) rfl rfl) (Get.tmp rfl) (by (first | omega | (have ht1 := from_len sV sIv (by decide) (by decide) i; have ht2 := from_len sT sIt (by decide) (by decide) i; have ht3 := from_len sA sIa (by decide) (by decide) i; simp only [digT, List.length_append, List.length_cons, List.length_nil]; omega) | (simp only [digT, List.length_append, List.length_cons, List.length_nil]; omega)))) ?_
    refine L.p1 rfl rfl rfl (spec_call rfl Tryz.call50 (wire33_ok _ _ _ _ (tx_la (k := lastN m) hlm)) (.cons (Get.cstr (l := [111, 97]) rfl rfl) (.cons (Get.tmp rfl) (.cons (Get.tmp rfl) .nil)))) ?_
    refine L.p1 rfl rfl rfl (spec_buildSliceN (xs := (delay0 m w).wires) (E := eWr) rfl Tryz.underlying23 ti77 z77 (by first | decide | simp) rfl (.cons (GetC.agg (Get.tmp rfl)) rfl rfl rfl (.cons (GetC.agg (Get.tmp rfl)) rfl rfl rfl (.cons (GetC.agg (Get.tmp rfl)) rfl rfl rfl (.cons (GetC.agg (Get.tmp rfl)) rfl rfl rfl (.cons (GetC.agg (Get.tmp rfl)) rfl rfl rfl .nil))))) rfl rfl) ?_
    refine L.p1 rfl rfl rfl (spec_fieldAddr (f := 2) (off' := 2) rfl Tryz.underlying27 rfl Tryz.sizeOf23 (Get.tmp rfl) rfl) ?_
    refine L.storeB (k := 0) rfl rfl rfl Tryz.sizeOf23 (Get.tmp rfl) (Get.tmp rfl) rfl rfl ?_
    refine L.nt ?_
    refine W.nil 81 7 eRg ?_
    refine W.keep (.cons (t := 0) rfl (.cons (t := 1) rfl (.cons (t := 4) rfl (.cons (t := 5) rfl (.cons (t := 6) rfl .nil))))) .refl ?_
    refine W.seq ?_
    refine W.sr ?_
    refine L.p1 rfl rfl rfl (spec_assign rfl (Get.cint rfl)) ?_
    refine L.nt ?_
    refine W.block ?_
    refine W.loopK (σ := Nat × Value) (.cons (t := 0) rfl (.cons (t := 1) rfl (.cons (t := 4) rfl (.cons (t := 5) rfl (.cons (t := 6) rfl .nil))))) (fun z => [(8, Rp.int .i64 (z.1 : Nat))]) (fun z => [MF.box r6 27 [Rp.str ([100, 101, 108, 97, 121] : List UInt8), Rp.slice eP (beginD ([100, 101, 108, 97, 121] : List UInt8) w).inputs, Rp.slice eWr (delay0 m w).wires, Rp.val z.2, Rp.slice eS ([sIrdy, sOv, sOt, sOa] : List (List UInt8))], MF.osl z.2 81 7 eRg ((stagesD m w z.1).regs)]) (fun z => z.1 ≤ m) (fun z => m - z.1) (0, (.slice none 0 0)) (Nat.zero_le _) (.cons (t := 8) rfl .nil) (.cons 1 rfl (.cons 0 rfl (.cons 0 rfl .nil))) ?_
    intro ⟨i, vo⟩ hI S' M' hS hM
    try dsimp only at hS hM
    simp only [List.cons_append, List.nil_append] at hS hM
    subst hS hM
    try dsimp only
    try dsimp only at hI
    refine W.seq ?_
    refine W.sr ?_
    refine L.mv rfl rfl rfl rfl rfl ?_
    refine L.mv rfl rfl rfl rfl rfl ?_
    refine L.p1 rfl rfl rfl (spec_lss rfl (Get.tmp rfl) (Get.tmp rfl)) ?_
    refine L.nt ?_
    refine W.cond (Get.tmp rfl) (fun h2 => ?_) (fun h2 => ?_)
    · have ph2 := h2; try simp only [sbx] at ph2
      refine W.skip ?_
      refine N.thenW ?_
      have hcl := stages_len m w i
      refine W.seq ?_
      refine W.block ?_
      refine W.sr ?_
      refine L.p1 rfl rfl rfl (spec_assign rfl (Get.cstr (l := [105, 118]) rfl rfl)) ?_
      refine L.p1 rfl rfl rfl (spec_assign rfl (Get.cstr (l := [105, 116]) rfl rfl)) ?_
      refine L.p1 rfl rfl rfl (spec_assign rfl (Get.cstr (l := [105, 97]) rfl rfl)) ?_
      refine L.nt ?_
      refine W.cut (σ := Unit) (fun z => [(0, Rp.int .i64 (m : Nat)), (1, Rp.int .i64 w), (6, Rp.ptr r6 0), (4, Rp.ptr r4 0), (5, Rp.int .i64 0), (8, Rp.int .i64 (i : Nat)), (9, Rp.str (fromE sV sIv i)), (10, Rp.str (fromE sT sIt i)), (11, Rp.str (fromE sA sIa i))]) (fun z => [MF.box r6 27 [Rp.str ([100, 101, 108, 97, 121] : List UInt8), Rp.slice eP (beginD ([100, 101, 108, 97, 121] : List UInt8) w).inputs, Rp.slice eWr (delay0 m w).wires, Rp.val vo, Rp.slice eS ([sIrdy, sOv, sOt, sOa] : List (List UInt8))], MF.osl vo 81 7 eRg (stagesD m w i).regs, MF.box r4 27 [Rp.str [], Rp.slice eP [], Rp.slice eWr [], Rp.slice eRg [], Rp.slice eS []]]) ?_ ?_
      · refine W.seq ?_
        refine W.region ?_
        refine L.mv rfl rfl rfl rfl rfl ?_
        refine L.p1 rfl rfl rfl (spec_gtr rfl (Get.tmp rfl) (Get.cint rfl)) ?_
        refine L.nt ?_
        refine W.cond (Get.tmp rfl) (fun h3 => ?_) (fun h3 => ?_)
        · have ph3 := h3; try simp only [sbx] at ph3
          refine W.region ?_
          refine L.mv rfl rfl rfl rfl rfl ?_
          first | refine L.op1 rfl rfl (GSpec.plain rfl (fit_i64 (by (first | omega | (have ht1 := from_len sV sIv (by decide) (by decide) i; have ht2 := from_len sT sIt (by decide) (by decide) i; have ht3 := from_len sA sIa (by decide) (by decide) i; simp only [digT, List.length_append, List.length_cons, List.length_nil]; omega) | (simp only [digT, List.length_append, List.length_cons, List.length_nil]; omega))) (by (first | omega | (have ht1 := from_len sV sIv (by decide) (by decide) i; have ht2 := from_len sT sIt (by decide) (by decide) i; have ht3 := from_len sA sIa (by decide) (by decide) i; simp only [digT, List.length_append, List.length_cons, List.length_nil]; omega) | (simp only [digT, List.length_append, List.length_cons, List.length_nil]; omega))) (spec_sub rfl (Get.tmp rfl) (Get.cint rfl)))) ?_ | refine L.op1 rfl rfl (GSpec.plain rfl (spec_sub rfl (Get.tmp rfl) (Get.cint rfl))) ?_
          refine L.p1 rfl rfl rfl (spec_call rfl Tryz.call51 (num33_ok _ (by omega) (by omega)) (.cons (Get.tmp rfl) .nil)) ?_
          refine L.p1 rfl rfl rfl (spec_addS rfl (Get.cstr (l := [118]) rfl rfl) (Get.tmp rfl) (by (first | omega | (have ht1 := from_len sV sIv (by decide) (by decide) i; have ht2 := from_len sT sIt (by decide) (by decide) i; have ht3 := from_len sA sIa (by decide) (by decide) i; simp only [digT, List.length_append, List.length_cons, List.length_nil]; omega) | (simp only [digT, List.length_append, List.length_cons, List.length_nil]; omega)))) ?_
          refine L.mv rfl rfl rfl rfl rfl ?_
          first | refine L.op1 rfl rfl (GSpec.plain rfl (fit_i64 (by (first | omega | (have ht1 := from_len sV sIv (by decide) (by decide) i; have ht2 := from_len sT sIt (by decide) (by decide) i; have ht3 := from_len sA sIa (by decide) (by decide) i; simp only [digT, List.length_append, List.length_cons, List.length_nil]; omega) | (simp only [digT, List.length_append, List.length_cons, List.length_nil]; omega))) (by (first | omega | (have ht1 := from_len sV sIv (by decide) (by decide) i; have ht2 := from_len sT sIt (by decide) (by decide) i; have ht3 := from_len sA sIa (by decide) (by decide) i; simp only [digT, List.length_append, List.length_cons, List.length_nil]; omega) | (simp only [digT, List.length_append, List.length_cons, List.length_nil]; omega))) (spec_sub rfl (Get.tmp rfl) (Get.cint rfl)))) ?_ | refine L.op1 rfl rfl (GSpec.plain rfl (spec_sub rfl (Get.tmp rfl) (Get.cint rfl))) ?_
          refine L.p1 rfl rfl rfl (spec_call rfl Tryz.call51 (num33_ok _ (by omega) (by omega)) (.cons (Get.tmp rfl) .nil)) ?_
          refine L.p1 rfl rfl rfl (spec_addS rfl (Get.cstr (l := [116]) rfl rfl) (Get.tmp rfl) (by (first | omega | (have ht1 := from_len sV sIv (by decide) (by decide) i; have ht2 := from_len sT sIt (by decide) (by decide) i; have ht3 := from_len sA sIa (by decide) (by decide) i; simp only [digT, List.length_append, List.length_cons, List.length_nil]; omega) | (simp only [digT, List.length_append, List.length_cons, List.length_nil]; omega)))) ?_
          refine L.mv rfl rfl rfl rfl rfl ?_
          first | refine L.op1 rfl rfl (GSpec.plain rfl (fit_i64 (by (first | omega | (have ht1 := from_len sV sIv (by decide) (by decide) i; have ht2 := from_len sT sIt (by decide) (by decide) i; have ht3 := from_len sA sIa (by decide) (by decide) i; simp only [digT, List.length_append, List.length_cons, List.length_nil]; omega) | (simp only [digT, List.length_append, List.length_cons, List.length_nil]; omega))) (by (first | omega | (have ht1 := from_len sV sIv (by decide) (by decide) i; have ht2 := from_len sT sIt (by decide) (by decide) i; have ht3 := from_len sA sIa (by decide) (by decide) i; simp only [digT, List.length_append, List.length_cons, List.length_nil]; omega) | (simp only [digT, List.length_append, List.length_cons, List.length_nil]; omega))) (spec_sub rfl (Get.tmp rfl) (Get.cint rfl)))) ?_ | refine L.op1 rfl rfl (GSpec.plain rfl (spec_sub rfl (Get.tmp rfl) (Get.cint rfl))) ?_
          refine L.p1 rfl rfl rfl (spec_call rfl Tryz.call51 (num33_ok _ (by omega) (by omega)) (.cons (Get.tmp rfl) .nil)) ?_
          refine L.p1 rfl rfl rfl (spec_addS rfl (Get.cstr (l := [97]) rfl rfl) (Get.tmp rfl) (by (first | omega | (have ht1 := from_len sV sIv (by decide) (by decide) i; have ht2 := from_len sT sIt (by decide) (by decide) i; have ht3 := from_len sA sIa (by decide) (by decide) i; simp only [digT, List.length_append, List.length_cons, List.length_nil]; omega) | (simp only [digT, List.length_append, List.length_cons, List.length_nil]; omega)))) ?_
          refine L.as rfl rfl rfl rfl rfl ?_
          refine L.as rfl rfl rfl rfl rfl ?_
          refine L.as rfl rfl rfl rfl rfl ?_
          refine L.nil ?_
          refine N.mid () ?hs1 ?hp1
          case hs1 => exact (.cons (t := 0) rfl (.cons (t := 1) rfl (.cons (t := 6) rfl (.cons (t := 4) rfl (.cons (t := 5) rfl (.cons (t := 8) rfl (.weak (t := 9) rfl (eqS (by first | exact from_zero (by omega) | exact from_pos (by omega))) (.weak (t := 10) rfl (eqS (by first | exact from_zero (by omega) | exact from_pos (by omega))) (.weak (t := 11) rfl (eqS (by first | exact from_zero (by omega) | exact from_pos (by omega))) .nil)))))))))
          case hp1 => exact (.cons 0 rfl (.cons 0 rfl (.cons 0 rfl .nil)))
        · have ph3 := h3; try simp only [sbx] at ph3
          refine W.skip ?_
          refine N.mid () ?hs2 ?hp2
          case hs2 => exact (.cons (t := 0) rfl (.cons (t := 1) rfl (.cons (t := 6) rfl (.cons (t := 4) rfl (.cons (t := 5) rfl (.cons (t := 8) rfl (.weak (t := 9) rfl (eqS (by first | exact from_zero (by omega) | exact from_pos (by omega))) (.weak (t := 10) rfl (eqS (by first | exact from_zero (by omega) | exact from_pos (by omega))) (.weak (t := 11) rfl (eqS (by first | exact from_zero (by omega) | exact from_pos (by omega))) .nil)))))))))
          case hp2 => exact (.cons 0 rfl (.cons 0 rfl (.cons 0 rfl .nil)))
      intro _
      try dsimp only
      refine W.seq ?_
      apply W.any 13 mixed (by kernel_rfl)
      · apply Head.one rfl rfl (GSpec.plain rfl (spec_fieldAddr (f := 3) (off' := 3) rfl Tryz.underlying27 rfl Tryz.sizeOf24 (Get.tmp rfl) rfl))
        apply Head.one rfl rfl (GSpec.plain rfl (spec_load1 (k := 0) rfl Tryz.isAgg24 (Get.tmp rfl) rfl rfl))
        apply Head.one rfl rfl (GSpec.plain rfl (spec_move rfl (Get.tmp rfl)))
        apply Head.one rfl rfl (GSpec.plain rfl (spec_call rfl Tryz.call51 (num33_ok _ (by omega) (by omega)) (.cons (Get.tmp rfl) .nil)))
        apply Head.one rfl rfl (GSpec.plain rfl (spec_addS rfl (Get.cstr (l := [118]) rfl rfl) (Get.tmp rfl) (by (first | omega | (have ht1 := from_len sV sIv (by decide) (by decide) i; have ht2 := from_len sT sIt (by decide) (by decide) i; have ht3 := from_len sA sIa (by decide) (by decide) i; simp only [digT, List.length_append, List.length_cons, List.length_nil]; omega) | (simp only [digT, List.length_append, List.length_cons, List.length_nil]; omega)))))
        apply Head.one rfl rfl (GSpec.plain rfl (spec_move rfl (Get.tmp rfl)))
        apply Head.one rfl rfl (GSpec.plain rfl (spec_addS rfl (Get.cstr (l := [103, 111, 32, 63, 32]) rfl rfl) (Get.tmp rfl) (by (first | omega | (have ht1 := from_len sV sIv (by decide) (by decide) i; have ht2 := from_len sT sIt (by decide) (by decide) i; have ht3 := from_len sA sIa (by decide) (by decide) i; simp only [digT, List.length_append, List.length_cons, List.length_nil]; omega) | (simp only [digT, List.length_append, List.length_cons, List.length_nil]; omega)))))
        apply Head.one rfl rfl (GSpec.plain rfl (spec_addS rfl (Get.tmp rfl) (Get.cstr (l := [32, 58, 32, 118]) rfl rfl) (by (first | omega | (have ht1 := from_len sV sIv (by decide) (by decide) i; have ht2 := from_len sT sIt (by decide) (by decide) i; have ht3 := from_len sA sIa (by decide) (by decide) i; simp only [digT, List.length_append, List.length_cons, List.length_nil]; omega) | (simp only [digT, List.length_append, List.length_cons, List.length_nil]; omega)))))
        apply Head.one rfl rfl (GSpec.plain rfl (spec_move rfl (Get.tmp rfl)))
        apply Head.one rfl rfl (GSpec.plain rfl (spec_call rfl Tryz.call51 (num33_ok _ (by omega) (by omega)) (.cons (Get.tmp rfl) .nil)))
        apply Head.one rfl rfl (GSpec.plain rfl (spec_addS rfl (Get.tmp rfl) (Get.tmp rfl) (by (first | omega | (have ht1 := from_len sV sIv (by decide) (by decide) i; have ht2 := from_len sT sIt (by decide) (by decide) i; have ht3 := from_len sA sIa (by decide) (by decide) i; simp only [digT, List.length_append, List.length_cons, List.length_nil]; omega) | (simp only [digT, List.length_append, List.length_cons, List.length_nil]; omega)))))
        apply Head.one rfl rfl (GSpec.plain rfl (spec_call rfl Tryz.call52 (reg33_ok _ _ _ _ (tx_dv (i := i) (by omega))) (.cons (Get.tmp rfl) (.cons (Get.cint rfl) (.cons (Get.tmp rfl) .nil)))))
        apply Head.one rfl rfl (GSpec.plain rfl (spec_buildSlice1 (y := (⟨ixN sV i, 1, 0, moveE (refE sGo) (fromE sV sIv i) (ixN sV i)⟩ : Rg)) (E := eRg) rfl Tryz.underlying24 ti81 z81 (by decide) (GetC.agg (Get.tmp rfl)) (fun _ => rfl)))
        exact Head.nil
      refine Fin.one ?_
      refine Fin.one ?_
      refine Fin.one ?_
      refine Fin.one ?_
      refine Fin.one ?_
      refine Fin.one ?_
      refine Fin.one ?_
      refine Fin.one ?_
      refine Fin.one ?_
      refine Fin.one ?_
      refine Fin.one ?_
      refine Fin.one ?_
      refine Fin.one ?_
      refine Fin.nil ?_
      refine L.append (k := 1) (E := eRg) rfl rfl rfl rfl Tryz.underlying24 ti81 rfl (by decide) (fun _ => rfl) (Get.tmp rfl) (Get.tmp rfl) rfl (by (simp only [List.length_append, List.length_cons, List.length_nil]; omega)) (by (simp only [List.length_append, List.length_cons, List.length_nil]; omega)) (fun v73 => ?_)
      refine L.p1 rfl rfl rfl (spec_fieldAddr (f := 3) (off' := 3) rfl Tryz.underlying27 rfl Tryz.sizeOf24 (Get.tmp rfl) rfl) ?_
      refine L.factM 1 rfl osl_one fun hq => ?_
      haveI := One.val hq
      refine L.storeB (k := 0) (R := Rp.val v73) rfl rfl rfl Tryz.sizeOf24 (Get.tmp rfl) (Get.tmp rfl) rfl rfl ?_
      refine L.nt ?_
      refine W.seq ?_
      apply W.any 16 mixed (by kernel_rfl)
      · apply Head.one rfl rfl (GSpec.plain rfl (spec_fieldAddr (f := 3) (off' := 3) rfl Tryz.underlying27 rfl Tryz.sizeOf24 (Get.tmp rfl) rfl))
        apply Head.one rfl rfl (GSpec.plain rfl (spec_load1 (k := 0) rfl Tryz.isAgg24 (Get.tmp rfl) rfl rfl))
        apply Head.one rfl rfl (GSpec.plain rfl (spec_move rfl (Get.tmp rfl)))
        apply Head.one rfl rfl (GSpec.plain rfl (spec_call rfl Tryz.call51 (num33_ok _ (by omega) (by omega)) (.cons (Get.tmp rfl) .nil)))
        apply Head.one rfl rfl (GSpec.plain rfl (spec_addS rfl (Get.cstr (l := [116]) rfl rfl) (Get.tmp rfl) (by (first | omega | (have ht1 := from_len sV sIv (by decide) (by decide) i; have ht2 := from_len sT sIt (by decide) (by decide) i; have ht3 := from_len sA sIa (by decide) (by decide) i; simp only [digT, List.length_append, List.length_cons, List.length_nil]; omega) | (simp only [digT, List.length_append, List.length_cons, List.length_nil]; omega)))))
        apply Head.one rfl rfl (GSpec.plain rfl (spec_move rfl (Get.tmp rfl)))
        apply Head.one rfl rfl (GSpec.plain rfl (spec_addS rfl (Get.cstr (l := [103, 111, 32, 38, 38, 32]) rfl rfl) (Get.tmp rfl) (by (first | omega | (have ht1 := from_len sV sIv (by decide) (by decide) i; have ht2 := from_len sT sIt (by decide) (by decide) i; have ht3 := from_len sA sIa (by decide) (by decide) i; simp only [digT, List.length_append, List.length_cons, List.length_nil]; omega) | (simp only [digT, List.length_append, List.length_cons, List.length_nil]; omega)))))
        apply Head.one rfl rfl (GSpec.plain rfl (spec_addS rfl (Get.tmp rfl) (Get.cstr (l := [32, 63, 32]) rfl rfl) (by (first | omega | (have ht1 := from_len sV sIv (by decide) (by decide) i; have ht2 := from_len sT sIt (by decide) (by decide) i; have ht3 := from_len sA sIa (by decide) (by decide) i; simp only [digT, List.length_append, List.length_cons, List.length_nil]; omega) | (simp only [digT, List.length_append, List.length_cons, List.length_nil]; omega)))))
        apply Head.one rfl rfl (GSpec.plain rfl (spec_move rfl (Get.tmp rfl)))
        apply Head.one rfl rfl (GSpec.plain rfl (spec_addS rfl (Get.tmp rfl) (Get.tmp rfl) (by (first | omega | (have ht1 := from_len sV sIv (by decide) (by decide) i; have ht2 := from_len sT sIt (by decide) (by decide) i; have ht3 := from_len sA sIa (by decide) (by decide) i; simp only [digT, List.length_append, List.length_cons, List.length_nil]; omega) | (simp only [digT, List.length_append, List.length_cons, List.length_nil]; omega)))))
        apply Head.one rfl rfl (GSpec.plain rfl (spec_addS rfl (Get.tmp rfl) (Get.cstr (l := [32, 58, 32, 116]) rfl rfl) (by (first | omega | (have ht1 := from_len sV sIv (by decide) (by decide) i; have ht2 := from_len sT sIt (by decide) (by decide) i; have ht3 := from_len sA sIa (by decide) (by decide) i; simp only [digT, List.length_append, List.length_cons, List.length_nil]; omega) | (simp only [digT, List.length_append, List.length_cons, List.length_nil]; omega)))))
        apply Head.one rfl rfl (GSpec.plain rfl (spec_move rfl (Get.tmp rfl)))
        apply Head.one rfl rfl (GSpec.plain rfl (spec_call rfl Tryz.call51 (num33_ok _ (by omega) (by omega)) (.cons (Get.tmp rfl) .nil)))
        apply Head.one rfl rfl (GSpec.plain rfl (spec_addS rfl (Get.tmp rfl) (Get.tmp rfl) (by (first | omega | (have ht1 := from_len sV sIv (by decide) (by decide) i; have ht2 := from_len sT sIt (by decide) (by decide) i; have ht3 := from_len sA sIa (by decide) (by decide) i; simp only [digT, List.length_append, List.length_cons, List.length_nil]; omega) | (simp only [digT, List.length_append, List.length_cons, List.length_nil]; omega)))))
        apply Head.one rfl rfl (GSpec.plain rfl (spec_call rfl Tryz.call52 (reg33_ok _ _ _ _ (tx_dt (i := i) (by omega))) (.cons (Get.tmp rfl) (.cons (Get.cint rfl) (.cons (Get.tmp rfl) .nil)))))
        apply Head.one rfl rfl (GSpec.plain rfl (spec_buildSlice1 (y := (⟨ixN sT i, 4, 0, moveE (takeE i) (fromE sT sIt i) (ixN sT i)⟩ : Rg)) (E := eRg) rfl Tryz.underlying24 ti81 z81 (by decide) (GetC.agg (Get.tmp rfl)) (fun _ => rfl)))
        exact Head.nil
      refine Fin.one ?_
      refine Fin.one ?_
      refine Fin.one ?_
      refine Fin.one ?_
      refine Fin.one ?_
      refine Fin.one ?_
      refine Fin.one ?_
      refine Fin.one ?_
      refine Fin.one ?_
      refine Fin.one ?_
      refine Fin.one ?_
      refine Fin.one ?_
      refine Fin.one ?_
      refine Fin.one ?_
      refine Fin.one ?_
      refine Fin.one ?_
      refine Fin.nil ?_
      refine L.append (k := 1) (E := eRg) rfl rfl rfl rfl Tryz.underlying24 ti81 rfl (by decide) (fun _ => rfl) (Get.tmp rfl) (Get.tmp rfl) rfl (by (simp only [List.length_append, List.length_cons, List.length_nil]; omega)) (by (simp only [List.length_append, List.length_cons, List.length_nil]; omega)) (fun v91 => ?_)
      refine L.p1 rfl rfl rfl (spec_fieldAddr (f := 3) (off' := 3) rfl Tryz.underlying27 rfl Tryz.sizeOf24 (Get.tmp rfl) rfl) ?_
      refine L.factM 1 rfl osl_one fun hq => ?_
      haveI := One.val hq
      refine L.storeB (k := 0) (R := Rp.val v91) rfl rfl rfl Tryz.sizeOf24 (Get.tmp rfl) (Get.tmp rfl) rfl rfl ?_
      refine L.nt ?_
      apply W.any 17 mixed (by kernel_rfl)
      · apply Head.one rfl rfl (GSpec.plain rfl (spec_fieldAddr (f := 3) (off' := 3) rfl Tryz.underlying27 rfl Tryz.sizeOf24 (Get.tmp rfl) rfl))
        apply Head.one rfl rfl (GSpec.plain rfl (spec_load1 (k := 0) rfl Tryz.isAgg24 (Get.tmp rfl) rfl rfl))
        apply Head.one rfl rfl (GSpec.plain rfl (spec_move rfl (Get.tmp rfl)))
        apply Head.one rfl rfl (GSpec.plain rfl (spec_call rfl Tryz.call51 (num33_ok _ (by omega) (by omega)) (.cons (Get.tmp rfl) .nil)))
        apply Head.one rfl rfl (GSpec.plain rfl (spec_addS rfl (Get.cstr (l := [97]) rfl rfl) (Get.tmp rfl) (by (first | omega | (have ht1 := from_len sV sIv (by decide) (by decide) i; have ht2 := from_len sT sIt (by decide) (by decide) i; have ht3 := from_len sA sIa (by decide) (by decide) i; simp only [digT, List.length_append, List.length_cons, List.length_nil]; omega) | (simp only [digT, List.length_append, List.length_cons, List.length_nil]; omega)))))
        apply Head.one rfl rfl (GSpec.plain rfl (spec_move rfl (Get.tmp rfl)))
        apply Head.one rfl rfl (GSpec.plain rfl (spec_move rfl (Get.tmp rfl)))
        apply Head.one rfl rfl (GSpec.plain rfl (spec_addS rfl (Get.cstr (l := [103, 111, 32, 38, 38, 32]) rfl rfl) (Get.tmp rfl) (by (first | omega | (have ht1 := from_len sV sIv (by decide) (by decide) i; have ht2 := from_len sT sIt (by decide) (by decide) i; have ht3 := from_len sA sIa (by decide) (by decide) i; simp only [digT, List.length_append, List.length_cons, List.length_nil]; omega) | (simp only [digT, List.length_append, List.length_cons, List.length_nil]; omega)))))
        apply Head.one rfl rfl (GSpec.plain rfl (spec_addS rfl (Get.tmp rfl) (Get.cstr (l := [32, 63, 32]) rfl rfl) (by (first | omega | (have ht1 := from_len sV sIv (by decide) (by decide) i; have ht2 := from_len sT sIt (by decide) (by decide) i; have ht3 := from_len sA sIa (by decide) (by decide) i; simp only [digT, List.length_append, List.length_cons, List.length_nil]; omega) | (simp only [digT, List.length_append, List.length_cons, List.length_nil]; omega)))))
        apply Head.one rfl rfl (GSpec.plain rfl (spec_move rfl (Get.tmp rfl)))
        apply Head.one rfl rfl (GSpec.plain rfl (spec_addS rfl (Get.tmp rfl) (Get.tmp rfl) (by (first | omega | (have ht1 := from_len sV sIv (by decide) (by decide) i; have ht2 := from_len sT sIt (by decide) (by decide) i; have ht3 := from_len sA sIa (by decide) (by decide) i; simp only [digT, List.length_append, List.length_cons, List.length_nil]; omega) | (simp only [digT, List.length_append, List.length_cons, List.length_nil]; omega)))))
        apply Head.one rfl rfl (GSpec.plain rfl (spec_addS rfl (Get.tmp rfl) (Get.cstr (l := [32, 58, 32, 97]) rfl rfl) (by (first | omega | (have ht1 := from_len sV sIv (by decide) (by decide) i; have ht2 := from_len sT sIt (by decide) (by decide) i; have ht3 := from_len sA sIa (by decide) (by decide) i; simp only [digT, List.length_append, List.length_cons, List.length_nil]; omega) | (simp only [digT, List.length_append, List.length_cons, List.length_nil]; omega)))))
        apply Head.one rfl rfl (GSpec.plain rfl (spec_move rfl (Get.tmp rfl)))
        apply Head.one rfl rfl (GSpec.plain rfl (spec_call rfl Tryz.call51 (num33_ok _ (by omega) (by omega)) (.cons (Get.tmp rfl) .nil)))
        apply Head.one rfl rfl (GSpec.plain rfl (spec_addS rfl (Get.tmp rfl) (Get.tmp rfl) (by (first | omega | (have ht1 := from_len sV sIv (by decide) (by decide) i; have ht2 := from_len sT sIt (by decide) (by decide) i; have ht3 := from_len sA sIa (by decide) (by decide) i; simp only [digT, List.length_append, List.length_cons, List.length_nil]; omega) | (simp only [digT, List.length_append, List.length_cons, List.length_nil]; omega)))))
        apply Head.one rfl rfl (GSpec.plain rfl (spec_call rfl Tryz.call52 (reg33_ok _ _ _ _ (tx_da (i := i) (by omega))) (.cons (Get.tmp rfl) (.cons (Get.tmp rfl) (.cons (Get.tmp rfl) .nil)))))
        apply Head.one rfl rfl (GSpec.plain rfl (spec_buildSlice1 (y := (⟨ixN sA i, w, 0, moveE (takeE i) (fromE sA sIa i) (ixN sA i)⟩ : Rg)) (E := eRg) rfl Tryz.underlying24 ti81 z81 (by decide) (GetC.agg (Get.tmp rfl)) (fun _ => rfl)))
        exact Head.nil
      refine Fin.one ?_
      refine Fin.one ?_
      refine Fin.one ?_
      refine Fin.one ?_
      refine Fin.one ?_
      refine Fin.one ?_
      refine Fin.one ?_
      refine Fin.one ?_
      refine Fin.one ?_
      refine Fin.one ?_
      refine Fin.one ?_
      refine Fin.one ?_
      refine Fin.one ?_
      refine Fin.one ?_
      refine Fin.one ?_
      refine Fin.one ?_
      refine Fin.one ?_
      refine Fin.nil ?_
      refine L.append (k := 1) (E := eRg) rfl rfl rfl rfl Tryz.underlying24 ti81 rfl (by decide) (fun _ => rfl) (Get.tmp rfl) (Get.tmp rfl) rfl (by (simp only [List.length_append, List.length_cons, List.length_nil]; omega)) (by (simp only [List.length_append, List.length_cons, List.length_nil]; omega)) (fun v110 => ?_)
      refine L.p1 rfl rfl rfl (spec_fieldAddr (f := 3) (off' := 3) rfl Tryz.underlying27 rfl Tryz.sizeOf24 (Get.tmp rfl) rfl) ?_
      refine L.factM 1 rfl osl_one fun hq => ?_
      haveI := One.val hq
      refine L.storeB (k := 0) (R := Rp.val v110) rfl rfl rfl Tryz.sizeOf24 (Get.tmp rfl) (Get.tmp rfl) rfl rfl ?_
      refine L.nil ?_
      refine N.blockNormal ?_
      refine N.thenW ?_
      refine W.region ?_
      refine L.mv rfl rfl rfl rfl rfl ?_
      first | refine L.op1 rfl rfl (GSpec.plain rfl (fit_i64 (by (first | omega | (have ht1 := from_len sV sIv (by decide) (by decide) i; have ht2 := from_len sT sIt (by decide) (by decide) i; have ht3 := from_len sA sIa (by decide) (by decide) i; simp only [digT, List.length_append, List.length_cons, List.length_nil]; omega) | (simp only [digT, List.length_append, List.length_cons, List.length_nil]; omega))) (by (first | omega | (have ht1 := from_len sV sIv (by decide) (by decide) i; have ht2 := from_len sT sIt (by decide) (by decide) i; have ht3 := from_len sA sIa (by decide) (by decide) i; simp only [digT, List.length_append, List.length_cons, List.length_nil]; omega) | (simp only [digT, List.length_append, List.length_cons, List.length_nil]; omega))) (spec_add rfl (Get.tmp rfl) (Get.cint rfl)))) ?_ | refine L.op1 rfl rfl (GSpec.plain rfl (spec_add rfl (Get.tmp rfl) (Get.cint rfl))) ?_
      refine L.as rfl rfl rfl rfl rfl ?_
      refine L.nil ?_
      refine N.roundK (i + 1, v110) ?hI3 ?hmu3 ?hs3 ?hk3 ?hp3
      case hs3 => exact (.cons (t := 8) rfl .nil)
      case hk3 => exact (.cons (t := 0) rfl (.cons (t := 1) rfl (.cons (t := 4) rfl (.cons (t := 5) rfl (.cons (t := 6) rfl .nil)))))
      case hp3 => exact (.cons 0 rfl (.cons 0 rfl (.cons 0 rfl .nil)))
      case hI3 => dsimp only; omega
      case hmu3 => dsimp only; omega
    · have ph2 := h2; try simp only [sbx] at ph2
      refine W.exit ?_
      refine N.thenExit ?_
      refine N.thenExit ?_
      refine N.blockExit ?_
      refine N.thenW ?_
      have hi : i = m := by omega
      subst hi
      refine W.pubBox (off := 3) 1 0 rfl rfl rfl (fun _ => rfl) ?_
      refine W.keep (.cons (t := 4) rfl (.cons (t := 5) rfl (.cons (t := 6) rfl .nil))) .refl ?_
      refine W.sr ?_
      refine L.p1 rfl rfl rfl (spec_loadW (k := 0) rfl Tryz.isAgg27 Tryz.sizeOf27 (Get.tmp rfl) rfl rfl) ?_
      refine L.storeW (k := 1) rfl rfl rfl Tryz.sizeOf27 (Get.tmp rfl) (Get.tmp rfl) rfl rfl rfl ?_
      refine L.p1 rfl rfl rfl (spec_assign rfl (Get.cint rfl)) ?_
      refine L.nt ?_
      refine W.ret ?_
      refine N.ret () rfl (.cellA (k := 1) (Get.tmp (t := 4) rfl) rfl Tryz.isAgg27 Tryz.sizeOf27 rfl (.tmp (t := 5) (Get.tmp rfl) .nil)) (res2w (eqA ?_) (eqI ?_)) .nil (fun _ _ h => h)
      all_goals first | rfl | exact (eD_stages _ _ _).symm

end Go.Proofs.YthlfacmpjehjmaaGreatDoor
set_option linter.unusedSimpArgs false
set_option maxRecDepth 8000
set_option linter.unusedVariables false
namespace Go.Proofs.YthlfacmpjehjmaaGreatDoor
open Go.Sim
set_option maxHeartbeats 2000000 in
theorem queue33_ok (k w : Int) (hk : 1 ≤ k ∧ k ≤ 8) (hw : 1 ≤ w ∧ w ≤ 8) : CallT Tryz.prog 10 [Rp.int .i64 k, Rp.int .i64 w] [] (.one (Rp.tuple [Rp.agg (eD (queueD k.toNat w)), Rp.int .i64 0])) := by
  refine W.enter (fn := Tryz.f10) (n := 96) Tryz.func10 rfl Tryz.ntmps10 rfl (fun w₀ C₀ => ?_)
  simp only [argS]
  obtain ⟨m, rfl⟩ : ∃ m : Nat, k = (m : Int) := ⟨k.toNat, by omega⟩
  refine W.sr ?_
  refine L.box rfl rfl (GSpec.plain rfl (spec_alloc rfl ti27 z27)) (fun r4 => ?_)
  refine L.p1 rfl rfl rfl (spec_assign rfl (Get.cint rfl)) ?_
  refine L.nt ?_
  refine W.seq ?_
  refine W.sr ?_
  refine L.mv rfl rfl rfl rfl rfl ?_
  refine L.p1 rfl rfl rfl (spec_call rfl Tryz.call48 (wrong33_ok _) (.cons (Get.tmp rfl) .nil)) ?_
  refine L.mv rfl rfl rfl rfl rfl ?_
  refine L.op1 rfl rfl (GSpec.guard rfl rfl rfl fun hg => (spec_move rfl (Get.tmp rfl))) ?_
  refine L.op1 rfl rfl (GSpec.guard rfl rfl rfl fun hg => (spec_call rfl Tryz.call48 (wrong33_ok _) (.cons (Get.opt rfl hg) .nil))) ?_
  refine L.p1 rfl rfl rfl (spec_or rfl (Get.tmp rfl) (fun hb => (Get.opt rfl hb))) ?_
  refine L.nt ?_
  refine W.cond (Get.tmp rfl) (fun h1 => ?_) (fun h1 => ?_)
  · exfalso; have h := h1; simp only [Bool.or_eq_true, decide_eq_true_eq] at h; omega
  · have ph1 := h1; try simp only [sbx] at ph1
    refine W.skip ?_
    refine N.thenW ?_
    refine W.sr ?_
    refine L.mv rfl rfl rfl rfl rfl ?_
    refine L.p1 rfl rfl rfl (spec_call rfl Tryz.call49 (begin33_ok _ _) (.cons (Get.cstr (l := [113, 117, 101, 117, 101]) rfl rfl) (.cons (Get.tmp rfl) .nil))) ?_
    refine L.box rfl rfl (GSpec.plain rfl (spec_alloc rfl ti27 z27)) (fun r6 => ?_)
    refine L.storeW (k := 0) rfl rfl rfl Tryz.sizeOf27 (Get.tmp rfl) (Get.tmp rfl) rfl rfl rfl ?_
    refine L.nt ?_
    refine W.keep (.cons (t := 0) rfl (.cons (t := 1) rfl (.cons (t := 4) rfl (.cons (t := 5) rfl (.cons (t := 6) rfl .nil))))) .refl ?_
    refine W.sr ?_
    refine L.mv rfl rfl rfl rfl rfl ?_
    refine L.p1 rfl rfl rfl (spec_call rfl Tryz.call51 (num33_ok _ (by omega) (by omega)) (.cons (Get.tmp rfl) .nil)) ?_
    refine L.p1 rfl rfl rfl (spec_addS rfl (Get.cstr (l := [110, 32, 60, 32]) rfl rfl) (Get.tmp rfl) (by (first | omega | (have ht1 := tt_len m i [116] (by decide); have ht2 := tt_len m i [97] (by decide); simp only [digT, List.length_append, List.length_cons, List.length_nil]; omega) | (simp only [digT, List.length_append, List.length_cons, List.length_nil]; omega)))) ?_
    refine L.p1 rfl rfl rfl (spec_call rfl Tryz.call50 (wire33_ok _ _ _ _ (tx_irdyQ (k := m) (by omega))) (.cons (Get.cstr (l := [105, 114, 100, 121]) rfl rfl) (.cons (Get.cint rfl) (.cons (Get.tmp rfl) .nil)))) ?_
    refine L.p1 rfl rfl rfl (spec_call rfl Tryz.call50 (wire33_ok _ _ _ _ tx_ovQ) (.cons (Get.cstr (l := [111, 118]) rfl rfl) (.cons (Get.cint rfl) (.cons (Get.cstr (l := [48, 32, 60, 32, 110]) rfl rfl) .nil)))) ?_
    refine L.p1 rfl rfl rfl (spec_call rfl Tryz.call50 (wire33_ok _ _ _ _ tx_t0) (.cons (Get.cstr (l := [111, 116]) rfl rfl) (.cons (Get.cint rfl) (.cons (Get.cstr (l := [116, 48]) rfl rfl) .nil)))) ?_
    refine L.mv rfl rfl rfl rfl rfl ?_
    refine L.p1 rfl rfl rfl (spec_call rfl Tryz.call50 (wire33_ok _ _ _ _ tx_a0) (.cons (Get.cstr (l := [111, 97]) rfl rfl) (.cons (Get.tmp rfl) (.cons (Get.cstr (l := [97, 48]) rfl rfl) .nil)))) ?_
    refine L.p1 rfl rfl rfl (spec_call rfl Tryz.call50 (wire33_ok _ _ _ _ tx_push) (.cons (Get.cstr (l := [112, 117, 115, 104]) rfl rfl) (.cons (Get.cint rfl) (.cons (Get.cstr (l := [105, 118, 32, 38, 38, 32, 105, 114, 100, 121]) rfl rfl) .nil)))) ?_
    refine L.p1 rfl rfl rfl (spec_call rfl Tryz.call50 (wire33_ok _ _ _ _ tx_pop) (.cons (Get.cstr (l := [112, 111, 112]) rfl rfl) (.cons (Get.cint rfl) (.cons (Get.cstr (l := [111, 118, 32, 38, 38, 32, 111, 114, 100, 121]) rfl rfl) .nil)))) ?_
    refine L.p1 rfl rfl rfl (spec_call rfl Tryz.call50 (wire33_ok _ _ _ _ tx_k) (.cons (Get.cstr (l := [107]) rfl rfl) (.cons (Get.cint rfl) (.cons (Get.cstr (l := [110, 32, 45, 32, 112, 111, 112]) rfl rfl) .nil)))) ?_
    refine L.p1 rfl rfl rfl (spec_buildSliceN (xs := (queue0 (m : Int) w).wires) (E := eWr) rfl Tryz.underlying23 ti77 z77 (by first | decide | simp) rfl (.cons (GetC.agg (Get.tmp rfl)) rfl rfl rfl (.cons (GetC.agg (Get.tmp rfl)) rfl rfl rfl (.cons (GetC.agg (Get.tmp rfl)) rfl rfl rfl (.cons (GetC.agg (Get.tmp rfl)) rfl rfl rfl (.cons (GetC.agg (Get.tmp rfl)) rfl rfl rfl (.cons (GetC.agg (Get.tmp rfl)) rfl rfl rfl (.cons (GetC.agg (Get.tmp rfl)) rfl rfl rfl .nil))))))) rfl rfl) ?_
    refine L.p1 rfl rfl rfl (spec_fieldAddr (f := 2) (off' := 2) rfl Tryz.underlying27 rfl Tryz.sizeOf23 (Get.tmp rfl) rfl) ?_
    refine L.storeB (k := 0) rfl rfl rfl Tryz.sizeOf23 (Get.tmp rfl) (Get.tmp rfl) rfl rfl ?_
    refine L.nt ?_
    refine W.nil 81 7 eRg ?_
    refine W.keep (.cons (t := 0) rfl (.cons (t := 1) rfl (.cons (t := 4) rfl (.cons (t := 5) rfl (.cons (t := 6) rfl .nil))))) .refl ?_
    refine W.seq ?_
    apply W.any 4 mixed (by kernel_rfl)
    · apply Head.one rfl rfl (GSpec.plain rfl (spec_fieldAddr (f := 3) (off' := 3) rfl Tryz.underlying27 rfl Tryz.sizeOf24 (Get.tmp rfl) rfl))
      apply Head.one rfl rfl (GSpec.plain rfl (spec_load1 (k := 1) rfl Tryz.isAgg24 (Get.tmp rfl) rfl rfl))
      apply Head.one rfl rfl (GSpec.plain rfl (spec_call rfl Tryz.call52 (reg33_ok _ _ _ _ tx_n) (.cons (Get.cstr (l := [110]) rfl rfl) (.cons (Get.cint rfl) (.cons (Get.cstr (l := [107, 32, 43, 32, 112, 117, 115, 104]) rfl rfl) .nil)))))
      apply Head.one rfl rfl (GSpec.plain rfl (spec_buildSlice1 (y := (⟨sN, 4, 0, plusE (refE sK) (refE sPush)⟩ : Rg)) (E := eRg) rfl Tryz.underlying24 ti81 z81 (by decide) (GetC.agg (Get.tmp rfl)) (fun _ => rfl)))
      exact Head.nil
    refine Fin.one ?_
    refine Fin.one ?_
    refine Fin.one ?_
    refine Fin.one ?_
    refine Fin.nil ?_
    refine L.append (k := 0) (E := eRg) rfl rfl rfl rfl Tryz.underlying24 ti81 rfl (by decide) (fun _ => rfl) (Get.tmp rfl) (Get.tmp rfl) rfl (by (simp only [List.length_cons, List.length_nil]; omega)) (by (simp only [List.length_cons, List.length_nil]; omega)) (fun v37 => ?_)
    refine L.p1 rfl rfl rfl (spec_fieldAddr (f := 3) (off' := 3) rfl Tryz.underlying27 rfl Tryz.sizeOf24 (Get.tmp rfl) rfl) ?_
    refine L.factM 0 rfl osl_one fun hq => ?_
    haveI := One.val hq
    refine L.storeB (k := 1) (R := Rp.val v37) rfl rfl rfl Tryz.sizeOf24 (Get.tmp rfl) (Get.tmp rfl) rfl rfl ?_
    refine L.nt ?_
    refine W.keep (.cons (t := 0) rfl (.cons (t := 1) rfl (.cons (t := 4) rfl (.cons (t := 5) rfl (.cons (t := 6) rfl .nil))))) .refl ?_
    refine W.seq ?_
    refine W.sr ?_
    refine L.p1 rfl rfl rfl (spec_assign rfl (Get.cint rfl)) ?_
    refine L.nt ?_
    refine W.block ?_
    refine W.loopK (σ := Nat × Value) (.cons (t := 0) rfl (.cons (t := 1) rfl (.cons (t := 4) rfl (.cons (t := 5) rfl (.cons (t := 6) rfl .nil))))) (fun z => [(7, Rp.int .i64 (z.1 : Nat))]) (fun z => [MF.box r6 27 [Rp.str ([113, 117, 101, 117, 101] : List UInt8), Rp.slice eP (beginD ([113, 117, 101, 117, 101] : List UInt8) w).inputs, Rp.slice eWr (queue0 (m : Int) w).wires, Rp.val z.2, Rp.slice eS ([sIrdy, sOv, sOt, sOa] : List (List UInt8))], MF.osl z.2 81 7 eRg ((cellsD (m : Int) w z.1).regs)]) (fun z => z.1 ≤ m) (fun z => m - z.1) (0, v37) (Nat.zero_le _) (.cons (t := 7) rfl .nil) (.cons 1 rfl (.cons 0 rfl (.cons 0 rfl .nil))) ?_
    intro ⟨i, vo⟩ hI S' M' hS hM
    try dsimp only at hS hM
    simp only [List.cons_append, List.nil_append] at hS hM
    subst hS hM
    try dsimp only
    try dsimp only at hI
    refine W.seq ?_
    refine W.sr ?_
    refine L.mv rfl rfl rfl rfl rfl ?_
    refine L.mv rfl rfl rfl rfl rfl ?_
    refine L.p1 rfl rfl rfl (spec_lss rfl (Get.tmp rfl) (Get.tmp rfl)) ?_
    refine L.nt ?_
    refine W.cond (Get.tmp rfl) (fun h2 => ?_) (fun h2 => ?_)
    · have ph2 := h2; try simp only [sbx] at ph2
      refine W.skip ?_
      refine N.thenW ?_
      have hcl := cells_len (m : Int) w i
      refine W.seq ?_
      refine W.block ?_
      refine W.sr ?_
      refine L.mv rfl rfl rfl rfl rfl ?_
      first | refine L.op1 rfl rfl (GSpec.plain rfl (fit_i64 (by (first | omega | (have ht1 := tt_len m i [116] (by decide); have ht2 := tt_len m i [97] (by decide); simp only [digT, List.length_append, List.length_cons, List.length_nil]; omega) | (simp only [digT, List.length_append, List.length_cons, List.length_nil]; omega))) (by (first | omega | (have ht1 := tt_len m i [116] (by decide); have ht2 := tt_len m i [97] (by decide); simp only [digT, List.length_append, List.length_cons, List.length_nil]; omega) | (simp only [digT, List.length_append, List.length_cons, List.length_nil]; omega))) (spec_add rfl (Get.tmp rfl) (Get.cint rfl)))) ?_ | refine L.op1 rfl rfl (GSpec.plain rfl (spec_add rfl (Get.tmp rfl) (Get.cint rfl))) ?_
      refine L.p1 rfl rfl rfl (spec_call rfl Tryz.call51 (num33_ok _ (by omega) (by omega)) (.cons (Get.tmp rfl) .nil)) ?_
      refine L.p1 rfl rfl rfl (spec_addS rfl (Get.cstr (l := [116]) rfl rfl) (Get.tmp rfl) (by (first | omega | (have ht1 := tt_len m i [116] (by decide); have ht2 := tt_len m i [97] (by decide); simp only [digT, List.length_append, List.length_cons, List.length_nil]; omega) | (simp only [digT, List.length_append, List.length_cons, List.length_nil]; omega)))) ?_
      refine L.mv rfl rfl rfl rfl rfl ?_
      first | refine L.op1 rfl rfl (GSpec.plain rfl (fit_i64 (by (first | omega | (have ht1 := tt_len m i [116] (by decide); have ht2 := tt_len m i [97] (by decide); simp only [digT, List.length_append, List.length_cons, List.length_nil]; omega) | (simp only [digT, List.length_append, List.length_cons, List.length_nil]; omega))) (by (first | omega | (have ht1 := tt_len m i [116] (by decide); have ht2 := tt_len m i [97] (by decide); simp only [digT, List.length_append, List.length_cons, List.length_nil]; omega) | (simp only [digT, List.length_append, List.length_cons, List.length_nil]; omega))) (spec_add rfl (Get.tmp rfl) (Get.cint rfl)))) ?_ | refine L.op1 rfl rfl (GSpec.plain rfl (spec_add rfl (Get.tmp rfl) (Get.cint rfl))) ?_
      refine L.p1 rfl rfl rfl (spec_call rfl Tryz.call51 (num33_ok _ (by omega) (by omega)) (.cons (Get.tmp rfl) .nil)) ?_
      refine L.p1 rfl rfl rfl (spec_addS rfl (Get.cstr (l := [97]) rfl rfl) (Get.tmp rfl) (by (first | omega | (have ht1 := tt_len m i [116] (by decide); have ht2 := tt_len m i [97] (by decide); simp only [digT, List.length_append, List.length_cons, List.length_nil]; omega) | (simp only [digT, List.length_append, List.length_cons, List.length_nil]; omega)))) ?_
      refine L.as rfl rfl rfl rfl rfl ?_
      refine L.as rfl rfl rfl rfl rfl ?_
      refine L.nt ?_
      refine W.cut (σ := Unit) (fun z => [(0, Rp.int .i64 (m : Nat)), (1, Rp.int .i64 w), (6, Rp.ptr r6 0), (4, Rp.ptr r4 0), (5, Rp.int .i64 0), (7, Rp.int .i64 (i : Nat)), (8, Rp.str (ttE m i [116])), (9, Rp.str (ttE m i [97]))]) (fun z => [MF.box r6 27 [Rp.str ([113, 117, 101, 117, 101] : List UInt8), Rp.slice eP (beginD ([113, 117, 101, 117, 101] : List UInt8) w).inputs, Rp.slice eWr (queue0 (m : Int) w).wires, Rp.val vo, Rp.slice eS ([sIrdy, sOv, sOt, sOa] : List (List UInt8))], MF.osl vo 81 7 eRg (cellsD (m : Int) w i).regs, MF.box r4 27 [Rp.str [], Rp.slice eP [], Rp.slice eWr [], Rp.slice eRg [], Rp.slice eS []]]) ?_ ?_
      · refine W.seq ?_
        refine W.region ?_
        refine L.mv rfl rfl rfl rfl rfl ?_
        first | refine L.op1 rfl rfl (GSpec.plain rfl (fit_i64 (by (first | omega | (have ht1 := tt_len m i [116] (by decide); have ht2 := tt_len m i [97] (by decide); simp only [digT, List.length_append, List.length_cons, List.length_nil]; omega) | (simp only [digT, List.length_append, List.length_cons, List.length_nil]; omega))) (by (first | omega | (have ht1 := tt_len m i [116] (by decide); have ht2 := tt_len m i [97] (by decide); simp only [digT, List.length_append, List.length_cons, List.length_nil]; omega) | (simp only [digT, List.length_append, List.length_cons, List.length_nil]; omega))) (spec_add rfl (Get.tmp rfl) (Get.cint rfl)))) ?_ | refine L.op1 rfl rfl (GSpec.plain rfl (spec_add rfl (Get.tmp rfl) (Get.cint rfl))) ?_
        refine L.mv rfl rfl rfl rfl rfl ?_
        refine L.p1 rfl rfl rfl (spec_eql rfl (Get.tmp rfl) (Get.tmp rfl)) ?_
        refine L.nt ?_
        refine W.cond (Get.tmp rfl) (fun h3 => ?_) (fun h3 => ?_)
        · have ph3 := h3; try simp only [sbx] at ph3
          refine W.region ?_
          refine L.p1 rfl rfl rfl (spec_assign rfl (Get.cstr (l := [48]) rfl rfl)) ?_
          refine L.p1 rfl rfl rfl (spec_assign rfl (Get.cstr (l := [48]) rfl rfl)) ?_
          refine L.nil ?_
          refine N.mid () ?hs1 ?hp1
          case hs1 => exact (.cons (t := 0) rfl (.cons (t := 1) rfl (.cons (t := 6) rfl (.cons (t := 4) rfl (.cons (t := 5) rfl (.cons (t := 7) rfl (.weak (t := 8) rfl (eqS (by first | exact tt_last (of_decide_eq_true (by assumption)) | exact tt_more (of_decide_eq_false (by assumption)))) (.weak (t := 9) rfl (eqS (by first | exact tt_last (of_decide_eq_true (by assumption)) | exact tt_more (of_decide_eq_false (by assumption)))) .nil))))))))
          case hp1 => exact (.cons 0 rfl (.cons 0 rfl (.cons 0 rfl .nil)))
        · have ph3 := h3; try simp only [sbx] at ph3
          refine W.skip ?_
          refine N.mid () ?hs2 ?hp2
          case hs2 => exact (.cons (t := 0) rfl (.cons (t := 1) rfl (.cons (t := 6) rfl (.cons (t := 4) rfl (.cons (t := 5) rfl (.cons (t := 7) rfl (.weak (t := 8) rfl (eqS (by first | exact tt_last (of_decide_eq_true (by assumption)) | exact tt_more (of_decide_eq_false (by assumption)))) (.weak (t := 9) rfl (eqS (by first | exact tt_last (of_decide_eq_true (by assumption)) | exact tt_more (of_decide_eq_false (by assumption)))) .nil))))))))
          case hp2 => exact (.cons 0 rfl (.cons 0 rfl (.cons 0 rfl .nil)))
      intro _
      try dsimp only
      refine W.sr ?_
      refine L.mv rfl rfl rfl rfl rfl ?_
      refine L.p1 rfl rfl rfl (spec_call rfl Tryz.call51 (num33_ok _ (by omega) (by omega)) (.cons (Get.tmp rfl) .nil)) ?_
      refine L.p1 rfl rfl rfl (spec_addS rfl (Get.cstr (l := [112, 117, 115, 104, 32, 38, 38, 32, 107, 32, 61, 61, 32]) rfl rfl) (Get.tmp rfl) (by (first | omega | (have ht1 := tt_len m i [116] (by decide); have ht2 := tt_len m i [97] (by decide); simp only [digT, List.length_append, List.length_cons, List.length_nil]; omega) | (simp only [digT, List.length_append, List.length_cons, List.length_nil]; omega)))) ?_
      refine L.p1 rfl rfl rfl (spec_addS rfl (Get.tmp rfl) (Get.cstr (l := [32, 63, 32]) rfl rfl) (by (first | omega | (have ht1 := tt_len m i [116] (by decide); have ht2 := tt_len m i [97] (by decide); simp only [digT, List.length_append, List.length_cons, List.length_nil]; omega) | (simp only [digT, List.length_append, List.length_cons, List.length_nil]; omega)))) ?_
      refine L.as rfl rfl rfl rfl rfl ?_
      refine L.nt ?_
      refine W.seq ?_
      apply W.any 15 mixed (by kernel_rfl)
      · apply Head.one rfl rfl (GSpec.plain rfl (spec_fieldAddr (f := 3) (off' := 3) rfl Tryz.underlying27 rfl Tryz.sizeOf24 (Get.tmp rfl) rfl))
        apply Head.one rfl rfl (GSpec.plain rfl (spec_load1 (k := 0) rfl Tryz.isAgg24 (Get.tmp rfl) rfl rfl))
        apply Head.one rfl rfl (GSpec.plain rfl (spec_move rfl (Get.tmp rfl)))
        apply Head.one rfl rfl (GSpec.plain rfl (spec_call rfl Tryz.call51 (num33_ok _ (by omega) (by omega)) (.cons (Get.tmp rfl) .nil)))
        apply Head.one rfl rfl (GSpec.plain rfl (spec_addS rfl (Get.cstr (l := [116]) rfl rfl) (Get.tmp rfl) (by (first | omega | (have ht1 := tt_len m i [116] (by decide); have ht2 := tt_len m i [97] (by decide); simp only [digT, List.length_append, List.length_cons, List.length_nil]; omega) | (simp only [digT, List.length_append, List.length_cons, List.length_nil]; omega)))))
        apply Head.one rfl rfl (GSpec.plain rfl (spec_move rfl (Get.tmp rfl)))
        apply Head.one rfl rfl (GSpec.plain rfl (spec_addS rfl (Get.tmp rfl) (Get.cstr (l := [105, 116, 32, 58, 32, 112, 111, 112, 32, 63, 32]) rfl rfl) (by (first | omega | (have ht1 := tt_len m i [116] (by decide); have ht2 := tt_len m i [97] (by decide); simp only [digT, List.length_append, List.length_cons, List.length_nil]; omega) | (simp only [digT, List.length_append, List.length_cons, List.length_nil]; omega)))))
        apply Head.one rfl rfl (GSpec.plain rfl (spec_move rfl (Get.tmp rfl)))
        apply Head.one rfl rfl (GSpec.plain rfl (spec_addS rfl (Get.tmp rfl) (Get.tmp rfl) (by (first | omega | (have ht1 := tt_len m i [116] (by decide); have ht2 := tt_len m i [97] (by decide); simp only [digT, List.length_append, List.length_cons, List.length_nil]; omega) | (simp only [digT, List.length_append, List.length_cons, List.length_nil]; omega)))))
        apply Head.one rfl rfl (GSpec.plain rfl (spec_addS rfl (Get.tmp rfl) (Get.cstr (l := [32, 58, 32, 116]) rfl rfl) (by (first | omega | (have ht1 := tt_len m i [116] (by decide); have ht2 := tt_len m i [97] (by decide); simp only [digT, List.length_append, List.length_cons, List.length_nil]; omega) | (simp only [digT, List.length_append, List.length_cons, List.length_nil]; omega)))))
        apply Head.one rfl rfl (GSpec.plain rfl (spec_move rfl (Get.tmp rfl)))
        apply Head.one rfl rfl (GSpec.plain rfl (spec_call rfl Tryz.call51 (num33_ok _ (by omega) (by omega)) (.cons (Get.tmp rfl) .nil)))
        apply Head.one rfl rfl (GSpec.plain rfl (spec_addS rfl (Get.tmp rfl) (Get.tmp rfl) (by (first | omega | (have ht1 := tt_len m i [116] (by decide); have ht2 := tt_len m i [97] (by decide); simp only [digT, List.length_append, List.length_cons, List.length_nil]; omega) | (simp only [digT, List.length_append, List.length_cons, List.length_nil]; omega)))))
        apply Head.one rfl rfl (GSpec.plain rfl (spec_call rfl Tryz.call52 (reg33_ok _ _ _ _ (tx_ct (k := m) (i := i) (by omega) (by omega))) (.cons (Get.tmp rfl) (.cons (Get.cint rfl) (.cons (Get.tmp rfl) .nil)))))
        apply Head.one rfl rfl (GSpec.plain rfl (spec_buildSlice1 (y := (⟨ixN sT i, 4, 0, cellE (m : Int) sT sIt i⟩ : Rg)) (E := eRg) rfl Tryz.underlying24 ti81 z81 (by decide) (GetC.agg (Get.tmp rfl)) (fun _ => rfl)))
        exact Head.nil
      refine Fin.one ?_
      refine Fin.one ?_
      refine Fin.one ?_
      refine Fin.one ?_
      refine Fin.one ?_
      refine Fin.one ?_
      refine Fin.one ?_
      refine Fin.one ?_
      refine Fin.one ?_
      refine Fin.one ?_
      refine Fin.one ?_
      refine Fin.one ?_
      refine Fin.one ?_
      refine Fin.one ?_
      refine Fin.one ?_
      refine Fin.nil ?_
      refine L.append (k := 1) (E := eRg) rfl rfl rfl rfl Tryz.underlying24 ti81 rfl (by decide) (fun _ => rfl) (Get.tmp rfl) (Get.tmp rfl) rfl (by (simp only [List.length_append, List.length_cons, List.length_nil]; omega)) (by (simp only [List.length_append, List.length_cons, List.length_nil]; omega)) (fun v75 => ?_)
      refine L.p1 rfl rfl rfl (spec_fieldAddr (f := 3) (off' := 3) rfl Tryz.underlying27 rfl Tryz.sizeOf24 (Get.tmp rfl) rfl) ?_
      refine L.factM 1 rfl osl_one fun hq => ?_
      haveI := One.val hq
      refine L.storeB (k := 0) (R := Rp.val v75) rfl rfl rfl Tryz.sizeOf24 (Get.tmp rfl) (Get.tmp rfl) rfl rfl ?_
      refine L.nt ?_
      apply W.any 16 mixed (by kernel_rfl)
      · apply Head.one rfl rfl (GSpec.plain rfl (spec_fieldAddr (f := 3) (off' := 3) rfl Tryz.underlying27 rfl Tryz.sizeOf24 (Get.tmp rfl) rfl))
        apply Head.one rfl rfl (GSpec.plain rfl (spec_load1 (k := 0) rfl Tryz.isAgg24 (Get.tmp rfl) rfl rfl))
        apply Head.one rfl rfl (GSpec.plain rfl (spec_move rfl (Get.tmp rfl)))
        apply Head.one rfl rfl (GSpec.plain rfl (spec_call rfl Tryz.call51 (num33_ok _ (by omega) (by omega)) (.cons (Get.tmp rfl) .nil)))
        apply Head.one rfl rfl (GSpec.plain rfl (spec_addS rfl (Get.cstr (l := [97]) rfl rfl) (Get.tmp rfl) (by (first | omega | (have ht1 := tt_len m i [116] (by decide); have ht2 := tt_len m i [97] (by decide); simp only [digT, List.length_append, List.length_cons, List.length_nil]; omega) | (simp only [digT, List.length_append, List.length_cons, List.length_nil]; omega)))))
        apply Head.one rfl rfl (GSpec.plain rfl (spec_move rfl (Get.tmp rfl)))
        apply Head.one rfl rfl (GSpec.plain rfl (spec_move rfl (Get.tmp rfl)))
        apply Head.one rfl rfl (GSpec.plain rfl (spec_addS rfl (Get.tmp rfl) (Get.cstr (l := [105, 97, 32, 58, 32, 112, 111, 112, 32, 63, 32]) rfl rfl) (by (first | omega | (have ht1 := tt_len m i [116] (by decide); have ht2 := tt_len m i [97] (by decide); simp only [digT, List.length_append, List.length_cons, List.length_nil]; omega) | (simp only [digT, List.length_append, List.length_cons, List.length_nil]; omega)))))
        apply Head.one rfl rfl (GSpec.plain rfl (spec_move rfl (Get.tmp rfl)))
        apply Head.one rfl rfl (GSpec.plain rfl (spec_addS rfl (Get.tmp rfl) (Get.tmp rfl) (by (first | omega | (have ht1 := tt_len m i [116] (by decide); have ht2 := tt_len m i [97] (by decide); simp only [digT, List.length_append, List.length_cons, List.length_nil]; omega) | (simp only [digT, List.length_append, List.length_cons, List.length_nil]; omega)))))
        apply Head.one rfl rfl (GSpec.plain rfl (spec_addS rfl (Get.tmp rfl) (Get.cstr (l := [32, 58, 32, 97]) rfl rfl) (by (first | omega | (have ht1 := tt_len m i [116] (by decide); have ht2 := tt_len m i [97] (by decide); simp only [digT, List.length_append, List.length_cons, List.length_nil]; omega) | (simp only [digT, List.length_append, List.length_cons, List.length_nil]; omega)))))
        apply Head.one rfl rfl (GSpec.plain rfl (spec_move rfl (Get.tmp rfl)))
        apply Head.one rfl rfl (GSpec.plain rfl (spec_call rfl Tryz.call51 (num33_ok _ (by omega) (by omega)) (.cons (Get.tmp rfl) .nil)))
        apply Head.one rfl rfl (GSpec.plain rfl (spec_addS rfl (Get.tmp rfl) (Get.tmp rfl) (by (first | omega | (have ht1 := tt_len m i [116] (by decide); have ht2 := tt_len m i [97] (by decide); simp only [digT, List.length_append, List.length_cons, List.length_nil]; omega) | (simp only [digT, List.length_append, List.length_cons, List.length_nil]; omega)))))
        apply Head.one rfl rfl (GSpec.plain rfl (spec_call rfl Tryz.call52 (reg33_ok _ _ _ _ (tx_ca (k := m) (i := i) (by omega) (by omega))) (.cons (Get.tmp rfl) (.cons (Get.tmp rfl) (.cons (Get.tmp rfl) .nil)))))
        apply Head.one rfl rfl (GSpec.plain rfl (spec_buildSlice1 (y := (⟨ixN sA i, w, 0, cellE (m : Int) sA sIa i⟩ : Rg)) (E := eRg) rfl Tryz.underlying24 ti81 z81 (by decide) (GetC.agg (Get.tmp rfl)) (fun _ => rfl)))
        exact Head.nil
      refine Fin.one ?_
      refine Fin.one ?_
      refine Fin.one ?_
      refine Fin.one ?_
      refine Fin.one ?_
      refine Fin.one ?_
      refine Fin.one ?_
      refine Fin.one ?_
      refine Fin.one ?_
      refine Fin.one ?_
      refine Fin.one ?_
      refine Fin.one ?_
      refine Fin.one ?_
      refine Fin.one ?_
      refine Fin.one ?_
      refine Fin.one ?_
      refine Fin.nil ?_
      refine L.append (k := 1) (E := eRg) rfl rfl rfl rfl Tryz.underlying24 ti81 rfl (by decide) (fun _ => rfl) (Get.tmp rfl) (Get.tmp rfl) rfl (by (simp only [List.length_append, List.length_cons, List.length_nil]; omega)) (by (simp only [List.length_append, List.length_cons, List.length_nil]; omega)) (fun v93 => ?_)
      refine L.p1 rfl rfl rfl (spec_fieldAddr (f := 3) (off' := 3) rfl Tryz.underlying27 rfl Tryz.sizeOf24 (Get.tmp rfl) rfl) ?_
      refine L.factM 1 rfl osl_one fun hq => ?_
      haveI := One.val hq
      refine L.storeB (k := 0) (R := Rp.val v93) rfl rfl rfl Tryz.sizeOf24 (Get.tmp rfl) (Get.tmp rfl) rfl rfl ?_
      refine L.nil ?_
      refine N.blockNormal ?_
      refine N.thenW ?_
      refine W.region ?_
      refine L.mv rfl rfl rfl rfl rfl ?_
      first | refine L.op1 rfl rfl (GSpec.plain rfl (fit_i64 (by (first | omega | (have ht1 := tt_len m i [116] (by decide); have ht2 := tt_len m i [97] (by decide); simp only [digT, List.length_append, List.length_cons, List.length_nil]; omega) | (simp only [digT, List.length_append, List.length_cons, List.length_nil]; omega))) (by (first | omega | (have ht1 := tt_len m i [116] (by decide); have ht2 := tt_len m i [97] (by decide); simp only [digT, List.length_append, List.length_cons, List.length_nil]; omega) | (simp only [digT, List.length_append, List.length_cons, List.length_nil]; omega))) (spec_add rfl (Get.tmp rfl) (Get.cint rfl)))) ?_ | refine L.op1 rfl rfl (GSpec.plain rfl (spec_add rfl (Get.tmp rfl) (Get.cint rfl))) ?_
      refine L.as rfl rfl rfl rfl rfl ?_
      refine L.nil ?_
      refine N.roundK (i + 1, v93) ?hI3 ?hmu3 ?hs3 ?hk3 ?hp3
      case hs3 => exact (.cons (t := 7) rfl .nil)
      case hk3 => exact (.cons (t := 0) rfl (.cons (t := 1) rfl (.cons (t := 4) rfl (.cons (t := 5) rfl (.cons (t := 6) rfl .nil)))))
      case hp3 => exact (.cons 0 rfl (.cons 0 rfl (.cons 0 rfl .nil)))
      case hI3 => dsimp only; omega
      case hmu3 => dsimp only; omega
    · have ph2 := h2; try simp only [sbx] at ph2
      refine W.exit ?_
      refine N.thenExit ?_
      refine N.thenExit ?_
      refine N.blockExit ?_
      refine N.thenW ?_
      have hi : i = m := by omega
      subst hi
      refine W.pubBox (off := 3) 1 0 rfl rfl rfl (fun _ => rfl) ?_
      refine W.keep (.cons (t := 4) rfl (.cons (t := 5) rfl (.cons (t := 6) rfl .nil))) .refl ?_
      refine W.sr ?_
      refine L.p1 rfl rfl rfl (spec_loadW (k := 0) rfl Tryz.isAgg27 Tryz.sizeOf27 (Get.tmp rfl) rfl rfl) ?_
      refine L.storeW (k := 1) rfl rfl rfl Tryz.sizeOf27 (Get.tmp rfl) (Get.tmp rfl) rfl rfl rfl ?_
      refine L.p1 rfl rfl rfl (spec_assign rfl (Get.cint rfl)) ?_
      refine L.nt ?_
      refine W.ret ?_
      refine N.ret () rfl (.cellA (k := 1) (Get.tmp (t := 4) rfl) rfl Tryz.isAgg27 Tryz.sizeOf27 rfl (.tmp (t := 5) (Get.tmp rfl) .nil)) (res2w (eqA ?_) (eqI ?_)) .nil (fun _ _ h => h)
      all_goals first | rfl | exact (eD_cells _ _ _).symm

end Go.Proofs.YthlfacmpjehjmaaGreatDoor
set_option linter.unusedSimpArgs false
set_option maxRecDepth 8000
set_option linter.unusedVariables false
namespace Go.Proofs.YthlfacmpjehjmaaGreatDoor
open Go.Sim
theorem namesD_ok (d : Ds) (hs : Sm d) : CallT Tryz.prog 68 [Rp.agg (eD d)] [] (.one (Rp.slice eS (namesD d))) := by
  refine W.enter (fn := Tryz.f68) (n := 56) Tryz.func68 rfl Tryz.ntmps68 rfl (fun w₀ C₀ => ?_)
  simp only [argS]
  obtain ⟨hs1, hs2, hs3, hs4⟩ := hs
  refine W.sr ?_
  refine L.box rfl rfl (GSpec.plain rfl (spec_box rfl (GetC.agg (Get.tmp rfl)))) (fun r1 => ?_)
  refine L.p1 rfl rfl rfl (spec_assign rfl (Get.cnil (E := eS))) ?_
  refine L.nt ?_
  refine W.sr ?_
  refine L.p1 rfl rfl rfl (spec_assign rfl Get.cval) ?_
  refine L.nt ?_
  refine W.nil 9 1 eS ?_
  refine W.seq ?_
  refine W.sr ?_
  refine L.p1 rfl rfl rfl (spec_assign rfl (Get.cint rfl)) ?_
  refine L.nt ?_
  refine W.block ?_
  refine W.loopK (σ := Nat × Value) (.cons (t := 1) rfl (.cons (t := 2) rfl .nil)) (fun z => [(4, Rp.int .i64 (z.1 : Nat)), (3, Rp.val z.2)]) (fun z => [MF.osl z.2 9 1 eS ([] ++ (d.inputs.take z.1).map Pt.name)]) (fun z => z.1 ≤ d.inputs.length) (fun z => d.inputs.length - z.1) (0, .slice none 0 0) (Nat.zero_le _) (.cons (t := 4) rfl (.cons (t := 3) rfl .nil)) (by dsimp only; rw [show [] ++ (d.inputs.take 0).map Pt.name = [] from List.append_nil _]; exact (.cons 0 rfl (.cons 0 rfl .nil))) ?_
  intro ⟨i, vi⟩ hI S' M' hS hM
  try dsimp only at hS hM
  simp only [List.cons_append, List.nil_append] at hS hM
  subst hS hM
  try dsimp only
  try dsimp only at hI
  refine W.seq ?_
  refine W.sr ?_
  refine L.mv rfl rfl rfl rfl rfl ?_
  refine L.p1 rfl rfl rfl (spec_fieldAddr (f := 1) (off' := 1) rfl Tryz.underlying27 rfl Tryz.sizeOf22 (Get.tmp rfl) rfl) ?_
  refine L.p1 rfl rfl rfl (spec_load1 (k := 1) rfl Tryz.isAgg22 (Get.tmp rfl) rfl rfl) ?_
  refine L.p1 rfl rfl rfl (spec_len rfl Tryz.underlying22 (Get.tmp rfl)) ?_
  refine L.p1 rfl rfl rfl (spec_lss rfl (Get.tmp rfl) (Get.tmp rfl)) ?_
  refine L.nt ?_
  refine W.cond (Get.tmp rfl) (fun h1 => ?_) (fun h1 => ?_)
  · have ph1 := h1; try simp only [sbx] at ph1
    refine W.skip ?_
    refine N.thenW ?_
    refine W.seq ?_
    refine W.block ?_
    refine W.region ?_
    refine L.mv rfl rfl rfl rfl rfl ?_
    refine L.p1 rfl rfl rfl (spec_fieldAddr (f := 1) (off' := 1) rfl Tryz.underlying27 rfl Tryz.sizeOf22 (Get.tmp rfl) rfl) ?_
    refine L.p1 rfl rfl rfl (spec_load1 (k := 1) rfl Tryz.isAgg22 (Get.tmp rfl) rfl rfl) ?_
    refine L.mv rfl rfl rfl rfl rfl ?_
    refine L.p1 rfl rfl rfl (spec_indexAddrD (E := eP) rfl Tryz.underlying22 Tryz.sizeOf84 (fun _ => rfl) (Get.tmp rfl) (Get.tmp rfl) (by (first | omega | (simp only [Int.toNat_natCast]; omega)))) ?_
    refine L.p1 rfl rfl rfl (spec_fieldAddrP (f := 0) rfl Tryz.underlying84 rfl Tryz.sizeOf9 (Get.tmp rfl) rfl rfl) ?_
    refine L.p1 rfl rfl rfl (spec_loadP1 rfl Tryz.isAgg9 (Get.tmp rfl)) ?_
    refine L.p1 rfl rfl rfl (spec_buildSlice1 (y := Pt.name (d.inputs.getD i default)) (E := eS) rfl Tryz.underlying25 ti9 z9 (by decide) (GetC.one (Get.tmp rfl)) (fun _ => rfl)) ?_
    refine L.append (k := 0) (E := eS) rfl rfl rfl rfl Tryz.underlying25 ti9 rfl (by decide) (fun _ => rfl) (Get.tmp rfl) (Get.tmp rfl) rfl (by (simp only [List.length_append, List.length_map, List.length_take, List.length_cons, List.length_nil]; omega)) (by (simp only [List.length_append, List.length_map, List.length_take, List.length_cons, List.length_nil]; omega)) (fun v22 => ?_)
    refine L.as rfl rfl rfl rfl rfl ?_
    refine L.nil ?_
    refine N.blockNormal ?_
    refine N.thenW ?_
    refine W.region ?_
    refine L.mv rfl rfl rfl rfl rfl ?_
    first | refine L.op1 rfl rfl (GSpec.plain rfl (fit_i64 (by (first | omega | (simp only [Int.toNat_natCast]; omega))) (by (first | omega | (simp only [Int.toNat_natCast]; omega))) (spec_add rfl (Get.tmp rfl) (Get.cint rfl)))) ?_ | refine L.op1 rfl rfl (GSpec.plain rfl (spec_add rfl (Get.tmp rfl) (Get.cint rfl))) ?_
    refine L.as rfl rfl rfl rfl rfl ?_
    refine L.nil ?_
    refine N.roundK (i + 1, v22) ?hI1 ?hmu1 ?hs1 ?hk1 ?hp1
    case hs1 => exact (.cons (t := 4) rfl (.cons (t := 3) rfl .nil))
    case hk1 => exact (.cons (t := 1) rfl (.cons (t := 2) rfl .nil))
    case hp1 => dsimp only; rw [map_next Pt.name (show i < d.inputs.length by omega)]; exact (.cons 0 rfl (.cons 0 rfl .nil))
    case hI1 => dsimp only; omega
    case hmu1 => dsimp only; omega
  · have ph1 := h1; try simp only [sbx] at ph1
    refine W.exit ?_
    refine N.thenExit ?_
    refine N.thenExit ?_
    refine N.blockExit ?_
    refine N.thenW ?_
    have hi : i = d.inputs.length := by omega
    subst hi
    rw [List.take_length]
    refine W.keep (.cons (t := 1) rfl (.cons (t := 2) rfl (.cons (t := 3) rfl .nil))) .refl ?_
    refine W.seq ?_
    refine W.sr ?_
    refine L.p1 rfl rfl rfl (spec_assign rfl (Get.cint rfl)) ?_
    refine L.nt ?_
    refine W.block ?_
    refine W.loopK (σ := Nat × Value) (.cons (t := 1) rfl (.cons (t := 2) rfl .nil)) (fun z => [(5, Rp.int .i64 (z.1 : Nat)), (3, Rp.val z.2)]) (fun z => [MF.osl z.2 9 1 eS ([] ++ d.inputs.map Pt.name ++ (d.wires.take z.1).map Wr.name)]) (fun z => z.1 ≤ d.wires.length) (fun z => d.wires.length - z.1) (0, vi) (Nat.zero_le _) (.cons (t := 5) rfl (.cons (t := 3) rfl .nil)) (by dsimp only; rw [show [] ++ d.inputs.map Pt.name ++ (d.wires.take 0).map Wr.name = [] ++ d.inputs.map Pt.name from List.append_nil _]; exact (.cons 0 rfl (.cons 0 rfl .nil))) ?_
    intro ⟨j, vj⟩ hI S' M' hS hM
    try dsimp only at hS hM
    simp only [List.cons_append, List.nil_append] at hS hM
    subst hS hM
    try dsimp only
    try dsimp only at hI
    refine W.seq ?_
    refine W.sr ?_
    refine L.mv rfl rfl rfl rfl rfl ?_
    refine L.p1 rfl rfl rfl (spec_fieldAddr (f := 2) (off' := 2) rfl Tryz.underlying27 rfl Tryz.sizeOf23 (Get.tmp rfl) rfl) ?_
    refine L.p1 rfl rfl rfl (spec_load1 (k := 1) rfl Tryz.isAgg23 (Get.tmp rfl) rfl rfl) ?_
    refine L.p1 rfl rfl rfl (spec_len rfl Tryz.underlying23 (Get.tmp rfl)) ?_
    refine L.p1 rfl rfl rfl (spec_lss rfl (Get.tmp rfl) (Get.tmp rfl)) ?_
    refine L.nt ?_
    refine W.cond (Get.tmp rfl) (fun h2 => ?_) (fun h2 => ?_)
    · have ph2 := h2; try simp only [sbx] at ph2
      refine W.skip ?_
      refine N.thenW ?_
      refine W.seq ?_
      refine W.block ?_
      refine W.region ?_
      refine L.mv rfl rfl rfl rfl rfl ?_
      refine L.p1 rfl rfl rfl (spec_fieldAddr (f := 2) (off' := 2) rfl Tryz.underlying27 rfl Tryz.sizeOf23 (Get.tmp rfl) rfl) ?_
      refine L.p1 rfl rfl rfl (spec_load1 (k := 1) rfl Tryz.isAgg23 (Get.tmp rfl) rfl rfl) ?_
      refine L.mv rfl rfl rfl rfl rfl ?_
      refine L.p1 rfl rfl rfl (spec_indexAddrD (E := eWr) rfl Tryz.underlying23 Tryz.sizeOf77 (fun _ => rfl) (Get.tmp rfl) (Get.tmp rfl) (by (first | omega | (simp only [Int.toNat_natCast]; omega)))) ?_
      refine L.p1 rfl rfl rfl (spec_fieldAddrP (f := 0) rfl Tryz.underlying77 rfl Tryz.sizeOf9 (Get.tmp rfl) rfl rfl) ?_
      refine L.p1 rfl rfl rfl (spec_loadP1 rfl Tryz.isAgg9 (Get.tmp rfl)) ?_
      refine L.p1 rfl rfl rfl (spec_buildSlice1 (y := Wr.name (d.wires.getD j default)) (E := eS) rfl Tryz.underlying25 ti9 z9 (by decide) (GetC.one (Get.tmp rfl)) (fun _ => rfl)) ?_
      refine L.append (k := 0) (E := eS) rfl rfl rfl rfl Tryz.underlying25 ti9 rfl (by decide) (fun _ => rfl) (Get.tmp rfl) (Get.tmp rfl) rfl (by (simp only [List.length_append, List.length_map, List.length_take, List.length_cons, List.length_nil]; omega)) (by (simp only [List.length_append, List.length_map, List.length_take, List.length_cons, List.length_nil]; omega)) (fun v38 => ?_)
      refine L.as rfl rfl rfl rfl rfl ?_
      refine L.nil ?_
      refine N.blockNormal ?_
      refine N.thenW ?_
      refine W.region ?_
      refine L.mv rfl rfl rfl rfl rfl ?_
      first | refine L.op1 rfl rfl (GSpec.plain rfl (fit_i64 (by (first | omega | (simp only [Int.toNat_natCast]; omega))) (by (first | omega | (simp only [Int.toNat_natCast]; omega))) (spec_add rfl (Get.tmp rfl) (Get.cint rfl)))) ?_ | refine L.op1 rfl rfl (GSpec.plain rfl (spec_add rfl (Get.tmp rfl) (Get.cint rfl))) ?_
      refine L.as rfl rfl rfl rfl rfl ?_
      refine L.nil ?_
      refine N.roundK (j + 1, v38) ?hI2 ?hmu2 ?hs2 ?hk2 ?hp2
      case hs2 => exact (.cons (t := 5) rfl (.cons (t := 3) rfl .nil))
      case hk2 => exact (.cons (t := 1) rfl (.cons (t := 2) rfl .nil))
      case hp2 => dsimp only; rw [map_next Wr.name (show j < d.wires.length by omega)]; exact (.cons 0 rfl (.cons 0 rfl .nil))
      case hI2 => dsimp only; omega
      case hmu2 => dsimp only; omega
    · have ph2 := h2; try simp only [sbx] at ph2
      refine W.exit ?_
      refine N.thenExit ?_
      refine N.thenExit ?_
      refine N.blockExit ?_
      refine N.thenW ?_
      have hj : j = d.wires.length := by omega
      subst hj
      rw [List.take_length]
      refine W.keep (.cons (t := 1) rfl (.cons (t := 2) rfl (.cons (t := 3) rfl .nil))) .refl ?_
      refine W.seq ?_
      refine W.sr ?_
      refine L.p1 rfl rfl rfl (spec_assign rfl (Get.cint rfl)) ?_
      refine L.nt ?_
      refine W.block ?_
      refine W.loopK (σ := Nat × Value) (.cons (t := 1) rfl (.cons (t := 2) rfl .nil)) (fun z => [(6, Rp.int .i64 (z.1 : Nat)), (3, Rp.val z.2)]) (fun z => [MF.osl z.2 9 1 eS ([] ++ d.inputs.map Pt.name ++ d.wires.map Wr.name ++ (d.regs.take z.1).map Rg.name)]) (fun z => z.1 ≤ d.regs.length) (fun z => d.regs.length - z.1) (0, vj) (Nat.zero_le _) (.cons (t := 6) rfl (.cons (t := 3) rfl .nil)) (by dsimp only; rw [show [] ++ d.inputs.map Pt.name ++ d.wires.map Wr.name ++ (d.regs.take 0).map Rg.name = [] ++ d.inputs.map Pt.name ++ d.wires.map Wr.name from List.append_nil _]; exact (.cons 0 rfl (.cons 0 rfl .nil))) ?_
      intro ⟨k, vk⟩ hI S' M' hS hM
      try dsimp only at hS hM
      simp only [List.cons_append, List.nil_append] at hS hM
      subst hS hM
      try dsimp only
      try dsimp only at hI
      refine W.seq ?_
      refine W.sr ?_
      refine L.mv rfl rfl rfl rfl rfl ?_
      refine L.p1 rfl rfl rfl (spec_fieldAddr (f := 3) (off' := 3) rfl Tryz.underlying27 rfl Tryz.sizeOf24 (Get.tmp rfl) rfl) ?_
      refine L.p1 rfl rfl rfl (spec_load1 (k := 1) rfl Tryz.isAgg24 (Get.tmp rfl) rfl rfl) ?_
      refine L.p1 rfl rfl rfl (spec_len rfl Tryz.underlying24 (Get.tmp rfl)) ?_
      refine L.p1 rfl rfl rfl (spec_lss rfl (Get.tmp rfl) (Get.tmp rfl)) ?_
      refine L.nt ?_
      refine W.cond (Get.tmp rfl) (fun h3 => ?_) (fun h3 => ?_)
      · have ph3 := h3; try simp only [sbx] at ph3
        refine W.skip ?_
        refine N.thenW ?_
        refine W.seq ?_
        refine W.block ?_
        refine W.region ?_
        refine L.mv rfl rfl rfl rfl rfl ?_
        refine L.p1 rfl rfl rfl (spec_fieldAddr (f := 3) (off' := 3) rfl Tryz.underlying27 rfl Tryz.sizeOf24 (Get.tmp rfl) rfl) ?_
        refine L.p1 rfl rfl rfl (spec_load1 (k := 1) rfl Tryz.isAgg24 (Get.tmp rfl) rfl rfl) ?_
        refine L.mv rfl rfl rfl rfl rfl ?_
        refine L.p1 rfl rfl rfl (spec_indexAddrD (E := eRg) rfl Tryz.underlying24 Tryz.sizeOf81 (fun _ => rfl) (Get.tmp rfl) (Get.tmp rfl) (by (first | omega | (simp only [Int.toNat_natCast]; omega)))) ?_
        refine L.p1 rfl rfl rfl (spec_fieldAddrP (f := 0) rfl Tryz.underlying81 rfl Tryz.sizeOf9 (Get.tmp rfl) rfl rfl) ?_
        refine L.p1 rfl rfl rfl (spec_loadP1 rfl Tryz.isAgg9 (Get.tmp rfl)) ?_
        refine L.p1 rfl rfl rfl (spec_buildSlice1 (y := Rg.name (d.regs.getD k default)) (E := eS) rfl Tryz.underlying25 ti9 z9 (by decide) (GetC.one (Get.tmp rfl)) (fun _ => rfl)) ?_
        refine L.append (k := 0) (E := eS) rfl rfl rfl rfl Tryz.underlying25 ti9 rfl (by decide) (fun _ => rfl) (Get.tmp rfl) (Get.tmp rfl) rfl (by (simp only [List.length_append, List.length_map, List.length_take, List.length_cons, List.length_nil]; omega)) (by (simp only [List.length_append, List.length_map, List.length_take, List.length_cons, List.length_nil]; omega)) (fun v54 => ?_)
        refine L.as rfl rfl rfl rfl rfl ?_
        refine L.nil ?_
        refine N.blockNormal ?_
        refine N.thenW ?_
        refine W.region ?_
        refine L.mv rfl rfl rfl rfl rfl ?_
        first | refine L.op1 rfl rfl (GSpec.plain rfl (fit_i64 (by (first | omega | (simp only [Int.toNat_natCast]; omega))) (by (first | omega | (simp only [Int.toNat_natCast]; omega))) (spec_add rfl (Get.tmp rfl) (Get.cint rfl)))) ?_ | refine L.op1 rfl rfl (GSpec.plain rfl (spec_add rfl (Get.tmp rfl) (Get.cint rfl))) ?_
        refine L.as rfl rfl rfl rfl rfl ?_
        refine L.nil ?_
        refine N.roundK (k + 1, v54) ?hI3 ?hmu3 ?hs3 ?hk3 ?hp3
        case hs3 => exact (.cons (t := 6) rfl (.cons (t := 3) rfl .nil))
        case hk3 => exact (.cons (t := 1) rfl (.cons (t := 2) rfl .nil))
        case hp3 => dsimp only; rw [map_next Rg.name (show k < d.regs.length by omega)]; exact (.cons 0 rfl (.cons 0 rfl .nil))
        case hI3 => dsimp only; omega
        case hmu3 => dsimp only; omega
      · have ph3 := h3; try simp only [sbx] at ph3
        refine W.exit ?_
        refine N.thenExit ?_
        refine N.thenExit ?_
        refine N.blockExit ?_
        refine N.thenW ?_
        have hk : k = d.regs.length := by omega
        subst hk
        rw [List.take_length]
        refine W.pub (t := 3) (k := 0) rfl rfl (fun _ => rfl) ?_
        refine W.keep (.cons (t := 2) rfl (.cons (t := 3) rfl .nil)) .refl ?_
        refine W.sr ?_
        refine L.mv rfl rfl rfl rfl rfl ?_
        refine L.as rfl rfl rfl rfl rfl ?_
        refine L.nt ?_
        refine W.ret ?_
        refine N.ret () rfl (.tmp (t := 2) (Get.tmp rfl) .nil) (res1 (eqSl ?_)) .nil (fun _ _ h => h)
        unfold namesD; simp

theorem widthsD_ok (d : Ds) (hs : Sm d) : CallT Tryz.prog 81 [Rp.agg (eD d)] [] (.one (Rp.slice eI (widthsD d))) := by
  refine W.enter (fn := Tryz.f81) (n := 56) Tryz.func81 rfl Tryz.ntmps81 rfl (fun w₀ C₀ => ?_)
  simp only [argS]
  obtain ⟨hs1, hs2, hs3, hs4⟩ := hs
  refine W.sr ?_
  refine L.box rfl rfl (GSpec.plain rfl (spec_box rfl (GetC.agg (Get.tmp rfl)))) (fun r1 => ?_)
  refine L.p1 rfl rfl rfl (spec_assign rfl (Get.cnil (E := eI))) ?_
  refine L.nt ?_
  refine W.sr ?_
  refine L.p1 rfl rfl rfl (spec_assign rfl Get.cval) ?_
  refine L.nt ?_
  refine W.nil 3 1 eI ?_
  refine W.seq ?_
  refine W.sr ?_
  refine L.p1 rfl rfl rfl (spec_assign rfl (Get.cint rfl)) ?_
  refine L.nt ?_
  refine W.block ?_
  refine W.loopK (σ := Nat × Value) (.cons (t := 1) rfl (.cons (t := 2) rfl .nil)) (fun z => [(4, Rp.int .i64 (z.1 : Nat)), (3, Rp.val z.2)]) (fun z => [MF.osl z.2 3 1 eI ([] ++ (d.inputs.take z.1).map Pt.width)]) (fun z => z.1 ≤ d.inputs.length) (fun z => d.inputs.length - z.1) (0, .slice none 0 0) (Nat.zero_le _) (.cons (t := 4) rfl (.cons (t := 3) rfl .nil)) (by dsimp only; rw [show [] ++ (d.inputs.take 0).map Pt.width = [] from List.append_nil _]; exact (.cons 0 rfl (.cons 0 rfl .nil))) ?_
  intro ⟨i, vi⟩ hI S' M' hS hM
  try dsimp only at hS hM
  simp only [List.cons_append, List.nil_append] at hS hM
  subst hS hM
  try dsimp only
  try dsimp only at hI
  refine W.seq ?_
  refine W.sr ?_
  refine L.mv rfl rfl rfl rfl rfl ?_
  refine L.p1 rfl rfl rfl (spec_fieldAddr (f := 1) (off' := 1) rfl Tryz.underlying27 rfl Tryz.sizeOf22 (Get.tmp rfl) rfl) ?_
  refine L.p1 rfl rfl rfl (spec_load1 (k := 1) rfl Tryz.isAgg22 (Get.tmp rfl) rfl rfl) ?_
  refine L.p1 rfl rfl rfl (spec_len rfl Tryz.underlying22 (Get.tmp rfl)) ?_
  refine L.p1 rfl rfl rfl (spec_lss rfl (Get.tmp rfl) (Get.tmp rfl)) ?_
  refine L.nt ?_
  refine W.cond (Get.tmp rfl) (fun h1 => ?_) (fun h1 => ?_)
  · have ph1 := h1; try simp only [sbx] at ph1
    refine W.skip ?_
    refine N.thenW ?_
    refine W.seq ?_
    refine W.block ?_
    refine W.region ?_
    refine L.mv rfl rfl rfl rfl rfl ?_
    refine L.p1 rfl rfl rfl (spec_fieldAddr (f := 1) (off' := 1) rfl Tryz.underlying27 rfl Tryz.sizeOf22 (Get.tmp rfl) rfl) ?_
    refine L.p1 rfl rfl rfl (spec_load1 (k := 1) rfl Tryz.isAgg22 (Get.tmp rfl) rfl rfl) ?_
    refine L.mv rfl rfl rfl rfl rfl ?_
    refine L.p1 rfl rfl rfl (spec_indexAddrD (E := eP) rfl Tryz.underlying22 Tryz.sizeOf84 (fun _ => rfl) (Get.tmp rfl) (Get.tmp rfl) (by (first | omega | (simp only [Int.toNat_natCast]; omega)))) ?_
    refine L.p1 rfl rfl rfl (spec_fieldAddrP (f := 1) rfl Tryz.underlying84 rfl Tryz.sizeOf3 (Get.tmp rfl) rfl rfl) ?_
    refine L.p1 rfl rfl rfl (spec_loadP1 rfl Tryz.isAgg3 (Get.tmp rfl)) ?_
    refine L.p1 rfl rfl rfl (spec_buildSlice1 (y := Pt.width (d.inputs.getD i default)) (E := eI) rfl Tryz.underlying92 ti3 z3 (by decide) (GetC.one (Get.tmp rfl)) (fun _ => rfl)) ?_
    refine L.append (k := 0) (E := eI) rfl rfl rfl rfl Tryz.underlying92 ti3 rfl (by decide) (fun _ => rfl) (Get.tmp rfl) (Get.tmp rfl) rfl (by (simp only [List.length_append, List.length_map, List.length_take, List.length_cons, List.length_nil]; omega)) (by (simp only [List.length_append, List.length_map, List.length_take, List.length_cons, List.length_nil]; omega)) (fun v22 => ?_)
    refine L.as rfl rfl rfl rfl rfl ?_
    refine L.nil ?_
    refine N.blockNormal ?_
    refine N.thenW ?_
    refine W.region ?_
    refine L.mv rfl rfl rfl rfl rfl ?_
    first | refine L.op1 rfl rfl (GSpec.plain rfl (fit_i64 (by (first | omega | (simp only [Int.toNat_natCast]; omega))) (by (first | omega | (simp only [Int.toNat_natCast]; omega))) (spec_add rfl (Get.tmp rfl) (Get.cint rfl)))) ?_ | refine L.op1 rfl rfl (GSpec.plain rfl (spec_add rfl (Get.tmp rfl) (Get.cint rfl))) ?_
    refine L.as rfl rfl rfl rfl rfl ?_
    refine L.nil ?_
    refine N.roundK (i + 1, v22) ?hI4 ?hmu4 ?hs4 ?hk4 ?hp4
    case hs4 => exact (.cons (t := 4) rfl (.cons (t := 3) rfl .nil))
    case hk4 => exact (.cons (t := 1) rfl (.cons (t := 2) rfl .nil))
    case hp4 => dsimp only; rw [map_next Pt.width (show i < d.inputs.length by omega)]; exact (.cons 0 rfl (.cons 0 rfl .nil))
    case hI4 => dsimp only; omega
    case hmu4 => dsimp only; omega
  · have ph1 := h1; try simp only [sbx] at ph1
    refine W.exit ?_
    refine N.thenExit ?_
    refine N.thenExit ?_
    refine N.blockExit ?_
    refine N.thenW ?_
    have hi : i = d.inputs.length := by omega
    subst hi
    rw [List.take_length]
    refine W.keep (.cons (t := 1) rfl (.cons (t := 2) rfl (.cons (t := 3) rfl .nil))) .refl ?_
    refine W.seq ?_
    refine W.sr ?_
    refine L.p1 rfl rfl rfl (spec_assign rfl (Get.cint rfl)) ?_
    refine L.nt ?_
    refine W.block ?_
    refine W.loopK (σ := Nat × Value) (.cons (t := 1) rfl (.cons (t := 2) rfl .nil)) (fun z => [(5, Rp.int .i64 (z.1 : Nat)), (3, Rp.val z.2)]) (fun z => [MF.osl z.2 3 1 eI ([] ++ d.inputs.map Pt.width ++ (d.wires.take z.1).map Wr.width)]) (fun z => z.1 ≤ d.wires.length) (fun z => d.wires.length - z.1) (0, vi) (Nat.zero_le _) (.cons (t := 5) rfl (.cons (t := 3) rfl .nil)) (by dsimp only; rw [show [] ++ d.inputs.map Pt.width ++ (d.wires.take 0).map Wr.width = [] ++ d.inputs.map Pt.width from List.append_nil _]; exact (.cons 0 rfl (.cons 0 rfl .nil))) ?_
    intro ⟨j, vj⟩ hI S' M' hS hM
    try dsimp only at hS hM
    simp only [List.cons_append, List.nil_append] at hS hM
    subst hS hM
    try dsimp only
    try dsimp only at hI
    refine W.seq ?_
    refine W.sr ?_
    refine L.mv rfl rfl rfl rfl rfl ?_
    refine L.p1 rfl rfl rfl (spec_fieldAddr (f := 2) (off' := 2) rfl Tryz.underlying27 rfl Tryz.sizeOf23 (Get.tmp rfl) rfl) ?_
    refine L.p1 rfl rfl rfl (spec_load1 (k := 1) rfl Tryz.isAgg23 (Get.tmp rfl) rfl rfl) ?_
    refine L.p1 rfl rfl rfl (spec_len rfl Tryz.underlying23 (Get.tmp rfl)) ?_
    refine L.p1 rfl rfl rfl (spec_lss rfl (Get.tmp rfl) (Get.tmp rfl)) ?_
    refine L.nt ?_
    refine W.cond (Get.tmp rfl) (fun h2 => ?_) (fun h2 => ?_)
    · have ph2 := h2; try simp only [sbx] at ph2
      refine W.skip ?_
      refine N.thenW ?_
      refine W.seq ?_
      refine W.block ?_
      refine W.region ?_
      refine L.mv rfl rfl rfl rfl rfl ?_
      refine L.p1 rfl rfl rfl (spec_fieldAddr (f := 2) (off' := 2) rfl Tryz.underlying27 rfl Tryz.sizeOf23 (Get.tmp rfl) rfl) ?_
      refine L.p1 rfl rfl rfl (spec_load1 (k := 1) rfl Tryz.isAgg23 (Get.tmp rfl) rfl rfl) ?_
      refine L.mv rfl rfl rfl rfl rfl ?_
      refine L.p1 rfl rfl rfl (spec_indexAddrD (E := eWr) rfl Tryz.underlying23 Tryz.sizeOf77 (fun _ => rfl) (Get.tmp rfl) (Get.tmp rfl) (by (first | omega | (simp only [Int.toNat_natCast]; omega)))) ?_
      refine L.p1 rfl rfl rfl (spec_fieldAddrP (f := 1) rfl Tryz.underlying77 rfl Tryz.sizeOf3 (Get.tmp rfl) rfl rfl) ?_
      refine L.p1 rfl rfl rfl (spec_loadP1 rfl Tryz.isAgg3 (Get.tmp rfl)) ?_
      refine L.p1 rfl rfl rfl (spec_buildSlice1 (y := Wr.width (d.wires.getD j default)) (E := eI) rfl Tryz.underlying92 ti3 z3 (by decide) (GetC.one (Get.tmp rfl)) (fun _ => rfl)) ?_
      refine L.append (k := 0) (E := eI) rfl rfl rfl rfl Tryz.underlying92 ti3 rfl (by decide) (fun _ => rfl) (Get.tmp rfl) (Get.tmp rfl) rfl (by (simp only [List.length_append, List.length_map, List.length_take, List.length_cons, List.length_nil]; omega)) (by (simp only [List.length_append, List.length_map, List.length_take, List.length_cons, List.length_nil]; omega)) (fun v38 => ?_)
      refine L.as rfl rfl rfl rfl rfl ?_
      refine L.nil ?_
      refine N.blockNormal ?_
      refine N.thenW ?_
      refine W.region ?_
      refine L.mv rfl rfl rfl rfl rfl ?_
      first | refine L.op1 rfl rfl (GSpec.plain rfl (fit_i64 (by (first | omega | (simp only [Int.toNat_natCast]; omega))) (by (first | omega | (simp only [Int.toNat_natCast]; omega))) (spec_add rfl (Get.tmp rfl) (Get.cint rfl)))) ?_ | refine L.op1 rfl rfl (GSpec.plain rfl (spec_add rfl (Get.tmp rfl) (Get.cint rfl))) ?_
      refine L.as rfl rfl rfl rfl rfl ?_
      refine L.nil ?_
      refine N.roundK (j + 1, v38) ?hI5 ?hmu5 ?hs5 ?hk5 ?hp5
      case hs5 => exact (.cons (t := 5) rfl (.cons (t := 3) rfl .nil))
      case hk5 => exact (.cons (t := 1) rfl (.cons (t := 2) rfl .nil))
      case hp5 => dsimp only; rw [map_next Wr.width (show j < d.wires.length by omega)]; exact (.cons 0 rfl (.cons 0 rfl .nil))
      case hI5 => dsimp only; omega
      case hmu5 => dsimp only; omega
    · have ph2 := h2; try simp only [sbx] at ph2
      refine W.exit ?_
      refine N.thenExit ?_
      refine N.thenExit ?_
      refine N.blockExit ?_
      refine N.thenW ?_
      have hj : j = d.wires.length := by omega
      subst hj
      rw [List.take_length]
      refine W.keep (.cons (t := 1) rfl (.cons (t := 2) rfl (.cons (t := 3) rfl .nil))) .refl ?_
      refine W.seq ?_
      refine W.sr ?_
      refine L.p1 rfl rfl rfl (spec_assign rfl (Get.cint rfl)) ?_
      refine L.nt ?_
      refine W.block ?_
      refine W.loopK (σ := Nat × Value) (.cons (t := 1) rfl (.cons (t := 2) rfl .nil)) (fun z => [(6, Rp.int .i64 (z.1 : Nat)), (3, Rp.val z.2)]) (fun z => [MF.osl z.2 3 1 eI ([] ++ d.inputs.map Pt.width ++ d.wires.map Wr.width ++ (d.regs.take z.1).map Rg.width)]) (fun z => z.1 ≤ d.regs.length) (fun z => d.regs.length - z.1) (0, vj) (Nat.zero_le _) (.cons (t := 6) rfl (.cons (t := 3) rfl .nil)) (by dsimp only; rw [show [] ++ d.inputs.map Pt.width ++ d.wires.map Wr.width ++ (d.regs.take 0).map Rg.width = [] ++ d.inputs.map Pt.width ++ d.wires.map Wr.width from List.append_nil _]; exact (.cons 0 rfl (.cons 0 rfl .nil))) ?_
      intro ⟨k, vk⟩ hI S' M' hS hM
      try dsimp only at hS hM
      simp only [List.cons_append, List.nil_append] at hS hM
      subst hS hM
      try dsimp only
      try dsimp only at hI
      refine W.seq ?_
      refine W.sr ?_
      refine L.mv rfl rfl rfl rfl rfl ?_
      refine L.p1 rfl rfl rfl (spec_fieldAddr (f := 3) (off' := 3) rfl Tryz.underlying27 rfl Tryz.sizeOf24 (Get.tmp rfl) rfl) ?_
      refine L.p1 rfl rfl rfl (spec_load1 (k := 1) rfl Tryz.isAgg24 (Get.tmp rfl) rfl rfl) ?_
      refine L.p1 rfl rfl rfl (spec_len rfl Tryz.underlying24 (Get.tmp rfl)) ?_
      refine L.p1 rfl rfl rfl (spec_lss rfl (Get.tmp rfl) (Get.tmp rfl)) ?_
      refine L.nt ?_
      refine W.cond (Get.tmp rfl) (fun h3 => ?_) (fun h3 => ?_)
      · have ph3 := h3; try simp only [sbx] at ph3
        refine W.skip ?_
        refine N.thenW ?_
        refine W.seq ?_
        refine W.block ?_
        refine W.region ?_
        refine L.mv rfl rfl rfl rfl rfl ?_
        refine L.p1 rfl rfl rfl (spec_fieldAddr (f := 3) (off' := 3) rfl Tryz.underlying27 rfl Tryz.sizeOf24 (Get.tmp rfl) rfl) ?_
        refine L.p1 rfl rfl rfl (spec_load1 (k := 1) rfl Tryz.isAgg24 (Get.tmp rfl) rfl rfl) ?_
        refine L.mv rfl rfl rfl rfl rfl ?_
        refine L.p1 rfl rfl rfl (spec_indexAddrD (E := eRg) rfl Tryz.underlying24 Tryz.sizeOf81 (fun _ => rfl) (Get.tmp rfl) (Get.tmp rfl) (by (first | omega | (simp only [Int.toNat_natCast]; omega)))) ?_
        refine L.p1 rfl rfl rfl (spec_fieldAddrP (f := 1) rfl Tryz.underlying81 rfl Tryz.sizeOf3 (Get.tmp rfl) rfl rfl) ?_
        refine L.p1 rfl rfl rfl (spec_loadP1 rfl Tryz.isAgg3 (Get.tmp rfl)) ?_
        refine L.p1 rfl rfl rfl (spec_buildSlice1 (y := Rg.width (d.regs.getD k default)) (E := eI) rfl Tryz.underlying92 ti3 z3 (by decide) (GetC.one (Get.tmp rfl)) (fun _ => rfl)) ?_
        refine L.append (k := 0) (E := eI) rfl rfl rfl rfl Tryz.underlying92 ti3 rfl (by decide) (fun _ => rfl) (Get.tmp rfl) (Get.tmp rfl) rfl (by (simp only [List.length_append, List.length_map, List.length_take, List.length_cons, List.length_nil]; omega)) (by (simp only [List.length_append, List.length_map, List.length_take, List.length_cons, List.length_nil]; omega)) (fun v54 => ?_)
        refine L.as rfl rfl rfl rfl rfl ?_
        refine L.nil ?_
        refine N.blockNormal ?_
        refine N.thenW ?_
        refine W.region ?_
        refine L.mv rfl rfl rfl rfl rfl ?_
        first | refine L.op1 rfl rfl (GSpec.plain rfl (fit_i64 (by (first | omega | (simp only [Int.toNat_natCast]; omega))) (by (first | omega | (simp only [Int.toNat_natCast]; omega))) (spec_add rfl (Get.tmp rfl) (Get.cint rfl)))) ?_ | refine L.op1 rfl rfl (GSpec.plain rfl (spec_add rfl (Get.tmp rfl) (Get.cint rfl))) ?_
        refine L.as rfl rfl rfl rfl rfl ?_
        refine L.nil ?_
        refine N.roundK (k + 1, v54) ?hI6 ?hmu6 ?hs6 ?hk6 ?hp6
        case hs6 => exact (.cons (t := 6) rfl (.cons (t := 3) rfl .nil))
        case hk6 => exact (.cons (t := 1) rfl (.cons (t := 2) rfl .nil))
        case hp6 => dsimp only; rw [map_next Rg.width (show k < d.regs.length by omega)]; exact (.cons 0 rfl (.cons 0 rfl .nil))
        case hI6 => dsimp only; omega
        case hmu6 => dsimp only; omega
      · have ph3 := h3; try simp only [sbx] at ph3
        refine W.exit ?_
        refine N.thenExit ?_
        refine N.thenExit ?_
        refine N.blockExit ?_
        refine N.thenW ?_
        have hk : k = d.regs.length := by omega
        subst hk
        rw [List.take_length]
        refine W.pub (t := 3) (k := 0) rfl rfl (fun _ => rfl) ?_
        refine W.keep (.cons (t := 2) rfl (.cons (t := 3) rfl .nil)) .refl ?_
        refine W.sr ?_
        refine L.mv rfl rfl rfl rfl rfl ?_
        refine L.as rfl rfl rfl rfl rfl ?_
        refine L.nt ?_
        refine W.ret ?_
        refine N.ret () rfl (.tmp (t := 2) (Get.tmp rfl) .nil) (res1 (eqSl ?_)) .nil (fun _ _ h => h)
        unfold widthsD; simp

theorem exprsD_ok (d : Ds) (hs : Sm d) : CallT Tryz.prog 82 [Rp.agg (eD d)] [] (.one (Rp.slice eX (exprsD d))) := by
  refine W.enter (fn := Tryz.f82) (n := 39) Tryz.func82 rfl Tryz.ntmps82 rfl (fun w₀ C₀ => ?_)
  simp only [argS]
  obtain ⟨hs1, hs2, hs3, hs4⟩ := hs
  refine W.sr ?_
  refine L.box rfl rfl (GSpec.plain rfl (spec_box rfl (GetC.agg (Get.tmp rfl)))) (fun r1 => ?_)
  refine L.p1 rfl rfl rfl (spec_assign rfl (Get.cnil (E := eX))) ?_
  refine L.nt ?_
  refine W.sr ?_
  refine L.p1 rfl rfl rfl (spec_assign rfl Get.cval) ?_
  refine L.nt ?_
  refine W.nil 66 4 eX ?_
  refine W.seq ?_
  refine W.sr ?_
  refine L.p1 rfl rfl rfl (spec_assign rfl (Get.cint rfl)) ?_
  refine L.nt ?_
  refine W.block ?_
  refine W.loopK (σ := Nat × Value) (.cons (t := 1) rfl (.cons (t := 2) rfl .nil)) (fun z => [(4, Rp.int .i64 (z.1 : Nat)), (3, Rp.val z.2)]) (fun z => [MF.osl z.2 66 4 eX ([] ++ (d.wires.take z.1).map Wr.expr)]) (fun z => z.1 ≤ d.wires.length) (fun z => d.wires.length - z.1) (0, .slice none 0 0) (Nat.zero_le _) (.cons (t := 4) rfl (.cons (t := 3) rfl .nil)) (by dsimp only; rw [show [] ++ (d.wires.take 0).map Wr.expr = [] from List.append_nil _]; exact (.cons 0 rfl (.cons 0 rfl .nil))) ?_
  intro ⟨i, vi⟩ hI S' M' hS hM
  try dsimp only at hS hM
  simp only [List.cons_append, List.nil_append] at hS hM
  subst hS hM
  try dsimp only
  try dsimp only at hI
  refine W.seq ?_
  refine W.sr ?_
  refine L.mv rfl rfl rfl rfl rfl ?_
  refine L.p1 rfl rfl rfl (spec_fieldAddr (f := 2) (off' := 2) rfl Tryz.underlying27 rfl Tryz.sizeOf23 (Get.tmp rfl) rfl) ?_
  refine L.p1 rfl rfl rfl (spec_load1 (k := 1) rfl Tryz.isAgg23 (Get.tmp rfl) rfl rfl) ?_
  refine L.p1 rfl rfl rfl (spec_len rfl Tryz.underlying23 (Get.tmp rfl)) ?_
  refine L.p1 rfl rfl rfl (spec_lss rfl (Get.tmp rfl) (Get.tmp rfl)) ?_
  refine L.nt ?_
  refine W.cond (Get.tmp rfl) (fun h1 => ?_) (fun h1 => ?_)
  · have ph1 := h1; try simp only [sbx] at ph1
    refine W.skip ?_
    refine N.thenW ?_
    refine W.seq ?_
    refine W.block ?_
    refine W.region ?_
    refine L.mv rfl rfl rfl rfl rfl ?_
    refine L.p1 rfl rfl rfl (spec_fieldAddr (f := 2) (off' := 2) rfl Tryz.underlying27 rfl Tryz.sizeOf23 (Get.tmp rfl) rfl) ?_
    refine L.p1 rfl rfl rfl (spec_load1 (k := 1) rfl Tryz.isAgg23 (Get.tmp rfl) rfl rfl) ?_
    refine L.mv rfl rfl rfl rfl rfl ?_
    refine L.p1 rfl rfl rfl (spec_indexAddrD (E := eWr) rfl Tryz.underlying23 Tryz.sizeOf77 (fun _ => rfl) (Get.tmp rfl) (Get.tmp rfl) (by (first | omega | (simp only [Int.toNat_natCast]; omega)))) ?_
    refine L.p1 rfl rfl rfl (spec_fieldAddrP (f := 2) rfl Tryz.underlying77 rfl Tryz.sizeOf66 (Get.tmp rfl) rfl rfl) ?_
    refine L.p1 rfl rfl rfl (spec_loadPA rfl Tryz.isAgg66 Tryz.sizeOf66 (Get.tmp rfl) rfl) ?_
    refine L.p1 rfl rfl rfl (spec_buildSlice1 (y := Wr.expr (d.wires.getD i default)) (E := eX) rfl Tryz.underlying64 ti66 z66 (by decide) (GetC.agg (Get.tmp rfl)) (fun _ => rfl)) ?_
    refine L.append (k := 0) (E := eX) rfl rfl rfl rfl Tryz.underlying64 ti66 rfl (by decide) (fun _ => rfl) (Get.tmp rfl) (Get.tmp rfl) rfl (by (simp only [List.length_append, List.length_map, List.length_take, List.length_cons, List.length_nil]; omega)) (by (simp only [List.length_append, List.length_map, List.length_take, List.length_cons, List.length_nil]; omega)) (fun v21 => ?_)
    refine L.as rfl rfl rfl rfl rfl ?_
    refine L.nil ?_
    refine N.blockNormal ?_
    refine N.thenW ?_
    refine W.region ?_
    refine L.mv rfl rfl rfl rfl rfl ?_
    first | refine L.op1 rfl rfl (GSpec.plain rfl (fit_i64 (by (first | omega | (simp only [Int.toNat_natCast]; omega))) (by (first | omega | (simp only [Int.toNat_natCast]; omega))) (spec_add rfl (Get.tmp rfl) (Get.cint rfl)))) ?_ | refine L.op1 rfl rfl (GSpec.plain rfl (spec_add rfl (Get.tmp rfl) (Get.cint rfl))) ?_
    refine L.as rfl rfl rfl rfl rfl ?_
    refine L.nil ?_
    refine N.roundK (i + 1, v21) ?hI7 ?hmu7 ?hs7 ?hk7 ?hp7
    case hs7 => exact (.cons (t := 4) rfl (.cons (t := 3) rfl .nil))
    case hk7 => exact (.cons (t := 1) rfl (.cons (t := 2) rfl .nil))
    case hp7 => dsimp only; rw [map_next Wr.expr (show i < d.wires.length by omega)]; exact (.cons 0 rfl (.cons 0 rfl .nil))
    case hI7 => dsimp only; omega
    case hmu7 => dsimp only; omega
  · have ph1 := h1; try simp only [sbx] at ph1
    refine W.exit ?_
    refine N.thenExit ?_
    refine N.thenExit ?_
    refine N.blockExit ?_
    refine N.thenW ?_
    have hi : i = d.wires.length := by omega
    subst hi
    rw [List.take_length]
    refine W.keep (.cons (t := 1) rfl (.cons (t := 2) rfl (.cons (t := 3) rfl .nil))) .refl ?_
    refine W.seq ?_
    refine W.sr ?_
    refine L.p1 rfl rfl rfl (spec_assign rfl (Get.cint rfl)) ?_
    refine L.nt ?_
    refine W.block ?_
    refine W.loopK (σ := Nat × Value) (.cons (t := 1) rfl (.cons (t := 2) rfl .nil)) (fun z => [(5, Rp.int .i64 (z.1 : Nat)), (3, Rp.val z.2)]) (fun z => [MF.osl z.2 66 4 eX ([] ++ d.wires.map Wr.expr ++ (d.regs.take z.1).map Rg.next)]) (fun z => z.1 ≤ d.regs.length) (fun z => d.regs.length - z.1) (0, vi) (Nat.zero_le _) (.cons (t := 5) rfl (.cons (t := 3) rfl .nil)) (by dsimp only; rw [show [] ++ d.wires.map Wr.expr ++ (d.regs.take 0).map Rg.next = [] ++ d.wires.map Wr.expr from List.append_nil _]; exact (.cons 0 rfl (.cons 0 rfl .nil))) ?_
    intro ⟨j, vj⟩ hI S' M' hS hM
    try dsimp only at hS hM
    simp only [List.cons_append, List.nil_append] at hS hM
    subst hS hM
    try dsimp only
    try dsimp only at hI
    refine W.seq ?_
    refine W.sr ?_
    refine L.mv rfl rfl rfl rfl rfl ?_
    refine L.p1 rfl rfl rfl (spec_fieldAddr (f := 3) (off' := 3) rfl Tryz.underlying27 rfl Tryz.sizeOf24 (Get.tmp rfl) rfl) ?_
    refine L.p1 rfl rfl rfl (spec_load1 (k := 1) rfl Tryz.isAgg24 (Get.tmp rfl) rfl rfl) ?_
    refine L.p1 rfl rfl rfl (spec_len rfl Tryz.underlying24 (Get.tmp rfl)) ?_
    refine L.p1 rfl rfl rfl (spec_lss rfl (Get.tmp rfl) (Get.tmp rfl)) ?_
    refine L.nt ?_
    refine W.cond (Get.tmp rfl) (fun h2 => ?_) (fun h2 => ?_)
    · have ph2 := h2; try simp only [sbx] at ph2
      refine W.skip ?_
      refine N.thenW ?_
      refine W.seq ?_
      refine W.block ?_
      refine W.region ?_
      refine L.mv rfl rfl rfl rfl rfl ?_
      refine L.p1 rfl rfl rfl (spec_fieldAddr (f := 3) (off' := 3) rfl Tryz.underlying27 rfl Tryz.sizeOf24 (Get.tmp rfl) rfl) ?_
      refine L.p1 rfl rfl rfl (spec_load1 (k := 1) rfl Tryz.isAgg24 (Get.tmp rfl) rfl rfl) ?_
      refine L.mv rfl rfl rfl rfl rfl ?_
      refine L.p1 rfl rfl rfl (spec_indexAddrD (E := eRg) rfl Tryz.underlying24 Tryz.sizeOf81 (fun _ => rfl) (Get.tmp rfl) (Get.tmp rfl) (by (first | omega | (simp only [Int.toNat_natCast]; omega)))) ?_
      refine L.p1 rfl rfl rfl (spec_fieldAddrP (f := 3) rfl Tryz.underlying81 rfl Tryz.sizeOf66 (Get.tmp rfl) rfl rfl) ?_
      refine L.p1 rfl rfl rfl (spec_loadPA rfl Tryz.isAgg66 Tryz.sizeOf66 (Get.tmp rfl) rfl) ?_
      refine L.p1 rfl rfl rfl (spec_buildSlice1 (y := Rg.next (d.regs.getD j default)) (E := eX) rfl Tryz.underlying64 ti66 z66 (by decide) (GetC.agg (Get.tmp rfl)) (fun _ => rfl)) ?_
      refine L.append (k := 0) (E := eX) rfl rfl rfl rfl Tryz.underlying64 ti66 rfl (by decide) (fun _ => rfl) (Get.tmp rfl) (Get.tmp rfl) rfl (by (simp only [List.length_append, List.length_map, List.length_take, List.length_cons, List.length_nil]; omega)) (by (simp only [List.length_append, List.length_map, List.length_take, List.length_cons, List.length_nil]; omega)) (fun v37 => ?_)
      refine L.as rfl rfl rfl rfl rfl ?_
      refine L.nil ?_
      refine N.blockNormal ?_
      refine N.thenW ?_
      refine W.region ?_
      refine L.mv rfl rfl rfl rfl rfl ?_
      first | refine L.op1 rfl rfl (GSpec.plain rfl (fit_i64 (by (first | omega | (simp only [Int.toNat_natCast]; omega))) (by (first | omega | (simp only [Int.toNat_natCast]; omega))) (spec_add rfl (Get.tmp rfl) (Get.cint rfl)))) ?_ | refine L.op1 rfl rfl (GSpec.plain rfl (spec_add rfl (Get.tmp rfl) (Get.cint rfl))) ?_
      refine L.as rfl rfl rfl rfl rfl ?_
      refine L.nil ?_
      refine N.roundK (j + 1, v37) ?hI8 ?hmu8 ?hs8 ?hk8 ?hp8
      case hs8 => exact (.cons (t := 5) rfl (.cons (t := 3) rfl .nil))
      case hk8 => exact (.cons (t := 1) rfl (.cons (t := 2) rfl .nil))
      case hp8 => dsimp only; rw [map_next Rg.next (show j < d.regs.length by omega)]; exact (.cons 0 rfl (.cons 0 rfl .nil))
      case hI8 => dsimp only; omega
      case hmu8 => dsimp only; omega
    · have ph2 := h2; try simp only [sbx] at ph2
      refine W.exit ?_
      refine N.thenExit ?_
      refine N.thenExit ?_
      refine N.blockExit ?_
      refine N.thenW ?_
      have hj : j = d.regs.length := by omega
      subst hj
      rw [List.take_length]
      refine W.pub (t := 3) (k := 0) rfl rfl (fun _ => rfl) ?_
      refine W.keep (.cons (t := 2) rfl (.cons (t := 3) rfl .nil)) .refl ?_
      refine W.sr ?_
      refine L.mv rfl rfl rfl rfl rfl ?_
      refine L.as rfl rfl rfl rfl rfl ?_
      refine L.nt ?_
      refine W.ret ?_
      refine N.ret () rfl (.tmp (t := 2) (Get.tmp rfl) .nil) (res1 (eqSl ?_)) .nil (fun _ _ h => h)
      unfold exprsD; simp

theorem index_ok (l : List (List UInt8)) (s : List UInt8) : CallT Tryz.prog 67 [Rp.slice eS l, Rp.str s] [] (.one (Rp.int .i64 (indexE l s))) := by
  refine W.enter (fn := Tryz.f67) (n := 19) Tryz.func67 rfl Tryz.ntmps67 rfl (fun w₀ C₀ => ?_)
  simp only [argS]
  refine W.fact 0 rfl slice_fact fun hl => ?_
  refine W.sr ?_
  refine L.p1 rfl rfl rfl (spec_assign rfl (Get.cint rfl)) ?_
  refine L.nt ?_
  refine W.seq ?_
  refine W.sr ?_
  refine L.p1 rfl rfl rfl (spec_assign rfl (Get.cint rfl)) ?_
  refine L.nt ?_
  refine W.block ?_
  refine W.loopK (σ := Nat) (.cons (t := 0) rfl (.cons (t := 1) rfl .nil)) (fun z => [(5, Rp.int .i64 (z : Nat))]) (fun z => []) (fun z => z ≤ l.length ∧ ∀ j : Nat, j < z → (l.getD j default == s) = false) (fun z => l.length - z) 0 ⟨Nat.zero_le _, fun j hj => by omega⟩ (.cons (t := 5) rfl .nil) .nil ?_
  intro i hI S' M' hS hM
  obtain ⟨hI1, hI2⟩ := hI
  try dsimp only at hS hM
  simp only [List.cons_append, List.nil_append] at hS hM
  subst hS hM
  try dsimp only
  refine W.seq ?_
  refine W.sr ?_
  refine L.mv rfl rfl rfl rfl rfl ?_
  refine L.mv rfl rfl rfl rfl rfl ?_
  refine L.p1 rfl rfl rfl (spec_len rfl Tryz.underlying25 (Get.tmp rfl)) ?_
  refine L.p1 rfl rfl rfl (spec_lss rfl (Get.tmp rfl) (Get.tmp rfl)) ?_
  refine L.nt ?_
  refine W.cond (Get.tmp rfl) (fun h1 => ?_) (fun h1 => ?_)
  · have ph1 := h1; try simp only [sbx] at ph1
    refine W.skip ?_
    refine N.thenW ?_
    refine W.seq ?_
    refine W.block ?_
    refine W.sr ?_
    refine L.mv rfl rfl rfl rfl rfl ?_
    refine L.mv rfl rfl rfl rfl rfl ?_
    refine L.p1 rfl rfl rfl (spec_indexAddrD (E := eS) rfl Tryz.underlying25 Tryz.sizeOf9 (fun _ => rfl) (Get.tmp rfl) (Get.tmp rfl) (by omega)) ?_
    refine L.p1 rfl rfl rfl (spec_loadP1 rfl Tryz.isAgg9 (Get.tmp rfl)) ?_
    refine L.mv rfl rfl rfl rfl rfl ?_
    refine L.p1 rfl rfl rfl (spec_eqlS rfl (Get.tmp rfl) (Get.tmp rfl)) ?_
    refine L.nt ?_
    refine W.cond (Get.tmp rfl) (fun h2 => ?_) (fun h2 => ?_)
    · have ph2 := h2; try simp only [sbx] at ph2
      refine W.sr ?_
      refine L.mv rfl rfl rfl rfl rfl ?_
      refine L.as rfl rfl rfl rfl rfl ?_
      refine L.nt ?_
      refine W.ret ?_
      refine N.ret () rfl (.tmp (t := 4) (Get.tmp rfl) .nil) (res1 (eqI ?_)) .nil (fun _ _ h => h)
      exact (idx_yes (p := fun x => x == s) (by omega) (by simpa using h2) hI2).symm
    · have ph2 := h2; try simp only [sbx] at ph2
      refine W.skip ?_
      refine N.blockNormal ?_
      refine N.thenW ?_
      refine W.region ?_
      refine L.mv rfl rfl rfl rfl rfl ?_
      first | refine L.op1 rfl rfl (GSpec.plain rfl (fit_i64 (by omega) (by omega) (spec_add rfl (Get.tmp rfl) (Get.cint rfl)))) ?_ | refine L.op1 rfl rfl (GSpec.plain rfl (spec_add rfl (Get.tmp rfl) (Get.cint rfl))) ?_
      refine L.as rfl rfl rfl rfl rfl ?_
      refine L.nil ?_
      refine N.roundK (i + 1) ?hI9 ?hmu9 ?hs9 ?hk9 ?hp9
      case hs9 => exact (.cons (t := 5) rfl .nil)
      case hk9 => exact (.cons (t := 0) rfl (.cons (t := 1) rfl .nil))
      case hp9 => exact .nil
      case hI9 => exact ⟨by omega, upto hI2 (by simpa using h2)⟩
      case hmu9 => omega
  · have ph1 := h1; try simp only [sbx] at ph1
    refine W.exit ?_
    refine N.thenExit ?_
    refine N.thenExit ?_
    refine N.blockExit ?_
    refine N.thenW ?_
    refine W.keep .nil .refl ?_
    refine W.sr ?_
    refine L.p1 rfl rfl rfl (spec_assign rfl (Get.cint rfl)) ?_
    refine L.nt ?_
    refine W.ret ?_
    refine N.ret () rfl (.tmp (t := 4) (Get.tmp rfl) .nil) (res1 (eqI ?_)) .nil (fun _ _ h => h)
    exact (idx_no (p := fun x => x == s) fun j hj => hI2 j (by omega)).symm

theorem wire_ok (d : Ds) (s : List UInt8) (hs : Sm d) : CallT Tryz.prog 70 [Rp.agg (eD d), Rp.str s] [] (.one (Rp.int .i64 (wireE d s))) := by
  refine W.enter (fn := Tryz.f70) (n := 22) Tryz.func70 rfl Tryz.ntmps70 rfl (fun w₀ C₀ => ?_)
  simp only [argS]
  have hs2 := hs.2.1
  refine W.sr ?_
  refine L.box rfl rfl (GSpec.plain rfl (spec_box rfl (GetC.agg (Get.tmp rfl)))) (fun r2 => ?_)
  refine L.p1 rfl rfl rfl (spec_assign rfl (Get.cint rfl)) ?_
  refine L.nt ?_
  refine W.seq ?_
  refine W.sr ?_
  refine L.p1 rfl rfl rfl (spec_assign rfl (Get.cint rfl)) ?_
  refine L.nt ?_
  refine W.block ?_
  refine W.loopK (σ := Nat) (.cons (t := 1) rfl (.cons (t := 2) rfl .nil)) (fun z => [(5, Rp.int .i64 (z : Nat))]) (fun z => []) (fun z => z ≤ d.wires.length ∧ ∀ j : Nat, j < z → ((d.wires.getD j default).name == s) = false) (fun z => d.wires.length - z) 0 ⟨Nat.zero_le _, fun j hj => by omega⟩ (.cons (t := 5) rfl .nil) (.cons 0 rfl .nil) ?_
  intro i hI S' M' hS hM
  obtain ⟨hI1, hI2⟩ := hI
  try dsimp only at hS hM
  simp only [List.cons_append, List.nil_append] at hS hM
  subst hS hM
  try dsimp only
  refine W.seq ?_
  refine W.sr ?_
  refine L.mv rfl rfl rfl rfl rfl ?_
  refine L.p1 rfl rfl rfl (spec_fieldAddr (f := 2) (off' := 2) rfl Tryz.underlying27 rfl Tryz.sizeOf23 (Get.tmp rfl) rfl) ?_
  refine L.p1 rfl rfl rfl (spec_load1 (k := 0) rfl Tryz.isAgg23 (Get.tmp rfl) rfl rfl) ?_
  refine L.p1 rfl rfl rfl (spec_len rfl Tryz.underlying23 (Get.tmp rfl)) ?_
  refine L.p1 rfl rfl rfl (spec_lss rfl (Get.tmp rfl) (Get.tmp rfl)) ?_
  refine L.nt ?_
  refine W.cond (Get.tmp rfl) (fun h1 => ?_) (fun h1 => ?_)
  · have ph1 := h1; try simp only [sbx] at ph1
    refine W.skip ?_
    refine N.thenW ?_
    refine W.seq ?_
    refine W.block ?_
    refine W.sr ?_
    refine L.p1 rfl rfl rfl (spec_fieldAddr (f := 2) (off' := 2) rfl Tryz.underlying27 rfl Tryz.sizeOf23 (Get.tmp rfl) rfl) ?_
    refine L.p1 rfl rfl rfl (spec_load1 (k := 0) rfl Tryz.isAgg23 (Get.tmp rfl) rfl rfl) ?_
    refine L.mv rfl rfl rfl rfl rfl ?_
    refine L.p1 rfl rfl rfl (spec_indexAddrD (E := eWr) rfl Tryz.underlying23 Tryz.sizeOf77 (fun _ => rfl) (Get.tmp rfl) (Get.tmp rfl) (by omega)) ?_
    refine L.p1 rfl rfl rfl (spec_fieldAddrP (f := 0) rfl Tryz.underlying77 rfl Tryz.sizeOf9 (Get.tmp rfl) rfl rfl) ?_
    refine L.p1 rfl rfl rfl (spec_loadP1 rfl Tryz.isAgg9 (Get.tmp rfl)) ?_
    refine L.mv rfl rfl rfl rfl rfl ?_
    refine L.p1 rfl rfl rfl (spec_eqlS rfl (Get.tmp rfl) (Get.tmp rfl)) ?_
    refine L.nt ?_
    refine W.cond (Get.tmp rfl) (fun h2 => ?_) (fun h2 => ?_)
    · have ph2 := h2; try simp only [sbx] at ph2
      refine W.sr ?_
      refine L.mv rfl rfl rfl rfl rfl ?_
      refine L.as rfl rfl rfl rfl rfl ?_
      refine L.nt ?_
      refine W.ret ?_
      refine N.ret () rfl (.tmp (t := 4) (Get.tmp rfl) .nil) (res1 (eqI ?_)) .nil (fun _ _ h => h)
      exact (idx_yes (p := fun w : Wr => w.name == s) (by omega) (by simpa using h2) hI2).symm
    · have ph2 := h2; try simp only [sbx] at ph2
      refine W.skip ?_
      refine N.blockNormal ?_
      refine N.thenW ?_
      refine W.region ?_
      refine L.mv rfl rfl rfl rfl rfl ?_
      first | refine L.op1 rfl rfl (GSpec.plain rfl (fit_i64 (by omega) (by omega) (spec_add rfl (Get.tmp rfl) (Get.cint rfl)))) ?_ | refine L.op1 rfl rfl (GSpec.plain rfl (spec_add rfl (Get.tmp rfl) (Get.cint rfl))) ?_
      refine L.as rfl rfl rfl rfl rfl ?_
      refine L.nil ?_
      refine N.roundK (i + 1) ?hI10 ?hmu10 ?hs10 ?hk10 ?hp10
      case hs10 => exact (.cons (t := 5) rfl .nil)
      case hk10 => exact (.cons (t := 1) rfl (.cons (t := 2) rfl .nil))
      case hp10 => exact (.cons 0 rfl .nil)
      case hI10 => exact ⟨by omega, upto hI2 (by simpa using h2)⟩
      case hmu10 => omega
  · have ph1 := h1; try simp only [sbx] at ph1
    refine W.exit ?_
    refine N.thenExit ?_
    refine N.thenExit ?_
    refine N.blockExit ?_
    refine N.thenW ?_
    refine W.keep .nil .refl ?_
    refine W.sr ?_
    refine L.p1 rfl rfl rfl (spec_assign rfl (Get.cint rfl)) ?_
    refine L.nt ?_
    refine W.ret ?_
    refine N.ret () rfl (.tmp (t := 4) (Get.tmp rfl) .nil) (res1 (eqI ?_)) .nil (fun _ _ h => h)
    exact (idx_no (p := fun w : Wr => w.name == s) fun j hj => hI2 j (by omega)).symm

end Go.Proofs.YthlfacmpjehjmaaGreatDoor
set_option linter.unusedSimpArgs false
set_option maxRecDepth 8000
set_option linter.unusedVariables false
namespace Go.Proofs.YthlfacmpjehjmaaGreatDoor
open Go.Sim
theorem readyD_ok (d : Ds) (hd : DsOk d) (a : Nat) (done : List Bool) (ha : a < d.wires.length) (hdl : done.length = d.wires.length) : CallT Tryz.prog 86 [Rp.agg (eD d), Rp.int .i64 (a : Nat), Rp.slice eB done] [] (.one (Rp.bool (readyE d a done))) := by
  refine W.enter (fn := Tryz.f86) (n := 38) Tryz.func86 rfl Tryz.ntmps86 rfl (fun w₀ C₀ => ?_)
  simp only [argS]
  have hsm := hd.sm
  have hnl := names_len d
  have hwl := widths_len d
  have hel := exprs_len d
  have hn48 := hd.n
  have ho := hd.o
  have hx := wire_x hd ha
  refine W.sr ?_
  refine L.box rfl rfl (GSpec.plain rfl (spec_box rfl (GetC.agg (Get.tmp rfl)))) (fun r3 => ?_)
  refine L.p1 rfl rfl rfl (spec_assign rfl Get.cbool) ?_
  refine L.nt ?_
  refine W.sr ?_
  refine L.p1 rfl rfl rfl (spec_fieldAddr (f := 2) (off' := 2) rfl Tryz.underlying27 rfl Tryz.sizeOf23 (Get.tmp rfl) rfl) ?_
  refine L.p1 rfl rfl rfl (spec_load1 (k := 0) rfl Tryz.isAgg23 (Get.tmp rfl) rfl rfl) ?_
  refine L.mv rfl rfl rfl rfl rfl ?_
  refine L.p1 rfl rfl rfl (spec_indexAddrD (E := eWr) rfl Tryz.underlying23 Tryz.sizeOf77 (fun _ => rfl) (Get.tmp rfl) (Get.tmp rfl) (by (first | omega | (simp only [Int.toNat_natCast]; omega)))) ?_
  refine L.p1 rfl rfl rfl (spec_fieldAddrP (f := 2) rfl Tryz.underlying77 rfl Tryz.sizeOf66 (Get.tmp rfl) rfl rfl) ?_
  refine L.p1 rfl rfl rfl (spec_loadPA rfl Tryz.isAgg66 Tryz.sizeOf66 (Get.tmp rfl) rfl) ?_
  refine L.p1 rfl rfl rfl (spec_call rfl Tryz.call85 (xnames_ok _ hx) (.cons (Get.tmp rfl) .nil)) ?_
  refine L.as rfl rfl rfl rfl rfl ?_
  refine L.nt ?_
  refine W.fact 7 rfl slice_fact fun hvl => ?_
  refine W.keep (.cons (t := 2) rfl (.cons (t := 3) rfl (.cons (t := 6) rfl (.cons (t := 7) rfl .nil)))) .refl ?_
  refine W.seq ?_
  refine W.sr ?_
  refine L.p1 rfl rfl rfl (spec_assign rfl (Get.cint rfl)) ?_
  refine L.nt ?_
  refine W.block ?_
  refine W.loopK (σ := Nat) (.cons (t := 2) rfl (.cons (t := 3) rfl (.cons (t := 7) rfl .nil))) (fun z => [(8, Rp.int .i64 (z : Nat))]) (fun z => []) (fun z => z ≤ (seeE (d.wires.getD a default).expr).vs.length ∧ ∀ j : Nat, j < z → waitE d done ((seeE (d.wires.getD a default).expr).vs.getD j default) = false) (fun z => (seeE (d.wires.getD a default).expr).vs.length - z) 0 ⟨Nat.zero_le _, fun j hj => by omega⟩ (.cons (t := 8) rfl .nil) (.cons 0 rfl .nil) ?_
  intro i hI S' M' hS hM
  obtain ⟨hI1, hI2⟩ := hI
  try dsimp only at hS hM
  simp only [List.cons_append, List.nil_append] at hS hM
  subst hS hM
  try dsimp only
  refine W.seq ?_
  refine W.sr ?_
  refine L.mv rfl rfl rfl rfl rfl ?_
  refine L.mv rfl rfl rfl rfl rfl ?_
  refine L.p1 rfl rfl rfl (spec_len rfl Tryz.underlying25 (Get.tmp rfl)) ?_
  refine L.p1 rfl rfl rfl (spec_lss rfl (Get.tmp rfl) (Get.tmp rfl)) ?_
  refine L.nt ?_
  refine W.cond (Get.tmp rfl) (fun h1 => ?_) (fun h1 => ?_)
  · have ph1 := h1; try simp only [sbx] at ph1
    refine W.skip ?_
    refine N.thenW ?_
    refine W.seq ?_
    refine W.block ?_
    refine W.seq ?_
    apply W.any 7 mixed (by kernel_rfl)
    · apply Head.one rfl rfl (GSpec.plain rfl (spec_loadW (k := 0) rfl Tryz.isAgg27 Tryz.sizeOf27 (Get.tmp rfl) rfl rfl))
      apply Head.one rfl rfl (GSpec.plain rfl (spec_move rfl (Get.tmp rfl)))
      apply Head.one rfl rfl (GSpec.plain rfl (spec_move rfl (Get.tmp rfl)))
      apply Head.one rfl rfl (GSpec.plain rfl (spec_indexAddrD (E := eS) rfl Tryz.underlying25 Tryz.sizeOf9 (fun _ => rfl) (Get.tmp rfl) (Get.tmp rfl) (by (first | omega | (simp only [Int.toNat_natCast]; omega)))))
      apply Head.one rfl rfl (GSpec.plain rfl (spec_loadP1 rfl Tryz.isAgg9 (Get.tmp rfl)))
      apply Head.one rfl rfl (GSpec.plain rfl (spec_call rfl Tryz.call70 (wire_ok _ _ hd.sm) (.cons (Get.tmp rfl) (.cons (Get.tmp rfl) .nil))))
      apply Head.one rfl rfl (GSpec.plain rfl (spec_assign rfl (Get.tmp rfl)))
      exact Head.nil
    refine Fin.one ?_
    refine Fin.one ?_
    refine Fin.one ?_
    refine Fin.one ?_
    refine Fin.one ?_
    refine Fin.one ?_
    refine Fin.one ?_
    refine Fin.nil ?_
    refine L.nt ?_
    have hwl2 := wire_lt d ((seeE (d.wires.getD a default).expr).vs.getD i default)
    refine W.sr ?_
    refine L.mv rfl rfl rfl rfl rfl ?_
    refine L.p1 rfl rfl rfl (spec_geq rfl (Get.tmp rfl) (Get.cint rfl)) ?_
    refine L.mv rfl rfl rfl rfl rfl ?_
    refine L.op1 rfl rfl (GSpec.guard rfl rfl rfl fun hg => (spec_move rfl (Get.tmp rfl))) ?_
    refine L.op1 rfl rfl (GSpec.guard rfl rfl rfl fun hg => (spec_move rfl (Get.tmp rfl))) ?_
    refine L.op1 rfl rfl (GSpec.guard rfl rfl rfl fun hg => (spec_indexAddrD (E := eB) rfl Tryz.underlying53 Tryz.sizeOf4 (fun _ => rfl) (Get.opt rfl hg) (Get.opt rfl hg) (by (have := of_decide_eq_true hg; simp only [Int.toNat_natCast] at *; omega)))) ?_
    refine L.op1 rfl rfl (GSpec.guard rfl rfl rfl fun hg => (spec_loadP1 rfl Tryz.isAgg4 (Get.opt rfl hg))) ?_
    refine L.op1 rfl rfl (GSpec.guard rfl rfl rfl fun hg => (spec_not rfl (Get.opt rfl hg))) ?_
    refine L.p1 rfl rfl rfl (spec_and rfl (Get.tmp rfl) (fun hb => (Get.opt rfl hb))) ?_
    refine L.nt ?_
    refine W.cond (Get.tmp rfl) (fun h2 => ?_) (fun h2 => ?_)
    · have ph2 := h2; try simp only [sbx] at ph2
      refine W.sr ?_
      refine L.p1 rfl rfl rfl (spec_assign rfl Get.cbool) ?_
      refine L.nt ?_
      refine W.ret ?_
      refine N.ret () rfl (.tmp (t := 6) (Get.tmp rfl) .nil) (res1 (eqB ?_)) .nil (fun _ _ h => h)
      unfold readyE; rw [any_yes (p := waitE d done) (i := i) (by omega) h2]; rfl
    · have ph2 := h2; try simp only [sbx] at ph2
      refine W.skip ?_
      refine N.blockNormal ?_
      refine N.thenW ?_
      refine W.region ?_
      refine L.mv rfl rfl rfl rfl rfl ?_
      first | refine L.op1 rfl rfl (GSpec.plain rfl (fit_i64 (by (first | omega | (simp only [Int.toNat_natCast]; omega))) (by (first | omega | (simp only [Int.toNat_natCast]; omega))) (spec_add rfl (Get.tmp rfl) (Get.cint rfl)))) ?_ | refine L.op1 rfl rfl (GSpec.plain rfl (spec_add rfl (Get.tmp rfl) (Get.cint rfl))) ?_
      refine L.as rfl rfl rfl rfl rfl ?_
      refine L.nil ?_
      refine N.roundK (i + 1) ?hI1 ?hmu1 ?hs1 ?hk1 ?hp1
      case hs1 => exact (.cons (t := 8) rfl .nil)
      case hk1 => exact (.cons (t := 2) rfl (.cons (t := 3) rfl (.cons (t := 7) rfl .nil)))
      case hp1 => exact (.cons 0 rfl .nil)
      case hI1 => exact ⟨by omega, upto hI2 h2⟩
      case hmu1 => omega
  · have ph1 := h1; try simp only [sbx] at ph1
    refine W.exit ?_
    refine N.thenExit ?_
    refine N.thenExit ?_
    refine N.blockExit ?_
    refine N.thenW ?_
    refine W.keep .nil .refl ?_
    refine W.sr ?_
    refine L.p1 rfl rfl rfl (spec_assign rfl Get.cbool) ?_
    refine L.nt ?_
    refine W.ret ?_
    refine N.ret () rfl (.tmp (t := 6) (Get.tmp rfl) .nil) (res1 (eqB ?_)) .nil (fun _ _ h => h)
    unfold readyE; rw [any_no (p := waitE d done) fun j hj => hI2 j (by omega)]; rfl

end Go.Proofs.YthlfacmpjehjmaaGreatDoor
