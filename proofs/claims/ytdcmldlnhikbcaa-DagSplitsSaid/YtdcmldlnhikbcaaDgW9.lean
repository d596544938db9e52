import Derived.Test.YtdcmldlnhikbcaaDgW8
set_option linter.unusedSimpArgs false
set_option maxRecDepth 8000
set_option linter.unusedVariables false
namespace Go.Proofs.Ytdcmldlnhikbcaa
open Go.Sim
theorem without_ok (leaf : Bs → Int → Bs × Int) (l : List Node) (f lv : Int) (hl : lv < 20 → LeafOk leaf lv) : CallT Try.prog 63 [Rp.agg (dagR l), Rp.int .i64 f, Rp.int .i64 lv, atR leaf lv] [] (.one (outR (if (hasB l [f] && decide (0 ≤ lv ∧ lv < 20)) = true then doneD (RP leaf lv ⟨l, false⟩ f) else ⟨[], 0, 1⟩))) := by
  refine W.enter (fn := Try.f63) (n := 52) Try.func63 rfl Try.ntmps63 rfl (fun w₀ C₀ => ?_)
  simp only [argS]
  refine W.seq ?_
  refine W.region ?_
  refine L.box rfl rfl (GSpec.plain rfl (spec_box rfl (GetC.agg (Get.tmp rfl)))) (fun r4 => ?_)
  refine L.box rfl rfl (GSpec.plain rfl (spec_box rfl (GetC.one (Get.tmp rfl)))) (fun r7 => ?_)
  refine L.box rfl rfl (GSpec.plain rfl (spec_alloc rfl ti24 z24)) (fun r8 => ?_)
  refine L.op1 rfl rfl (GSpec.plain rfl (spec_assign rfl (Get.cint rfl))) ?_
  refine L.op1 rfl rfl (GSpec.plain rfl (spec_assign rfl (Get.cint rfl))) ?_
  refine L.nil ?_
  refine N.thenW ?_
  refine W.seq ?_
  refine W.seq ?_
  refine W.region ?_
  refine L.op1 rfl rfl (GSpec.plain rfl (spec_loadW (k := 2) rfl Try.isAgg24 Try.sizeOf24 (Get.tmp rfl) rfl rfl)) ?_
  refine L.op1 rfl rfl (GSpec.plain rfl (spec_move rfl (Get.tmp rfl))) ?_
  refine L.op1 rfl rfl (GSpec.plain rfl (spec_buildSlice1 (E := eI) rfl Try.underlying63 ti3 z3 (by decide) (GetC.one (Get.tmp rfl)) (fun _ => rfl))) ?_
  refine L.op1 rfl rfl (GSpec.plain rfl (spec_call rfl Try.call43 (has_ok _ _) (.cons (Get.tmp rfl) (.cons (Get.tmp rfl) .nil)))) ?_
  refine L.op1 rfl rfl (GSpec.plain rfl (spec_not rfl (Get.tmp rfl))) ?_
  refine L.op1 rfl rfl (GSpec.plain rfl (spec_move rfl (Get.tmp rfl))) ?_
  refine L.op1 rfl rfl (GSpec.guard rfl rfl rfl fun hg => (spec_move rfl (Get.tmp rfl))) ?_
  refine L.op1 rfl rfl (GSpec.guard rfl rfl rfl fun hg => (spec_call rfl Try.call44 (isLevel_ok _) (.cons (Get.opt rfl hg) .nil))) ?_
  refine L.op1 rfl rfl (GSpec.guard rfl rfl rfl fun hg => (spec_not rfl (Get.opt rfl hg))) ?_
  refine L.op1 rfl rfl (GSpec.plain rfl (spec_or rfl (Get.tmp rfl) (fun hb => (Get.opt rfl hb)))) ?_
  refine L.nil ?_
  refine N.thenW ?_
  refine W.keep (.cons (t := 1) rfl (.cons (t := 2) rfl (.cons (t := 4) rfl (.cons (t := 7) rfl (.cons (t := 8) rfl (.cons (t := 9) rfl (.cons (t := 10) rfl (.cons (t := 22) rfl .nil)))))))) .refl ?_
  refine W.cond (Get.tmp rfl) (fun h1 => ?_) (fun h1 => ?_)
  · have ph1 := h1; try simp only [decide_eq_true_eq, decide_eq_false_iff_not, Bool.and_eq_true, Bool.or_eq_true, Bool.and_eq_false_iff, Bool.or_eq_false_iff, Bool.not_eq_true', Bool.not_eq_false', Bool.not_true, Bool.not_false, Int.not_lt, Int.not_le] at ph1
    refine W.seq ?_
    refine W.region ?_
    refine L.op1 rfl rfl (GSpec.plain rfl (spec_build (Rs := [Rp.slice eN []]) rfl ti24 z24 Try.underlying24 pl24 .nil)) ?_
    refine L.storeW (k := 0) rfl rfl rfl Try.sizeOf24 (Get.tmp rfl) (Get.tmp rfl) rfl rfl rfl ?_
    refine L.op1 rfl rfl (GSpec.plain rfl (spec_assign rfl (Get.cint rfl))) ?_
    refine L.op1 rfl rfl (GSpec.plain rfl (spec_assign rfl (Get.cint rfl))) ?_
    refine L.nil ?_
    refine N.thenW ?_
    refine W.ret ?_
    refine N.ret () rfl (.cellA (k := 0) (Get.tmp (t := 8) rfl) rfl Try.isAgg24 Try.sizeOf24 rfl (.tmp (t := 9) (Get.tmp rfl) (.tmp (t := 10) (Get.tmp rfl) .nil))) (res3w (eqA ?_) (eqI ?_) (eqI ?_)) .nil (fun _ _ h => h)
    all_goals rw [if_neg (fun h => by simp only [Bool.and_eq_true] at h; rw [h.1, h.2] at h1; cases h1)]
    all_goals rfl
  · obtain ⟨hG, hf, h0, h20⟩ := leveled_iff.1 (show (hasB l [f] && decide (0 ≤ lv ∧ lv < 20)) = true by simp only [Bool.or_eq_false_iff, Bool.not_eq_false'] at h1; rw [h1.1, h1.2]; rfl)
    have hGs := hG.small
    refine W.skip ?_
    refine N.thenW ?_
    refine W.seq ?_
    refine W.region ?_
    refine L.op1 rfl rfl (GSpec.plain rfl (spec_assign rfl (Get.weak Get.clo (fn_of_clo (A := fnA) (X := fnX orV) Try.call75 (fun i => orf2_ok i.1 i.2.1 i.2.2))))) ?_
    refine L.nil ?_
    refine N.thenW ?_
    refine W.seq ?_
    refine W.region ?_
    refine L.op1 rfl rfl (GSpec.plain rfl (spec_loadW (k := 2) rfl Try.isAgg24 Try.sizeOf24 (Get.tmp rfl) rfl rfl)) ?_
    refine L.op rfl rfl (GSpec.plain rfl (spec_call rfl Try.call45 (begin_ok _ hG) (.cons (Get.tmp rfl) .nil))) (fun ⟨⟨⟨r25, v25, m25⟩, A25⟩, hA25⟩ => ?_)
    try dsimp only
    refine L.op1 rfl rfl (GSpec.plain rfl (spec_move rfl (Get.tmp rfl))) ?_
    refine L.op rfl rfl (GSpec.plain rfl (spec_makeMap (κ := Three) (ν := Int) tv iv rfl)) (fun m27 => ?_)
    refine L.op1 rfl rfl (GSpec.plain rfl (spec_build (Rs := [_, _, _]) rfl ti86 z86 Try.underlying86 pl86 (.cons (GetC.one (R := Rp.ptr r25 0) (Get.tmp rfl)) rfl rfl rfl (.cons (GetC.one (Get.tmp rfl)) rfl rfl rfl (.cons (GetC.one (R := Rp.val (.map (some m27))) (Get.tmp rfl)) rfl rfl rfl .nil))))) ?_
    refine L.box rfl rfl (GSpec.plain rfl (spec_box rfl (GetC.agg (Get.tmp rfl)))) (fun r29 => ?_)
    refine L.pubB 29 0 rfl rfl ?_
    refine L.op1 rfl rfl (GSpec.plain rfl (spec_move rfl (Get.tmp rfl))) ?_
    refine L.op rfl rfl (GSpec.plain rfl (spec_makeMap (κ := Int) (ν := Int) (fun n => Value.int .i64 n) iv rfl)) (fun m31 => ?_)
    refine L.op1 rfl rfl (GSpec.plain rfl (spec_build (Rs := [_, _, Rp.val .nilFunc, _]) rfl ti83 z83 Try.underlying83 pl83 (.cons (GetC.one (Get.tmp rfl)) rfl rfl rfl (.cons (GetC.one (Get.tmp rfl)) rfl rfl rfl (.cons (GetC.one (R := Rp.val (.map (some m31))) (Get.tmp rfl)) rfl rfl rfl .nil))))) ?_
    refine L.box rfl rfl (GSpec.plain rfl (spec_box rfl (GetC.agg (Get.tmp rfl)))) (fun r33 => ?_)
    refine L.box rfl rfl (GSpec.plain rfl (spec_alloc rfl ti77 z77)) (fun r12 => ?_)
    refine L.storeB (k := 0) (R := Rp.ptr r33 0) rfl rfl rfl Try.sizeOf77 (Get.tmp rfl) (Get.tmp rfl) rfl rfl ?_
    refine L.nil ?_
    refine N.thenW ?_
    refine W.keep (.cons (t := 1) rfl (.cons (t := 7) rfl (.cons (t := 8) rfl (.cons (t := 9) rfl (.cons (t := 10) rfl (.cons (t := 12) rfl .nil)))))) .refl ?_
    refine W.seq ?_
    refine W.region ?_
    refine L.op1 rfl rfl (GSpec.plain rfl (spec_load1 (k := 0) rfl Try.isAgg77 (Get.tmp rfl) rfl rfl)) ?_
    refine L.op1 rfl rfl (GSpec.plain rfl (spec_makeFunc rfl (.cons (Get.tmp rfl) (.cons (Get.tmp rfl) .nil)))) ?_
    refine L.op1 rfl rfl (GSpec.plain rfl (spec_nilCheck rfl (Get.tmp rfl))) ?_
    refine L.op1 rfl rfl (GSpec.plain rfl (spec_fieldAddr (f := 2) (off' := 2) rfl Try.underlying83 rfl Try.sizeOf80 (Get.tmp rfl) rfl)) ?_
    refine L.storeB (k := 1) rfl rfl rfl Try.sizeOf80 (Get.tmp rfl) (Get.tmp rfl) rfl rfl ?_
    refine L.nil ?_
    refine N.thenW ?_
    refine W.publish 12 (.cons 8 rfl (.cons 0 rfl (.cons 0 rfl .refl))) rfl (pub_bw (leaf := leaf) (lv := lv) (r := r25) (mk := m27) (md := m31)) ?_
    dsimp only [bwR, bw0, opR]
    refine W.keep (.cons (t := 1) rfl (.cons (t := 8) rfl (.cons (t := 9) rfl (.cons (t := 10) rfl (.cons (t := 12) rfl .nil))))) .refl ?_
    refine W.seq ?_
    apply W.anyH [_, _, _, _, _, _] [_] mixed (.cons 0 rfl (.cons 0 rfl (.cons 0 rfl (.cons 0 rfl (.cons 0 rfl (.cons 0 rfl (.cons 0 rfl .nil)))))))
    refine AH.first 0 rfl (by kernel_rfl) (by kernel_rfl) (by kernel_rfl) rfl rfl rfl (QSpec.plain rfl (qs_loadP1 rfl Try.isAgg77 (Get.tmp rfl))) ?_
    refine AH.first 1 rfl (by kernel_rfl) (by kernel_rfl) (by kernel_rfl) rfl rfl rfl (QSpec.plain rfl (qs_nilCheck rfl (Get.tmp rfl))) ?_
    refine AH.first 2 rfl (by kernel_rfl) (by kernel_rfl) (by kernel_rfl) rfl rfl rfl (QSpec.plain rfl (qs_fieldAddrP (f := 0) rfl Try.underlying83 rfl Try.sizeOf79 (Get.tmp rfl) rfl rfl)) ?_
    refine AH.first 3 rfl (by kernel_rfl) (by kernel_rfl) (by kernel_rfl) rfl rfl rfl (QSpec.plain rfl (qs_loadP1 rfl Try.isAgg79 (Get.tmp rfl))) ?_
    refine AH.first 4 rfl (by kernel_rfl) (by kernel_rfl) (by kernel_rfl) rfl rfl rfl (QSpec.plain rfl (qs_nilCheck rfl (Get.tmp rfl))) ?_
    refine AH.first 5 rfl (by kernel_rfl) (by kernel_rfl) (by kernel_rfl) rfl rfl rfl (QSpec.plain rfl (qs_fieldAddrP (f := 0) rfl Try.underlying86 rfl Try.sizeOf58 (Get.tmp rfl) rfl rfl)) ?_
    refine AH.first 6 rfl (by kernel_rfl) (by kernel_rfl) (by kernel_rfl) rfl rfl rfl (QSpec.plain rfl (qs_loadP1 rfl Try.isAgg58 (Get.tmp rfl))) ?_
    refine AH.first 7 rfl (by kernel_rfl) (by kernel_rfl) (by kernel_rfl) rfl rfl rfl (QSpec.plain rfl (qs_loadP1 rfl Try.isAgg77 (Get.tmp rfl))) ?_
    refine AH.first 8 rfl (by kernel_rfl) (by kernel_rfl) (by kernel_rfl) rfl rfl rfl (QSpec.plain rfl (qs_move rfl (Get.tmp rfl))) ?_
    refine AH.only 9 rfl (by kernel_rfl) rfl (fun w1 C1 => ?_)
    refine L.call rfl rfl rfl rfl Try.call77 (drepl_ok lv h20 leaf (hl h20) 21 ⟨l, false⟩ f r25 m25 m27 m31 _ _ _ _ _ rfl hGs hf hA25 kr_nil kr_nil (fun _ => kok_nil) (fun _ => dok_nil) (.inr ⟨hG, by have := (hG.level hf).1; dsimp only; omega⟩)) (.cons 2 rfl (.cons 2 rfl (.cons 2 rfl (.cons 1 rfl (.cons 0 rfl .refl))))) (.cons (Get.tmp rfl) (.cons (Get.tmp rfl) .nil)) (fun ⟨⟨⟨v47, s47, A47⟩, K47, D47, i47⟩, p47⟩ => ?_)
    try dsimp only
    refine L.nil ?_
    refine AftH.next ?_
    refine AH.only 10 rfl (by kernel_rfl) rfl (fun w2 C2 => ?_)
    refine L.call rfl rfl rfl rfl Try.call46 (done_ok _ _ _ _ _ _) (.cons 0 rfl (.cons 0 rfl (.cons 0 rfl .refl))) (.cons (Get.tmp rfl) (.cons (Get.tmp rfl) .nil)) (fun _ => ?_)
    try dsimp only
    refine L.nil ?_
    refine AftH.next ?_
    refine AH.first 11 rfl (by kernel_rfl) (by kernel_rfl) (by kernel_rfl) rfl rfl rfl (QSpec.plain rfl (qs_extract rfl (Get.tmp rfl) rfl)) ?_
    refine AH.first 12 rfl (by kernel_rfl) (by kernel_rfl) (by kernel_rfl) rfl rfl rfl (QSpec.plain rfl (qs_extract rfl (Get.tmp rfl) rfl)) ?_
    refine AH.first 13 rfl (by kernel_rfl) (by kernel_rfl) (by kernel_rfl) rfl rfl rfl (QSpec.plain rfl (qs_extract rfl (Get.tmp rfl) rfl)) ?_
    refine AH.only 14 rfl (by kernel_rfl) rfl (fun w3 C3 => ?_)
    refine L.storeW (k := 2) rfl rfl rfl Try.sizeOf24 (Get.tmp rfl) (Get.tmp rfl) rfl rfl rfl ?_
    refine L.nil ?_
    refine AftH.next ?_
    refine AH.first 15 rfl (by kernel_rfl) (by kernel_rfl) (by kernel_rfl) rfl rfl rfl (QSpec.plain rfl (qs_assign rfl (Get.tmp rfl))) ?_
    refine AH.first 16 rfl (by kernel_rfl) (by kernel_rfl) (by kernel_rfl) rfl rfl rfl (QSpec.plain rfl (qs_assign rfl (Get.tmp rfl))) ?_
    refine AH.done (by kernel_rfl) ?_
    try simp only [List.cons_append, List.nil_append]
    refine N.thenW ?_
    refine W.keep (.cons (t := 8) rfl (.cons (t := 9) rfl (.cons (t := 10) rfl .nil))) .refl ?_
    refine W.ret ?_
    refine N.ret () rfl (.cellA (k := 2) (Get.tmp (t := 8) rfl) rfl Try.isAgg24 Try.sizeOf24 rfl (.tmp (t := 9) (Get.tmp rfl) (.tmp (t := 10) (Get.tmp rfl) .nil))) (res3w (eqA ?_) (eqI ?_) (eqI ?_)) .nil (fun _ _ h => h)
    all_goals rw [done_eq' p47, if_pos (leveled_iff.2 ⟨hG, hf, h0, h20⟩)]

theorem dFix_ok (l : List Node) (f lv : Int) (one : Bool) : CallT Try.prog 39 [Rp.agg (dagR l), Rp.int .i64 f, Rp.int .i64 lv, Rp.bool one] [] (.one (outR (fixedD l f lv one))) := by
  refine W.enter (fn := Try.f39) (n := 19) Try.func39 rfl Try.ntmps39 rfl (fun w₀ C₀ => ?_)
  simp only [argS]
  refine W.seq ?_
  refine W.region ?_
  refine L.box rfl rfl (GSpec.plain rfl (spec_box rfl (GetC.agg (Get.tmp rfl)))) (fun r4 => ?_)
  refine L.box rfl rfl (GSpec.plain rfl (spec_box rfl (GetC.one (Get.tmp rfl)))) (fun r6 => ?_)
  refine L.box rfl rfl (GSpec.plain rfl (spec_box rfl (GetC.one (Get.tmp rfl)))) (fun r7 => ?_)
  refine L.box rfl rfl (GSpec.plain rfl (spec_alloc rfl ti24 z24)) (fun r8 => ?_)
  refine L.op1 rfl rfl (GSpec.plain rfl (spec_assign rfl (Get.cint rfl))) ?_
  refine L.op1 rfl rfl (GSpec.plain rfl (spec_assign rfl (Get.cint rfl))) ?_
  refine L.nil ?_
  refine N.thenW ?_
  refine W.seq ?_
  refine W.region ?_
  refine L.op1 rfl rfl (GSpec.plain rfl (spec_loadW (k := 3) rfl Try.isAgg24 Try.sizeOf24 (Get.tmp rfl) rfl rfl)) ?_
  refine L.op1 rfl rfl (GSpec.plain rfl (spec_move rfl (Get.tmp rfl))) ?_
  refine L.op1 rfl rfl (GSpec.plain rfl (spec_load1 (k := 2) rfl Try.isAgg3 (Get.tmp rfl) rfl rfl)) ?_
  refine L.pubB 6 2 rfl rfl ?_
  refine L.pubB 7 1 rfl rfl ?_
  refine L.op1 rfl rfl (GSpec.plain rfl (spec_makeFunc rfl (.cons (Get.tmp rfl) (.cons (Get.tmp rfl) .nil)))) ?_
  refine L.op1 rfl rfl (GSpec.plain rfl (spec_call rfl Try.call63 (without_ok (fixL lv one) l f lv (fun h => fix_ok lv h one)) (.cons (Get.tmp rfl) (.cons (Get.tmp rfl) (.cons (Get.tmp rfl) (.cons (Get.weak (Get.tmp rfl) (fnM_of_clo Try.call64 (fun i => fix1_ok lv i.2.lt one i.1.r i.1.m i.1.kn i.1.md i.1.s i.1.f i.1.v i.1.A i.1.K i.2))) .nil)))))) ?_
  refine L.op1 rfl rfl (GSpec.plain rfl (spec_extract rfl (Get.tmp rfl) rfl)) ?_
  refine L.op1 rfl rfl (GSpec.plain rfl (spec_extract rfl (Get.tmp rfl) rfl)) ?_
  refine L.op1 rfl rfl (GSpec.plain rfl (spec_extract rfl (Get.tmp rfl) rfl)) ?_
  refine L.storeW (k := 0) rfl rfl rfl Try.sizeOf24 (Get.tmp rfl) (Get.tmp rfl) rfl rfl rfl ?_
  refine L.op1 rfl rfl (GSpec.plain rfl (spec_assign rfl (Get.tmp rfl))) ?_
  refine L.op1 rfl rfl (GSpec.plain rfl (spec_assign rfl (Get.tmp rfl))) ?_
  refine L.nil ?_
  refine N.thenW ?_
  refine W.keep (.cons (t := 8) rfl (.cons (t := 9) rfl (.cons (t := 10) rfl .nil))) .refl ?_
  refine W.ret ?_
  refine N.ret () rfl (.cellA (k := 0) (Get.tmp (t := 8) rfl) rfl Try.isAgg24 Try.sizeOf24 rfl (.tmp (t := 9) (Get.tmp rfl) (.tmp (t := 10) (Get.tmp rfl) .nil))) (res3w (eqA ?_) (eqI ?_) (eqI ?_)) .nil (fun _ _ h => h)
  all_goals rfl

theorem dSome_ok (l : List Node) (f lv : Int) : CallT Try.prog 41 [Rp.agg (dagR l), Rp.int .i64 f, Rp.int .i64 lv] [] (.one (outR (someD l f lv))) := by
  refine W.enter (fn := Try.f41) (n := 16) Try.func41 rfl Try.ntmps41 rfl (fun w₀ C₀ => ?_)
  simp only [argS]
  refine W.seq ?_
  refine W.region ?_
  refine L.box rfl rfl (GSpec.plain rfl (spec_box rfl (GetC.agg (Get.tmp rfl)))) (fun r3 => ?_)
  refine L.box rfl rfl (GSpec.plain rfl (spec_alloc rfl ti24 z24)) (fun r6 => ?_)
  refine L.op1 rfl rfl (GSpec.plain rfl (spec_assign rfl (Get.cint rfl))) ?_
  refine L.op1 rfl rfl (GSpec.plain rfl (spec_assign rfl (Get.cint rfl))) ?_
  refine L.nil ?_
  refine N.thenW ?_
  refine W.seq ?_
  refine W.region ?_
  refine L.op1 rfl rfl (GSpec.plain rfl (spec_loadW (k := 1) rfl Try.isAgg24 Try.sizeOf24 (Get.tmp rfl) rfl rfl)) ?_
  refine L.op1 rfl rfl (GSpec.plain rfl (spec_move rfl (Get.tmp rfl))) ?_
  refine L.op1 rfl rfl (GSpec.plain rfl (spec_move rfl (Get.tmp rfl))) ?_
  refine L.op1 rfl rfl (GSpec.plain rfl (spec_call rfl Try.call63 (without_ok someL l f lv (fun h => some_ok lv h)) (.cons (Get.tmp rfl) (.cons (Get.tmp rfl) (.cons (Get.tmp rfl) (.cons (Get.weak Get.clo (fnM_of_clo Try.call68 (fun i => some1_ok lv i.2.lt i.1.r i.1.m i.1.kn i.1.md i.1.s i.1.f i.1.v i.1.A i.1.K i.2))) .nil)))))) ?_
  refine L.op1 rfl rfl (GSpec.plain rfl (spec_extract rfl (Get.tmp rfl) rfl)) ?_
  refine L.op1 rfl rfl (GSpec.plain rfl (spec_extract rfl (Get.tmp rfl) rfl)) ?_
  refine L.op1 rfl rfl (GSpec.plain rfl (spec_extract rfl (Get.tmp rfl) rfl)) ?_
  refine L.storeW (k := 0) rfl rfl rfl Try.sizeOf24 (Get.tmp rfl) (Get.tmp rfl) rfl rfl rfl ?_
  refine L.op1 rfl rfl (GSpec.plain rfl (spec_assign rfl (Get.tmp rfl))) ?_
  refine L.op1 rfl rfl (GSpec.plain rfl (spec_assign rfl (Get.tmp rfl))) ?_
  refine L.nil ?_
  refine N.thenW ?_
  refine W.keep (.cons (t := 6) rfl (.cons (t := 7) rfl (.cons (t := 8) rfl .nil))) .refl ?_
  refine W.ret ?_
  refine N.ret () rfl (.cellA (k := 0) (Get.tmp (t := 6) rfl) rfl Try.isAgg24 Try.sizeOf24 rfl (.tmp (t := 7) (Get.tmp rfl) (.tmp (t := 8) (Get.tmp rfl) .nil))) (res3w (eqA ?_) (eqI ?_) (eqI ?_)) .nil (fun _ _ h => h)
  all_goals rfl

end Go.Proofs.Ytdcmldlnhikbcaa
