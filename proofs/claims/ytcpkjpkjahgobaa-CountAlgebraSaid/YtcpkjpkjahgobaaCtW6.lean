import Derived.Test.YtcpkjpkjahgobaaCtW5
import Derived.Test.YtcpkjpkjahgobaaCtH
set_option linter.unusedSimpArgs false
set_option maxRecDepth 8000
set_option linter.unusedVariables false
namespace Go.Proofs.Ytcpkjpkjahgobaa
open Go.Sim
theorem visitI_ok  : ∀ (l : List Node) (hg : Good l) (f : Int) (hf : okNode l f) (cb : Node → Int → Int → Int) (ok : Node → Int → Int → Prop) (e0 e1 : Int) (hcb : ∀ k, Reach l f k → 1 < k → ok (nd l k) (fold l cb e0 e1 (nd l k).lo) (fold l cb e0 e1 (nd l k).hi)) (rv : Nat) (vk vd : Value) (j : Nat) (k : Int) (hk : k.toNat < j) (hr : Reach l f k) (K : List Int) (D : List Bool) (hV : VOk l cb e0 e1 f K D), CallT Try.prog 54 [Rp.int .i64 k, Rp.at (eI e0 ++ eI e1), Rp.at [Rp.val vd], Rp.at (dagR l), Rp.self rv 54 [Rp.at (eI e0 ++ eI e1), Rp.at [Rp.val vd], Rp.at (dagR l)] [Rp.at [cR rI cb ok], Rp.at [Rp.val vk]], Rp.at [cR rI cb ok], Rp.at [Rp.val vk]] [MF.osl vk 3 1 eI K, MF.osl vd 4 1 eB D] (visX rI eI 3 1 l cb e0 e1 f vk vd k) := by
  intro l hg f hf cb ok e0 e1 hcb rv vk vd j
  refine Nat.strongRecOn j fun j ih => ?_
  intro k hk hr K D hV
  obtain ⟨hok, hkf⟩ := hr.ok hg hf
  have hok1 := hok; unfold okNode at hok1
  have hlk := hV.lenK; have hld := hV.lenD
  refine W.enter (fn := Try.f54) (n := 50) Try.func54 rfl Try.ntmps54 rfl (fun w₀ C₀ => ?_)
  simp only [argS]
  refine W.seq ?_
  refine W.region ?_
  refine L.op1 rfl rfl (GSpec.plain rfl (spec_assign rfl (Get.cint rfl))) ?_
  refine L.nil ?_
  refine N.thenW ?_
  refine W.seq ?_
  refine W.seq ?_
  refine W.region ?_
  refine L.op1 rfl rfl (GSpec.plain rfl (spec_move rfl (Get.tmp rfl))) ?_
  refine L.op1 rfl rfl (GSpec.plain rfl (spec_lss rfl (Get.tmp rfl) (Get.cint rfl))) ?_
  refine L.nil ?_
  refine N.thenW ?_
  refine W.cond (Get.tmp rfl) (fun h1 => ?_) (fun h1 => ?_)
  · have hk2 : k < 2 := of_decide_eq_true h1
    refine W.seq ?_
    refine W.region ?_
    refine L.op1 rfl rfl (GSpec.plain rfl (spec_move rfl (Get.tmp rfl))) ?_
    refine L.op1 rfl rfl (GSpec.plain rfl (spec_indexAddrAP (n := 2) (sz := 1) rfl Try.underlying58 Try.sizeOf3 (Get.tmp rfl) (Get.tmp rfl) (by omega) (Nat.le_of_eq rfl) (ends_row (E := eI) (fun _ => rfl) (by omega) hk2))) ?_
    refine L.op1 rfl rfl (GSpec.plain rfl (spec_loadP1 rfl Try.isAgg3 (Get.tmp rfl))) ?_
    refine L.op1 rfl rfl (GSpec.plain rfl (spec_assign rfl (Get.tmp rfl))) ?_
    refine L.nil ?_
    refine N.thenW ?_
    refine W.ret ?_
    refine N.ret (X := (visX rI eI 3 1 l cb e0 e1 f vk vd k)) ⟨(K, D), hV⟩ rfl (.tmp (t := 8) (Get.tmp rfl) .nil) (res1 (eqI ?_)) (.cons 0 rfl (.cons 0 rfl .nil)) (fun _ _ h => h)
    exact (fold_end hk2).symm
  · have hk2 : ¬ k < 2 := of_decide_eq_false h1
    have hkd := hg.lohi hok (by omega)
    have b1 := hkd.1.1; have b2 := hkd.2.1.1
    refine W.skip ?_
    refine N.thenW ?_
    refine W.seq ?_
    refine W.seq ?_
    refine W.region ?_
    refine L.op1 rfl rfl (GSpec.plain rfl (spec_loadP1 rfl Try.isAgg33 (Get.tmp rfl))) ?_
    refine L.op1 rfl rfl (GSpec.plain rfl (spec_move rfl (Get.tmp rfl))) ?_
    refine L.op1 rfl rfl (GSpec.plain rfl (spec_indexAddrO (k := 1) (E := eB) rfl Try.underlying33 Try.sizeOf4 (Get.tmp rfl) (Get.tmp rfl) rfl (by (first | omega | (simp only [List.length_set]; omega))))) ?_
    refine L.op1 rfl rfl (GSpec.plain rfl (spec_loadO1 (k := 1) (j := 0) (E := eB) rfl Try.isAgg4 (fun _ => rfl) (Get.tmp rfl) rfl rfl (getD_some (by (first | omega | (simp only [List.length_set]; omega)))) rfl)) ?_
    refine L.op1 rfl rfl (GSpec.plain rfl (spec_not rfl (Get.tmp rfl))) ?_
    refine L.nil ?_
    refine N.thenW ?_
    refine W.cond (Get.tmp rfl) (fun h2 => ?_) (fun h2 => ?_)
    · have ph2 := h2; try simp only [decide_eq_true_eq, decide_eq_false_iff_not, Bool.and_eq_true, Bool.or_eq_true, Bool.and_eq_false_iff, Bool.or_eq_false_iff, Bool.not_eq_true', Bool.not_eq_false', Bool.not_true, Bool.not_false, Int.not_lt, Int.not_le] at ph2
      refine W.seq ?_
      refine W.region ?_
      refine L.op1 rfl rfl (GSpec.plain rfl (spec_fieldAddrP (f := 0) rfl Try.underlying24 rfl Try.sizeOf22 (Get.tmp rfl) rfl rfl)) ?_
      refine L.op1 rfl rfl (GSpec.plain rfl (spec_loadP1 rfl Try.isAgg22 (Get.tmp rfl))) ?_
      refine L.op1 rfl rfl (GSpec.plain rfl (spec_move rfl (Get.tmp rfl))) ?_
      refine L.op1 rfl rfl (GSpec.plain rfl (spec_indexAddrD (E := eN) rfl Try.underlying22 Try.sizeOf50 (fun _ => rfl) (Get.tmp rfl) (Get.tmp rfl) (by (first | omega | (simp only [List.length_set]; omega))))) ?_
      refine L.op1 rfl rfl (GSpec.plain rfl (spec_loadPA rfl Try.isAgg50 Try.sizeOf50 (Get.tmp rfl) rfl)) ?_
      refine L.box rfl rfl (GSpec.plain rfl (spec_alloc rfl ti50 z50)) (fun r9 => ?_)
      refine L.storeW (k := 0) rfl rfl rfl Try.sizeOf50 (Get.tmp rfl) (Get.tmp rfl) rfl rfl rfl ?_
      refine L.nil ?_
      refine N.thenW ?_
      refine W.keep (.cons (t := 0) rfl (.cons (t := 2) rfl (.cons (t := 4) rfl (.cons (t := 5) rfl (.cons (t := 6) rfl (.cons (t := 8) rfl (.cons (t := 9) rfl .nil))))))) .refl ?_
      refine W.seq ?_
      apply W.anyH [_, _] [_] mixed (.cons 1 rfl (.cons 1 rfl (.cons 0 rfl .nil)))
      refine AH.first 0 rfl (by kernel_rfl) (by kernel_rfl) (by kernel_rfl) rfl rfl rfl (QSpec.plain rfl (qs_loadSelf rfl Try.isAgg70 (Get.tmp rfl))) ?_
      refine AH.first 1 rfl (by kernel_rfl) (by kernel_rfl) (by kernel_rfl) rfl rfl rfl (QSpec.plain rfl (qs_fieldAddr (f := 1) (off' := 1) rfl Try.underlying50 rfl Try.sizeOf3 (Get.tmp rfl) rfl)) ?_
      refine AH.first 2 rfl (by kernel_rfl) (by kernel_rfl) (by kernel_rfl) rfl rfl rfl (QSpec.plain rfl (qs_load1 (k := 0) rfl Try.isAgg3 (Get.tmp rfl) rfl rfl)) ?_
      refine AH.first 4 rfl (by kernel_rfl) (by kernel_rfl) (by kernel_rfl) rfl rfl rfl (QSpec.plain rfl (qs_loadSelf rfl Try.isAgg70 (Get.tmp rfl))) ?_
      refine AH.first 5 rfl (by kernel_rfl) (by kernel_rfl) (by kernel_rfl) rfl rfl rfl (QSpec.plain rfl (qs_fieldAddr (f := 2) (off' := 2) rfl Try.underlying50 rfl Try.sizeOf3 (Get.tmp rfl) rfl)) ?_
      refine AH.first 6 rfl (by kernel_rfl) (by kernel_rfl) (by kernel_rfl) rfl rfl rfl (QSpec.plain rfl (qs_load1 (k := 0) rfl Try.isAgg3 (Get.tmp rfl) rfl rfl)) ?_
      refine AH.only 3 rfl (by kernel_rfl) rfl (fun w1 C1 => ?_)
      refine L.callC (A := [_]) rfl rfl rfl rfl (Get.tmp rfl) Try.call54 (ih k.toNat hk (nd l k).lo (by omega) (.lo hr (by omega)) K D hV) (.cons 0 rfl (.cons 0 rfl .refl)) (.cons (Get.tmp rfl) .nil) (fun ⟨⟨K30, D30⟩, hV30⟩ => ?_)
      try dsimp only
      dsimp only [visX]
      refine L.nil ?_
      refine AftH.next ?_
      refine AH.only 7 rfl (by kernel_rfl) rfl (fun w2 C2 => ?_)
      refine L.callC (A := [_]) rfl rfl rfl rfl (Get.tmp rfl) Try.call54 (ih k.toNat hk (nd l k).hi (by omega) (.hi hr (by omega)) K30 D30 hV30) (.cons 0 rfl (.cons 0 rfl .refl)) (.cons (Get.tmp rfl) .nil) (fun ⟨⟨K34, D34⟩, hV34⟩ => ?_)
      try dsimp only
      dsimp only [visX]
      have hlk2 := hV34.lenK; have hld2 := hV34.lenD
      dsimp only at hlk2 hld2
      refine L.nil ?_
      refine AftH.next ?_
      refine AH.first 8 rfl (by kernel_rfl) (by kernel_rfl) (by kernel_rfl) rfl rfl rfl (QSpec.plain rfl (qs_assign rfl (Get.tmp rfl))) ?_
      refine AH.first 9 rfl (by kernel_rfl) (by kernel_rfl) (by kernel_rfl) rfl rfl rfl (QSpec.plain rfl (qs_assign rfl (Get.tmp rfl))) ?_
      refine AH.done (by kernel_rfl) ?_
      try simp only [List.cons_append, List.nil_append]
      refine N.thenW ?_
      refine W.keep (.cons (t := 0) rfl (.cons (t := 2) rfl (.cons (t := 5) rfl (.cons (t := 6) rfl (.cons (t := 8) rfl (.cons (t := 9) rfl (.cons (t := 10) rfl (.cons (t := 11) rfl .nil)))))))) .refl ?_
      apply W.anyH [_, _] [_] mixed (.cons 0 rfl (.cons 0 rfl (.cons 0 rfl .nil)))
      refine AH.first 0 rfl (by kernel_rfl) (by kernel_rfl) (by kernel_rfl) rfl rfl rfl (QSpec.plain rfl (qs_loadP1 rfl Try.isAgg39 (Get.tmp rfl))) ?_
      refine AH.first 1 rfl (by kernel_rfl) (by kernel_rfl) (by kernel_rfl) rfl rfl rfl (QSpec.plain rfl (qs_move rfl (Get.tmp rfl))) ?_
      refine AH.first 2 rfl (by kernel_rfl) (by kernel_rfl) (by kernel_rfl) rfl rfl rfl (QSpec.plain rfl (qs_loadP1 rfl Try.isAgg33 (Get.tmp rfl))) ?_
      refine AH.first 3 rfl (by kernel_rfl) (by kernel_rfl) (by kernel_rfl) rfl rfl rfl (QSpec.plain rfl (qs_move rfl (Get.tmp rfl))) ?_
      refine AH.first 4 rfl (by kernel_rfl) (by kernel_rfl) (by kernel_rfl) rfl rfl rfl (QSpec.plain rfl (qs_loadP1 rfl Try.isAgg59 (Get.tmp rfl))) ?_
      refine AH.first 5 rfl (by kernel_rfl) (by kernel_rfl) (by kernel_rfl) rfl rfl rfl (QSpec.plain rfl (qs_loadW (k := 0) rfl Try.isAgg50 Try.sizeOf50 (Get.tmp rfl) rfl rfl)) ?_
      refine AH.first 6 rfl (by kernel_rfl) (by kernel_rfl) (by kernel_rfl) rfl rfl rfl (QSpec.plain rfl (qs_move rfl (Get.tmp rfl))) ?_
      refine AH.first 7 rfl (by kernel_rfl) (by kernel_rfl) (by kernel_rfl) rfl rfl rfl (QSpec.plain rfl (qs_move rfl (Get.tmp rfl))) ?_
      refine AH.only 8 rfl (by kernel_rfl) rfl (fun w3 C3 => ?_)
      refine L.op1 rfl rfl (GSpec.plain rfl (spec_callF (A := cA rI ok) (X := cX rI cb ok) (⟨(nd l k, _, _), hcb k hr (by omega)⟩ : cI ok) rfl (Get.tmp rfl) (.cons (Get.tmp rfl) (.cons (Get.tmp rfl) (.cons (Get.tmp rfl) .nil))))) ?_
      refine L.nil ?_
      refine AftH.next ?_
      refine AH.only 9 rfl (by kernel_rfl) rfl (fun w4 C4 => ?_)
      refine L.op1 rfl rfl (GSpec.plain rfl (spec_indexAddrO (k := 0) (E := eI) rfl Try.underlying39 Try.sizeOf3 (Get.tmp rfl) (Get.tmp rfl) rfl (by (first | omega | (simp only [List.length_set]; omega))))) ?_
      refine L.nil ?_
      refine AftH.next ?_
      refine AH.only 10 rfl (by kernel_rfl) rfl (fun w5 C5 => ?_)
      refine L.storeO1 (k := 0) (j := 0) (E := eI) rfl rfl rfl Try.sizeOf3 (fun _ => rfl) (Get.tmp rfl) (Get.tmp rfl) rfl rfl (by decide) (getD_some (by (first | omega | (simp only [List.length_set]; omega)))) rfl ?_
      refine L.nil ?_
      refine AftH.next ?_
      refine AH.only 11 rfl (by kernel_rfl) rfl (fun w6 C6 => ?_)
      refine L.op1 rfl rfl (GSpec.plain rfl (spec_indexAddrO (k := 1) (E := eB) rfl Try.underlying33 Try.sizeOf4 (Get.tmp rfl) (Get.tmp rfl) rfl (by (first | omega | (simp only [List.length_set]; omega))))) ?_
      refine L.nil ?_
      refine AftH.next ?_
      refine AH.only 12 rfl (by kernel_rfl) rfl (fun w7 C7 => ?_)
      refine L.storeO1 (k := 1) (j := 0) (E := eB) rfl rfl rfl Try.sizeOf4 (fun _ => rfl) (Get.tmp rfl) Get.cbool rfl rfl (by decide) (getD_some (by (first | omega | (simp only [List.length_set]; omega)))) rfl ?_
      refine L.nil ?_
      refine AftH.next ?_
      refine AH.done (by kernel_rfl) ?_
      try simp only [List.cons_append, List.nil_append]
      refine N.thenW ?_
      refine W.keep (.cons (t := 0) rfl (.cons (t := 6) rfl (.cons (t := 8) rfl .nil))) .refl ?_
      refine W.seq ?_
      refine W.region ?_
      refine L.op1 rfl rfl (GSpec.plain rfl (spec_loadP1 rfl Try.isAgg39 (Get.tmp rfl))) ?_
      refine L.op1 rfl rfl (GSpec.plain rfl (spec_move rfl (Get.tmp rfl))) ?_
      refine L.op1 rfl rfl (GSpec.plain rfl (spec_indexAddrO (k := 0) (E := eI) rfl Try.underlying39 Try.sizeOf3 (Get.tmp rfl) (Get.tmp rfl) rfl (by (first | omega | (simp only [List.length_set]; omega))))) ?_
      refine L.op1 rfl rfl (GSpec.plain rfl (spec_loadO1 (k := 0) (j := 0) (E := eI) rfl Try.isAgg3 (fun _ => rfl) (Get.tmp rfl) rfl rfl (getD_some (by (first | omega | (simp only [List.length_set]; omega)))) rfl)) ?_
      refine L.op1 rfl rfl (GSpec.plain rfl (spec_assign rfl (Get.tmp rfl))) ?_
      refine L.nil ?_
      refine N.thenW ?_
      refine W.keep (.cons (t := 8) rfl .nil) .refl ?_
      refine W.ret ?_
      refine N.ret (X := (visX rI eI 3 1 l cb e0 e1 f vk vd k)) ⟨(_, _), hV34.set hok1.1 hkf (fold_node hg hok (by omega)).symm⟩ rfl (.tmp (t := 8) (Get.tmp rfl) .nil) (res1 (eqI ?_)) (.cons 0 rfl (.cons 0 rfl .nil)) (fun _ _ h => h)
      exact hV34.at hok1.1 hkf (fold_node hg hok (by omega)).symm
    · have ph2 := h2; try simp only [decide_eq_true_eq, decide_eq_false_iff_not, Bool.and_eq_true, Bool.or_eq_true, Bool.and_eq_false_iff, Bool.or_eq_false_iff, Bool.not_eq_true', Bool.not_eq_false', Bool.not_true, Bool.not_false, Int.not_lt, Int.not_le] at ph2
      refine W.skip ?_
      refine N.thenW ?_
      refine W.seq ?_
      refine W.region ?_
      refine L.op1 rfl rfl (GSpec.plain rfl (spec_loadP1 rfl Try.isAgg39 (Get.tmp rfl))) ?_
      refine L.op1 rfl rfl (GSpec.plain rfl (spec_move rfl (Get.tmp rfl))) ?_
      refine L.op1 rfl rfl (GSpec.plain rfl (spec_indexAddrO (k := 0) (E := eI) rfl Try.underlying39 Try.sizeOf3 (Get.tmp rfl) (Get.tmp rfl) rfl (by (first | omega | (simp only [List.length_set]; omega))))) ?_
      refine L.op1 rfl rfl (GSpec.plain rfl (spec_loadO1 (k := 0) (j := 0) (E := eI) rfl Try.isAgg3 (fun _ => rfl) (Get.tmp rfl) rfl rfl (getD_some (by (first | omega | (simp only [List.length_set]; omega)))) rfl)) ?_
      refine L.op1 rfl rfl (GSpec.plain rfl (spec_assign rfl (Get.tmp rfl))) ?_
      refine L.nil ?_
      refine N.thenW ?_
      refine W.keep (.cons (t := 8) rfl .nil) .refl ?_
      refine W.ret ?_
      refine N.ret (X := (visX rI eI 3 1 l cb e0 e1 f vk vd k)) ⟨(K, D), hV⟩ rfl (.tmp (t := 8) (Get.tmp rfl) .nil) (res1 (eqI ?_)) (.cons 0 rfl (.cons 0 rfl .nil)) (fun _ _ h => h)
      exact hV.get hok1.1 (by simpa using h2)

theorem foldI_ok (l : List Node) (hg : Good l) (f : Int) (hf : okNode l f) (cb : Node → Int → Int → Int) (ok : Node → Int → Int → Prop) (e0 e1 : Int) (hcb : ∀ k, Reach l f k → 1 < k → ok (nd l k) (fold l cb e0 e1 (nd l k).lo) (fold l cb e0 e1 (nd l k).hi)) : CallT Try.prog 32 [Rp.agg (dagR l), Rp.int .i64 f, Rp.agg (eI e0 ++ eI e1), cR rI cb ok] [] (.one (rI (fold l cb e0 e1 f))) := by
  refine W.enter (fn := Try.f32) (n := 22) Try.func32 rfl Try.ntmps32 rfl (fun w₀ C₀ => ?_)
  simp only [argS]
  have hf1 := hf; unfold okNode at hf1
  have hsm := hg.small
  refine W.seq ?_
  refine W.region ?_
  refine L.box rfl rfl (GSpec.plain rfl (spec_box rfl (GetC.agg (Get.tmp rfl)))) (fun r4 => ?_)
  refine L.box rfl rfl (GSpec.plain rfl (spec_box rfl (GetC.agg (Get.tmp rfl)))) (fun r6 => ?_)
  refine L.box rfl rfl (GSpec.plain rfl (spec_box rfl (GetC.one (Get.tmp rfl)))) (fun r7 => ?_)
  refine L.op1 rfl rfl (GSpec.plain rfl (spec_assign rfl (Get.cint rfl))) ?_
  refine L.nil ?_
  refine N.thenW ?_
  refine W.seq ?_
  refine W.region ?_
  refine L.op1 rfl rfl (GSpec.plain rfl (spec_move rfl (Get.tmp rfl))) ?_
  first | refine L.op1 rfl rfl (GSpec.plain rfl (fit_i64 (by omega) (by omega) (spec_add rfl (Get.tmp rfl) (Get.cint rfl)))) ?_ | refine L.op1 rfl rfl (GSpec.plain rfl (spec_add rfl (Get.tmp rfl) (Get.cint rfl))) ?_
  refine L.op rfl rfl (GSpec.plain rfl (spec_makeSlice (z₀ := (0 : Int)) (E := eI) rfl Try.underlying39 ti3 z3 (fun _ => rfl) (Get.tmp rfl) (Get.tmp rfl) (by omega) (by omega) (by omega))) (fun v14 => ?_)
  refine L.box rfl rfl (GSpec.plain rfl (spec_alloc rfl ti39 z39)) (fun r9 => ?_)
  refine L.factM 1 rfl osl_one fun hq => ?_
  haveI := One.val hq
  refine L.storeB (k := 0) (R := Rp.val v14) rfl rfl rfl Try.sizeOf39 (Get.tmp rfl) (Get.tmp rfl) rfl rfl ?_
  refine L.nil ?_
  refine N.thenW ?_
  refine W.seq ?_
  refine W.region ?_
  refine L.op1 rfl rfl (GSpec.plain rfl (spec_move rfl (Get.tmp rfl))) ?_
  first | refine L.op1 rfl rfl (GSpec.plain rfl (fit_i64 (by omega) (by omega) (spec_add rfl (Get.tmp rfl) (Get.cint rfl)))) ?_ | refine L.op1 rfl rfl (GSpec.plain rfl (spec_add rfl (Get.tmp rfl) (Get.cint rfl))) ?_
  refine L.op rfl rfl (GSpec.plain rfl (spec_makeSlice (z₀ := false) (E := eB) rfl Try.underlying33 ti4 z4 (fun _ => rfl) (Get.tmp rfl) (Get.tmp rfl) (by omega) (by omega) (by omega))) (fun v17 => ?_)
  refine L.box rfl rfl (GSpec.plain rfl (spec_alloc rfl ti33 z33)) (fun r10 => ?_)
  refine L.factM 1 rfl osl_one fun hq => ?_
  haveI := One.val hq
  refine L.storeB (k := 0) (R := Rp.val v17) rfl rfl rfl Try.sizeOf33 (Get.tmp rfl) (Get.tmp rfl) rfl rfl ?_
  refine L.nil ?_
  refine N.thenW ?_
  refine W.keep (.cons (t := 1) rfl (.cons (t := 4) rfl (.cons (t := 6) rfl (.cons (t := 7) rfl (.cons (t := 8) rfl (.cons (t := 9) rfl (.cons (t := 10) rfl .nil))))))) .refl ?_
  refine W.seq ?_
  refine W.region ?_
  refine L.box rfl rfl (GSpec.plain rfl (spec_alloc rfl ti70 z70)) (fun r11 => ?_)
  refine L.nil ?_
  refine N.thenW ?_
  refine W.pubB 4 7 rfl rfl ?_
  refine W.pubB 6 6 rfl rfl ?_
  refine W.pubB 7 5 rfl rfl ?_
  refine W.pubB 9 3 rfl rfl ?_
  refine W.pubB 10 1 rfl rfl ?_
  refine W.seq ?_
  refine W.region ?_
  refine L.op1 rfl rfl (GSpec.plain rfl (spec_makeFunc rfl (.cons (Get.tmp rfl) (.cons (Get.tmp rfl) (.cons (Get.tmp rfl) (.cons (Get.tmp rfl) (.cons (Get.tmp rfl) (.cons (Get.tmp rfl) .nil)))))))) ?_
  refine L.storeB (k := 0) rfl rfl rfl Try.sizeOf70 (Get.tmp rfl) (Get.tmp rfl) rfl rfl ?_
  refine L.nil ?_
  refine N.thenW ?_
  refine W.pubSelf (pre := [_, _, _]) (post := [_, _]) 11 0 rfl rfl ?_
  refine W.keep (.cons (t := 1) rfl (.cons (t := 8) rfl (.cons (t := 11) rfl .nil))) .refl ?_
  refine W.seq ?_
  refine W.region ?_
  refine L.op1 rfl rfl (GSpec.plain rfl (spec_loadSelf rfl Try.isAgg70 (Get.tmp rfl))) ?_
  refine L.op1 rfl rfl (GSpec.plain rfl (spec_move rfl (Get.tmp rfl))) ?_
  refine L.callC (A := [_]) rfl rfl rfl rfl (Get.tmp rfl) Try.call54 (visitI_ok l hg f hf cb ok e0 e1 hcb r11 v14 v17 (f.toNat + 1) f (by omega) .here (List.replicate (f + 1).toNat (0 : Int)) (List.replicate (f + 1).toNat false) (vok_nil (by omega))) (.cons 1 rfl (.cons 0 rfl .refl)) (.cons (Get.tmp rfl) .nil) (fun ⟨⟨K21, D21⟩, hV21⟩ => ?_)
  try dsimp only
  dsimp only [visX]
  refine L.op1 rfl rfl (GSpec.plain rfl (spec_assign rfl (Get.tmp rfl))) ?_
  refine L.nil ?_
  refine N.thenW ?_
  refine W.keep (.cons (t := 8) rfl .nil) .refl ?_
  refine W.ret ?_
  refine N.ret () rfl (.tmp (t := 8) (Get.tmp rfl) .nil) (res1 (eqI ?_)) .nil (fun _ _ h => h)
  rfl

end Go.Proofs.Ytcpkjpkjahgobaa
