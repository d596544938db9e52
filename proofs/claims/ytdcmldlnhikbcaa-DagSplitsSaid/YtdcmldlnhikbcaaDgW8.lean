import Derived.Test.YtdcmldlnhikbcaaDgW7
set_option linter.unusedSimpArgs false
set_option maxRecDepth 8000
set_option linter.unusedVariables false
namespace Go.Proofs.Ytdcmldlnhikbcaa
open Go.Sim
theorem fix1_ok (lv : Int) (h20 : lv < 20) (one : Bool) (r m mk md : Nat) (s : Bs) (f : Int) (v : Value) (A : List (Node × Int)) (K : List (Three × Int)) (hC : AtC lv s f A K) : CallT Try.prog 64 [Rp.at (bw0 lv r mk md), Rp.int .i64 f, Rp.at [Rp.int .i64 lv], Rp.at [Rp.bool one]] [MF.box r 90 [Rp.val v, Rp.val (.map (some m)), Rp.bool s.full], MF.osl v 26 3 eN s.L, MF.map m nv iv A, MF.map mk tv iv K] (apX orV s.L (fixL lv one s f) r m mk) := by
  refine W.enter (fn := Try.f64) (n := 18) Try.func64 rfl Try.ntmps64 rfl (fun w₀ C₀ => ?_)
  simp only [argS]
  have hf := hC.ok; have hs := hC.len; have hG := hC.good; have hfl := hC.full; have he := hC.lev; have hkk := kids_ok hG hf (by omega)
  have hok2 := hf; unfold okNode at hok2
  dsimp only [bw0, opR]
  refine W.seq ?_
  refine W.region ?_
  refine L.op1 rfl rfl (GSpec.plain rfl (spec_assign rfl (Get.cint rfl))) ?_
  refine L.nil ?_
  refine N.thenW ?_
  refine W.seq ?_
  apply W.any 12 mixed (by kernel_rfl)
  · apply Head.one rfl rfl (GSpec.plain rfl (spec_move rfl (Get.tmp rfl)))
    apply Head.one rfl rfl (GSpec.plain rfl (spec_nilCheck rfl (Get.tmp rfl)))
    apply Head.one rfl rfl (GSpec.plain rfl (spec_fieldAddrP (f := 0) rfl Try.underlying83 rfl Try.sizeOf79 (Get.tmp rfl) rfl rfl))
    apply Head.one rfl rfl (GSpec.plain rfl (spec_loadP1 rfl Try.isAgg79 (Get.tmp rfl)))
    apply Head.one rfl rfl (GSpec.plain rfl (spec_nilCheck rfl (Get.tmp rfl)))
    apply Head.one rfl rfl (GSpec.plain rfl (spec_fieldAddrP (f := 0) rfl Try.underlying86 rfl Try.sizeOf58 (Get.tmp rfl) rfl rfl))
    apply Head.one rfl rfl (GSpec.plain rfl (spec_loadP1 rfl Try.isAgg58 (Get.tmp rfl)))
    apply Head.one rfl rfl (GSpec.plain rfl (spec_move rfl (Get.tmp rfl)))
    apply Head.one rfl rfl (GSpec.plain rfl (spec_loadP1 rfl Try.isAgg3 (Get.tmp rfl)))
    apply Head.one rfl rfl (GSpec.plain rfl (spec_loadP1 rfl Try.isAgg4 (Get.tmp rfl)))
    apply Head.one rfl rfl (GSpec.plain rfl (spec_callB rfl Try.call65 (dhalf_ok _ Rp.any _ _ _ _ hf) (.cons (Get.tmp rfl) (.cons (Get.tmp rfl) (.cons (Get.tmp rfl) (.cons (Get.tmp rfl) .nil)))) (.cons (.box 0 rfl (.cons (.slice 1 rfl (fun _ => rfl)) (.cons .any (.cons .same .nil)))) (.cons .same (.cons .same (.cons .same .nil))))))
    apply Head.one rfl rfl (GSpec.plain rfl (spec_assign rfl (Get.tmp rfl)))
    exact Head.nil
  refine Fin.one ?_
  refine Fin.one ?_
  refine Fin.one ?_
  refine Fin.one ?_
  refine Fin.one ?_
  refine Fin.one ?_
  refine Fin.one ?_
  refine Fin.one ?_
  refine Fin.one ?_
  refine Fin.one ?_
  refine Fin.one ?_
  refine Fin.one ?_
  refine Fin.nil ?_
  refine L.nil ?_
  refine N.thenW ?_
  refine W.keep (.cons (t := 6) rfl .nil) .refl ?_
  refine W.ret ?_
  refine N.ret (X := (apX orV s.L (fixL lv one s f) r m mk)) ⟨((v, s, A), (K, half s.L f lv one)), ap_id v hs hC.at_ hC.kr hC.kok⟩ rfl (.tmp (t := 6) (Get.tmp rfl) .nil) (res1 (eqI ?_)) (.cons 0 rfl (.cons 0 rfl (.cons 0 rfl (.cons 0 rfl .nil)))) (fun _ _ h => h)
  rfl

theorem some1_ok (lv : Int) (h20 : lv < 20) (r m mk md : Nat) (s : Bs) (f : Int) (v : Value) (A : List (Node × Int)) (K : List (Three × Int)) (hC : AtC lv s f A K) : CallT Try.prog 68 [Rp.at (bw0 lv r mk md), Rp.int .i64 f] [MF.box r 90 [Rp.val v, Rp.val (.map (some m)), Rp.bool s.full], MF.osl v 26 3 eN s.L, MF.map m nv iv A, MF.map mk tv iv K] (apX orV s.L (someL s f) r m mk) := by
  refine W.enter (fn := Try.f68) (n := 31) Try.func68 rfl Try.ntmps68 rfl (fun w₀ C₀ => ?_)
  simp only [argS]
  have hf := hC.ok; have hs := hC.len; have hG := hC.good; have hfl := hC.full; have he := hC.lev; have hkk := kids_ok hG hf (by omega)
  have hok2 := hf; unfold okNode at hok2
  dsimp only [bw0, opR]
  refine W.seq ?_
  refine W.region ?_
  refine L.op1 rfl rfl (GSpec.plain rfl (spec_assign rfl (Get.cint rfl))) ?_
  refine L.nil ?_
  refine N.thenW ?_
  refine W.seq ?_
  refine W.region ?_
  refine L.op1 rfl rfl (GSpec.plain rfl (spec_move rfl (Get.tmp rfl))) ?_
  refine L.op1 rfl rfl (GSpec.plain rfl (spec_nilCheck rfl (Get.tmp rfl))) ?_
  refine L.op1 rfl rfl (GSpec.plain rfl (spec_fieldAddrP (f := 0) rfl Try.underlying83 rfl Try.sizeOf79 (Get.tmp rfl) rfl rfl)) ?_
  refine L.op1 rfl rfl (GSpec.plain rfl (spec_loadP1 rfl Try.isAgg79 (Get.tmp rfl))) ?_
  refine L.op1 rfl rfl (GSpec.plain rfl (spec_nilCheck rfl (Get.tmp rfl))) ?_
  refine L.op1 rfl rfl (GSpec.plain rfl (spec_fieldAddrP (f := 0) rfl Try.underlying86 rfl Try.sizeOf58 (Get.tmp rfl) rfl rfl)) ?_
  refine L.op1 rfl rfl (GSpec.plain rfl (spec_loadP1 rfl Try.isAgg58 (Get.tmp rfl))) ?_
  refine L.op1 rfl rfl (GSpec.plain rfl (spec_nilCheck rfl (Get.tmp rfl))) ?_
  refine L.op1 rfl rfl (GSpec.plain rfl (spec_fieldAddr (f := 0) (off' := 0) rfl Try.underlying90 rfl Try.sizeOf22 (Get.tmp rfl) rfl)) ?_
  refine L.op1 rfl rfl (GSpec.plain rfl (spec_load1 (k := 0) rfl Try.isAgg22 (Get.tmp rfl) rfl rfl)) ?_
  refine L.op1 rfl rfl (GSpec.plain rfl (spec_move rfl (Get.tmp rfl))) ?_
  refine L.op1 rfl rfl (GSpec.plain rfl (spec_indexAddrO (k := 1) (E := eN) rfl Try.underlying22 Try.sizeOf26 (Get.tmp rfl) (Get.tmp rfl) rfl (by omega))) ?_
  refine L.op1 rfl rfl (GSpec.plain rfl (spec_loadOA (k := 1) (E := eN) rfl Try.isAgg26 Try.sizeOf26 (fun _ => rfl) (Get.tmp rfl) rfl rfl (getD_some (by omega)))) ?_
  refine L.box rfl rfl (GSpec.plain rfl (spec_alloc rfl ti26 z26)) (fun r5 => ?_)
  refine L.storeW (k := 0) rfl rfl rfl Try.sizeOf26 (Get.tmp rfl) (Get.tmp rfl) rfl rfl rfl ?_
  refine L.nil ?_
  refine N.thenW ?_
  refine W.keep (.cons (t := 0) rfl (.cons (t := 4) rfl (.cons (t := 5) rfl .nil))) .refl ?_
  refine W.seq ?_
  apply W.any 11 mixed (by kernel_rfl)
  · apply Head.one rfl rfl (GSpec.plain rfl (spec_move rfl (Get.tmp rfl)))
    apply Head.one rfl rfl (GSpec.plain rfl (spec_nilCheck rfl (Get.tmp rfl)))
    apply Head.one rfl rfl (GSpec.plain rfl (spec_fieldAddrP (f := 0) rfl Try.underlying83 rfl Try.sizeOf79 (Get.tmp rfl) rfl rfl))
    apply Head.one rfl rfl (GSpec.plain rfl (spec_loadP1 rfl Try.isAgg79 (Get.tmp rfl)))
    apply Head.one rfl rfl (GSpec.plain rfl (spec_fieldAddr (f := 1) (off' := 1) rfl Try.underlying26 rfl Try.sizeOf3 (Get.tmp rfl) rfl))
    apply Head.one rfl rfl (GSpec.plain rfl (spec_load1 (k := 0) rfl Try.isAgg3 (Get.tmp rfl) rfl rfl))
    apply Head.one rfl rfl (GSpec.plain rfl (spec_fieldAddr (f := 2) (off' := 2) rfl Try.underlying26 rfl Try.sizeOf3 (Get.tmp rfl) rfl))
    apply Head.one rfl rfl (GSpec.plain rfl (spec_load1 (k := 0) rfl Try.isAgg3 (Get.tmp rfl) rfl rfl))
    apply Head.one rfl rfl (GSpec.plain rfl (spec_fieldAddr (f := 2) (off' := 2) rfl Try.underlying26 rfl Try.sizeOf3 (Get.tmp rfl) rfl))
    apply Head.one rfl rfl (GSpec.plain rfl (spec_load1 (k := 0) rfl Try.isAgg3 (Get.tmp rfl) rfl rfl))
    apply Head.one rfl rfl (GSpec.plain rfl (spec_build (Rs := [_, _, _]) rfl ti69 z69 Try.underlying69 pl69 (.cons (GetC.one (Get.tmp rfl)) rfl rfl rfl (.cons (GetC.one (Get.tmp rfl)) rfl rfl rfl (.cons (GetC.one (Get.tmp rfl)) rfl rfl rfl .nil)))))
    exact Head.nil
  refine Fin.one ?_
  refine Fin.one ?_
  refine Fin.one ?_
  refine Fin.one ?_
  refine Fin.one ?_
  refine Fin.one ?_
  refine Fin.one ?_
  refine Fin.one ?_
  refine Fin.one ?_
  refine Fin.one ?_
  refine Fin.one ?_
  refine Fin.nil ?_
  refine L.call rfl rfl rfl rfl Try.call69 (dapply_ok orV 21 s (kids3 s.L f) r m mk _ _ _ _ rfl hs hC.at_ hC.kr (fun _ => hC.kok) (.inr ⟨hG, hkk.1, by have := (hG.lv3 hkk.1).1; omega⟩)) (.cons 1 rfl (.cons 1 rfl (.cons 1 rfl (.cons 1 rfl .refl)))) (.cons (Get.tmp rfl) (.cons (Get.tmp rfl) .nil)) (fun ⟨⟨⟨v30, s30, A30⟩, K30, i30⟩, p30⟩ => ?_)
  try dsimp only
  refine L.op1 rfl rfl (GSpec.plain rfl (spec_assign rfl (Get.tmp rfl))) ?_
  refine L.nil ?_
  refine N.thenW ?_
  refine W.keep (.cons (t := 4) rfl .nil) .refl ?_
  refine W.ret ?_
  refine N.ret (X := (apX orV s.L (someL s f) r m mk)) ⟨((v30, s30, A30), (K30, i30)), p30⟩ rfl (.tmp (t := 4) (Get.tmp rfl) .nil) (res1 (eqI ?_)) (.cons 0 rfl (.cons 0 rfl (.cons 0 rfl (.cons 0 rfl .nil)))) (fun _ _ h => h)
  rfl

theorem dat_ok (lv : Int) (h20 : lv < 20) (leaf : Bs → Int → Bs × Int) (r m mk md : Nat) (s : Bs) (f : Int) (v : Value) (A : List (Node × Int)) (K : List (Three × Int)) (hC : AtC lv s f A K) : CallT Try.prog 76 [Rp.int .i64 f, Rp.at [atR leaf lv], Rp.at [Rp.at (bw0 lv r mk md)]] [MF.box r 90 [Rp.val v, Rp.val (.map (some m)), Rp.bool s.full], MF.osl v 26 3 eN s.L, MF.map m nv iv A, MF.map mk tv iv K] (apX orV s.L (leaf s f) r m mk) := by
  refine W.enter (fn := Try.f76) (n := 9) Try.func76 rfl Try.ntmps76 rfl (fun w₀ C₀ => ?_)
  simp only [argS]
  dsimp only [atR]
  refine W.seq ?_
  refine W.region ?_
  refine L.op1 rfl rfl (GSpec.plain rfl (spec_assign rfl (Get.cint rfl))) ?_
  refine L.nil ?_
  refine N.thenW ?_
  refine W.seq ?_
  refine W.region ?_
  refine L.op1 rfl rfl (GSpec.plain rfl (spec_loadP1 rfl Try.isAgg87 (Get.tmp rfl))) ?_
  refine L.op1 rfl rfl (GSpec.plain rfl (spec_loadP1 rfl Try.isAgg77 (Get.tmp rfl))) ?_
  refine L.op1 rfl rfl (GSpec.plain rfl (spec_move rfl (Get.tmp rfl))) ?_
  refine L.callM (⟨⟨r, m, mk, md, s, f, v, A, K⟩, hC⟩ : AtI lv) rfl rfl rfl rfl (Get.tmp rfl) (.cons 0 rfl (.cons 0 rfl (.cons 0 rfl (.cons 0 rfl .refl)))) (.cons (Get.tmp rfl) (.cons (Get.tmp rfl) .nil)) (fun ⟨⟨⟨v8, s8, A8⟩, K8, i8⟩, p8⟩ => ?_)
  try dsimp only
  refine L.op1 rfl rfl (GSpec.plain rfl (spec_assign rfl (Get.tmp rfl))) ?_
  refine L.nil ?_
  refine N.thenW ?_
  refine W.keep (.cons (t := 4) rfl .nil) .refl ?_
  refine W.ret ?_
  refine N.ret (X := (apX orV s.L (leaf s f) r m mk)) ⟨((v8, s8, A8), (K8, i8)), p8⟩ rfl (.tmp (t := 4) (Get.tmp rfl) .nil) (res1 (eqI ?_)) (.cons 0 rfl (.cons 0 rfl (.cons 0 rfl (.cons 0 rfl .nil)))) (fun _ _ h => h)
  rfl

theorem drepl_ok  : ∀ (lv : Int) (h20 : lv < 20) (leaf : Bs → Int → Bs × Int) (hl : LeafOk leaf lv) (k : Nat) (s : Bs) (f : Int) (r m mk md : Nat) (v : Value) (A : List (Node × Int)) (K : List (Three × Int)) (D : List (Int × Int)) (q : Bs × Int) (hQ : q = RP leaf lv s f) (hs : s.L.length ≤ 8192) (hf : okNode s.L f) (hA : AtOk s.L A) (hR : KR K) (hD : KR D) (hK : s.full = false → KOk orV s.L K) (hE : s.full = false → DOk leaf lv s.L D) (hC : s.full = true ∨ Good s.L ∧ lv - lev s.L f < k), CallT Try.prog 77 [Rp.at (bwR leaf lv r mk md), Rp.int .i64 f] [MF.box r 90 [Rp.val v, Rp.val (.map (some m)), Rp.bool s.full], MF.osl v 26 3 eN s.L, MF.map m nv iv A, MF.map mk tv iv K, MF.map md iv iv D] (rpX orV leaf lv s.L q r m mk md) := by
  intro lv h20 leaf hl k
  refine Nat.strongRecOn k fun k ih => ?_
  intro s f r m mk md v A K D q hQ hs hf hA hR hD hK hE hC
  have hok2 := hf; unfold okNode at hok2
  subst hQ
  refine W.enter (fn := Try.f77) (n := 97) Try.func77 rfl Try.ntmps77 rfl (fun w₀ C₀ => ?_)
  simp only [argS]
  dsimp only [bwR, bw0, opR]
  refine W.seq ?_
  refine W.region ?_
  refine L.op1 rfl rfl (GSpec.plain rfl (spec_assign rfl (Get.cint rfl))) ?_
  refine L.nil ?_
  refine N.thenW ?_
  refine W.seq ?_
  refine W.region ?_
  refine L.op1 rfl rfl (GSpec.plain rfl (spec_move rfl (Get.tmp rfl))) ?_
  refine L.op1 rfl rfl (GSpec.plain rfl (spec_nilCheck rfl (Get.tmp rfl))) ?_
  refine L.op1 rfl rfl (GSpec.plain rfl (spec_fieldAddrP (f := 0) rfl Try.underlying83 rfl Try.sizeOf79 (Get.tmp rfl) rfl rfl)) ?_
  refine L.op1 rfl rfl (GSpec.plain rfl (spec_loadP1 rfl Try.isAgg79 (Get.tmp rfl))) ?_
  refine L.op1 rfl rfl (GSpec.plain rfl (spec_nilCheck rfl (Get.tmp rfl))) ?_
  refine L.op1 rfl rfl (GSpec.plain rfl (spec_fieldAddrP (f := 0) rfl Try.underlying86 rfl Try.sizeOf58 (Get.tmp rfl) rfl rfl)) ?_
  refine L.op1 rfl rfl (GSpec.plain rfl (spec_loadP1 rfl Try.isAgg58 (Get.tmp rfl))) ?_
  refine L.op1 rfl rfl (GSpec.plain rfl (spec_nilCheck rfl (Get.tmp rfl))) ?_
  refine L.op1 rfl rfl (GSpec.plain rfl (spec_fieldAddr (f := 0) (off' := 0) rfl Try.underlying90 rfl Try.sizeOf22 (Get.tmp rfl) rfl)) ?_
  refine L.op1 rfl rfl (GSpec.plain rfl (spec_load1 (k := 0) rfl Try.isAgg22 (Get.tmp rfl) rfl rfl)) ?_
  refine L.op1 rfl rfl (GSpec.plain rfl (spec_move rfl (Get.tmp rfl))) ?_
  refine L.op1 rfl rfl (GSpec.plain rfl (spec_indexAddrO (k := 1) (E := eN) rfl Try.underlying22 Try.sizeOf26 (Get.tmp rfl) (Get.tmp rfl) rfl (by omega))) ?_
  refine L.op1 rfl rfl (GSpec.plain rfl (spec_loadOA (k := 1) (E := eN) rfl Try.isAgg26 Try.sizeOf26 (fun _ => rfl) (Get.tmp rfl) rfl rfl (getD_some (by omega)))) ?_
  refine L.box rfl rfl (GSpec.plain rfl (spec_alloc rfl ti26 z26)) (fun r5 => ?_)
  refine L.storeW (k := 0) rfl rfl rfl Try.sizeOf26 (Get.tmp rfl) (Get.tmp rfl) rfl rfl rfl ?_
  refine L.nil ?_
  refine N.thenW ?_
  refine W.keep (.cons (t := 0) rfl (.cons (t := 1) rfl (.cons (t := 4) rfl (.cons (t := 5) rfl .nil)))) .refl ?_
  refine W.seq ?_
  refine W.block ?_
  refine W.seq ?_
  apply W.any 20 mixed (by kernel_rfl)
  · apply Head.one rfl rfl (GSpec.plain rfl (spec_move rfl (Get.tmp rfl)))
    apply Head.one rfl rfl (GSpec.plain rfl (spec_nilCheck rfl (Get.tmp rfl)))
    apply Head.one rfl rfl (GSpec.plain rfl (spec_fieldAddrP (f := 0) rfl Try.underlying83 rfl Try.sizeOf79 (Get.tmp rfl) rfl rfl))
    apply Head.one rfl rfl (GSpec.plain rfl (spec_loadP1 rfl Try.isAgg79 (Get.tmp rfl)))
    apply Head.one rfl rfl (GSpec.plain rfl (spec_nilCheck rfl (Get.tmp rfl)))
    apply Head.one rfl rfl (GSpec.plain rfl (spec_fieldAddrP (f := 0) rfl Try.underlying86 rfl Try.sizeOf58 (Get.tmp rfl) rfl rfl))
    apply Head.one rfl rfl (GSpec.plain rfl (spec_loadP1 rfl Try.isAgg58 (Get.tmp rfl)))
    apply Head.one rfl rfl (GSpec.plain rfl (spec_nilCheck rfl (Get.tmp rfl)))
    apply Head.one rfl rfl (GSpec.plain rfl (spec_fieldAddr (f := 2) (off' := 2) rfl Try.underlying90 rfl Try.sizeOf4 (Get.tmp rfl) rfl))
    apply Head.one rfl rfl (GSpec.plain rfl (spec_load1 (k := 1) rfl Try.isAgg4 (Get.tmp rfl) rfl rfl))
    apply Head.one rfl rfl (GSpec.plain rfl (spec_move rfl (Get.tmp rfl)))
    apply Head.one rfl rfl (GSpec.guard rfl rfl rfl fun hg => (spec_fieldAddr (f := 0) (off' := 0) rfl Try.underlying26 rfl Try.sizeOf3 (Get.tmp rfl) rfl))
    apply Head.one rfl rfl (GSpec.guard rfl rfl rfl fun hg => (spec_load1 (k := 0) rfl Try.isAgg3 (Get.opt rfl hg) rfl rfl))
    apply Head.one rfl rfl (GSpec.guard rfl rfl rfl fun hg => (spec_move rfl (Get.tmp rfl)))
    apply Head.one rfl rfl (GSpec.guard rfl rfl rfl fun hg => (spec_nilCheck rfl (Get.opt rfl hg)))
    apply Head.one rfl rfl (GSpec.guard rfl rfl rfl fun hg => (spec_fieldAddrP (f := 1) rfl Try.underlying83 rfl Try.sizeOf3 (Get.opt rfl hg) rfl rfl))
    apply Head.one rfl rfl (GSpec.guard rfl rfl rfl fun hg => (spec_loadP1 rfl Try.isAgg3 (Get.opt rfl hg)))
    apply Head.one rfl rfl (GSpec.guard rfl rfl rfl fun hg => (spec_gtr rfl (Get.opt rfl hg) (Get.opt rfl hg)))
    apply Head.one rfl rfl (GSpec.plain rfl (spec_or rfl (Get.tmp rfl) (fun hb => (Get.opt rfl hb))))
    apply Head.one rfl rfl (GSpec.plain rfl (spec_assign rfl (Get.tmp rfl)))
    exact Head.nil
  refine Fin.one ?_
  refine Fin.one ?_
  refine Fin.one ?_
  refine Fin.one ?_
  refine Fin.one ?_
  refine Fin.one ?_
  refine Fin.one ?_
  refine Fin.one ?_
  refine Fin.one ?_
  refine Fin.one ?_
  refine Fin.one ?_
  refine Fin.one ?_
  refine Fin.one ?_
  refine Fin.one ?_
  refine Fin.one ?_
  refine Fin.one ?_
  refine Fin.one ?_
  refine Fin.one ?_
  refine Fin.one ?_
  refine Fin.one ?_
  refine Fin.nil ?_
  refine L.nil ?_
  refine N.thenW ?_
  refine W.keep (.cons (t := 0) rfl (.cons (t := 1) rfl (.cons (t := 4) rfl (.cons (t := 5) rfl (.cons (t := 24) rfl .nil))))) .refl ?_
  refine W.cond (Get.tmp rfl) (fun h1 => ?_) (fun h1 => ?_)
  · have ph1 := h1; try simp only [decide_eq_true_eq, decide_eq_false_iff_not, Bool.and_eq_true, Bool.or_eq_true, Bool.and_eq_false_iff, Bool.or_eq_false_iff, Bool.not_eq_true', Bool.not_eq_false', Bool.not_true, Bool.not_false, Int.not_lt, Int.not_le] at ph1
    refine W.seq ?_
    refine W.region ?_
    refine L.op1 rfl rfl (GSpec.plain rfl (spec_move rfl (Get.tmp rfl))) ?_
    refine L.op1 rfl rfl (GSpec.plain rfl (spec_assign rfl (Get.tmp rfl))) ?_
    refine L.nil ?_
    refine N.thenW ?_
    refine W.ret ?_
    refine N.ret (X := (rpX orV leaf lv s.L _ r m mk md)) ⟨((v, s, A), (K, D, f)), rp_same v (by rcases Bool.or_eq_true_iff.1 h1 with h | h; exact RP_full h; exact RP_high (of_decide_eq_true h)) hs hA hR hD hK hE⟩ rfl (.tmp (t := 4) (Get.tmp rfl) .nil) (res1 (eqI ?_)) (.cons 1 rfl (.cons 1 rfl (.cons 1 rfl (.cons 1 rfl (.cons 1 rfl .nil))))) (fun _ _ h => h)
    all_goals rfl
  · obtain ⟨hfl, hle⟩ := Bool.or_eq_false_iff.1 h1
    obtain ⟨hG, hk⟩ := hC.resolve_left (by rw [hfl]; simp)
    refine W.seq ?_
    apply W.any 8 mixed (by kernel_rfl)
    · apply Head.one rfl rfl (GSpec.plain rfl (spec_fieldAddr (f := 0) (off' := 0) rfl Try.underlying26 rfl Try.sizeOf3 (Get.tmp rfl) rfl))
      apply Head.one rfl rfl (GSpec.plain rfl (spec_load1 (k := 0) rfl Try.isAgg3 (Get.tmp rfl) rfl rfl))
      apply Head.one rfl rfl (GSpec.plain rfl (spec_move rfl (Get.tmp rfl)))
      apply Head.one rfl rfl (GSpec.plain rfl (spec_nilCheck rfl (Get.tmp rfl)))
      apply Head.one rfl rfl (GSpec.plain rfl (spec_fieldAddrP (f := 1) rfl Try.underlying83 rfl Try.sizeOf3 (Get.tmp rfl) rfl rfl))
      apply Head.one rfl rfl (GSpec.plain rfl (spec_loadP1 rfl Try.isAgg3 (Get.tmp rfl)))
      apply Head.one rfl rfl (GSpec.plain rfl (spec_eql rfl (Get.tmp rfl) (Get.tmp rfl)))
      apply Head.one rfl rfl (GSpec.plain rfl (spec_assign rfl (Get.tmp rfl)))
      exact Head.nil
    refine Fin.one ?_
    refine Fin.one ?_
    refine Fin.one ?_
    refine Fin.one ?_
    refine Fin.one ?_
    refine Fin.one ?_
    refine Fin.one ?_
    refine Fin.one ?_
    refine Fin.nil ?_
    refine L.nil ?_
    refine N.thenW ?_
    refine W.keep (.cons (t := 0) rfl (.cons (t := 1) rfl (.cons (t := 4) rfl (.cons (t := 5) rfl (.cons (t := 45) rfl .nil))))) .refl ?_
    refine W.cond (Get.tmp rfl) (fun h2 => ?_) (fun h2 => ?_)
    · have he : lev s.L f = lv := of_decide_eq_true h2
      refine W.seq ?_
      refine W.region ?_
      refine L.op1 rfl rfl (GSpec.plain rfl (spec_move rfl (Get.tmp rfl))) ?_
      refine L.op1 rfl rfl (GSpec.plain rfl (spec_nilCheck rfl (Get.tmp rfl))) ?_
      refine L.op1 rfl rfl (GSpec.plain rfl (spec_fieldAddrP (f := 2) rfl Try.underlying83 rfl Try.sizeOf80 (Get.tmp rfl) rfl rfl)) ?_
      refine L.op1 rfl rfl (GSpec.plain rfl (spec_loadP1 rfl Try.isAgg80 (Get.tmp rfl))) ?_
      refine L.op1 rfl rfl (GSpec.plain rfl (spec_move rfl (Get.tmp rfl))) ?_
      refine L.callC (A := [_]) rfl rfl rfl rfl (Get.tmp rfl) Try.call76 (dat_ok lv h20 leaf r m mk md s f v A K ⟨hs, hA, hR, hK hfl, hG, hfl, hf, he, h20⟩) (.cons 1 rfl (.cons 1 rfl (.cons 1 rfl (.cons 1 rfl .refl)))) (.cons (Get.tmp rfl) .nil) (fun ⟨⟨⟨v58, s58, A58⟩, K58, i58⟩, p58⟩ => ?_)
      try dsimp only
      refine L.op1 rfl rfl (GSpec.plain rfl (spec_assign rfl (Get.tmp rfl))) ?_
      refine L.nil ?_
      refine N.thenW ?_
      refine W.keep (.cons (t := 0) rfl (.cons (t := 1) rfl (.cons (t := 4) rfl (.cons (t := 5) rfl .nil)))) .refl ?_
      refine W.ret ?_
      refine N.ret (X := (rpX orV leaf lv s.L _ r m mk md)) ⟨((v58, s58, A58), (K58, D, i58)), rp_leaf hl h20 hG hfl he hD (hE hfl) p58⟩ rfl (.tmp (t := 4) (Get.tmp rfl) .nil) (res1 (eqI ?_)) (.cons 0 rfl (.cons 0 rfl (.cons 0 rfl (.cons 0 rfl (.cons 1 rfl .nil))))) (fun _ _ h => h)
      all_goals rfl
    · have hlt := rp_low h1 h2
      have hkd := hG.kids hf (by omega)
      refine W.skip ?_
      refine N.blockNormal ?_
      refine N.thenW ?_
      refine W.seq ?_
      refine W.seq ?_
      refine W.region ?_
      refine L.op1 rfl rfl (GSpec.plain rfl (spec_move rfl (Get.tmp rfl))) ?_
      refine L.op1 rfl rfl (GSpec.plain rfl (spec_nilCheck rfl (Get.tmp rfl))) ?_
      refine L.op1 rfl rfl (GSpec.plain rfl (spec_fieldAddrP (f := 3) rfl Try.underlying83 rfl Try.sizeOf81 (Get.tmp rfl) rfl rfl)) ?_
      refine L.op1 rfl rfl (GSpec.plain rfl (spec_loadP1 rfl Try.isAgg81 (Get.tmp rfl))) ?_
      refine L.op1 rfl rfl (GSpec.plain rfl (spec_move rfl (Get.tmp rfl))) ?_
      refine L.op1 rfl rfl (GSpec.plain rfl (spec_lookup2 (kk := 5) (V := (fun n => Rp.int .i64 n)) (z := 0) rfl Try.underlying81 kt81 (ti3.zero) (Get.tmp rfl) (Get.tmp rfl) (fun _ _ _ h => h.1) (fun _ _ => ⟨rfl, hD _⟩) rfl)) ?_
      refine L.op1 rfl rfl (GSpec.plain rfl (spec_move rfl (Get.tmp rfl))) ?_
      refine L.op1 rfl rfl (GSpec.plain rfl (spec_extract rfl (Get.tmp rfl) rfl)) ?_
      refine L.op1 rfl rfl (GSpec.plain rfl (spec_extract rfl (Get.tmp rfl) rfl)) ?_
      refine L.op1 rfl rfl (GSpec.plain rfl (spec_assign rfl (Get.tmp rfl))) ?_
      refine L.op1 rfl rfl (GSpec.plain rfl (spec_assign rfl (Get.tmp rfl))) ?_
      refine L.nil ?_
      refine N.thenW ?_
      refine W.keep (.cons (t := 0) rfl (.cons (t := 1) rfl (.cons (t := 4) rfl (.cons (t := 5) rfl (.cons (t := 6) rfl (.cons (t := 7) rfl .nil)))))) .refl ?_
      refine W.seq ?_
      refine W.region ?_
      refine L.op1 rfl rfl (GSpec.plain rfl (spec_move rfl (Get.tmp rfl))) ?_
      refine L.nil ?_
      refine N.thenW ?_
      refine W.cond (Get.tmp rfl) (fun h3 => ?_) (fun h3 => ?_)
      · have ph3 := h3; try simp only [decide_eq_true_eq, decide_eq_false_iff_not, Bool.and_eq_true, Bool.or_eq_true, Bool.and_eq_false_iff, Bool.or_eq_false_iff, Bool.not_eq_true', Bool.not_eq_false', Bool.not_true, Bool.not_false, Int.not_lt, Int.not_le] at ph3
        refine W.seq ?_
        refine W.region ?_
        refine L.op1 rfl rfl (GSpec.plain rfl (spec_move rfl (Get.tmp rfl))) ?_
        refine L.op1 rfl rfl (GSpec.plain rfl (spec_assign rfl (Get.tmp rfl))) ?_
        refine L.nil ?_
        refine N.thenW ?_
        refine W.ret ?_
        refine N.ret (X := (rpX orV leaf lv s.L _ r m mk md)) ⟨((v, s, A), (K, D, _)), rp_same v (rp_hit hfl (hE hfl) h3) hs hA hR hD hK hE⟩ rfl (.tmp (t := 4) (Get.tmp rfl) .nil) (res1 (eqI ?_)) (.cons 1 rfl (.cons 1 rfl (.cons 1 rfl (.cons 1 rfl (.cons 1 rfl .nil))))) (fun _ _ h => h)
        all_goals rfl
      · have ph3 := h3; try simp only [decide_eq_true_eq, decide_eq_false_iff_not, Bool.and_eq_true, Bool.or_eq_true, Bool.and_eq_false_iff, Bool.or_eq_false_iff, Bool.not_eq_true', Bool.not_eq_false', Bool.not_true, Bool.not_false, Int.not_lt, Int.not_le] at ph3
        refine W.skip ?_
        refine N.thenW ?_
        refine W.seq ?_
        refine W.region ?_
        refine L.op1 rfl rfl (GSpec.plain rfl (spec_move rfl (Get.tmp rfl))) ?_
        refine L.op1 rfl rfl (GSpec.plain rfl (spec_fieldAddr (f := 1) (off' := 1) rfl Try.underlying26 rfl Try.sizeOf3 (Get.tmp rfl) rfl)) ?_
        refine L.op1 rfl rfl (GSpec.plain rfl (spec_load1 (k := 0) rfl Try.isAgg3 (Get.tmp rfl) rfl rfl)) ?_
        refine L.call rfl rfl rfl rfl Try.call77 (ih (k - 1) (by omega) s (nd s.L f).lo r m mk md _ _ _ _ _ rfl hs hkd.1 hA hR hD hK hE (.inr ⟨hG, by omega⟩)) (.cons 1 rfl (.cons 1 rfl (.cons 1 rfl (.cons 1 rfl (.cons 1 rfl .refl))))) (.cons (Get.tmp rfl) (.cons (Get.tmp rfl) .nil)) (fun ⟨⟨⟨v73, s73, A73⟩, K73, D73, i73⟩, p73⟩ => ?_)
        try dsimp only
        refine L.op1 rfl rfl (GSpec.plain rfl (spec_assign rfl (Get.tmp rfl))) ?_
        refine L.nil ?_
        refine N.thenW ?_
        refine W.keep (.cons (t := 0) rfl (.cons (t := 1) rfl (.cons (t := 4) rfl (.cons (t := 5) rfl (.cons (t := 8) rfl .nil))))) .refl ?_
        refine W.seq ?_
        refine W.region ?_
        refine L.op1 rfl rfl (GSpec.plain rfl (spec_move rfl (Get.tmp rfl))) ?_
        refine L.op1 rfl rfl (GSpec.plain rfl (spec_fieldAddr (f := 2) (off' := 2) rfl Try.underlying26 rfl Try.sizeOf3 (Get.tmp rfl) rfl)) ?_
        refine L.op1 rfl rfl (GSpec.plain rfl (spec_load1 (k := 5) rfl Try.isAgg3 (Get.tmp rfl) rfl rfl)) ?_
        refine L.call rfl rfl rfl rfl Try.call77 (ih (k - 1) (by omega) s73 (nd s.L f).hi r m mk md _ _ _ _ _ rfl p73.len (ok_prefix p73.pre hkd.2.1) p73.at_ p73.kr p73.kd (fun h => (p73.eq h).2.2.1) (fun h => (p73.eq h).2.2.2) (rp_next hl h20 hG hfl hf hlt hk p73)) (.cons 0 rfl (.cons 0 rfl (.cons 0 rfl (.cons 0 rfl (.cons 0 rfl .refl))))) (.cons (Get.tmp rfl) (.cons (Get.tmp rfl) .nil)) (fun ⟨⟨⟨v77, s77, A77⟩, K77, D77, i77⟩, p77⟩ => ?_)
        try dsimp only
        refine L.op1 rfl rfl (GSpec.plain rfl (spec_assign rfl (Get.tmp rfl))) ?_
        refine L.nil ?_
        refine N.thenW ?_
        refine W.seq ?_
        apply W.any 11 mixed (by kernel_rfl)
        · apply Head.one rfl rfl (GSpec.plain rfl (spec_move rfl (Get.tmp rfl)))
          apply Head.one rfl rfl (GSpec.plain rfl (spec_nilCheck rfl (Get.tmp rfl)))
          apply Head.one rfl rfl (GSpec.plain rfl (spec_fieldAddrP (f := 0) rfl Try.underlying83 rfl Try.sizeOf79 (Get.tmp rfl) rfl rfl))
          apply Head.one rfl rfl (GSpec.plain rfl (spec_loadP1 rfl Try.isAgg79 (Get.tmp rfl)))
          apply Head.one rfl rfl (GSpec.plain rfl (spec_nilCheck rfl (Get.tmp rfl)))
          apply Head.one rfl rfl (GSpec.plain rfl (spec_fieldAddrP (f := 0) rfl Try.underlying86 rfl Try.sizeOf58 (Get.tmp rfl) rfl rfl))
          apply Head.one rfl rfl (GSpec.plain rfl (spec_loadP1 rfl Try.isAgg58 (Get.tmp rfl)))
          apply Head.one rfl rfl (GSpec.plain rfl (spec_fieldAddr (f := 0) (off' := 0) rfl Try.underlying26 rfl Try.sizeOf3 (Get.tmp rfl) rfl))
          apply Head.one rfl rfl (GSpec.plain rfl (spec_load1 (k := 5) rfl Try.isAgg3 (Get.tmp rfl) rfl rfl))
          apply Head.one rfl rfl (GSpec.plain rfl (spec_move rfl (Get.tmp rfl)))
          apply Head.one rfl rfl (GSpec.plain rfl (spec_move rfl (Get.tmp rfl)))
          exact Head.nil
        refine Fin.one ?_
        refine Fin.one ?_
        refine Fin.one ?_
        refine Fin.one ?_
        refine Fin.one ?_
        refine Fin.one ?_
        refine Fin.one ?_
        refine Fin.one ?_
        refine Fin.one ?_
        refine Fin.one ?_
        refine Fin.one ?_
        refine Fin.nil ?_
        refine L.call rfl rfl rfl rfl Try.call47 (dnode_ok s77 ⟨lev s.L f, i73, i77⟩ r m _ _ _ rfl p77.at_ p77.len) (.cons 0 rfl (.cons 0 rfl (.cons 0 rfl .refl))) (.cons (Get.tmp rfl) (.cons (Get.tmp rfl) (.cons (Get.tmp rfl) (.cons (Get.tmp rfl) .nil)))) (fun ⟨⟨v89, A89⟩, hA89⟩ => ?_)
        try dsimp only
        refine L.op1 rfl rfl (GSpec.plain rfl (spec_assign rfl (Get.tmp rfl))) ?_
        refine L.nil ?_
        refine N.thenW ?_
        refine W.fact 10 rfl int_fact fun hi9 => ?_
        refine W.keep (.cons (t := 0) rfl (.cons (t := 1) rfl (.cons (t := 4) rfl (.cons (t := 10) rfl .nil)))) .refl ?_
        refine W.seq ?_
        refine W.region ?_
        refine L.op1 rfl rfl (GSpec.plain rfl (spec_move rfl (Get.tmp rfl))) ?_
        refine L.op1 rfl rfl (GSpec.plain rfl (spec_nilCheck rfl (Get.tmp rfl))) ?_
        refine L.op1 rfl rfl (GSpec.plain rfl (spec_fieldAddrP (f := 3) rfl Try.underlying83 rfl Try.sizeOf81 (Get.tmp rfl) rfl rfl)) ?_
        refine L.op1 rfl rfl (GSpec.plain rfl (spec_loadP1 rfl Try.isAgg81 (Get.tmp rfl))) ?_
        refine L.op1 rfl rfl (GSpec.plain rfl (spec_move rfl (Get.tmp rfl))) ?_
        refine L.op1 rfl rfl (GSpec.plain rfl (spec_move rfl (Get.tmp rfl))) ?_
        refine L.mapUpdate (kk := 4) rfl rfl rfl Try.underlying81 kt81 (Get.tmp rfl) (Get.tmp rfl) (fun _ _ _ h => h.1) (Get.tmp rfl) (fun _ _ _ h => h.1) rfl ?_
        refine L.nil ?_
        refine N.thenW ?_
        refine W.keep (.cons (t := 4) rfl (.cons (t := 10) rfl .nil)) .refl ?_
        refine W.seq ?_
        refine W.region ?_
        refine L.op1 rfl rfl (GSpec.plain rfl (spec_move rfl (Get.tmp rfl))) ?_
        refine L.op1 rfl rfl (GSpec.plain rfl (spec_assign rfl (Get.tmp rfl))) ?_
        refine L.nil ?_
        refine N.thenW ?_
        refine W.ret ?_
        refine N.ret (X := (rpX orV leaf lv s.L _ r m mk md)) ⟨((v89, _, A89), (K77, mset D77 f _, _)), rp_done hl h20 hG hfl hf hlt p73 p77 hA89 hi9⟩ rfl (.tmp (t := 4) (Get.tmp rfl) .nil) (res1 (eqI ?_)) (.cons 0 rfl (.cons 0 rfl (.cons 0 rfl (.cons 0 rfl (.cons 0 rfl .nil))))) (fun _ _ h => h)
        all_goals rfl

end Go.Proofs.Ytdcmldlnhikbcaa
