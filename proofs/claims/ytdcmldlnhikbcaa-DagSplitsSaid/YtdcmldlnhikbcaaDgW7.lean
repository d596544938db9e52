import Derived.Test.YtdcmldlnhikbcaaDgW6
import Derived.Test.YtdcmldlnhikbcaaDgF
set_option linter.unusedSimpArgs false
set_option maxRecDepth 8000
set_option linter.unusedVariables false
namespace Go.Proofs.Ytdcmldlnhikbcaa
open Go.Sim
theorem leveled_ok (l : List Node) (f lv : Int) : CallT Try.prog 66 [Rp.agg (dagR l), Rp.int .i64 f, Rp.int .i64 lv] [] (.one (Rp.bool (hasB l [f] && decide (0 ≤ lv ∧ lv < 20)))) := by
  refine W.enter (fn := Try.f66) (n := 23) Try.func66 rfl Try.ntmps66 rfl (fun w₀ C₀ => ?_)
  simp only [argS]
  refine W.seq ?_
  refine W.region ?_
  refine L.box rfl rfl (GSpec.plain rfl (spec_box rfl (GetC.agg (Get.tmp rfl)))) (fun r3 => ?_)
  refine L.op1 rfl rfl (GSpec.plain rfl (spec_assign rfl Get.cbool)) ?_
  refine L.nil ?_
  refine N.thenW ?_
  refine W.seq ?_
  refine W.region ?_
  refine L.op1 rfl rfl (GSpec.plain rfl (spec_loadW (k := 0) rfl Try.isAgg24 Try.sizeOf24 (Get.tmp rfl) rfl rfl)) ?_
  refine L.op1 rfl rfl (GSpec.plain rfl (spec_call rfl Try.call19 (rValid_ok _) (.cons (Get.tmp rfl) .nil))) ?_
  refine L.op1 rfl rfl (GSpec.plain rfl (spec_move rfl (Get.tmp rfl))) ?_
  refine L.op1 rfl rfl (GSpec.guard rfl rfl rfl fun hg => (spec_loadW (k := 0) rfl Try.isAgg24 Try.sizeOf24 (Get.tmp rfl) rfl rfl)) ?_
  refine L.op1 rfl rfl (GSpec.guard rfl rfl rfl fun hg => (spec_move rfl (Get.tmp rfl))) ?_
  refine L.op1 rfl rfl (GSpec.guard rfl rfl rfl fun hg => (spec_buildSlice1 (E := eI) rfl Try.underlying63 ti3 z3 (by decide) (GetC.one (Get.opt rfl hg)) (fun _ => rfl))) ?_
  refine L.op1 rfl rfl (GSpec.guard rfl rfl rfl fun hg => (spec_call rfl Try.call48 (in_ok _ _) (.cons (Get.opt rfl hg) (.cons (Get.opt rfl hg) .nil)))) ?_
  refine L.op1 rfl rfl (GSpec.plain rfl (spec_and rfl (Get.tmp rfl) (fun hb => (Get.opt rfl hb)))) ?_
  refine L.op1 rfl rfl (GSpec.plain rfl (spec_move rfl (Get.tmp rfl))) ?_
  refine L.op1 rfl rfl (GSpec.guard rfl rfl rfl fun hg => (spec_move rfl (Get.tmp rfl))) ?_
  refine L.op1 rfl rfl (GSpec.guard rfl rfl rfl fun hg => (spec_geq rfl (Get.opt rfl hg) (Get.cint rfl))) ?_
  refine L.op1 rfl rfl (GSpec.plain rfl (spec_and rfl (Get.tmp rfl) (fun hb => (Get.opt rfl hb)))) ?_
  refine L.op1 rfl rfl (GSpec.plain rfl (spec_move rfl (Get.tmp rfl))) ?_
  refine L.op1 rfl rfl (GSpec.guard rfl rfl rfl fun hg => (spec_move rfl (Get.tmp rfl))) ?_
  refine L.op1 rfl rfl (GSpec.guard rfl rfl rfl fun hg => (spec_lss rfl (Get.opt rfl hg) (Get.cint rfl))) ?_
  refine L.op1 rfl rfl (GSpec.plain rfl (spec_and rfl (Get.tmp rfl) (fun hb => (Get.opt rfl hb)))) ?_
  refine L.op1 rfl rfl (GSpec.plain rfl (spec_assign rfl (Get.tmp rfl))) ?_
  refine L.nil ?_
  refine N.thenW ?_
  refine W.keep (.cons (t := 6) rfl .nil) .refl ?_
  refine W.ret ?_
  refine N.ret () rfl (.tmp (t := 6) (Get.tmp rfl) .nil) (res1 (eqB ?_)) .nil (fun _ _ h => h)
  rw [Bool.eq_iff_iff]; simp only [Bool.and_eq_true, decide_eq_true_eq, hasB, insB]
  exact ⟨fun ⟨⟨a, b⟩, c⟩ => ⟨a, b, c⟩, fun ⟨a, b, c⟩ => ⟨⟨a, b⟩, c⟩⟩

theorem rfixed_ok  : ∀ (lv : Int) (h20 : lv < 20) (one : Bool) (k : Nat) (s : Bs) (f : Int) (r : Nat) (v : Value) (q : Bs × Int) (hQ : q = RP (fixL lv one) lv s f) (hs : s.L.length ≤ 8192) (hf : okNode s.L f) (hC : s.full = true ∨ Good s.L ∧ lv - lev s.L f < k), CallT Try.prog 67 [Rp.ptr r 0, Rp.int .i64 f, Rp.int .i64 lv, Rp.bool one] [MF.box r 96 [Rp.val v, Rp.bool s.full], MF.osl v 26 3 eN s.L] (rnX q r) := by
  intro lv h20 one k
  refine Nat.strongRecOn k fun k ih => ?_
  intro s f r v q hQ hs hf hC
  have hok2 := hf; unfold okNode at hok2
  have hl := fix_ok lv h20 one
  refine W.enter (fn := Try.f67) (n := 79) Try.func67 rfl Try.ntmps67 rfl (fun w₀ C₀ => ?_)
  simp only [argS]
  refine W.seq ?_
  refine W.region ?_
  refine L.op1 rfl rfl (GSpec.plain rfl (spec_assign rfl (Get.cint rfl))) ?_
  refine L.nil ?_
  refine N.thenW ?_
  refine W.seq ?_
  refine W.seq ?_
  refine W.region ?_
  refine L.op1 rfl rfl (GSpec.plain rfl (spec_move rfl (Get.tmp rfl))) ?_
  refine L.op1 rfl rfl (GSpec.plain rfl (spec_nilCheck rfl (Get.tmp rfl))) ?_
  refine L.op1 rfl rfl (GSpec.plain rfl (spec_fieldAddr (f := 1) (off' := 1) rfl Try.underlying96 rfl Try.sizeOf4 (Get.tmp rfl) rfl)) ?_
  refine L.op1 rfl rfl (GSpec.plain rfl (spec_load1 (k := 0) rfl Try.isAgg4 (Get.tmp rfl) rfl rfl)) ?_
  refine L.op1 rfl rfl (GSpec.plain rfl (spec_move rfl (Get.tmp rfl))) ?_
  refine L.op1 rfl rfl (GSpec.guard rfl rfl rfl fun hg => (spec_move rfl (Get.tmp rfl))) ?_
  refine L.op1 rfl rfl (GSpec.guard rfl rfl rfl fun hg => (spec_nilCheck rfl (Get.opt rfl hg))) ?_
  refine L.op1 rfl rfl (GSpec.guard rfl rfl rfl fun hg => (spec_fieldAddr (f := 0) (off' := 0) rfl Try.underlying96 rfl Try.sizeOf22 (Get.opt rfl hg) rfl)) ?_
  refine L.op1 rfl rfl (GSpec.guard rfl rfl rfl fun hg => (spec_load1 (k := 0) rfl Try.isAgg22 (Get.opt rfl hg) rfl rfl)) ?_
  refine L.op1 rfl rfl (GSpec.guard rfl rfl rfl fun hg => (spec_move rfl (Get.tmp rfl))) ?_
  refine L.op1 rfl rfl (GSpec.guard rfl rfl rfl fun hg => (spec_indexAddrO (k := 1) (E := eN) rfl Try.underlying22 Try.sizeOf26 (Get.opt rfl hg) (Get.opt rfl hg) rfl (by (first | (simp only [decide_eq_true_eq, decide_eq_false_iff_not, Bool.and_eq_true, Bool.or_eq_true, Bool.and_eq_false_iff, Bool.or_eq_false_iff, Bool.not_eq_true', Bool.not_eq_false', Bool.not_true, Bool.not_false, Int.not_lt, Int.not_le] at hg; omega) | omega)))) ?_
  refine L.op1 rfl rfl (GSpec.guard rfl rfl rfl fun hg => (spec_fieldAddrO (f := 0) rfl Try.underlying26 rfl Try.sizeOf3 (Get.opt rfl hg) rfl)) ?_
  refine L.op1 rfl rfl (GSpec.guard rfl rfl rfl fun hg => (spec_loadO1 (k := 1) (j := 0) (E := eN) rfl Try.isAgg3 (fun _ => rfl) (Get.opt rfl hg) rfl rfl (getD_some (by (first | (simp only [decide_eq_true_eq, decide_eq_false_iff_not, Bool.and_eq_true, Bool.or_eq_true, Bool.and_eq_false_iff, Bool.or_eq_false_iff, Bool.not_eq_true', Bool.not_eq_false', Bool.not_true, Bool.not_false, Int.not_lt, Int.not_le] at hg; omega) | omega))) rfl)) ?_
  refine L.op1 rfl rfl (GSpec.guard rfl rfl rfl fun hg => (spec_move rfl (Get.tmp rfl))) ?_
  refine L.op1 rfl rfl (GSpec.guard rfl rfl rfl fun hg => (spec_gtr rfl (Get.opt rfl hg) (Get.opt rfl hg))) ?_
  refine L.op1 rfl rfl (GSpec.plain rfl (spec_or rfl (Get.tmp rfl) (fun hb => (Get.opt rfl hb)))) ?_
  refine L.nil ?_
  refine N.thenW ?_
  refine W.keep (.cons (t := 0) rfl (.cons (t := 1) rfl (.cons (t := 2) rfl (.cons (t := 3) rfl (.cons (t := 8) rfl (.cons (t := 26) rfl .nil)))))) .refl ?_
  refine W.cond (Get.tmp rfl) (fun h1 => ?_) (fun h1 => ?_)
  · have ph1 := h1; try simp only [decide_eq_true_eq, decide_eq_false_iff_not, Bool.and_eq_true, Bool.or_eq_true, Bool.and_eq_false_iff, Bool.or_eq_false_iff, Bool.not_eq_true', Bool.not_eq_false', Bool.not_true, Bool.not_false, Int.not_lt, Int.not_le] at ph1
    refine W.seq ?_
    refine W.region ?_
    refine L.op1 rfl rfl (GSpec.plain rfl (spec_move rfl (Get.tmp rfl))) ?_
    refine L.op1 rfl rfl (GSpec.plain rfl (spec_assign rfl (Get.tmp rfl))) ?_
    refine L.nil ?_
    refine N.thenW ?_
    refine W.ret ?_
    have e : q = (s, f) := by
      rw [hQ]
      rcases Bool.or_eq_true_iff.1 h1 with h | h
      · exact RP_full h
      · exact RP_high (of_decide_eq_true h)
    subst e
    refine N.ret (X := (rnX _ r)) v rfl (.tmp (t := 8) (Get.tmp rfl) .nil) (res1 (eqI ?_)) (.cons 0 rfl (.cons 0 rfl .nil)) (fun _ _ h => h)
    rfl
  · obtain ⟨hfl, hle⟩ := Bool.or_eq_false_iff.1 h1
    obtain ⟨hG, hk⟩ := hC.resolve_left (by rw [hfl]; simp)
    refine W.skip ?_
    refine N.thenW ?_
    refine W.seq ?_
    refine W.seq ?_
    refine W.region ?_
    refine L.op1 rfl rfl (GSpec.plain rfl (spec_move rfl (Get.tmp rfl))) ?_
    refine L.op1 rfl rfl (GSpec.plain rfl (spec_nilCheck rfl (Get.tmp rfl))) ?_
    refine L.op1 rfl rfl (GSpec.plain rfl (spec_fieldAddr (f := 0) (off' := 0) rfl Try.underlying96 rfl Try.sizeOf22 (Get.tmp rfl) rfl)) ?_
    refine L.op1 rfl rfl (GSpec.plain rfl (spec_load1 (k := 0) rfl Try.isAgg22 (Get.tmp rfl) rfl rfl)) ?_
    refine L.op1 rfl rfl (GSpec.plain rfl (spec_move rfl (Get.tmp rfl))) ?_
    refine L.op1 rfl rfl (GSpec.plain rfl (spec_indexAddrO (k := 1) (E := eN) rfl Try.underlying22 Try.sizeOf26 (Get.tmp rfl) (Get.tmp rfl) rfl (by omega))) ?_
    refine L.op1 rfl rfl (GSpec.plain rfl (spec_fieldAddrO (f := 0) rfl Try.underlying26 rfl Try.sizeOf3 (Get.tmp rfl) rfl)) ?_
    refine L.op1 rfl rfl (GSpec.plain rfl (spec_loadO1 (k := 1) (j := 0) (E := eN) rfl Try.isAgg3 (fun _ => rfl) (Get.tmp rfl) rfl rfl (getD_some (by omega)) rfl)) ?_
    refine L.op1 rfl rfl (GSpec.plain rfl (spec_move rfl (Get.tmp rfl))) ?_
    refine L.op1 rfl rfl (GSpec.plain rfl (spec_eql rfl (Get.tmp rfl) (Get.tmp rfl))) ?_
    refine L.nil ?_
    refine N.thenW ?_
    refine W.keep (.cons (t := 0) rfl (.cons (t := 1) rfl (.cons (t := 2) rfl (.cons (t := 3) rfl (.cons (t := 8) rfl (.cons (t := 37) rfl .nil)))))) .refl ?_
    refine W.cond (Get.tmp rfl) (fun h2 => ?_) (fun h2 => ?_)
    · have he : lev s.L f = lv := of_decide_eq_true h2
      have hkk := kids_ok hG hf (by omega)
      refine W.seq ?_
      refine W.region ?_
      refine L.op1 rfl rfl (GSpec.plain rfl (spec_move rfl (Get.tmp rfl))) ?_
      refine L.op1 rfl rfl (GSpec.plain rfl (spec_move rfl (Get.tmp rfl))) ?_
      refine L.op1 rfl rfl (GSpec.plain rfl (spec_move rfl (Get.tmp rfl))) ?_
      refine L.op1 rfl rfl (GSpec.plain rfl (spec_move rfl (Get.tmp rfl))) ?_
      refine L.op1 rfl rfl (GSpec.plain rfl (spec_callB rfl Try.call78 (rhalf_ok _ _ _ _ _ hf) (.cons (Get.tmp rfl) (.cons (Get.tmp rfl) (.cons (Get.tmp rfl) (.cons (Get.tmp rfl) .nil)))) (.cons (.box 0 rfl (.cons (.slice 1 rfl (fun _ => rfl)) (.cons .same .nil))) (.cons .same (.cons .same (.cons .same .nil)))))) ?_
      refine L.op1 rfl rfl (GSpec.plain rfl (spec_assign rfl (Get.tmp rfl))) ?_
      refine L.nil ?_
      refine N.thenW ?_
      refine W.keep (.cons (t := 0) rfl (.cons (t := 1) rfl (.cons (t := 2) rfl (.cons (t := 3) rfl (.cons (t := 8) rfl .nil))))) .refl ?_
      refine W.ret ?_
      have e : q = (s, half s.L f lv one) := by rw [hQ, RP_leaf hfl he]; rfl
      subst e
      refine N.ret (X := (rnX _ r)) v rfl (.tmp (t := 8) (Get.tmp rfl) .nil) (res1 (eqI ?_)) (.cons 0 rfl (.cons 0 rfl .nil)) (fun _ _ h => h)
      rfl
    · have hlt := rp_low h1 h2
      have hkd := hG.kids hf (by omega)
      have hnx := rp_next' hl h20 (fix_pre lv one) hG hfl hf hlt hk
      have hok3 := hnx.1; unfold okNode at hok3
      have hok4 : okNode (RP (fixL lv one) lv (RP (fixL lv one) lv s (nd s.L f).lo).1 (nd (RP (fixL lv one) lv s (nd s.L f).lo).1.L f).hi).1.L f := ok_prefix (repl_pre (fix_pre lv one) _ _ _) hnx.1
      unfold okNode at hok4
      refine W.skip ?_
      refine N.thenW ?_
      refine W.seq ?_
      refine W.region ?_
      refine L.op1 rfl rfl (GSpec.plain rfl (spec_move rfl (Get.tmp rfl))) ?_
      refine L.op1 rfl rfl (GSpec.plain rfl (spec_move rfl (Get.tmp rfl))) ?_
      refine L.op1 rfl rfl (GSpec.plain rfl (spec_nilCheck rfl (Get.tmp rfl))) ?_
      refine L.op1 rfl rfl (GSpec.plain rfl (spec_fieldAddr (f := 0) (off' := 0) rfl Try.underlying96 rfl Try.sizeOf22 (Get.tmp rfl) rfl)) ?_
      refine L.op1 rfl rfl (GSpec.plain rfl (spec_load1 (k := 0) rfl Try.isAgg22 (Get.tmp rfl) rfl rfl)) ?_
      refine L.op1 rfl rfl (GSpec.plain rfl (spec_move rfl (Get.tmp rfl))) ?_
      refine L.op1 rfl rfl (GSpec.plain rfl (spec_indexAddrO (k := 1) (E := eN) rfl Try.underlying22 Try.sizeOf26 (Get.tmp rfl) (Get.tmp rfl) rfl (by omega))) ?_
      refine L.op1 rfl rfl (GSpec.plain rfl (spec_fieldAddrO (f := 1) rfl Try.underlying26 rfl Try.sizeOf3 (Get.tmp rfl) rfl)) ?_
      refine L.op1 rfl rfl (GSpec.plain rfl (spec_loadO1 (k := 1) (j := 1) (E := eN) rfl Try.isAgg3 (fun _ => rfl) (Get.tmp rfl) rfl rfl (getD_some (by omega)) rfl)) ?_
      refine L.op1 rfl rfl (GSpec.plain rfl (spec_move rfl (Get.tmp rfl))) ?_
      refine L.op1 rfl rfl (GSpec.plain rfl (spec_move rfl (Get.tmp rfl))) ?_
      refine L.call rfl rfl rfl rfl Try.call67 (ih (k - 1) (by omega) s (nd s.L f).lo r _ _ rfl hs hkd.1 (.inr ⟨hG, by omega⟩)) (.cons 0 rfl (.cons 0 rfl .refl)) (.cons (Get.tmp rfl) (.cons (Get.tmp rfl) (.cons (Get.tmp rfl) (.cons (Get.tmp rfl) .nil)))) (fun v54 => ?_)
      try dsimp only
      refine L.op1 rfl rfl (GSpec.plain rfl (spec_assign rfl (Get.tmp rfl))) ?_
      refine L.nil ?_
      refine N.thenW ?_
      refine W.keep (.cons (t := 0) rfl (.cons (t := 1) rfl (.cons (t := 2) rfl (.cons (t := 3) rfl (.cons (t := 8) rfl (.cons (t := 9) rfl .nil)))))) .refl ?_
      refine W.seq ?_
      refine W.region ?_
      refine L.op1 rfl rfl (GSpec.plain rfl (spec_move rfl (Get.tmp rfl))) ?_
      refine L.op1 rfl rfl (GSpec.plain rfl (spec_move rfl (Get.tmp rfl))) ?_
      refine L.op1 rfl rfl (GSpec.plain rfl (spec_nilCheck rfl (Get.tmp rfl))) ?_
      refine L.op1 rfl rfl (GSpec.plain rfl (spec_fieldAddr (f := 0) (off' := 0) rfl Try.underlying96 rfl Try.sizeOf22 (Get.tmp rfl) rfl)) ?_
      refine L.op1 rfl rfl (GSpec.plain rfl (spec_load1 (k := 0) rfl Try.isAgg22 (Get.tmp rfl) rfl rfl)) ?_
      refine L.op1 rfl rfl (GSpec.plain rfl (spec_move rfl (Get.tmp rfl))) ?_
      refine L.op1 rfl rfl (GSpec.plain rfl (spec_indexAddrO (k := 1) (E := eN) rfl Try.underlying22 Try.sizeOf26 (Get.tmp rfl) (Get.tmp rfl) rfl (by omega))) ?_
      refine L.op1 rfl rfl (GSpec.plain rfl (spec_fieldAddrO (f := 2) rfl Try.underlying26 rfl Try.sizeOf3 (Get.tmp rfl) rfl)) ?_
      refine L.op1 rfl rfl (GSpec.plain rfl (spec_loadO1 (k := 1) (j := 2) (E := eN) rfl Try.isAgg3 (fun _ => rfl) (Get.tmp rfl) rfl rfl (getD_some (by omega)) rfl)) ?_
      refine L.op1 rfl rfl (GSpec.plain rfl (spec_move rfl (Get.tmp rfl))) ?_
      refine L.op1 rfl rfl (GSpec.plain rfl (spec_move rfl (Get.tmp rfl))) ?_
      refine L.call rfl rfl rfl rfl Try.call67 (ih (k - 1) (by omega) (RP (fixL lv one) lv s (nd s.L f).lo).1 (nd (RP (fixL lv one) lv s (nd s.L f).lo).1.L f).hi r _ _ rfl (repl_len (fix_len lv one) _ _ _ hs) hnx.2.1 hnx.2.2) (.cons 0 rfl (.cons 0 rfl .refl)) (.cons (Get.tmp rfl) (.cons (Get.tmp rfl) (.cons (Get.tmp rfl) (.cons (Get.tmp rfl) .nil)))) (fun v66 => ?_)
      try dsimp only
      refine L.op1 rfl rfl (GSpec.plain rfl (spec_assign rfl (Get.tmp rfl))) ?_
      refine L.nil ?_
      refine N.thenW ?_
      refine W.keep (.cons (t := 0) rfl (.cons (t := 1) rfl (.cons (t := 8) rfl (.cons (t := 9) rfl (.cons (t := 10) rfl .nil))))) .refl ?_
      refine W.seq ?_
      refine W.region ?_
      refine L.op1 rfl rfl (GSpec.plain rfl (spec_move rfl (Get.tmp rfl))) ?_
      refine L.op1 rfl rfl (GSpec.plain rfl (spec_move rfl (Get.tmp rfl))) ?_
      refine L.op1 rfl rfl (GSpec.plain rfl (spec_nilCheck rfl (Get.tmp rfl))) ?_
      refine L.op1 rfl rfl (GSpec.plain rfl (spec_fieldAddr (f := 0) (off' := 0) rfl Try.underlying96 rfl Try.sizeOf22 (Get.tmp rfl) rfl)) ?_
      refine L.op1 rfl rfl (GSpec.plain rfl (spec_load1 (k := 0) rfl Try.isAgg22 (Get.tmp rfl) rfl rfl)) ?_
      refine L.op1 rfl rfl (GSpec.plain rfl (spec_move rfl (Get.tmp rfl))) ?_
      refine L.op1 rfl rfl (GSpec.plain rfl (spec_indexAddrO (k := 1) (E := eN) rfl Try.underlying22 Try.sizeOf26 (Get.tmp rfl) (Get.tmp rfl) rfl (by omega))) ?_
      refine L.op1 rfl rfl (GSpec.plain rfl (spec_fieldAddrO (f := 0) rfl Try.underlying26 rfl Try.sizeOf3 (Get.tmp rfl) rfl)) ?_
      refine L.op1 rfl rfl (GSpec.plain rfl (spec_loadO1 (k := 1) (j := 0) (E := eN) rfl Try.isAgg3 (fun _ => rfl) (Get.tmp rfl) rfl rfl (getD_some (by omega)) rfl)) ?_
      refine L.op1 rfl rfl (GSpec.plain rfl (spec_move rfl (Get.tmp rfl))) ?_
      refine L.op1 rfl rfl (GSpec.plain rfl (spec_move rfl (Get.tmp rfl))) ?_
      refine L.call rfl rfl rfl rfl Try.call50 (rnode_ok (RP (fixL lv one) lv (RP (fixL lv one) lv s (nd s.L f).lo).1 (nd (RP (fixL lv one) lv s (nd s.L f).lo).1.L f).hi).1 ⟨(nd (RP (fixL lv one) lv (RP (fixL lv one) lv s (nd s.L f).lo).1 (nd (RP (fixL lv one) lv s (nd s.L f).lo).1.L f).hi).1.L f).level, (RP (fixL lv one) lv s (nd s.L f).lo).2, (RP (fixL lv one) lv (RP (fixL lv one) lv s (nd s.L f).lo).1 (nd (RP (fixL lv one) lv s (nd s.L f).lo).1.L f).hi).2⟩ r _ _ rfl (repl_len (fix_len lv one) _ _ _ (repl_len (fix_len lv one) _ _ _ hs))) (.cons 0 rfl (.cons 0 rfl .refl)) (.cons (Get.tmp rfl) (.cons (Get.tmp rfl) (.cons (Get.tmp rfl) (.cons (Get.tmp rfl) .nil)))) (fun v78 => ?_)
      try dsimp only
      refine L.op1 rfl rfl (GSpec.plain rfl (spec_assign rfl (Get.tmp rfl))) ?_
      refine L.nil ?_
      refine N.thenW ?_
      refine W.keep (.cons (t := 8) rfl .nil) .refl ?_
      refine W.ret ?_
      have e := rp_eq hl h20 (fix_pre lv one) hQ hG hfl hf hlt
      subst e
      refine N.ret (X := (rnX _ r)) v78 rfl (.tmp (t := 8) (Get.tmp rfl) .nil) (res1 (eqI ?_)) (.cons 0 rfl (.cons 0 rfl .nil)) (fun _ _ h => h)
      rfl

theorem rsome_ok  : ∀ (lv : Int) (h20 : lv < 20) (k : Nat) (s : Bs) (f : Int) (r : Nat) (v : Value) (q : Bs × Int) (hQ : q = RP someL lv s f) (hs : s.L.length ≤ 8192) (hf : okNode s.L f) (hC : s.full = true ∨ Good s.L ∧ lv - lev s.L f < k), CallT Try.prog 70 [Rp.ptr r 0, Rp.int .i64 f, Rp.int .i64 lv] [MF.box r 96 [Rp.val v, Rp.bool s.full], MF.osl v 26 3 eN s.L] (rnX q r) := by
  intro lv h20  k
  refine Nat.strongRecOn k fun k ih => ?_
  intro s f r v q hQ hs hf hC
  have hok2 := hf; unfold okNode at hok2
  have hl := some_ok lv h20
  refine W.enter (fn := Try.f70) (n := 96) Try.func70 rfl Try.ntmps70 rfl (fun w₀ C₀ => ?_)
  simp only [argS]
  refine W.seq ?_
  refine W.region ?_
  refine L.op1 rfl rfl (GSpec.plain rfl (spec_assign rfl (Get.cint rfl))) ?_
  refine L.nil ?_
  refine N.thenW ?_
  refine W.seq ?_
  refine W.seq ?_
  refine W.region ?_
  refine L.op1 rfl rfl (GSpec.plain rfl (spec_move rfl (Get.tmp rfl))) ?_
  refine L.op1 rfl rfl (GSpec.plain rfl (spec_nilCheck rfl (Get.tmp rfl))) ?_
  refine L.op1 rfl rfl (GSpec.plain rfl (spec_fieldAddr (f := 1) (off' := 1) rfl Try.underlying96 rfl Try.sizeOf4 (Get.tmp rfl) rfl)) ?_
  refine L.op1 rfl rfl (GSpec.plain rfl (spec_load1 (k := 0) rfl Try.isAgg4 (Get.tmp rfl) rfl rfl)) ?_
  refine L.op1 rfl rfl (GSpec.plain rfl (spec_move rfl (Get.tmp rfl))) ?_
  refine L.op1 rfl rfl (GSpec.guard rfl rfl rfl fun hg => (spec_move rfl (Get.tmp rfl))) ?_
  refine L.op1 rfl rfl (GSpec.guard rfl rfl rfl fun hg => (spec_nilCheck rfl (Get.opt rfl hg))) ?_
  refine L.op1 rfl rfl (GSpec.guard rfl rfl rfl fun hg => (spec_fieldAddr (f := 0) (off' := 0) rfl Try.underlying96 rfl Try.sizeOf22 (Get.opt rfl hg) rfl)) ?_
  refine L.op1 rfl rfl (GSpec.guard rfl rfl rfl fun hg => (spec_load1 (k := 0) rfl Try.isAgg22 (Get.opt rfl hg) rfl rfl)) ?_
  refine L.op1 rfl rfl (GSpec.guard rfl rfl rfl fun hg => (spec_move rfl (Get.tmp rfl))) ?_
  refine L.op1 rfl rfl (GSpec.guard rfl rfl rfl fun hg => (spec_indexAddrO (k := 1) (E := eN) rfl Try.underlying22 Try.sizeOf26 (Get.opt rfl hg) (Get.opt rfl hg) rfl (by (first | (simp only [decide_eq_true_eq, decide_eq_false_iff_not, Bool.and_eq_true, Bool.or_eq_true, Bool.and_eq_false_iff, Bool.or_eq_false_iff, Bool.not_eq_true', Bool.not_eq_false', Bool.not_true, Bool.not_false, Int.not_lt, Int.not_le] at hg; omega) | omega)))) ?_
  refine L.op1 rfl rfl (GSpec.guard rfl rfl rfl fun hg => (spec_fieldAddrO (f := 0) rfl Try.underlying26 rfl Try.sizeOf3 (Get.opt rfl hg) rfl)) ?_
  refine L.op1 rfl rfl (GSpec.guard rfl rfl rfl fun hg => (spec_loadO1 (k := 1) (j := 0) (E := eN) rfl Try.isAgg3 (fun _ => rfl) (Get.opt rfl hg) rfl rfl (getD_some (by (first | (simp only [decide_eq_true_eq, decide_eq_false_iff_not, Bool.and_eq_true, Bool.or_eq_true, Bool.and_eq_false_iff, Bool.or_eq_false_iff, Bool.not_eq_true', Bool.not_eq_false', Bool.not_true, Bool.not_false, Int.not_lt, Int.not_le] at hg; omega) | omega))) rfl)) ?_
  refine L.op1 rfl rfl (GSpec.guard rfl rfl rfl fun hg => (spec_move rfl (Get.tmp rfl))) ?_
  refine L.op1 rfl rfl (GSpec.guard rfl rfl rfl fun hg => (spec_gtr rfl (Get.opt rfl hg) (Get.opt rfl hg))) ?_
  refine L.op1 rfl rfl (GSpec.plain rfl (spec_or rfl (Get.tmp rfl) (fun hb => (Get.opt rfl hb)))) ?_
  refine L.nil ?_
  refine N.thenW ?_
  refine W.keep (.cons (t := 0) rfl (.cons (t := 1) rfl (.cons (t := 2) rfl (.cons (t := 6) rfl (.cons (t := 24) rfl .nil))))) .refl ?_
  refine W.cond (Get.tmp rfl) (fun h1 => ?_) (fun h1 => ?_)
  · have ph1 := h1; try simp only [decide_eq_true_eq, decide_eq_false_iff_not, Bool.and_eq_true, Bool.or_eq_true, Bool.and_eq_false_iff, Bool.or_eq_false_iff, Bool.not_eq_true', Bool.not_eq_false', Bool.not_true, Bool.not_false, Int.not_lt, Int.not_le] at ph1
    refine W.seq ?_
    refine W.region ?_
    refine L.op1 rfl rfl (GSpec.plain rfl (spec_move rfl (Get.tmp rfl))) ?_
    refine L.op1 rfl rfl (GSpec.plain rfl (spec_assign rfl (Get.tmp rfl))) ?_
    refine L.nil ?_
    refine N.thenW ?_
    refine W.ret ?_
    have e : q = (s, f) := by
      rw [hQ]
      rcases Bool.or_eq_true_iff.1 h1 with h | h
      · exact RP_full h
      · exact RP_high (of_decide_eq_true h)
    subst e
    refine N.ret (X := (rnX _ r)) v rfl (.tmp (t := 6) (Get.tmp rfl) .nil) (res1 (eqI ?_)) (.cons 0 rfl (.cons 0 rfl .nil)) (fun _ _ h => h)
    rfl
  · obtain ⟨hfl, hle⟩ := Bool.or_eq_false_iff.1 h1
    obtain ⟨hG, hk⟩ := hC.resolve_left (by rw [hfl]; simp)
    refine W.skip ?_
    refine N.thenW ?_
    refine W.seq ?_
    refine W.seq ?_
    refine W.region ?_
    refine L.op1 rfl rfl (GSpec.plain rfl (spec_move rfl (Get.tmp rfl))) ?_
    refine L.op1 rfl rfl (GSpec.plain rfl (spec_nilCheck rfl (Get.tmp rfl))) ?_
    refine L.op1 rfl rfl (GSpec.plain rfl (spec_fieldAddr (f := 0) (off' := 0) rfl Try.underlying96 rfl Try.sizeOf22 (Get.tmp rfl) rfl)) ?_
    refine L.op1 rfl rfl (GSpec.plain rfl (spec_load1 (k := 0) rfl Try.isAgg22 (Get.tmp rfl) rfl rfl)) ?_
    refine L.op1 rfl rfl (GSpec.plain rfl (spec_move rfl (Get.tmp rfl))) ?_
    refine L.op1 rfl rfl (GSpec.plain rfl (spec_indexAddrO (k := 1) (E := eN) rfl Try.underlying22 Try.sizeOf26 (Get.tmp rfl) (Get.tmp rfl) rfl (by omega))) ?_
    refine L.op1 rfl rfl (GSpec.plain rfl (spec_fieldAddrO (f := 0) rfl Try.underlying26 rfl Try.sizeOf3 (Get.tmp rfl) rfl)) ?_
    refine L.op1 rfl rfl (GSpec.plain rfl (spec_loadO1 (k := 1) (j := 0) (E := eN) rfl Try.isAgg3 (fun _ => rfl) (Get.tmp rfl) rfl rfl (getD_some (by omega)) rfl)) ?_
    refine L.op1 rfl rfl (GSpec.plain rfl (spec_move rfl (Get.tmp rfl))) ?_
    refine L.op1 rfl rfl (GSpec.plain rfl (spec_eql rfl (Get.tmp rfl) (Get.tmp rfl))) ?_
    refine L.nil ?_
    refine N.thenW ?_
    refine W.keep (.cons (t := 0) rfl (.cons (t := 1) rfl (.cons (t := 2) rfl (.cons (t := 6) rfl (.cons (t := 35) rfl .nil))))) .refl ?_
    refine W.cond (Get.tmp rfl) (fun h2 => ?_) (fun h2 => ?_)
    · have he : lev s.L f = lv := of_decide_eq_true h2
      have hkk := kids_ok hG hf (by omega)
      refine W.seq ?_
      apply W.any 25 mixed (by kernel_rfl)
      · apply Head.one rfl rfl (GSpec.plain rfl (spec_move rfl (Get.tmp rfl)))
        apply Head.one rfl rfl (GSpec.plain rfl (spec_move rfl (Get.tmp rfl)))
        apply Head.one rfl rfl (GSpec.plain rfl (spec_nilCheck rfl (Get.tmp rfl)))
        apply Head.one rfl rfl (GSpec.plain rfl (spec_fieldAddr (f := 0) (off' := 0) rfl Try.underlying96 rfl Try.sizeOf22 (Get.tmp rfl) rfl))
        apply Head.one rfl rfl (GSpec.plain rfl (spec_load1 (k := 0) rfl Try.isAgg22 (Get.tmp rfl) rfl rfl))
        apply Head.one rfl rfl (GSpec.plain rfl (spec_move rfl (Get.tmp rfl)))
        apply Head.one rfl rfl (GSpec.plain rfl (spec_indexAddrO (k := 1) (E := eN) rfl Try.underlying22 Try.sizeOf26 (Get.tmp rfl) (Get.tmp rfl) rfl (by omega)))
        apply Head.one rfl rfl (GSpec.plain rfl (spec_fieldAddrO (f := 1) rfl Try.underlying26 rfl Try.sizeOf3 (Get.tmp rfl) rfl))
        apply Head.one rfl rfl (GSpec.plain rfl (spec_loadO1 (k := 1) (j := 1) (E := eN) rfl Try.isAgg3 (fun _ => rfl) (Get.tmp rfl) rfl rfl (getD_some (by omega)) rfl))
        apply Head.one rfl rfl (GSpec.plain rfl (spec_move rfl (Get.tmp rfl)))
        apply Head.one rfl rfl (GSpec.plain rfl (spec_nilCheck rfl (Get.tmp rfl)))
        apply Head.one rfl rfl (GSpec.plain rfl (spec_fieldAddr (f := 0) (off' := 0) rfl Try.underlying96 rfl Try.sizeOf22 (Get.tmp rfl) rfl))
        apply Head.one rfl rfl (GSpec.plain rfl (spec_load1 (k := 0) rfl Try.isAgg22 (Get.tmp rfl) rfl rfl))
        apply Head.one rfl rfl (GSpec.plain rfl (spec_move rfl (Get.tmp rfl)))
        apply Head.one rfl rfl (GSpec.plain rfl (spec_indexAddrO (k := 1) (E := eN) rfl Try.underlying22 Try.sizeOf26 (Get.tmp rfl) (Get.tmp rfl) rfl (by omega)))
        apply Head.one rfl rfl (GSpec.plain rfl (spec_fieldAddrO (f := 2) rfl Try.underlying26 rfl Try.sizeOf3 (Get.tmp rfl) rfl))
        apply Head.one rfl rfl (GSpec.plain rfl (spec_loadO1 (k := 1) (j := 2) (E := eN) rfl Try.isAgg3 (fun _ => rfl) (Get.tmp rfl) rfl rfl (getD_some (by omega)) rfl))
        apply Head.one rfl rfl (GSpec.plain rfl (spec_move rfl (Get.tmp rfl)))
        apply Head.one rfl rfl (GSpec.plain rfl (spec_nilCheck rfl (Get.tmp rfl)))
        apply Head.one rfl rfl (GSpec.plain rfl (spec_fieldAddr (f := 0) (off' := 0) rfl Try.underlying96 rfl Try.sizeOf22 (Get.tmp rfl) rfl))
        apply Head.one rfl rfl (GSpec.plain rfl (spec_load1 (k := 0) rfl Try.isAgg22 (Get.tmp rfl) rfl rfl))
        apply Head.one rfl rfl (GSpec.plain rfl (spec_move rfl (Get.tmp rfl)))
        apply Head.one rfl rfl (GSpec.plain rfl (spec_indexAddrO (k := 1) (E := eN) rfl Try.underlying22 Try.sizeOf26 (Get.tmp rfl) (Get.tmp rfl) rfl (by omega)))
        apply Head.one rfl rfl (GSpec.plain rfl (spec_fieldAddrO (f := 2) rfl Try.underlying26 rfl Try.sizeOf3 (Get.tmp rfl) rfl))
        apply Head.one rfl rfl (GSpec.plain rfl (spec_loadO1 (k := 1) (j := 2) (E := eN) rfl Try.isAgg3 (fun _ => rfl) (Get.tmp rfl) rfl rfl (getD_some (by omega)) rfl))
        exact Head.nil
      refine Fin.one ?_
      refine Fin.one ?_
      refine Fin.one ?_
      refine Fin.one ?_
      refine Fin.one ?_
      refine Fin.one ?_
      refine Fin.one ?_
      refine Fin.one ?_
      refine Fin.one ?_
      refine Fin.one ?_
      refine Fin.one ?_
      refine Fin.one ?_
      refine Fin.one ?_
      refine Fin.one ?_
      refine Fin.one ?_
      refine Fin.one ?_
      refine Fin.one ?_
      refine Fin.one ?_
      refine Fin.one ?_
      refine Fin.one ?_
      refine Fin.one ?_
      refine Fin.one ?_
      refine Fin.one ?_
      refine Fin.one ?_
      refine Fin.one ?_
      refine Fin.nil ?_
      refine L.call rfl rfl rfl rfl Try.call73 (rtab_ok 254 (by decide) 21 s (kids3 s.L f) r _ _ rfl hs (.inr ⟨hG, hkk.1, by have := (hG.lv3 hkk.1).1; omega⟩)) (.cons 0 rfl (.cons 0 rfl .refl)) (.cons (Get.tmp rfl) (.cons (Get.tmp rfl) (.cons (Get.tmp rfl) (.cons (Get.tmp rfl) (.cons (Get.cint rfl) .nil))))) (fun v61 => ?_)
      try dsimp only
      refine L.op1 rfl rfl (GSpec.plain rfl (spec_assign rfl (Get.tmp rfl))) ?_
      refine L.nil ?_
      refine N.thenW ?_
      refine W.keep (.cons (t := 0) rfl (.cons (t := 1) rfl (.cons (t := 2) rfl (.cons (t := 6) rfl .nil)))) .refl ?_
      refine W.ret ?_
      have e : q = T (valT 254) s (kids3 s.L f) := by rw [hQ, RP_leaf hfl he]; exact (T254 s s.L f).symm
      subst e
      refine N.ret (X := (rnX _ r)) v61 rfl (.tmp (t := 6) (Get.tmp rfl) .nil) (res1 (eqI ?_)) (.cons 0 rfl (.cons 0 rfl .nil)) (fun _ _ h => h)
      rfl
    · have hlt := rp_low h1 h2
      have hkd := hG.kids hf (by omega)
      have hnx := rp_next' hl h20 some_pre hG hfl hf hlt hk
      have hok3 := hnx.1; unfold okNode at hok3
      have hok4 : okNode (RP someL lv (RP someL lv s (nd s.L f).lo).1 (nd (RP someL lv s (nd s.L f).lo).1.L f).hi).1.L f := ok_prefix (repl_pre some_pre _ _ _) hnx.1
      unfold okNode at hok4
      refine W.skip ?_
      refine N.thenW ?_
      refine W.seq ?_
      refine W.region ?_
      refine L.op1 rfl rfl (GSpec.plain rfl (spec_move rfl (Get.tmp rfl))) ?_
      refine L.op1 rfl rfl (GSpec.plain rfl (spec_move rfl (Get.tmp rfl))) ?_
      refine L.op1 rfl rfl (GSpec.plain rfl (spec_nilCheck rfl (Get.tmp rfl))) ?_
      refine L.op1 rfl rfl (GSpec.plain rfl (spec_fieldAddr (f := 0) (off' := 0) rfl Try.underlying96 rfl Try.sizeOf22 (Get.tmp rfl) rfl)) ?_
      refine L.op1 rfl rfl (GSpec.plain rfl (spec_load1 (k := 0) rfl Try.isAgg22 (Get.tmp rfl) rfl rfl)) ?_
      refine L.op1 rfl rfl (GSpec.plain rfl (spec_move rfl (Get.tmp rfl))) ?_
      refine L.op1 rfl rfl (GSpec.plain rfl (spec_indexAddrO (k := 1) (E := eN) rfl Try.underlying22 Try.sizeOf26 (Get.tmp rfl) (Get.tmp rfl) rfl (by omega))) ?_
      refine L.op1 rfl rfl (GSpec.plain rfl (spec_fieldAddrO (f := 1) rfl Try.underlying26 rfl Try.sizeOf3 (Get.tmp rfl) rfl)) ?_
      refine L.op1 rfl rfl (GSpec.plain rfl (spec_loadO1 (k := 1) (j := 1) (E := eN) rfl Try.isAgg3 (fun _ => rfl) (Get.tmp rfl) rfl rfl (getD_some (by omega)) rfl)) ?_
      refine L.op1 rfl rfl (GSpec.plain rfl (spec_move rfl (Get.tmp rfl))) ?_
      refine L.call rfl rfl rfl rfl Try.call70 (ih (k - 1) (by omega) s (nd s.L f).lo r _ _ rfl hs hkd.1 (.inr ⟨hG, by omega⟩)) (.cons 0 rfl (.cons 0 rfl .refl)) (.cons (Get.tmp rfl) (.cons (Get.tmp rfl) (.cons (Get.tmp rfl) .nil))) (fun v72 => ?_)
      try dsimp only
      refine L.op1 rfl rfl (GSpec.plain rfl (spec_assign rfl (Get.tmp rfl))) ?_
      refine L.nil ?_
      refine N.thenW ?_
      refine W.keep (.cons (t := 0) rfl (.cons (t := 1) rfl (.cons (t := 2) rfl (.cons (t := 6) rfl (.cons (t := 7) rfl .nil))))) .refl ?_
      refine W.seq ?_
      refine W.region ?_
      refine L.op1 rfl rfl (GSpec.plain rfl (spec_move rfl (Get.tmp rfl))) ?_
      refine L.op1 rfl rfl (GSpec.plain rfl (spec_move rfl (Get.tmp rfl))) ?_
      refine L.op1 rfl rfl (GSpec.plain rfl (spec_nilCheck rfl (Get.tmp rfl))) ?_
      refine L.op1 rfl rfl (GSpec.plain rfl (spec_fieldAddr (f := 0) (off' := 0) rfl Try.underlying96 rfl Try.sizeOf22 (Get.tmp rfl) rfl)) ?_
      refine L.op1 rfl rfl (GSpec.plain rfl (spec_load1 (k := 0) rfl Try.isAgg22 (Get.tmp rfl) rfl rfl)) ?_
      refine L.op1 rfl rfl (GSpec.plain rfl (spec_move rfl (Get.tmp rfl))) ?_
      refine L.op1 rfl rfl (GSpec.plain rfl (spec_indexAddrO (k := 1) (E := eN) rfl Try.underlying22 Try.sizeOf26 (Get.tmp rfl) (Get.tmp rfl) rfl (by omega))) ?_
      refine L.op1 rfl rfl (GSpec.plain rfl (spec_fieldAddrO (f := 2) rfl Try.underlying26 rfl Try.sizeOf3 (Get.tmp rfl) rfl)) ?_
      refine L.op1 rfl rfl (GSpec.plain rfl (spec_loadO1 (k := 1) (j := 2) (E := eN) rfl Try.isAgg3 (fun _ => rfl) (Get.tmp rfl) rfl rfl (getD_some (by omega)) rfl)) ?_
      refine L.op1 rfl rfl (GSpec.plain rfl (spec_move rfl (Get.tmp rfl))) ?_
      refine L.call rfl rfl rfl rfl Try.call70 (ih (k - 1) (by omega) (RP someL lv s (nd s.L f).lo).1 (nd (RP someL lv s (nd s.L f).lo).1.L f).hi r _ _ rfl (repl_len some_len _ _ _ hs) hnx.2.1 hnx.2.2) (.cons 0 rfl (.cons 0 rfl .refl)) (.cons (Get.tmp rfl) (.cons (Get.tmp rfl) (.cons (Get.tmp rfl) .nil))) (fun v83 => ?_)
      try dsimp only
      refine L.op1 rfl rfl (GSpec.plain rfl (spec_assign rfl (Get.tmp rfl))) ?_
      refine L.nil ?_
      refine N.thenW ?_
      refine W.keep (.cons (t := 0) rfl (.cons (t := 1) rfl (.cons (t := 6) rfl (.cons (t := 7) rfl (.cons (t := 8) rfl .nil))))) .refl ?_
      refine W.seq ?_
      refine W.region ?_
      refine L.op1 rfl rfl (GSpec.plain rfl (spec_move rfl (Get.tmp rfl))) ?_
      refine L.op1 rfl rfl (GSpec.plain rfl (spec_move rfl (Get.tmp rfl))) ?_
      refine L.op1 rfl rfl (GSpec.plain rfl (spec_nilCheck rfl (Get.tmp rfl))) ?_
      refine L.op1 rfl rfl (GSpec.plain rfl (spec_fieldAddr (f := 0) (off' := 0) rfl Try.underlying96 rfl Try.sizeOf22 (Get.tmp rfl) rfl)) ?_
      refine L.op1 rfl rfl (GSpec.plain rfl (spec_load1 (k := 0) rfl Try.isAgg22 (Get.tmp rfl) rfl rfl)) ?_
      refine L.op1 rfl rfl (GSpec.plain rfl (spec_move rfl (Get.tmp rfl))) ?_
      refine L.op1 rfl rfl (GSpec.plain rfl (spec_indexAddrO (k := 1) (E := eN) rfl Try.underlying22 Try.sizeOf26 (Get.tmp rfl) (Get.tmp rfl) rfl (by omega))) ?_
      refine L.op1 rfl rfl (GSpec.plain rfl (spec_fieldAddrO (f := 0) rfl Try.underlying26 rfl Try.sizeOf3 (Get.tmp rfl) rfl)) ?_
      refine L.op1 rfl rfl (GSpec.plain rfl (spec_loadO1 (k := 1) (j := 0) (E := eN) rfl Try.isAgg3 (fun _ => rfl) (Get.tmp rfl) rfl rfl (getD_some (by omega)) rfl)) ?_
      refine L.op1 rfl rfl (GSpec.plain rfl (spec_move rfl (Get.tmp rfl))) ?_
      refine L.op1 rfl rfl (GSpec.plain rfl (spec_move rfl (Get.tmp rfl))) ?_
      refine L.call rfl rfl rfl rfl Try.call50 (rnode_ok (RP someL lv (RP someL lv s (nd s.L f).lo).1 (nd (RP someL lv s (nd s.L f).lo).1.L f).hi).1 ⟨(nd (RP someL lv (RP someL lv s (nd s.L f).lo).1 (nd (RP someL lv s (nd s.L f).lo).1.L f).hi).1.L f).level, (RP someL lv s (nd s.L f).lo).2, (RP someL lv (RP someL lv s (nd s.L f).lo).1 (nd (RP someL lv s (nd s.L f).lo).1.L f).hi).2⟩ r _ _ rfl (repl_len some_len _ _ _ (repl_len some_len _ _ _ hs))) (.cons 0 rfl (.cons 0 rfl .refl)) (.cons (Get.tmp rfl) (.cons (Get.tmp rfl) (.cons (Get.tmp rfl) (.cons (Get.tmp rfl) .nil)))) (fun v95 => ?_)
      try dsimp only
      refine L.op1 rfl rfl (GSpec.plain rfl (spec_assign rfl (Get.tmp rfl))) ?_
      refine L.nil ?_
      refine N.thenW ?_
      refine W.keep (.cons (t := 6) rfl .nil) .refl ?_
      refine W.ret ?_
      have e := rp_eq hl h20 some_pre hQ hG hfl hf hlt
      subst e
      refine N.ret (X := (rnX _ r)) v95 rfl (.tmp (t := 6) (Get.tmp rfl) .nil) (res1 (eqI ?_)) (.cons 0 rfl (.cons 0 rfl .nil)) (fun _ _ h => h)
      rfl

theorem rFix_ok (l : List Node) (f lv : Int) (one : Bool) : CallT Try.prog 40 [Rp.agg (dagR l), Rp.int .i64 f, Rp.int .i64 lv, Rp.bool one] [] (.one (outR (fixedD l f lv one))) := by
  refine W.enter (fn := Try.f40) (n := 32) Try.func40 rfl Try.ntmps40 rfl (fun w₀ C₀ => ?_)
  simp only [argS]
  refine W.seq ?_
  refine W.region ?_
  refine L.box rfl rfl (GSpec.plain rfl (spec_box rfl (GetC.agg (Get.tmp rfl)))) (fun r4 => ?_)
  refine L.box rfl rfl (GSpec.plain rfl (spec_alloc rfl ti24 z24)) (fun r8 => ?_)
  refine L.op1 rfl rfl (GSpec.plain rfl (spec_assign rfl (Get.cint rfl))) ?_
  refine L.op1 rfl rfl (GSpec.plain rfl (spec_assign rfl (Get.cint rfl))) ?_
  refine L.nil ?_
  refine N.thenW ?_
  refine W.seq ?_
  refine W.seq ?_
  refine W.region ?_
  refine L.op1 rfl rfl (GSpec.plain rfl (spec_loadW (k := 1) rfl Try.isAgg24 Try.sizeOf24 (Get.tmp rfl) rfl rfl)) ?_
  refine L.op1 rfl rfl (GSpec.plain rfl (spec_move rfl (Get.tmp rfl))) ?_
  refine L.op1 rfl rfl (GSpec.plain rfl (spec_move rfl (Get.tmp rfl))) ?_
  refine L.op1 rfl rfl (GSpec.plain rfl (spec_call rfl Try.call66 (leveled_ok _ _ _) (.cons (Get.tmp rfl) (.cons (Get.tmp rfl) (.cons (Get.tmp rfl) .nil))))) ?_
  refine L.op1 rfl rfl (GSpec.plain rfl (spec_not rfl (Get.tmp rfl))) ?_
  refine L.nil ?_
  refine N.thenW ?_
  refine W.cond (Get.tmp rfl) (fun h1 => ?_) (fun h1 => ?_)
  · have ph1 := h1; try simp only [decide_eq_true_eq, decide_eq_false_iff_not, Bool.and_eq_true, Bool.or_eq_true, Bool.and_eq_false_iff, Bool.or_eq_false_iff, Bool.not_eq_true', Bool.not_eq_false', Bool.not_true, Bool.not_false, Int.not_lt, Int.not_le] at ph1
    refine W.seq ?_
    refine W.region ?_
    refine L.op1 rfl rfl (GSpec.plain rfl (spec_build (Rs := [Rp.slice eN []]) rfl ti24 z24 Try.underlying24 pl24 .nil)) ?_
    refine L.storeW (k := 0) rfl rfl rfl Try.sizeOf24 (Get.tmp rfl) (Get.tmp rfl) rfl rfl rfl ?_
    refine L.op1 rfl rfl (GSpec.plain rfl (spec_assign rfl (Get.cint rfl))) ?_
    refine L.op1 rfl rfl (GSpec.plain rfl (spec_assign rfl (Get.cint rfl))) ?_
    refine L.nil ?_
    refine N.thenW ?_
    refine W.keep (.cons (t := 1) rfl (.cons (t := 2) rfl (.cons (t := 3) rfl (.cons (t := 4) rfl (.cons (t := 8) rfl (.cons (t := 9) rfl (.cons (t := 10) rfl .nil))))))) .refl ?_
    refine W.ret ?_
    refine N.ret () rfl (.cellA (k := 0) (Get.tmp (t := 8) rfl) rfl Try.isAgg24 Try.sizeOf24 rfl (.tmp (t := 9) (Get.tmp rfl) (.tmp (t := 10) (Get.tmp rfl) .nil))) (res3w (eqA ?_) (eqI ?_) (eqI ?_)) .nil (fun _ _ h => h)
    all_goals unfold fixedD
    all_goals rw [if_neg (fun h => by rw [h] at h1; cases h1)]
    all_goals rfl
  · obtain ⟨hG, hf, h0, h20⟩ := leveled_iff.1 (by simpa only [Bool.not_eq_false'] using h1)
    have hGs := hG.small
    refine W.skip ?_
    refine N.thenW ?_
    refine W.seq ?_
    refine W.region ?_
    refine L.op1 rfl rfl (GSpec.plain rfl (spec_loadW (k := 1) rfl Try.isAgg24 Try.sizeOf24 (Get.tmp rfl) rfl rfl)) ?_
    refine L.op rfl rfl (GSpec.plain rfl (spec_call rfl Try.call49 (copied_ok _ hGs) (.cons (Get.tmp rfl) .nil))) (fun ⟨r20, v20⟩ => ?_)
    try dsimp only
    refine L.op1 rfl rfl (GSpec.plain rfl (spec_assign rfl (Get.tmp rfl))) ?_
    refine L.nil ?_
    refine N.thenW ?_
    refine W.keep (.cons (t := 1) rfl (.cons (t := 2) rfl (.cons (t := 3) rfl (.cons (t := 8) rfl (.cons (t := 9) rfl (.cons (t := 10) rfl (.cons (t := 11) rfl .nil))))))) .refl ?_
    refine W.seq ?_
    refine W.region ?_
    refine L.op1 rfl rfl (GSpec.plain rfl (spec_move rfl (Get.tmp rfl))) ?_
    refine L.op1 rfl rfl (GSpec.plain rfl (spec_move rfl (Get.tmp rfl))) ?_
    refine L.op1 rfl rfl (GSpec.plain rfl (spec_move rfl (Get.tmp rfl))) ?_
    refine L.op1 rfl rfl (GSpec.plain rfl (spec_move rfl (Get.tmp rfl))) ?_
    refine L.call rfl rfl rfl rfl Try.call67 (rfixed_ok lv h20 one 21 ⟨l, false⟩ f _ _ _ rfl hGs hf (.inr ⟨hG, by have := (hG.level hf).1; dsimp only; omega⟩)) (.cons 0 rfl (.cons 0 rfl .refl)) (.cons (Get.tmp rfl) (.cons (Get.tmp rfl) (.cons (Get.tmp rfl) (.cons (Get.tmp rfl) .nil)))) (fun v25 => ?_)
    try dsimp only
    refine L.op1 rfl rfl (GSpec.plain rfl (spec_assign rfl (Get.tmp rfl))) ?_
    refine L.nil ?_
    refine N.thenW ?_
    refine W.keep (.cons (t := 8) rfl (.cons (t := 9) rfl (.cons (t := 10) rfl (.cons (t := 11) rfl (.cons (t := 12) rfl .nil))))) .refl ?_
    refine W.seq ?_
    refine W.region ?_
    refine L.op1 rfl rfl (GSpec.plain rfl (spec_move rfl (Get.tmp rfl))) ?_
    refine L.op1 rfl rfl (GSpec.plain rfl (spec_move rfl (Get.tmp rfl))) ?_
    refine L.call rfl rfl rfl rfl Try.call51 (result_ok _ _ _ _) (.cons 0 rfl (.cons 0 rfl .refl)) (.cons (Get.tmp rfl) (.cons (Get.tmp rfl) .nil)) (fun _ => ?_)
    try dsimp only
    refine L.op1 rfl rfl (GSpec.plain rfl (spec_extract rfl (Get.tmp rfl) rfl)) ?_
    refine L.op1 rfl rfl (GSpec.plain rfl (spec_extract rfl (Get.tmp rfl) rfl)) ?_
    refine L.op1 rfl rfl (GSpec.plain rfl (spec_extract rfl (Get.tmp rfl) rfl)) ?_
    refine L.storeW (k := 0) rfl rfl rfl Try.sizeOf24 (Get.tmp rfl) (Get.tmp rfl) rfl rfl rfl ?_
    refine L.op1 rfl rfl (GSpec.plain rfl (spec_assign rfl (Get.tmp rfl))) ?_
    refine L.op1 rfl rfl (GSpec.plain rfl (spec_assign rfl (Get.tmp rfl))) ?_
    refine L.nil ?_
    refine N.thenW ?_
    refine W.keep (.cons (t := 8) rfl (.cons (t := 9) rfl (.cons (t := 10) rfl .nil))) .refl ?_
    refine W.ret ?_
    refine N.ret () rfl (.cellA (k := 0) (Get.tmp (t := 8) rfl) rfl Try.isAgg24 Try.sizeOf24 rfl (.tmp (t := 9) (Get.tmp rfl) (.tmp (t := 10) (Get.tmp rfl) .nil))) (res3w (eqA ?_) (eqI ?_) (eqI ?_)) .nil (fun _ _ h => h)
    all_goals unfold fixedD
    all_goals rw [if_pos (leveled_iff.2 ⟨hG, hf, h0, h20⟩)]

theorem rSome_ok (l : List Node) (f lv : Int) : CallT Try.prog 42 [Rp.agg (dagR l), Rp.int .i64 f, Rp.int .i64 lv] [] (.one (outR (someD l f lv))) := by
  refine W.enter (fn := Try.f42) (n := 29) Try.func42 rfl Try.ntmps42 rfl (fun w₀ C₀ => ?_)
  simp only [argS]
  refine W.seq ?_
  refine W.region ?_
  refine L.box rfl rfl (GSpec.plain rfl (spec_box rfl (GetC.agg (Get.tmp rfl)))) (fun r3 => ?_)
  refine L.box rfl rfl (GSpec.plain rfl (spec_alloc rfl ti24 z24)) (fun r6 => ?_)
  refine L.op1 rfl rfl (GSpec.plain rfl (spec_assign rfl (Get.cint rfl))) ?_
  refine L.op1 rfl rfl (GSpec.plain rfl (spec_assign rfl (Get.cint rfl))) ?_
  refine L.nil ?_
  refine N.thenW ?_
  refine W.seq ?_
  refine W.seq ?_
  refine W.region ?_
  refine L.op1 rfl rfl (GSpec.plain rfl (spec_loadW (k := 1) rfl Try.isAgg24 Try.sizeOf24 (Get.tmp rfl) rfl rfl)) ?_
  refine L.op1 rfl rfl (GSpec.plain rfl (spec_move rfl (Get.tmp rfl))) ?_
  refine L.op1 rfl rfl (GSpec.plain rfl (spec_move rfl (Get.tmp rfl))) ?_
  refine L.op1 rfl rfl (GSpec.plain rfl (spec_call rfl Try.call66 (leveled_ok _ _ _) (.cons (Get.tmp rfl) (.cons (Get.tmp rfl) (.cons (Get.tmp rfl) .nil))))) ?_
  refine L.op1 rfl rfl (GSpec.plain rfl (spec_not rfl (Get.tmp rfl))) ?_
  refine L.nil ?_
  refine N.thenW ?_
  refine W.cond (Get.tmp rfl) (fun h1 => ?_) (fun h1 => ?_)
  · have ph1 := h1; try simp only [decide_eq_true_eq, decide_eq_false_iff_not, Bool.and_eq_true, Bool.or_eq_true, Bool.and_eq_false_iff, Bool.or_eq_false_iff, Bool.not_eq_true', Bool.not_eq_false', Bool.not_true, Bool.not_false, Int.not_lt, Int.not_le] at ph1
    refine W.seq ?_
    refine W.region ?_
    refine L.op1 rfl rfl (GSpec.plain rfl (spec_build (Rs := [Rp.slice eN []]) rfl ti24 z24 Try.underlying24 pl24 .nil)) ?_
    refine L.storeW (k := 0) rfl rfl rfl Try.sizeOf24 (Get.tmp rfl) (Get.tmp rfl) rfl rfl rfl ?_
    refine L.op1 rfl rfl (GSpec.plain rfl (spec_assign rfl (Get.cint rfl))) ?_
    refine L.op1 rfl rfl (GSpec.plain rfl (spec_assign rfl (Get.cint rfl))) ?_
    refine L.nil ?_
    refine N.thenW ?_
    refine W.keep (.cons (t := 1) rfl (.cons (t := 2) rfl (.cons (t := 3) rfl (.cons (t := 6) rfl (.cons (t := 7) rfl (.cons (t := 8) rfl .nil)))))) .refl ?_
    refine W.ret ?_
    refine N.ret () rfl (.cellA (k := 0) (Get.tmp (t := 6) rfl) rfl Try.isAgg24 Try.sizeOf24 rfl (.tmp (t := 7) (Get.tmp rfl) (.tmp (t := 8) (Get.tmp rfl) .nil))) (res3w (eqA ?_) (eqI ?_) (eqI ?_)) .nil (fun _ _ h => h)
    all_goals unfold someD
    all_goals rw [if_neg (fun h => by rw [h] at h1; cases h1)]
    all_goals rfl
  · obtain ⟨hG, hf, h0, h20⟩ := leveled_iff.1 (by simpa only [Bool.not_eq_false'] using h1)
    have hGs := hG.small
    refine W.skip ?_
    refine N.thenW ?_
    refine W.keep (.cons (t := 1) rfl (.cons (t := 2) rfl (.cons (t := 3) rfl (.cons (t := 6) rfl (.cons (t := 7) rfl (.cons (t := 8) rfl .nil)))))) .refl ?_
    refine W.seq ?_
    refine W.region ?_
    refine L.op1 rfl rfl (GSpec.plain rfl (spec_loadW (k := 1) rfl Try.isAgg24 Try.sizeOf24 (Get.tmp rfl) rfl rfl)) ?_
    refine L.op rfl rfl (GSpec.plain rfl (spec_call rfl Try.call49 (copied_ok _ hGs) (.cons (Get.tmp rfl) .nil))) (fun ⟨r18, v18⟩ => ?_)
    try dsimp only
    refine L.op1 rfl rfl (GSpec.plain rfl (spec_assign rfl (Get.tmp rfl))) ?_
    refine L.nil ?_
    refine N.thenW ?_
    refine W.seq ?_
    refine W.region ?_
    refine L.op1 rfl rfl (GSpec.plain rfl (spec_move rfl (Get.tmp rfl))) ?_
    refine L.op1 rfl rfl (GSpec.plain rfl (spec_move rfl (Get.tmp rfl))) ?_
    refine L.op1 rfl rfl (GSpec.plain rfl (spec_move rfl (Get.tmp rfl))) ?_
    refine L.call rfl rfl rfl rfl Try.call70 (rsome_ok lv h20 21 ⟨l, false⟩ f _ _ _ rfl hGs hf (.inr ⟨hG, by have := (hG.level hf).1; dsimp only; omega⟩)) (.cons 0 rfl (.cons 0 rfl .refl)) (.cons (Get.tmp rfl) (.cons (Get.tmp rfl) (.cons (Get.tmp rfl) .nil))) (fun v22 => ?_)
    try dsimp only
    refine L.op1 rfl rfl (GSpec.plain rfl (spec_assign rfl (Get.tmp rfl))) ?_
    refine L.nil ?_
    refine N.thenW ?_
    refine W.keep (.cons (t := 6) rfl (.cons (t := 7) rfl (.cons (t := 8) rfl (.cons (t := 9) rfl (.cons (t := 10) rfl .nil))))) .refl ?_
    refine W.seq ?_
    refine W.region ?_
    refine L.op1 rfl rfl (GSpec.plain rfl (spec_move rfl (Get.tmp rfl))) ?_
    refine L.op1 rfl rfl (GSpec.plain rfl (spec_move rfl (Get.tmp rfl))) ?_
    refine L.call rfl rfl rfl rfl Try.call51 (result_ok _ _ _ _) (.cons 0 rfl (.cons 0 rfl .refl)) (.cons (Get.tmp rfl) (.cons (Get.tmp rfl) .nil)) (fun _ => ?_)
    try dsimp only
    refine L.op1 rfl rfl (GSpec.plain rfl (spec_extract rfl (Get.tmp rfl) rfl)) ?_
    refine L.op1 rfl rfl (GSpec.plain rfl (spec_extract rfl (Get.tmp rfl) rfl)) ?_
    refine L.op1 rfl rfl (GSpec.plain rfl (spec_extract rfl (Get.tmp rfl) rfl)) ?_
    refine L.storeW (k := 0) rfl rfl rfl Try.sizeOf24 (Get.tmp rfl) (Get.tmp rfl) rfl rfl rfl ?_
    refine L.op1 rfl rfl (GSpec.plain rfl (spec_assign rfl (Get.tmp rfl))) ?_
    refine L.op1 rfl rfl (GSpec.plain rfl (spec_assign rfl (Get.tmp rfl))) ?_
    refine L.nil ?_
    refine N.thenW ?_
    refine W.keep (.cons (t := 6) rfl (.cons (t := 7) rfl (.cons (t := 8) rfl .nil))) .refl ?_
    refine W.ret ?_
    refine N.ret () rfl (.cellA (k := 0) (Get.tmp (t := 6) rfl) rfl Try.isAgg24 Try.sizeOf24 rfl (.tmp (t := 7) (Get.tmp rfl) (.tmp (t := 8) (Get.tmp rfl) .nil))) (res3w (eqA ?_) (eqI ?_) (eqI ?_)) .nil (fun _ _ h => h)
    all_goals unfold someD
    all_goals rw [if_pos (leveled_iff.2 ⟨hG, hf, h0, h20⟩)]

end Go.Proofs.Ytdcmldlnhikbcaa
