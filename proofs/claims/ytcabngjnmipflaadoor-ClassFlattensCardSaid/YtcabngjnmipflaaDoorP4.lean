/- Lemmas for the claim, part 4: rules for walks, contracts of functions, the data they compute. No conditions. -/
import Derived.Test.YtcabngjnmipflaaDoorP3
set_option linter.unusedSimpArgs false
set_option maxRecDepth 8000
set_option linter.unusedVariables false
namespace Go.Proofs.YtcabngjnmipflaaDoor
open Go.Sim
theorem smallT_ok (m : Nat) (h : m ≤ 9) : CallT Tryd.prog 85 [Rp.int .i64 (m : Int)] [] (.one (Rp.str (digT m))) := by
  refine W.enter (fn := Tryd.f85) (n := 15) Tryd.func85 rfl Tryd.ntmps85 rfl (fun w₀ C₀ => ?_)
  simp only [argS]
  refine W.seq ?_
  refine W.region ?_
  refine L.op1 rfl rfl (GSpec.plain rfl (spec_assign rfl (Get.cstr (l := []) rfl rfl))) ?_
  refine L.nil ?_
  refine N.thenW ?_
  refine W.seq ?_
  refine W.seq ?_
  refine W.region ?_
  refine L.op1 rfl rfl (GSpec.plain rfl (spec_move rfl (Get.tmp rfl))) ?_
  refine L.op1 rfl rfl (GSpec.plain rfl (spec_lss rfl (Get.tmp rfl) (Get.cint rfl))) ?_
  refine L.nil ?_
  refine N.thenW ?_
  refine W.cond (Get.tmp rfl) (fun h1 => ?_) (fun h1 => ?_)
  · have ph1 := h1; try simp only [decide_eq_true_eq, decide_eq_false_iff_not, Bool.and_eq_true, Bool.or_eq_true, Bool.and_eq_false_iff, Bool.or_eq_false_iff, Bool.not_eq_true', Bool.not_eq_false', Bool.not_true, Bool.not_false, Int.not_lt, Int.not_le] at ph1
    refine W.seq ?_
    refine W.region ?_
    refine L.op1 rfl rfl (GSpec.plain rfl (spec_move rfl (Get.tmp rfl))) ?_
    refine L.op1 rfl rfl (GSpec.plain rfl (spec_move rfl (Get.tmp rfl))) ?_
    first | refine L.op1 rfl rfl (GSpec.plain rfl (fit_i64 (by (first | omega | (simp only [List.length_cons, List.length_nil]; omega))) (by (first | omega | (simp only [List.length_cons, List.length_nil]; omega))) (spec_add rfl (Get.tmp rfl) (Get.cint rfl)))) ?_ | refine L.op1 rfl rfl (GSpec.plain rfl (spec_add rfl (Get.tmp rfl) (Get.cint rfl))) ?_
    refine L.op1 rfl rfl (GSpec.plain rfl (spec_sliceS rfl Tryd.underlying9 (Get.cstr (l := [48, 49, 50, 51, 52, 53, 54, 55, 56, 57, 97, 98, 99, 100, 101, 102, 103, 104, 105, 106, 107, 108, 109, 110, 111, 112, 113, 114, 115, 116, 117, 118, 119, 120, 121, 122]) rfl rfl) (.some (Get.tmp rfl) (by (first | omega | (simp only [List.length_cons, List.length_nil]; omega)))) (.some (Get.tmp rfl) (by (first | omega | (simp only [List.length_cons, List.length_nil]; omega)))) (by (first | omega | (simp only [List.length_cons, List.length_nil]; omega))))) ?_
    refine L.op1 rfl rfl (GSpec.plain rfl (spec_assign rfl (Get.tmp rfl))) ?_
    refine L.nil ?_
    refine N.thenW ?_
    refine W.keep (.cons (t := 0) rfl (.cons (t := 2) rfl .nil)) .refl ?_
    refine W.ret ?_
    refine N.ret () rfl (.tmp (t := 2) (Get.tmp rfl) .nil) (res1 (eqS ?_)) .nil (fun _ _ h => h)
    exact small_dig h
  · exfalso; have h := of_decide_eq_false h1; omega

theorem fmtInt_ok (m : Nat) (h : m ≤ 9) : CallT Tryd.prog 69 [Rp.int .i64 (m : Int), Rp.int .i64 10] [] (.one (Rp.str (digT m))) := by
  refine W.enter (fn := Tryd.f69) (n := 54) Tryd.func69 rfl Tryd.ntmps69 rfl (fun w₀ C₀ => ?_)
  simp only [argS]
  refine W.seq ?_
  refine W.region ?_
  refine L.op1 rfl rfl (GSpec.plain rfl (spec_assign rfl (Get.cstr (l := []) rfl rfl))) ?_
  refine L.nil ?_
  refine N.thenW ?_
  refine W.seq ?_
  refine W.seq ?_
  refine W.region ?_
  refine L.op1 rfl rfl (GSpec.plain rfl (spec_move rfl (Get.tmp rfl))) ?_
  refine L.op1 rfl rfl (GSpec.plain rfl (spec_eql rfl (Get.tmp rfl) (Get.cint rfl))) ?_
  refine L.nil ?_
  refine N.thenW ?_
  refine W.cond (Get.tmp rfl) (fun h1 => ?_) (fun h1 => ?_)
  · have ph1 := h1; try simp only [decide_eq_true_eq, decide_eq_false_iff_not, Bool.and_eq_true, Bool.or_eq_true, Bool.and_eq_false_iff, Bool.or_eq_false_iff, Bool.not_eq_true', Bool.not_eq_false', Bool.not_true, Bool.not_false, Int.not_lt, Int.not_le] at ph1
    refine W.seq ?_
    refine W.seq ?_
    refine W.region ?_
    refine L.op1 rfl rfl (GSpec.plain rfl (spec_move rfl (Get.tmp rfl))) ?_
    refine L.op1 rfl rfl (GSpec.plain rfl (spec_leq rfl (Get.cint rfl) (Get.tmp rfl))) ?_
    refine L.op1 rfl rfl (GSpec.plain rfl (spec_move rfl (Get.tmp rfl))) ?_
    refine L.op1 rfl rfl (GSpec.guard rfl rfl rfl fun hg => (spec_move rfl (Get.tmp rfl))) ?_
    refine L.op1 rfl rfl (GSpec.guard rfl rfl rfl fun hg => (spec_lss rfl (Get.opt rfl hg) (Get.cint rfl))) ?_
    refine L.op1 rfl rfl (GSpec.plain rfl (spec_and rfl (Get.tmp rfl) (fun hb => (Get.opt rfl hb)))) ?_
    refine L.nil ?_
    refine N.thenW ?_
    refine W.keep (.cons (t := 0) rfl (.cons (t := 1) rfl (.cons (t := 4) rfl (.cons (t := 17) rfl .nil)))) .refl ?_
    refine W.cond (Get.tmp rfl) (fun h2 => ?_) (fun h2 => ?_)
    · have ph2 := h2; try simp only [decide_eq_true_eq, decide_eq_false_iff_not, Bool.and_eq_true, Bool.or_eq_true, Bool.and_eq_false_iff, Bool.or_eq_false_iff, Bool.not_eq_true', Bool.not_eq_false', Bool.not_true, Bool.not_false, Int.not_lt, Int.not_le] at ph2
      refine W.seq ?_
      refine W.region ?_
      refine L.op1 rfl rfl (GSpec.plain rfl (spec_move rfl (Get.tmp rfl))) ?_
      refine L.op1 rfl rfl (GSpec.plain rfl (spec_call rfl Tryd.call85 (smallT_ok _ (by omega)) (.cons (Get.tmp rfl) .nil))) ?_
      refine L.op1 rfl rfl (GSpec.plain rfl (spec_assign rfl (Get.tmp rfl))) ?_
      refine L.nil ?_
      refine N.thenW ?_
      refine W.ret ?_
      refine N.ret () rfl (.tmp (t := 4) (Get.tmp rfl) .nil) (res1 (eqS ?_)) .nil (fun _ _ h => h)
      rfl
    · exfalso; have h := h2; rw [decide_eq_true (show (0 : Int) ≤ (m : Int) by omega), decide_eq_true (show (m : Int) < 100 by omega)] at h; cases h
  · exfalso; have h := of_decide_eq_false h1; omega

theorem itoa2_ok (m : Nat) (h : m ≤ 9) : CallT Tryd.prog 54 [Rp.int .i64 (m : Int)] [] (.one (Rp.str (digT m))) := by
  refine W.enter (fn := Tryd.f54) (n := 5) Tryd.func54 rfl Tryd.ntmps54 rfl (fun w₀ C₀ => ?_)
  simp only [argS]
  refine W.seq ?_
  refine W.region ?_
  refine L.op1 rfl rfl (GSpec.plain rfl (spec_assign rfl (Get.cstr (l := []) rfl rfl))) ?_
  refine L.nil ?_
  refine N.thenW ?_
  refine W.seq ?_
  refine W.region ?_
  refine L.op1 rfl rfl (GSpec.plain rfl (spec_move rfl (Get.tmp rfl))) ?_
  refine L.op1 rfl rfl (GSpec.plain rfl (spec_call rfl Tryd.call69 (fmtInt_ok _ (by omega)) (.cons (Get.tmp rfl) (.cons (Get.cint rfl) .nil)))) ?_
  refine L.op1 rfl rfl (GSpec.plain rfl (spec_assign rfl (Get.tmp rfl))) ?_
  refine L.nil ?_
  refine N.thenW ?_
  refine W.keep (.cons (t := 2) rfl .nil) .refl ?_
  refine W.ret ?_
  refine N.ret () rfl (.tmp (t := 2) (Get.tmp rfl) .nil) (res1 (eqS ?_)) .nil (fun _ _ h => h)
  rfl

theorem itoa_ok (m : Nat) (h : m ≤ 9) : CallT Tryd.prog 31 [Rp.int .i64 (m : Int)] [] (.one (Rp.str (digT m))) := by
  refine W.enter (fn := Tryd.f31) (n := 5) Tryd.func31 rfl Tryd.ntmps31 rfl (fun w₀ C₀ => ?_)
  simp only [argS]
  refine W.seq ?_
  refine W.region ?_
  refine L.op1 rfl rfl (GSpec.plain rfl (spec_assign rfl (Get.cstr (l := []) rfl rfl))) ?_
  refine L.nil ?_
  refine N.thenW ?_
  refine W.seq ?_
  refine W.region ?_
  refine L.op1 rfl rfl (GSpec.plain rfl (spec_move rfl (Get.tmp rfl))) ?_
  refine L.op1 rfl rfl (GSpec.plain rfl (spec_call rfl Tryd.call54 (itoa2_ok _ (by omega)) (.cons (Get.tmp rfl) .nil))) ?_
  refine L.op1 rfl rfl (GSpec.plain rfl (spec_assign rfl (Get.tmp rfl))) ?_
  refine L.nil ?_
  refine N.thenW ?_
  refine W.ret ?_
  refine N.ret () rfl (.tmp (t := 2) (Get.tmp rfl) .nil) (res1 (eqS ?_)) .nil (fun _ _ h => h)
  rfl

theorem below_ok (m : Nat) (h : m ≤ 9) : CallT Tryd.prog 55 [Rp.int .i64 (m : Int)] [] (.one (Rp.int .i64 (-(m : Int)))) := by
  refine W.enter (fn := Tryd.f55) (n := 8) Tryd.func55 rfl Tryd.ntmps55 rfl (fun w₀ C₀ => ?_)
  simp only [argS]
  refine W.seq ?_
  refine W.region ?_
  refine L.op1 rfl rfl (GSpec.plain rfl (spec_assign rfl (Get.cint rfl))) ?_
  refine L.nil ?_
  refine N.thenW ?_
  refine W.seq ?_
  refine W.seq ?_
  refine W.region ?_
  refine L.op1 rfl rfl (GSpec.plain rfl (spec_move rfl (Get.tmp rfl))) ?_
  refine L.op1 rfl rfl (GSpec.plain rfl (spec_gtr rfl (Get.tmp rfl) (Get.cint rfl))) ?_
  refine L.nil ?_
  refine N.thenW ?_
  refine W.cond (Get.tmp rfl) (fun h1 => ?_) (fun h1 => ?_)
  · have ph1 := h1; try simp only [decide_eq_true_eq, decide_eq_false_iff_not, Bool.and_eq_true, Bool.or_eq_true, Bool.and_eq_false_iff, Bool.or_eq_false_iff, Bool.not_eq_true', Bool.not_eq_false', Bool.not_true, Bool.not_false, Int.not_lt, Int.not_le] at ph1
    refine W.seq ?_
    refine W.region ?_
    refine L.op1 rfl rfl (GSpec.plain rfl (spec_move rfl (Get.tmp rfl))) ?_
    first | refine L.op1 rfl rfl (GSpec.plain rfl (fit_i64 (by omega) (by omega) (spec_neg rfl (Get.tmp rfl)))) ?_ | refine L.op1 rfl rfl (GSpec.plain rfl (spec_neg rfl (Get.tmp rfl))) ?_
    refine L.op1 rfl rfl (GSpec.plain rfl (spec_assign rfl (Get.tmp rfl))) ?_
    refine L.nil ?_
    refine N.thenW ?_
    refine W.keep (.cons (t := 0) rfl (.cons (t := 2) rfl .nil)) .refl ?_
    refine W.ret ?_
    refine N.ret () rfl (.tmp (t := 2) (Get.tmp rfl) .nil) (res1 (eqI ?_)) .nil (fun _ _ h => h)
    rfl
  · have ph1 := h1; try simp only [decide_eq_true_eq, decide_eq_false_iff_not, Bool.and_eq_true, Bool.or_eq_true, Bool.and_eq_false_iff, Bool.or_eq_false_iff, Bool.not_eq_true', Bool.not_eq_false', Bool.not_true, Bool.not_false, Int.not_lt, Int.not_le] at ph1
    refine W.skip ?_
    refine N.thenW ?_
    refine W.keep (.cons (t := 0) rfl (.cons (t := 2) rfl .nil)) .refl ?_
    refine W.seq ?_
    refine W.region ?_
    refine L.op1 rfl rfl (GSpec.plain rfl (spec_move rfl (Get.tmp rfl))) ?_
    refine L.op1 rfl rfl (GSpec.plain rfl (spec_assign rfl (Get.tmp rfl))) ?_
    refine L.nil ?_
    refine N.thenW ?_
    refine W.ret ?_
    refine N.ret () rfl (.tmp (t := 2) (Get.tmp rfl) .nil) (res1 (eqI ?_)) .nil (fun _ _ h => h)
    omega

theorem format_ok (m : Nat) (h : m ≤ 9) : CallT Tryd.prog 32 [Rp.int .i64 (m : Int)] [] (.one (Rp.str (digT m))) := by
  refine W.enter (fn := Tryd.f32) (n := 24) Tryd.func32 rfl Tryd.ntmps32 rfl (fun w₀ C₀ => ?_)
  simp only [argS]
  refine W.seq ?_
  refine W.region ?_
  refine L.op1 rfl rfl (GSpec.plain rfl (spec_assign rfl (Get.cstr (l := []) rfl rfl))) ?_
  refine L.nil ?_
  refine N.thenW ?_
  refine W.seq ?_
  refine W.region ?_
  refine L.op1 rfl rfl (GSpec.plain rfl (spec_assign rfl (Get.cstr (l := []) rfl rfl))) ?_
  refine L.nil ?_
  refine N.thenW ?_
  refine W.seq ?_
  refine W.region ?_
  refine L.op1 rfl rfl (GSpec.plain rfl (spec_move rfl (Get.tmp rfl))) ?_
  refine L.op1 rfl rfl (GSpec.plain rfl (spec_call rfl Tryd.call55 (below_ok _ (by omega)) (.cons (Get.tmp rfl) .nil))) ?_
  refine L.op1 rfl rfl (GSpec.plain rfl (spec_assign rfl (Get.tmp rfl))) ?_
  refine L.nil ?_
  refine N.thenW ?_
  refine W.seq ?_
  refine W.block ?_
  refine W.loopK (σ := Unit) (.cons (t := 0) rfl (.cons (t := 2) rfl .nil)) (fun z => [(4, Rp.int .i64 (-(m : Int))), (3, Rp.str [])]) (fun z => []) (fun z => True) (fun z => 0) () trivial (.cons (t := 4) rfl (.cons (t := 3) rfl .nil)) .nil ?_
  intro _ hI S' M' hS hM
  try dsimp only at hS hM
  simp only [List.cons_append, List.nil_append] at hS hM
  subst hS hM
  try dsimp only
  refine W.block ?_
  refine W.seq ?_
  refine W.region ?_
  refine L.op1 rfl rfl (GSpec.plain rfl (spec_move rfl (Get.tmp rfl))) ?_
  refine L.op1 rfl rfl (GSpec.plain rfl (spec_is (rem_neg h) (spec_rem rfl (Get.tmp rfl) (Get.cint rfl) (by decide)))) ?_
  refine L.op1 rfl rfl (GSpec.plain rfl (spec_is (show (48 : Int) - -(m : Int) = 48 + m by omega) (fit_i64 (by omega) (by omega) (spec_sub rfl (Get.cint rfl) (Get.tmp rfl))))) ?_
  refine L.op1 rfl rfl (GSpec.plain rfl (spec_dig m rfl ⟨_, Tryd.underlying3⟩ Tryd.underlying5 (Get.tmp rfl) (by omega))) ?_
  refine L.op1 rfl rfl (GSpec.plain rfl (spec_buildSlice1 (y := UInt8.ofNat (48 + m)) (E := eUb) rfl Tryd.underlying88 ti5 z5 (by decide) (GetC.one (Get.tmp rfl)) (fun _ => rfl))) ?_
  refine L.op1 rfl rfl (GSpec.plain rfl (spec_bytesStr (E := eUb) (fun _ => rfl) rfl Tryd.underlying88 Tryd.underlying5 Tryd.underlying9 (Get.tmp rfl))) ?_
  refine L.op1 rfl rfl (GSpec.plain rfl (spec_move rfl (Get.tmp rfl))) ?_
  refine L.op1 rfl rfl (GSpec.plain rfl (spec_addS rfl (Get.tmp rfl) (Get.tmp rfl) (by (first | omega | (simp only [List.length_cons, List.length_nil]; omega))))) ?_
  refine L.op1 rfl rfl (GSpec.plain rfl (spec_assign rfl (Get.tmp rfl))) ?_
  refine L.nil ?_
  refine N.thenW ?_
  refine W.seq ?_
  refine W.region ?_
  refine L.op1 rfl rfl (GSpec.plain rfl (spec_move rfl (Get.tmp rfl))) ?_
  refine L.op1 rfl rfl (GSpec.plain rfl (spec_is (quo_neg h) (fit_i64 (by rw [quo_neg h]; omega) (by rw [quo_neg h]; omega) (spec_quo rfl (Get.tmp rfl) (Get.cint rfl) (by decide))))) ?_
  refine L.op1 rfl rfl (GSpec.plain rfl (spec_assign rfl (Get.tmp rfl))) ?_
  refine L.nil ?_
  refine N.thenW ?_
  refine W.seq ?_
  refine W.region ?_
  refine L.op1 rfl rfl (GSpec.plain rfl (spec_move rfl (Get.tmp rfl))) ?_
  refine L.op1 rfl rfl (GSpec.plain rfl (spec_eql rfl (Get.tmp rfl) (Get.cint rfl))) ?_
  refine L.nil ?_
  refine N.thenW ?_
  refine W.cond (Get.tmp rfl) (fun h1 => ?_) (fun h1 => ?_)
  · have ph1 := h1; try simp only [decide_eq_true_eq, decide_eq_false_iff_not, Bool.and_eq_true, Bool.or_eq_true, Bool.and_eq_false_iff, Bool.or_eq_false_iff, Bool.not_eq_true', Bool.not_eq_false', Bool.not_true, Bool.not_false, Int.not_lt, Int.not_le] at ph1
    refine W.exit ?_
    refine N.blockMiss rfl ?_
    refine N.thenExit ?_
    refine N.blockExit ?_
    refine N.thenW ?_
    refine W.keep (.cons (t := 0) rfl (.cons (t := 2) rfl (.cons (t := 3) rfl .nil))) .refl ?_
    refine W.seq ?_
    refine W.seq ?_
    refine W.region ?_
    refine L.op1 rfl rfl (GSpec.plain rfl (spec_move rfl (Get.tmp rfl))) ?_
    refine L.op1 rfl rfl (GSpec.plain rfl (spec_lss rfl (Get.tmp rfl) (Get.cint rfl))) ?_
    refine L.nil ?_
    refine N.thenW ?_
    refine W.cond (Get.tmp rfl) (fun h2 => ?_) (fun h2 => ?_)
    · exfalso; have h := of_decide_eq_true h2; omega
    · have ph2 := h2; try simp only [decide_eq_true_eq, decide_eq_false_iff_not, Bool.and_eq_true, Bool.or_eq_true, Bool.and_eq_false_iff, Bool.or_eq_false_iff, Bool.not_eq_true', Bool.not_eq_false', Bool.not_true, Bool.not_false, Int.not_lt, Int.not_le] at ph2
      refine W.skip ?_
      refine N.thenW ?_
      refine W.seq ?_
      refine W.region ?_
      refine L.op1 rfl rfl (GSpec.plain rfl (spec_move rfl (Get.tmp rfl))) ?_
      refine L.op1 rfl rfl (GSpec.plain rfl (spec_assign rfl (Get.tmp rfl))) ?_
      refine L.nil ?_
      refine N.thenW ?_
      refine W.keep (.cons (t := 2) rfl .nil) .refl ?_
      refine W.ret ?_
      refine N.ret () rfl (.tmp (t := 2) (Get.tmp rfl) .nil) (res1 (eqS ?_)) .nil (fun _ _ h => h)
      rfl
  · exfalso; simp at h1

end Go.Proofs.YtcabngjnmipflaaDoor
set_option linter.unusedSimpArgs false
set_option maxRecDepth 8000
set_option linter.unusedVariables false
namespace Go.Proofs.YtcabngjnmipflaaDoor
open Go.Sim
theorem validF_ok_ (f : Fd) : CallT Tryd.prog 13 [Rp.agg (eF f)] [kwG] (.one (Rp.int .i64 (validF f))) := by
  refine W.enter (fn := Tryd.f13) (n := 67) Tryd.func13 rfl Tryd.ntmps13 rfl (fun w₀ C₀ => ?_)
  simp only [argS]
  refine W.seq ?_
  refine W.region ?_
  refine L.box rfl rfl (GSpec.plain rfl (spec_box rfl (GetC.agg (Get.tmp rfl)))) (fun r1 => ?_)
  refine L.op1 rfl rfl (GSpec.plain rfl (spec_assign rfl (Get.cint rfl))) ?_
  refine L.nil ?_
  refine N.thenW ?_
  refine W.seq ?_
  refine W.block ?_
  refine W.seq ?_
  refine W.region ?_
  refine L.op1 rfl rfl (GSpec.plain rfl (spec_fieldAddr (f := 0) (off' := 0) rfl Tryd.underlying27 rfl Tryd.sizeOf9 (Get.tmp rfl) rfl)) ?_
  refine L.op1 rfl rfl (GSpec.plain rfl (spec_load1 (k := 0) rfl Tryd.isAgg9 (Get.tmp rfl) rfl rfl)) ?_
  refine L.op1 rfl rfl (GSpec.plain rfl (spec_callG (k := 1) rfl Tryd.call33 rfl (isName_ok _) (.cons (Get.tmp rfl) .nil))) ?_
  refine L.op1 rfl rfl (GSpec.plain rfl (spec_not rfl (Get.tmp rfl))) ?_
  refine L.op1 rfl rfl (GSpec.plain rfl (spec_assign rfl (Get.tmp rfl))) ?_
  refine L.nil ?_
  refine N.thenW ?_
  refine W.cond (Get.tmp rfl) (fun h1 => ?_) (fun h1 => ?_)
  · have hn : nameB f.name = false := by have h := h1; simpa using h
    refine W.seq ?_
    refine W.region ?_
    refine L.op1 rfl rfl (GSpec.plain rfl (spec_assign rfl (Get.cint rfl))) ?_
    refine L.nil ?_
    refine N.thenW ?_
    refine W.keep (.cons (t := 1) rfl (.cons (t := 2) rfl .nil)) .refl ?_
    refine W.ret ?_
    refine N.ret () rfl (.tmp (t := 2) (Get.tmp rfl) .nil) (res1 (eqI ?_)) .nil (fun _ _ h => h)
    unfold validF; rw [if_pos hn]
  · have hn : nameB f.name = true := by have h := h1; simpa using h
    refine W.seq ?_
    refine W.region ?_
    refine L.op1 rfl rfl (GSpec.plain rfl (spec_fieldAddr (f := 1) (off' := 1) rfl Tryd.underlying27 rfl Tryd.sizeOf3 (Get.tmp rfl) rfl)) ?_
    refine L.op1 rfl rfl (GSpec.plain rfl (spec_load1 (k := 0) rfl Tryd.isAgg3 (Get.tmp rfl) rfl rfl)) ?_
    refine L.op1 rfl rfl (GSpec.plain rfl (spec_lss rfl (Get.tmp rfl) (Get.cint rfl))) ?_
    refine L.op1 rfl rfl (GSpec.plain rfl (spec_move rfl (Get.tmp rfl))) ?_
    refine L.op1 rfl rfl (GSpec.guard rfl rfl rfl fun hg => (spec_fieldAddr (f := 1) (off' := 1) rfl Tryd.underlying27 rfl Tryd.sizeOf3 (Get.tmp rfl) rfl)) ?_
    refine L.op1 rfl rfl (GSpec.guard rfl rfl rfl fun hg => (spec_load1 (k := 0) rfl Tryd.isAgg3 (Get.opt rfl hg) rfl rfl)) ?_
    refine L.op1 rfl rfl (GSpec.guard rfl rfl rfl fun hg => (spec_gtr rfl (Get.opt rfl hg) (Get.cint rfl))) ?_
    refine L.op1 rfl rfl (GSpec.plain rfl (spec_or rfl (Get.tmp rfl) (fun hb => (Get.opt rfl hb)))) ?_
    refine L.op1 rfl rfl (GSpec.plain rfl (spec_move rfl (Get.tmp rfl))) ?_
    refine L.op1 rfl rfl (GSpec.guard rfl rfl rfl fun hg => (spec_fieldAddr (f := 2) (off' := 2) rfl Tryd.underlying27 rfl Tryd.sizeOf3 (Get.tmp rfl) rfl)) ?_
    refine L.op1 rfl rfl (GSpec.guard rfl rfl rfl fun hg => (spec_load1 (k := 0) rfl Tryd.isAgg3 (Get.opt rfl hg) rfl rfl)) ?_
    refine L.op1 rfl rfl (GSpec.guard rfl rfl rfl fun hg => (spec_lss rfl (Get.opt rfl hg) (Get.cint rfl))) ?_
    refine L.op1 rfl rfl (GSpec.plain rfl (spec_or rfl (Get.tmp rfl) (fun hb => (Get.opt rfl hb)))) ?_
    refine L.op1 rfl rfl (GSpec.plain rfl (spec_move rfl (Get.tmp rfl))) ?_
    refine L.op1 rfl rfl (GSpec.guard rfl rfl rfl fun hg => (spec_fieldAddr (f := 2) (off' := 2) rfl Tryd.underlying27 rfl Tryd.sizeOf3 (Get.tmp rfl) rfl)) ?_
    refine L.op1 rfl rfl (GSpec.guard rfl rfl rfl fun hg => (spec_load1 (k := 0) rfl Tryd.isAgg3 (Get.opt rfl hg) rfl rfl)) ?_
    refine L.op1 rfl rfl (GSpec.guard rfl rfl rfl fun hg => (spec_gtr rfl (Get.opt rfl hg) (Get.cint rfl))) ?_
    refine L.op1 rfl rfl (GSpec.plain rfl (spec_or rfl (Get.tmp rfl) (fun hb => (Get.opt rfl hb)))) ?_
    refine L.op1 rfl rfl (GSpec.plain rfl (spec_assign rfl (Get.tmp rfl))) ?_
    refine L.nil ?_
    refine N.thenW ?_
    refine W.keep (.cons (t := 1) rfl (.cons (t := 2) rfl (.cons (t := 9) rfl .nil))) .refl ?_
    refine W.cond (Get.tmp rfl) (fun h2 => ?_) (fun h2 => ?_)
    · have hrg : rangeF f = true := by have h := h2; simp only [decide_eq_true_eq, decide_eq_false_iff_not, Bool.and_eq_true, Bool.or_eq_true, Bool.and_eq_false_iff, Bool.or_eq_false_iff, Bool.not_eq_true', Bool.not_eq_false', Bool.not_true, Bool.not_false, Int.not_lt, Int.not_le] at h; unfold rangeF; rw [decide_eq_true_eq]; omega
      refine W.seq ?_
      refine W.region ?_
      refine L.op1 rfl rfl (GSpec.plain rfl (spec_assign rfl (Get.cint rfl))) ?_
      refine L.nil ?_
      refine N.thenW ?_
      refine W.ret ?_
      refine N.ret () rfl (.tmp (t := 2) (Get.tmp rfl) .nil) (res1 (eqI ?_)) .nil (fun _ _ h => h)
      unfold validF; rw [if_neg (by rw [hn]; simp), if_pos hrg]
    · have hb1 := h2
      simp only [decide_eq_true_eq, decide_eq_false_iff_not, Bool.and_eq_true, Bool.or_eq_true, Bool.and_eq_false_iff, Bool.or_eq_false_iff, Bool.not_eq_true', Bool.not_eq_false', Bool.not_true, Bool.not_false, Int.not_lt, Int.not_le] at hb1
      refine W.seq ?_
      refine W.region ?_
      refine L.op1 rfl rfl (GSpec.plain rfl (spec_fieldAddr (f := 3) (off' := 3) rfl Tryd.underlying27 rfl Tryd.sizeOf3 (Get.tmp rfl) rfl)) ?_
      refine L.op1 rfl rfl (GSpec.plain rfl (spec_load1 (k := 0) rfl Tryd.isAgg3 (Get.tmp rfl) rfl rfl)) ?_
      refine L.op1 rfl rfl (GSpec.plain rfl (spec_neq rfl (Get.tmp rfl) (Get.cint rfl))) ?_
      refine L.op1 rfl rfl (GSpec.plain rfl (spec_move rfl (Get.tmp rfl))) ?_
      refine L.op1 rfl rfl (GSpec.guard rfl rfl rfl fun hg => (spec_fieldAddr (f := 3) (off' := 3) rfl Tryd.underlying27 rfl Tryd.sizeOf3 (Get.tmp rfl) rfl)) ?_
      refine L.op1 rfl rfl (GSpec.guard rfl rfl rfl fun hg => (spec_load1 (k := 0) rfl Tryd.isAgg3 (Get.opt rfl hg) rfl rfl)) ?_
      refine L.op1 rfl rfl (GSpec.guard rfl rfl rfl fun hg => (spec_neq rfl (Get.opt rfl hg) (Get.cint rfl))) ?_
      refine L.op1 rfl rfl (GSpec.plain rfl (spec_and rfl (Get.tmp rfl) (fun hb => (Get.opt rfl hb)))) ?_
      refine L.op1 rfl rfl (GSpec.plain rfl (spec_move rfl (Get.tmp rfl))) ?_
      refine L.op1 rfl rfl (GSpec.guard rfl rfl rfl fun hg => (spec_fieldAddr (f := 3) (off' := 3) rfl Tryd.underlying27 rfl Tryd.sizeOf3 (Get.tmp rfl) rfl)) ?_
      refine L.op1 rfl rfl (GSpec.guard rfl rfl rfl fun hg => (spec_load1 (k := 0) rfl Tryd.isAgg3 (Get.opt rfl hg) rfl rfl)) ?_
      refine L.op1 rfl rfl (GSpec.guard rfl rfl rfl fun hg => (spec_neq rfl (Get.opt rfl hg) (Get.cint rfl))) ?_
      refine L.op1 rfl rfl (GSpec.plain rfl (spec_and rfl (Get.tmp rfl) (fun hb => (Get.opt rfl hb)))) ?_
      refine L.op1 rfl rfl (GSpec.plain rfl (spec_assign rfl (Get.tmp rfl))) ?_
      refine L.nil ?_
      refine N.thenW ?_
      refine W.keep (.cons (t := 1) rfl (.cons (t := 2) rfl (.cons (t := 28) rfl .nil))) .refl ?_
      refine W.cond (Get.tmp rfl) (fun h3 => ?_) (fun h3 => ?_)
      · have hrg : rangeF f = true := by have h := h3; simp only [decide_eq_true_eq, decide_eq_false_iff_not, Bool.and_eq_true, Bool.or_eq_true, Bool.and_eq_false_iff, Bool.or_eq_false_iff, Bool.not_eq_true', Bool.not_eq_false', Bool.not_true, Bool.not_false, Int.not_lt, Int.not_le] at h; unfold rangeF; rw [decide_eq_true_eq]; omega
        refine W.seq ?_
        refine W.region ?_
        refine L.op1 rfl rfl (GSpec.plain rfl (spec_assign rfl (Get.cint rfl))) ?_
        refine L.nil ?_
        refine N.thenW ?_
        refine W.ret ?_
        refine N.ret () rfl (.tmp (t := 2) (Get.tmp rfl) .nil) (res1 (eqI ?_)) .nil (fun _ _ h => h)
        unfold validF; rw [if_neg (by rw [hn]; simp), if_pos hrg]
      · have hb2 := h3
        simp only [decide_eq_true_eq, decide_eq_false_iff_not, Bool.and_eq_true, Bool.or_eq_true, Bool.and_eq_false_iff, Bool.or_eq_false_iff, Bool.not_eq_true', Bool.not_eq_false', Bool.not_true, Bool.not_false, Int.not_lt, Int.not_le] at hb2
        have hrg : rangeF f = false := by unfold rangeF; rw [decide_eq_false_iff_not]; omega
        have hw1 : 1 ≤ f.width := by omega
        have hw2 : f.width ≤ 8 := by omega
        refine W.seq ?_
        refine W.region ?_
        refine L.op1 rfl rfl (GSpec.plain rfl (spec_fieldAddr (f := 2) (off' := 2) rfl Tryd.underlying27 rfl Tryd.sizeOf3 (Get.tmp rfl) rfl)) ?_
        refine L.op1 rfl rfl (GSpec.plain rfl (spec_load1 (k := 0) rfl Tryd.isAgg3 (Get.tmp rfl) rfl rfl)) ?_
        refine L.op1 rfl rfl (GSpec.plain rfl (spec_neq rfl (Get.tmp rfl) (Get.cint rfl))) ?_
        refine L.op1 rfl rfl (GSpec.plain rfl (spec_move rfl (Get.tmp rfl))) ?_
        refine L.op1 rfl rfl (GSpec.guard rfl rfl rfl fun hg => (spec_fieldAddr (f := 3) (off' := 3) rfl Tryd.underlying27 rfl Tryd.sizeOf3 (Get.tmp rfl) rfl)) ?_
        refine L.op1 rfl rfl (GSpec.guard rfl rfl rfl fun hg => (spec_load1 (k := 0) rfl Tryd.isAgg3 (Get.opt rfl hg) rfl rfl)) ?_
        refine L.op1 rfl rfl (GSpec.guard rfl rfl rfl fun hg => (spec_eql rfl (Get.opt rfl hg) (Get.cint rfl))) ?_
        refine L.op1 rfl rfl (GSpec.plain rfl (spec_and rfl (Get.tmp rfl) (fun hb => (Get.opt rfl hb)))) ?_
        refine L.op1 rfl rfl (GSpec.plain rfl (spec_assign rfl (Get.tmp rfl))) ?_
        refine L.nil ?_
        refine N.thenW ?_
        refine W.keep (.cons (t := 1) rfl (.cons (t := 2) rfl (.cons (t := 42) rfl .nil))) .refl ?_
        refine W.cond (Get.tmp rfl) (fun h4 => ?_) (fun h4 => ?_)
        · have hcy : f.size ≠ 0 ∧ f.mode = 2 := by have h := h4; simp only [decide_eq_true_eq, decide_eq_false_iff_not, Bool.and_eq_true, Bool.or_eq_true, Bool.and_eq_false_iff, Bool.or_eq_false_iff, Bool.not_eq_true', Bool.not_eq_false', Bool.not_true, Bool.not_false, Int.not_lt, Int.not_le] at h; omega
          refine W.seq ?_
          refine W.region ?_
          refine L.op1 rfl rfl (GSpec.plain rfl (spec_assign rfl (Get.cint rfl))) ?_
          refine L.nil ?_
          refine N.thenW ?_
          refine W.ret ?_
          refine N.ret () rfl (.tmp (t := 2) (Get.tmp rfl) .nil) (res1 (eqI ?_)) .nil (fun _ _ h => h)
          unfold validF; rw [if_neg (by rw [hn]; simp), if_neg (by rw [hrg]; simp), if_pos hcy]
        · have hcy : ¬ (f.size ≠ 0 ∧ f.mode = 2) := by have h := h4; simp only [decide_eq_true_eq, decide_eq_false_iff_not, Bool.and_eq_true, Bool.or_eq_true, Bool.and_eq_false_iff, Bool.or_eq_false_iff, Bool.not_eq_true', Bool.not_eq_false', Bool.not_true, Bool.not_false, Int.not_lt, Int.not_le] at h; omega
          refine W.skip ?_
          refine N.blockNormal ?_
          refine N.thenW ?_
          refine W.seq ?_
          refine W.region ?_
          refine L.op1 rfl rfl (GSpec.plain rfl (spec_assign rfl (Get.cint rfl))) ?_
          refine L.nil ?_
          refine N.thenW ?_
          refine W.cut (σ := Unit) (fun z => [(1, Rp.ptr r1 0), (2, Rp.int .i64 0), (3, Rp.int .i64 (topF f))]) (fun z => [MF.box r1 27 (eF f), kwG]) ?_ ?_
          · refine W.seq ?_
            refine W.region ?_
            refine L.op1 rfl rfl (GSpec.plain rfl (spec_fieldAddr (f := 3) (off' := 3) rfl Tryd.underlying27 rfl Tryd.sizeOf3 (Get.tmp rfl) rfl)) ?_
            refine L.op1 rfl rfl (GSpec.plain rfl (spec_load1 (k := 0) rfl Tryd.isAgg3 (Get.tmp rfl) rfl rfl)) ?_
            refine L.op1 rfl rfl (GSpec.plain rfl (spec_eql rfl (Get.tmp rfl) (Get.cint rfl))) ?_
            refine L.nil ?_
            refine N.thenW ?_
            refine W.cond (Get.tmp rfl) (fun h5 => ?_) (fun h5 => ?_)
            · have ph5 := h5; try simp only [decide_eq_true_eq, decide_eq_false_iff_not, Bool.and_eq_true, Bool.or_eq_true, Bool.and_eq_false_iff, Bool.or_eq_false_iff, Bool.not_eq_true', Bool.not_eq_false', Bool.not_true, Bool.not_false, Int.not_lt, Int.not_le] at ph5
              refine W.region ?_
              refine L.op1 rfl rfl (GSpec.plain rfl (spec_fieldAddr (f := 1) (off' := 1) rfl Tryd.underlying27 rfl Tryd.sizeOf3 (Get.tmp rfl) rfl)) ?_
              refine L.op1 rfl rfl (GSpec.plain rfl (spec_load1 (k := 0) rfl Tryd.isAgg3 (Get.tmp rfl) rfl rfl)) ?_
              refine L.op1 rfl rfl (GSpec.plain rfl (spec_shlF rfl (Get.cint rfl) (Get.tmp rfl) (by omega) (by omega) (by have := pow8 hw1 hw2; omega))) ?_
              first | refine L.op1 rfl rfl (GSpec.plain rfl (fit_i64 (by (first | omega | (have := pow8 hw1 hw2; omega))) (by (first | omega | (have := pow8 hw1 hw2; omega))) (spec_sub rfl (Get.tmp rfl) (Get.cint rfl)))) ?_ | refine L.op1 rfl rfl (GSpec.plain rfl (spec_sub rfl (Get.tmp rfl) (Get.cint rfl))) ?_
              refine L.op1 rfl rfl (GSpec.plain rfl (spec_assign rfl (Get.tmp rfl))) ?_
              refine L.nil ?_
              refine N.mid () ?hs1 ?hp1
              case hs1 => exact (.cons (t := 1) rfl (.cons (t := 2) rfl (.weak (t := 3) rfl (eqI (by unfold topF; first | rw [if_pos (of_decide_eq_true (by assumption))] | rw [if_neg (of_decide_eq_false (by assumption))])) .nil)))
              case hp1 => exact (.cons 0 rfl (.cons 0 rfl .nil))
            · have ph5 := h5; try simp only [decide_eq_true_eq, decide_eq_false_iff_not, Bool.and_eq_true, Bool.or_eq_true, Bool.and_eq_false_iff, Bool.or_eq_false_iff, Bool.not_eq_true', Bool.not_eq_false', Bool.not_true, Bool.not_false, Int.not_lt, Int.not_le] at ph5
              refine W.skip ?_
              refine N.mid () ?hs2 ?hp2
              case hs2 => exact (.cons (t := 1) rfl (.cons (t := 2) rfl (.weak (t := 3) rfl (eqI (by unfold topF; first | rw [if_pos (of_decide_eq_true (by assumption))] | rw [if_neg (of_decide_eq_false (by assumption))])) .nil)))
              case hp2 => exact (.cons 0 rfl (.cons 0 rfl .nil))
          intro _
          try dsimp only
          refine W.seq ?_
          refine W.seq ?_
          refine W.region ?_
          refine L.op1 rfl rfl (GSpec.plain rfl (spec_fieldAddr (f := 4) (off' := 4) rfl Tryd.underlying27 rfl Tryd.sizeOf3 (Get.tmp rfl) rfl)) ?_
          refine L.op1 rfl rfl (GSpec.plain rfl (spec_load1 (k := 0) rfl Tryd.isAgg3 (Get.tmp rfl) rfl rfl)) ?_
          refine L.op1 rfl rfl (GSpec.plain rfl (spec_lss rfl (Get.tmp rfl) (Get.cint rfl))) ?_
          refine L.op1 rfl rfl (GSpec.plain rfl (spec_move rfl (Get.tmp rfl))) ?_
          refine L.op1 rfl rfl (GSpec.guard rfl rfl rfl fun hg => (spec_fieldAddr (f := 4) (off' := 4) rfl Tryd.underlying27 rfl Tryd.sizeOf3 (Get.tmp rfl) rfl)) ?_
          refine L.op1 rfl rfl (GSpec.guard rfl rfl rfl fun hg => (spec_load1 (k := 0) rfl Tryd.isAgg3 (Get.opt rfl hg) rfl rfl)) ?_
          refine L.op1 rfl rfl (GSpec.guard rfl rfl rfl fun hg => (spec_move rfl (Get.tmp rfl))) ?_
          refine L.op1 rfl rfl (GSpec.guard rfl rfl rfl fun hg => (spec_gtr rfl (Get.opt rfl hg) (Get.opt rfl hg))) ?_
          refine L.op1 rfl rfl (GSpec.plain rfl (spec_or rfl (Get.tmp rfl) (fun hb => (Get.opt rfl hb)))) ?_
          refine L.nil ?_
          refine N.thenW ?_
          refine W.keep (.cons (t := 2) rfl (.cons (t := 66) rfl .nil)) .refl ?_
          refine W.cond (Get.tmp rfl) (fun h6 => ?_) (fun h6 => ?_)
          · have hin : f.init < 0 ∨ topF f < f.init := by have h := h6; simp only [decide_eq_true_eq, decide_eq_false_iff_not, Bool.and_eq_true, Bool.or_eq_true, Bool.and_eq_false_iff, Bool.or_eq_false_iff, Bool.not_eq_true', Bool.not_eq_false', Bool.not_true, Bool.not_false, Int.not_lt, Int.not_le] at h; omega
            refine W.seq ?_
            refine W.region ?_
            refine L.op1 rfl rfl (GSpec.plain rfl (spec_assign rfl (Get.cint rfl))) ?_
            refine L.nil ?_
            refine N.thenW ?_
            refine W.ret ?_
            refine N.ret () rfl (.tmp (t := 2) (Get.tmp rfl) .nil) (res1 (eqI ?_)) .nil (fun _ _ h => h)
            unfold validF; rw [if_neg (by rw [hn]; simp), if_neg (by rw [hrg]; simp), if_neg hcy, if_pos hin]
          · have hin : ¬ (f.init < 0 ∨ topF f < f.init) := by have h := h6; simp only [decide_eq_true_eq, decide_eq_false_iff_not, Bool.and_eq_true, Bool.or_eq_true, Bool.and_eq_false_iff, Bool.or_eq_false_iff, Bool.not_eq_true', Bool.not_eq_false', Bool.not_true, Bool.not_false, Int.not_lt, Int.not_le] at h; omega
            refine W.skip ?_
            refine N.thenW ?_
            refine W.seq ?_
            refine W.region ?_
            refine L.op1 rfl rfl (GSpec.plain rfl (spec_assign rfl (Get.cint rfl))) ?_
            refine L.nil ?_
            refine N.thenW ?_
            refine W.ret ?_
            refine N.ret () rfl (.tmp (t := 2) (Get.tmp rfl) .nil) (res1 (eqI ?_)) .nil (fun _ _ h => h)
            unfold validF; rw [if_neg (by rw [hn]; simp), if_neg (by rw [hrg]; simp), if_neg hcy, if_neg hin]

theorem rvalidF_ok (f : Fd) : CallT Tryd.prog 14 [Rp.agg (eF f)] [] (.one (Rp.int .i64 (validF f))) := by
  refine W.enter (fn := Tryd.f14) (n := 61) Tryd.func14 rfl Tryd.ntmps14 rfl (fun w₀ C₀ => ?_)
  simp only [argS]
  refine W.seq ?_
  refine W.region ?_
  refine L.box rfl rfl (GSpec.plain rfl (spec_box rfl (GetC.agg (Get.tmp rfl)))) (fun r1 => ?_)
  refine L.op1 rfl rfl (GSpec.plain rfl (spec_assign rfl (Get.cint rfl))) ?_
  refine L.nil ?_
  refine N.thenW ?_
  refine W.seq ?_
  refine W.seq ?_
  refine W.region ?_
  refine L.op1 rfl rfl (GSpec.plain rfl (spec_fieldAddr (f := 0) (off' := 0) rfl Tryd.underlying27 rfl Tryd.sizeOf9 (Get.tmp rfl) rfl)) ?_
  refine L.op1 rfl rfl (GSpec.plain rfl (spec_load1 (k := 0) rfl Tryd.isAgg9 (Get.tmp rfl) rfl rfl)) ?_
  refine L.op1 rfl rfl (GSpec.plain rfl (spec_call rfl Tryd.call34 (isName2_ok _) (.cons (Get.tmp rfl) .nil))) ?_
  refine L.op1 rfl rfl (GSpec.plain rfl (spec_not rfl (Get.tmp rfl))) ?_
  refine L.nil ?_
  refine N.thenW ?_
  refine W.keep (.cons (t := 1) rfl (.cons (t := 2) rfl (.cons (t := 7) rfl .nil))) .refl ?_
  refine W.cond (Get.tmp rfl) (fun h1 => ?_) (fun h1 => ?_)
  · have hn : nameB f.name = false := by have h := h1; simpa using h
    refine W.seq ?_
    refine W.region ?_
    refine L.op1 rfl rfl (GSpec.plain rfl (spec_assign rfl (Get.cint rfl))) ?_
    refine L.nil ?_
    refine N.thenW ?_
    refine W.ret ?_
    refine N.ret () rfl (.tmp (t := 2) (Get.tmp rfl) .nil) (res1 (eqI ?_)) .nil (fun _ _ h => h)
    unfold validF; rw [if_pos hn]
  · have hn : nameB f.name = true := by have h := h1; simpa using h
    refine W.skip ?_
    refine N.thenW ?_
    refine W.seq ?_
    refine W.seq ?_
    refine W.region ?_
    refine L.op1 rfl rfl (GSpec.plain rfl (spec_fieldAddr (f := 1) (off' := 1) rfl Tryd.underlying27 rfl Tryd.sizeOf3 (Get.tmp rfl) rfl)) ?_
    refine L.op1 rfl rfl (GSpec.plain rfl (spec_load1 (k := 0) rfl Tryd.isAgg3 (Get.tmp rfl) rfl rfl)) ?_
    refine L.op1 rfl rfl (GSpec.plain rfl (spec_lss rfl (Get.tmp rfl) (Get.cint rfl))) ?_
    refine L.op1 rfl rfl (GSpec.plain rfl (spec_move rfl (Get.tmp rfl))) ?_
    refine L.op1 rfl rfl (GSpec.guard rfl rfl rfl fun hg => (spec_fieldAddr (f := 1) (off' := 1) rfl Tryd.underlying27 rfl Tryd.sizeOf3 (Get.tmp rfl) rfl)) ?_
    refine L.op1 rfl rfl (GSpec.guard rfl rfl rfl fun hg => (spec_load1 (k := 0) rfl Tryd.isAgg3 (Get.opt rfl hg) rfl rfl)) ?_
    refine L.op1 rfl rfl (GSpec.guard rfl rfl rfl fun hg => (spec_gtr rfl (Get.opt rfl hg) (Get.cint rfl))) ?_
    refine L.op1 rfl rfl (GSpec.plain rfl (spec_or rfl (Get.tmp rfl) (fun hb => (Get.opt rfl hb)))) ?_
    refine L.op1 rfl rfl (GSpec.plain rfl (spec_move rfl (Get.tmp rfl))) ?_
    refine L.op1 rfl rfl (GSpec.guard rfl rfl rfl fun hg => (spec_fieldAddr (f := 2) (off' := 2) rfl Tryd.underlying27 rfl Tryd.sizeOf3 (Get.tmp rfl) rfl)) ?_
    refine L.op1 rfl rfl (GSpec.guard rfl rfl rfl fun hg => (spec_load1 (k := 0) rfl Tryd.isAgg3 (Get.opt rfl hg) rfl rfl)) ?_
    refine L.op1 rfl rfl (GSpec.guard rfl rfl rfl fun hg => (spec_lss rfl (Get.opt rfl hg) (Get.cint rfl))) ?_
    refine L.op1 rfl rfl (GSpec.plain rfl (spec_or rfl (Get.tmp rfl) (fun hb => (Get.opt rfl hb)))) ?_
    refine L.op1 rfl rfl (GSpec.plain rfl (spec_move rfl (Get.tmp rfl))) ?_
    refine L.op1 rfl rfl (GSpec.guard rfl rfl rfl fun hg => (spec_fieldAddr (f := 2) (off' := 2) rfl Tryd.underlying27 rfl Tryd.sizeOf3 (Get.tmp rfl) rfl)) ?_
    refine L.op1 rfl rfl (GSpec.guard rfl rfl rfl fun hg => (spec_load1 (k := 0) rfl Tryd.isAgg3 (Get.opt rfl hg) rfl rfl)) ?_
    refine L.op1 rfl rfl (GSpec.guard rfl rfl rfl fun hg => (spec_gtr rfl (Get.opt rfl hg) (Get.cint rfl))) ?_
    refine L.op1 rfl rfl (GSpec.plain rfl (spec_or rfl (Get.tmp rfl) (fun hb => (Get.opt rfl hb)))) ?_
    refine L.op1 rfl rfl (GSpec.plain rfl (spec_move rfl (Get.tmp rfl))) ?_
    refine L.op1 rfl rfl (GSpec.guard rfl rfl rfl fun hg => (spec_fieldAddr (f := 3) (off' := 3) rfl Tryd.underlying27 rfl Tryd.sizeOf3 (Get.tmp rfl) rfl)) ?_
    refine L.op1 rfl rfl (GSpec.guard rfl rfl rfl fun hg => (spec_load1 (k := 0) rfl Tryd.isAgg3 (Get.opt rfl hg) rfl rfl)) ?_
    refine L.op1 rfl rfl (GSpec.guard rfl rfl rfl fun hg => (spec_lss rfl (Get.opt rfl hg) (Get.cint rfl))) ?_
    refine L.op1 rfl rfl (GSpec.plain rfl (spec_or rfl (Get.tmp rfl) (fun hb => (Get.opt rfl hb)))) ?_
    refine L.op1 rfl rfl (GSpec.plain rfl (spec_move rfl (Get.tmp rfl))) ?_
    refine L.op1 rfl rfl (GSpec.guard rfl rfl rfl fun hg => (spec_fieldAddr (f := 3) (off' := 3) rfl Tryd.underlying27 rfl Tryd.sizeOf3 (Get.tmp rfl) rfl)) ?_
    refine L.op1 rfl rfl (GSpec.guard rfl rfl rfl fun hg => (spec_load1 (k := 0) rfl Tryd.isAgg3 (Get.opt rfl hg) rfl rfl)) ?_
    refine L.op1 rfl rfl (GSpec.guard rfl rfl rfl fun hg => (spec_gtr rfl (Get.opt rfl hg) (Get.cint rfl))) ?_
    refine L.op1 rfl rfl (GSpec.plain rfl (spec_or rfl (Get.tmp rfl) (fun hb => (Get.opt rfl hb)))) ?_
    refine L.nil ?_
    refine N.thenW ?_
    refine W.keep (.cons (t := 1) rfl (.cons (t := 2) rfl (.cons (t := 35) rfl .nil))) .refl ?_
    refine W.cond (Get.tmp rfl) (fun h2 => ?_) (fun h2 => ?_)
    · have hrg : rangeF f = true := by have h := h2; simp only [decide_eq_true_eq, decide_eq_false_iff_not, Bool.and_eq_true, Bool.or_eq_true, Bool.and_eq_false_iff, Bool.or_eq_false_iff, Bool.not_eq_true', Bool.not_eq_false', Bool.not_true, Bool.not_false, Int.not_lt, Int.not_le] at h; unfold rangeF; rw [decide_eq_true_eq]; omega
      refine W.seq ?_
      refine W.region ?_
      refine L.op1 rfl rfl (GSpec.plain rfl (spec_assign rfl (Get.cint rfl))) ?_
      refine L.nil ?_
      refine N.thenW ?_
      refine W.ret ?_
      refine N.ret () rfl (.tmp (t := 2) (Get.tmp rfl) .nil) (res1 (eqI ?_)) .nil (fun _ _ h => h)
      unfold validF; rw [if_neg (by rw [hn]; simp), if_pos hrg]
    · have hb1 := h2
      simp only [decide_eq_true_eq, decide_eq_false_iff_not, Bool.and_eq_true, Bool.or_eq_true, Bool.and_eq_false_iff, Bool.or_eq_false_iff, Bool.not_eq_true', Bool.not_eq_false', Bool.not_true, Bool.not_false, Int.not_lt, Int.not_le] at hb1
      have hrg : rangeF f = false := by unfold rangeF; rw [decide_eq_false_iff_not]; omega
      have hw1 : 1 ≤ f.width := by omega
      have hw2 : f.width ≤ 8 := by omega
      refine W.skip ?_
      refine N.thenW ?_
      refine W.seq ?_
      refine W.seq ?_
      refine W.region ?_
      refine L.op1 rfl rfl (GSpec.plain rfl (spec_fieldAddr (f := 2) (off' := 2) rfl Tryd.underlying27 rfl Tryd.sizeOf3 (Get.tmp rfl) rfl)) ?_
      refine L.op1 rfl rfl (GSpec.plain rfl (spec_load1 (k := 0) rfl Tryd.isAgg3 (Get.tmp rfl) rfl rfl)) ?_
      refine L.op1 rfl rfl (GSpec.plain rfl (spec_neq rfl (Get.tmp rfl) (Get.cint rfl))) ?_
      refine L.op1 rfl rfl (GSpec.plain rfl (spec_move rfl (Get.tmp rfl))) ?_
      refine L.op1 rfl rfl (GSpec.guard rfl rfl rfl fun hg => (spec_fieldAddr (f := 3) (off' := 3) rfl Tryd.underlying27 rfl Tryd.sizeOf3 (Get.tmp rfl) rfl)) ?_
      refine L.op1 rfl rfl (GSpec.guard rfl rfl rfl fun hg => (spec_load1 (k := 0) rfl Tryd.isAgg3 (Get.opt rfl hg) rfl rfl)) ?_
      refine L.op1 rfl rfl (GSpec.guard rfl rfl rfl fun hg => (spec_eql rfl (Get.opt rfl hg) (Get.cint rfl))) ?_
      refine L.op1 rfl rfl (GSpec.plain rfl (spec_and rfl (Get.tmp rfl) (fun hb => (Get.opt rfl hb)))) ?_
      refine L.nil ?_
      refine N.thenW ?_
      refine W.keep (.cons (t := 1) rfl (.cons (t := 2) rfl (.cons (t := 43) rfl .nil))) .refl ?_
      refine W.cond (Get.tmp rfl) (fun h3 => ?_) (fun h3 => ?_)
      · have hcy : f.size ≠ 0 ∧ f.mode = 2 := by have h := h3; simp only [decide_eq_true_eq, decide_eq_false_iff_not, Bool.and_eq_true, Bool.or_eq_true, Bool.and_eq_false_iff, Bool.or_eq_false_iff, Bool.not_eq_true', Bool.not_eq_false', Bool.not_true, Bool.not_false, Int.not_lt, Int.not_le] at h; omega
        refine W.seq ?_
        refine W.region ?_
        refine L.op1 rfl rfl (GSpec.plain rfl (spec_assign rfl (Get.cint rfl))) ?_
        refine L.nil ?_
        refine N.thenW ?_
        refine W.ret ?_
        refine N.ret () rfl (.tmp (t := 2) (Get.tmp rfl) .nil) (res1 (eqI ?_)) .nil (fun _ _ h => h)
        unfold validF; rw [if_neg (by rw [hn]; simp), if_neg (by rw [hrg]; simp), if_pos hcy]
      · have hcy : ¬ (f.size ≠ 0 ∧ f.mode = 2) := by have h := h3; simp only [decide_eq_true_eq, decide_eq_false_iff_not, Bool.and_eq_true, Bool.or_eq_true, Bool.and_eq_false_iff, Bool.or_eq_false_iff, Bool.not_eq_true', Bool.not_eq_false', Bool.not_true, Bool.not_false, Int.not_lt, Int.not_le] at h; omega
        refine W.skip ?_
        refine N.thenW ?_
        refine W.seq ?_
        refine W.region ?_
        refine L.op1 rfl rfl (GSpec.plain rfl (spec_assign rfl (Get.cint rfl))) ?_
        refine L.nil ?_
        refine N.thenW ?_
        refine W.cut (σ := Unit) (fun z => [(1, Rp.ptr r1 0), (2, Rp.int .i64 0), (3, Rp.int .i64 (topF f))]) (fun z => [MF.box r1 27 (eF f)]) ?_ ?_
        · refine W.seq ?_
          refine W.region ?_
          refine L.op1 rfl rfl (GSpec.plain rfl (spec_fieldAddr (f := 3) (off' := 3) rfl Tryd.underlying27 rfl Tryd.sizeOf3 (Get.tmp rfl) rfl)) ?_
          refine L.op1 rfl rfl (GSpec.plain rfl (spec_load1 (k := 0) rfl Tryd.isAgg3 (Get.tmp rfl) rfl rfl)) ?_
          refine L.op1 rfl rfl (GSpec.plain rfl (spec_eql rfl (Get.tmp rfl) (Get.cint rfl))) ?_
          refine L.nil ?_
          refine N.thenW ?_
          refine W.cond (Get.tmp rfl) (fun h4 => ?_) (fun h4 => ?_)
          · have ph4 := h4; try simp only [decide_eq_true_eq, decide_eq_false_iff_not, Bool.and_eq_true, Bool.or_eq_true, Bool.and_eq_false_iff, Bool.or_eq_false_iff, Bool.not_eq_true', Bool.not_eq_false', Bool.not_true, Bool.not_false, Int.not_lt, Int.not_le] at ph4
            refine W.region ?_
            refine L.op1 rfl rfl (GSpec.plain rfl (spec_fieldAddr (f := 1) (off' := 1) rfl Tryd.underlying27 rfl Tryd.sizeOf3 (Get.tmp rfl) rfl)) ?_
            refine L.op1 rfl rfl (GSpec.plain rfl (spec_load1 (k := 0) rfl Tryd.isAgg3 (Get.tmp rfl) rfl rfl)) ?_
            first | refine L.op1 rfl rfl (GSpec.plain rfl (fit_u64 (by (first | omega | (have := pow8 hw1 hw2; omega))) (by (first | omega | (have := pow8 hw1 hw2; omega))) (spec_conv rfl Tryd.underlying60 ⟨_, Tryd.underlying3⟩ (Get.tmp rfl)))) ?_ | refine L.op1 rfl rfl (GSpec.plain rfl (spec_conv rfl Tryd.underlying60 ⟨_, Tryd.underlying3⟩ (Get.tmp rfl))) ?_
            refine L.op1 rfl rfl (GSpec.plain rfl (spec_shlF rfl (Get.cint rfl) (Get.tmp rfl) (by omega) (by omega) (by have := pow8 hw1 hw2; omega))) ?_
            first | refine L.op1 rfl rfl (GSpec.plain rfl (fit_i64 (by (first | omega | (have := pow8 hw1 hw2; omega))) (by (first | omega | (have := pow8 hw1 hw2; omega))) (spec_sub rfl (Get.tmp rfl) (Get.cint rfl)))) ?_ | refine L.op1 rfl rfl (GSpec.plain rfl (spec_sub rfl (Get.tmp rfl) (Get.cint rfl))) ?_
            refine L.op1 rfl rfl (GSpec.plain rfl (spec_assign rfl (Get.tmp rfl))) ?_
            refine L.nil ?_
            refine N.mid () ?hs3 ?hp3
            case hs3 => exact (.cons (t := 1) rfl (.cons (t := 2) rfl (.weak (t := 3) rfl (eqI (by unfold topF; first | rw [if_pos (of_decide_eq_true (by assumption))] | rw [if_neg (of_decide_eq_false (by assumption))])) .nil)))
            case hp3 => exact (.cons 0 rfl .nil)
          · have ph4 := h4; try simp only [decide_eq_true_eq, decide_eq_false_iff_not, Bool.and_eq_true, Bool.or_eq_true, Bool.and_eq_false_iff, Bool.or_eq_false_iff, Bool.not_eq_true', Bool.not_eq_false', Bool.not_true, Bool.not_false, Int.not_lt, Int.not_le] at ph4
            refine W.skip ?_
            refine N.mid () ?hs4 ?hp4
            case hs4 => exact (.cons (t := 1) rfl (.cons (t := 2) rfl (.weak (t := 3) rfl (eqI (by unfold topF; first | rw [if_pos (of_decide_eq_true (by assumption))] | rw [if_neg (of_decide_eq_false (by assumption))])) .nil)))
            case hp4 => exact (.cons 0 rfl .nil)
        intro _
        try dsimp only
        refine W.seq ?_
        refine W.seq ?_
        refine W.region ?_
        refine L.op1 rfl rfl (GSpec.plain rfl (spec_fieldAddr (f := 4) (off' := 4) rfl Tryd.underlying27 rfl Tryd.sizeOf3 (Get.tmp rfl) rfl)) ?_
        refine L.op1 rfl rfl (GSpec.plain rfl (spec_load1 (k := 0) rfl Tryd.isAgg3 (Get.tmp rfl) rfl rfl)) ?_
        refine L.op1 rfl rfl (GSpec.plain rfl (spec_lss rfl (Get.tmp rfl) (Get.cint rfl))) ?_
        refine L.op1 rfl rfl (GSpec.plain rfl (spec_move rfl (Get.tmp rfl))) ?_
        refine L.op1 rfl rfl (GSpec.guard rfl rfl rfl fun hg => (spec_fieldAddr (f := 4) (off' := 4) rfl Tryd.underlying27 rfl Tryd.sizeOf3 (Get.tmp rfl) rfl)) ?_
        refine L.op1 rfl rfl (GSpec.guard rfl rfl rfl fun hg => (spec_load1 (k := 0) rfl Tryd.isAgg3 (Get.opt rfl hg) rfl rfl)) ?_
        refine L.op1 rfl rfl (GSpec.guard rfl rfl rfl fun hg => (spec_move rfl (Get.tmp rfl))) ?_
        refine L.op1 rfl rfl (GSpec.guard rfl rfl rfl fun hg => (spec_gtr rfl (Get.opt rfl hg) (Get.opt rfl hg))) ?_
        refine L.op1 rfl rfl (GSpec.plain rfl (spec_or rfl (Get.tmp rfl) (fun hb => (Get.opt rfl hb)))) ?_
        refine L.nil ?_
        refine N.thenW ?_
        refine W.keep (.cons (t := 2) rfl (.cons (t := 60) rfl .nil)) .refl ?_
        refine W.cond (Get.tmp rfl) (fun h5 => ?_) (fun h5 => ?_)
        · have hin : f.init < 0 ∨ topF f < f.init := by have h := h5; simp only [decide_eq_true_eq, decide_eq_false_iff_not, Bool.and_eq_true, Bool.or_eq_true, Bool.and_eq_false_iff, Bool.or_eq_false_iff, Bool.not_eq_true', Bool.not_eq_false', Bool.not_true, Bool.not_false, Int.not_lt, Int.not_le] at h; omega
          refine W.seq ?_
          refine W.region ?_
          refine L.op1 rfl rfl (GSpec.plain rfl (spec_assign rfl (Get.cint rfl))) ?_
          refine L.nil ?_
          refine N.thenW ?_
          refine W.ret ?_
          refine N.ret () rfl (.tmp (t := 2) (Get.tmp rfl) .nil) (res1 (eqI ?_)) .nil (fun _ _ h => h)
          unfold validF; rw [if_neg (by rw [hn]; simp), if_neg (by rw [hrg]; simp), if_neg hcy, if_pos hin]
        · have hin : ¬ (f.init < 0 ∨ topF f < f.init) := by have h := h5; simp only [decide_eq_true_eq, decide_eq_false_iff_not, Bool.and_eq_true, Bool.or_eq_true, Bool.and_eq_false_iff, Bool.or_eq_false_iff, Bool.not_eq_true', Bool.not_eq_false', Bool.not_true, Bool.not_false, Int.not_lt, Int.not_le] at h; omega
          refine W.skip ?_
          refine N.thenW ?_
          refine W.seq ?_
          refine W.region ?_
          refine L.op1 rfl rfl (GSpec.plain rfl (spec_assign rfl (Get.cint rfl))) ?_
          refine L.nil ?_
          refine N.thenW ?_
          refine W.ret ?_
          refine N.ret () rfl (.tmp (t := 2) (Get.tmp rfl) .nil) (res1 (eqI ?_)) .nil (fun _ _ h => h)
          unfold validF; rw [if_neg (by rw [hn]; simp), if_neg (by rw [hrg]; simp), if_neg hcy, if_neg hin]

theorem fname_ok (x : Fd) : CallT Tryd.prog 38 [Rp.agg (eF x)] [] (.one (Rp.str x.name)) := by
  refine W.enter (fn := Tryd.f38) (n := 5) Tryd.func38 rfl Tryd.ntmps38 rfl (fun w₀ C₀ => ?_)
  simp only [argS]
  refine W.seq ?_
  refine W.region ?_
  refine L.box rfl rfl (GSpec.plain rfl (spec_box rfl (GetC.agg (Get.tmp rfl)))) (fun r1 => ?_)
  refine L.op1 rfl rfl (GSpec.plain rfl (spec_assign rfl (Get.cstr (l := []) rfl rfl))) ?_
  refine L.nil ?_
  refine N.thenW ?_
  refine W.seq ?_
  refine W.region ?_
  refine L.op1 rfl rfl (GSpec.plain rfl (spec_fieldAddr (f := 0) (off' := 0) rfl Tryd.underlying27 rfl Tryd.sizeOf9 (Get.tmp rfl) rfl)) ?_
  refine L.op1 rfl rfl (GSpec.plain rfl (spec_load1 (k := 0) rfl Tryd.isAgg9 (Get.tmp rfl) rfl rfl)) ?_
  refine L.op1 rfl rfl (GSpec.plain rfl (spec_assign rfl (Get.tmp rfl))) ?_
  refine L.nil ?_
  refine N.thenW ?_
  refine W.keep (.cons (t := 2) rfl .nil) .refl ?_
  refine W.ret ?_
  refine N.ret () rfl (.tmp (t := 2) (Get.tmp rfl) .nil) (res1 (eqS ?_)) .nil (fun _ _ h => h)
  rfl

theorem repF_ok (l : List Fd) : CallT Tryd.prog 37 [Rp.slice eF l, Rp.fn Tryd.prog (fun x : Fd => [Rp.agg (eF x)]) (fun x => .one (Rp.str x.name))] [] (.one (Rp.bool (repB Fd.name l))) := by
  refine W.enter (fn := Tryd.f37) (n := 31) Tryd.func37 rfl Tryd.ntmps37 rfl (fun w₀ C₀ => ?_)
  simp only [argS]
  refine W.fact 0 rfl slice_fact fun hl => ?_
  refine W.seq ?_
  refine W.region ?_
  refine L.op1 rfl rfl (GSpec.plain rfl (spec_assign rfl Get.cbool)) ?_
  refine L.nil ?_
  refine N.thenW ?_
  refine W.seq ?_
  refine W.seq ?_
  refine W.region ?_
  refine L.op1 rfl rfl (GSpec.plain rfl (spec_move rfl (Get.tmp rfl))) ?_
  refine L.op1 rfl rfl (GSpec.plain rfl (spec_len rfl Tryd.underlying22 (Get.tmp rfl))) ?_
  refine L.op1 rfl rfl (GSpec.plain rfl (spec_move rfl (Get.cint rfl))) ?_
  refine L.nil ?_
  refine N.thenW ?_
  refine W.block ?_
  -- assigned in the loop, not kept: [4]
  refine W.loopK (σ := Nat) (.cons (t := 0) rfl (.cons (t := 1) rfl (.cons (t := 8) rfl .nil))) (fun z => [(9, Rp.int .i64 (z : Nat))]) (fun z => []) (fun z => z ≤ l.length ∧ ∀ a, a < z → ∀ b, b < a → (l.getD a default).name ≠ (l.getD b default).name) (fun z => l.length - z) 0 ⟨Nat.zero_le _, fun a ha => absurd ha (Nat.not_lt_zero _)⟩ (.cons (t := 9) rfl .nil) .nil ?_
  intro i hI S' M' hS hM
  obtain ⟨hI1, hI2⟩ := hI
  try dsimp only at hS hM
  simp only [List.cons_append, List.nil_append] at hS hM
  subst hS hM
  try dsimp only
  refine W.seq ?_
  refine W.region ?_
  refine L.op1 rfl rfl (GSpec.plain rfl (spec_lss rfl (Get.tmp rfl) (Get.tmp rfl))) ?_
  refine L.nil ?_
  refine N.thenW ?_
  refine W.seq ?_
  refine W.cond (Get.tmp rfl) (fun h1 => ?_) (fun h1 => ?_)
  · have ph1 := h1; try simp only [decide_eq_true_eq, decide_eq_false_iff_not, Bool.and_eq_true, Bool.or_eq_true, Bool.and_eq_false_iff, Bool.or_eq_false_iff, Bool.not_eq_true', Bool.not_eq_false', Bool.not_true, Bool.not_false, Int.not_lt, Int.not_le] at ph1
    refine W.skip ?_
    refine N.thenW ?_
    refine W.seq ?_
    refine W.block ?_
    refine W.seq ?_
    refine W.region ?_
    refine L.op1 rfl rfl (GSpec.plain rfl (spec_move rfl (Get.tmp rfl))) ?_
    refine L.op1 rfl rfl (GSpec.plain rfl (spec_assign rfl (Get.tmp rfl))) ?_
    refine L.nil ?_
    refine N.thenW ?_
    refine W.seq ?_
    refine W.region ?_
    refine L.op1 rfl rfl (GSpec.plain rfl (spec_move rfl (Get.tmp rfl))) ?_
    refine L.op1 rfl rfl (GSpec.plain rfl (spec_move rfl (Get.cint rfl))) ?_
    refine L.nil ?_
    refine N.thenW ?_
    refine W.block ?_
    refine W.loopK (σ := Nat) (.cons (t := 0) rfl (.cons (t := 1) rfl (.cons (t := 5) rfl (.cons (t := 8) rfl (.cons (t := 9) rfl (.cons (t := 10) rfl (.cons (t := 11) rfl (.cons (t := 12) rfl .nil)))))))) (fun z => [(13, Rp.int .i64 (z : Nat))]) (fun z => []) (fun z => z ≤ i ∧ ∀ b, b < z → (l.getD i default).name ≠ (l.getD b default).name) (fun z => i - z) 0 ⟨Nat.zero_le _, fun b hb => absurd hb (Nat.not_lt_zero _)⟩ (.cons (t := 13) rfl .nil) .nil ?_
    intro k hI S' M' hS hM
    obtain ⟨hK1, hK2⟩ := hI
    try dsimp only at hS hM
    simp only [List.cons_append, List.nil_append] at hS hM
    subst hS hM
    try dsimp only
    refine W.seq ?_
    refine W.region ?_
    refine L.op1 rfl rfl (GSpec.plain rfl (spec_lss rfl (Get.tmp rfl) (Get.tmp rfl))) ?_
    refine L.nil ?_
    refine N.thenW ?_
    refine W.seq ?_
    refine W.cond (Get.tmp rfl) (fun h2 => ?_) (fun h2 => ?_)
    · have ph2 := h2; try simp only [decide_eq_true_eq, decide_eq_false_iff_not, Bool.and_eq_true, Bool.or_eq_true, Bool.and_eq_false_iff, Bool.or_eq_false_iff, Bool.not_eq_true', Bool.not_eq_false', Bool.not_true, Bool.not_false, Int.not_lt, Int.not_le] at ph2
      refine W.skip ?_
      refine N.thenW ?_
      refine W.seq ?_
      refine W.block ?_
      refine W.seq ?_
      refine W.region ?_
      refine L.op1 rfl rfl (GSpec.plain rfl (spec_move rfl (Get.tmp rfl))) ?_
      refine L.op1 rfl rfl (GSpec.plain rfl (spec_assign rfl (Get.tmp rfl))) ?_
      refine L.nil ?_
      refine N.thenW ?_
      refine W.seq ?_
      apply W.any 13 mixed (by kernel_rfl)
      · apply Head.one rfl rfl (GSpec.plain rfl (spec_move rfl (Get.tmp rfl)))
        apply Head.one rfl rfl (GSpec.plain rfl (spec_move rfl (Get.tmp rfl)))
        apply Head.one rfl rfl (GSpec.plain rfl (spec_move rfl (Get.tmp rfl)))
        apply Head.one rfl rfl (GSpec.plain rfl (spec_indexAddrD (E := eF) rfl Tryd.underlying22 Tryd.sizeOf27 (fun _ => rfl) (Get.tmp rfl) (Get.tmp rfl) (by omega)))
        apply Head.one rfl rfl (GSpec.plain rfl (spec_loadPA rfl Tryd.isAgg27 Tryd.sizeOf27 (Get.tmp rfl) rfl))
        apply Head.one rfl rfl (GSpec.plain rfl (spec_callF (A := fun x : Fd => [Rp.agg (eF x)]) (X := fun x : Fd => .one (Rp.str x.name)) (l.getD i default) rfl (Get.tmp rfl) (.cons (Get.tmp rfl) .nil)))
        apply Head.one rfl rfl (GSpec.plain rfl (spec_move rfl (Get.tmp rfl)))
        apply Head.one rfl rfl (GSpec.plain rfl (spec_move rfl (Get.tmp rfl)))
        apply Head.one rfl rfl (GSpec.plain rfl (spec_move rfl (Get.tmp rfl)))
        apply Head.one rfl rfl (GSpec.plain rfl (spec_indexAddrD (E := eF) rfl Tryd.underlying22 Tryd.sizeOf27 (fun _ => rfl) (Get.tmp rfl) (Get.tmp rfl) (by omega)))
        apply Head.one rfl rfl (GSpec.plain rfl (spec_loadPA rfl Tryd.isAgg27 Tryd.sizeOf27 (Get.tmp rfl) rfl))
        apply Head.one rfl rfl (GSpec.plain rfl (spec_callF (A := fun x : Fd => [Rp.agg (eF x)]) (X := fun x : Fd => .one (Rp.str x.name)) (l.getD k default) rfl (Get.tmp rfl) (.cons (Get.tmp rfl) .nil)))
        apply Head.one rfl rfl (GSpec.plain rfl (spec_eqlS rfl (Get.tmp rfl) (Get.tmp rfl)))
        exact Head.nil
      refine Fin.one ?_
      refine Fin.one ?_
      refine Fin.one ?_
      refine Fin.one ?_
      refine Fin.one ?_
      refine Fin.one ?_
      refine Fin.one ?_
      refine Fin.one ?_
      refine Fin.one ?_
      refine Fin.one ?_
      refine Fin.one ?_
      refine Fin.one ?_
      refine Fin.one ?_
      refine Fin.nil ?_
      refine L.nil ?_
      refine N.thenW ?_
      refine W.cond (Get.tmp rfl) (fun h3 => ?_) (fun h3 => ?_)
      · have ph3 := h3; try simp only [decide_eq_true_eq, decide_eq_false_iff_not, Bool.and_eq_true, Bool.or_eq_true, Bool.and_eq_false_iff, Bool.or_eq_false_iff, Bool.not_eq_true', Bool.not_eq_false', Bool.not_true, Bool.not_false, Int.not_lt, Int.not_le] at ph3
        refine W.seq ?_
        refine W.region ?_
        refine L.op1 rfl rfl (GSpec.plain rfl (spec_assign rfl Get.cbool)) ?_
        refine L.nil ?_
        refine N.thenW ?_
        refine W.ret ?_
        refine N.ret () rfl (.tmp (t := 4) (Get.tmp rfl) .nil) (res1 (eqB ?_)) .nil (fun _ _ h => h)
        exact (rep_yes (i := i) (k := k) (by omega) (by omega) (by simpa using h3)).symm
      · have ph3 := h3; try simp only [decide_eq_true_eq, decide_eq_false_iff_not, Bool.and_eq_true, Bool.or_eq_true, Bool.and_eq_false_iff, Bool.or_eq_false_iff, Bool.not_eq_true', Bool.not_eq_false', Bool.not_true, Bool.not_false, Int.not_lt, Int.not_le] at ph3
        refine W.skip ?_
        refine N.blockNormal ?_
        refine N.thenW ?_
        refine W.region ?_
        first | refine L.op1 rfl rfl (GSpec.plain rfl (fit_i64 (by omega) (by omega) (spec_add rfl (Get.tmp rfl) (Get.cint rfl)))) ?_ | refine L.op1 rfl rfl (GSpec.plain rfl (spec_add rfl (Get.tmp rfl) (Get.cint rfl))) ?_
        refine L.op1 rfl rfl (GSpec.plain rfl (spec_move rfl (Get.tmp rfl))) ?_
        refine L.nil ?_
        refine N.roundK (k + 1) ?hI5 ?hmu5 ?hs5 ?hk5 ?hp5
        case hs5 => exact (.cons (t := 13) rfl .nil)
        case hk5 => exact (.cons (t := 0) rfl (.cons (t := 1) rfl (.cons (t := 5) rfl (.cons (t := 8) rfl (.cons (t := 9) rfl (.cons (t := 10) rfl (.cons (t := 11) rfl (.cons (t := 12) rfl .nil))))))))
        case hp5 => exact .nil
        case hI5 => exact ⟨by omega, fun b hb => by by_cases e : b = k; (subst e; simpa using h3); exact hK2 b (by omega)⟩
        case hmu5 => omega
    · have ph2 := h2; try simp only [decide_eq_true_eq, decide_eq_false_iff_not, Bool.and_eq_true, Bool.or_eq_true, Bool.and_eq_false_iff, Bool.or_eq_false_iff, Bool.not_eq_true', Bool.not_eq_false', Bool.not_true, Bool.not_false, Int.not_lt, Int.not_le] at ph2
      refine W.exit ?_
      refine N.thenExit ?_
      refine N.thenExit ?_
      refine N.blockExit ?_
      refine N.blockNormal ?_
      refine N.thenW ?_
      refine W.region ?_
      first | refine L.op1 rfl rfl (GSpec.plain rfl (fit_i64 (by omega) (by omega) (spec_add rfl (Get.tmp rfl) (Get.cint rfl)))) ?_ | refine L.op1 rfl rfl (GSpec.plain rfl (spec_add rfl (Get.tmp rfl) (Get.cint rfl))) ?_
      refine L.op1 rfl rfl (GSpec.plain rfl (spec_move rfl (Get.tmp rfl))) ?_
      refine L.nil ?_
      refine N.roundK (i + 1) ?hI6 ?hmu6 ?hs6 ?hk6 ?hp6
      case hs6 => exact (.cons (t := 9) rfl .nil)
      case hk6 => exact (.cons (t := 0) rfl (.cons (t := 1) rfl (.cons (t := 8) rfl .nil)))
      case hp6 => exact .nil
      case hI6 => exact ⟨by omega, fun a ha b hb => by by_cases e : a = i; (subst e; exact hK2 b (by omega)); exact hI2 a (by omega) b hb⟩
      case hmu6 => omega
  · have ph1 := h1; try simp only [decide_eq_true_eq, decide_eq_false_iff_not, Bool.and_eq_true, Bool.or_eq_true, Bool.and_eq_false_iff, Bool.or_eq_false_iff, Bool.not_eq_true', Bool.not_eq_false', Bool.not_true, Bool.not_false, Int.not_lt, Int.not_le] at ph1
    refine W.exit ?_
    refine N.thenExit ?_
    refine N.thenExit ?_
    refine N.blockExit ?_
    refine N.thenW ?_
    refine W.seq ?_
    refine W.region ?_
    refine L.op1 rfl rfl (GSpec.plain rfl (spec_assign rfl Get.cbool)) ?_
    refine L.nil ?_
    refine N.thenW ?_
    refine W.ret ?_
    refine N.ret () rfl (.tmp (t := 4) (Get.tmp rfl) .nil) (res1 (eqB ?_)) .nil (fun _ _ h => h)
    exact (rep_no fun a ha b hb => hI2 a (by omega) b hb).symm

theorem bname_ok (x : Bk) : CallT Tryd.prog 40 [Rp.agg (eBk x)] [] (.one (Rp.str x.name)) := by
  refine W.enter (fn := Tryd.f40) (n := 5) Tryd.func40 rfl Tryd.ntmps40 rfl (fun w₀ C₀ => ?_)
  simp only [argS]
  refine W.seq ?_
  refine W.region ?_
  refine L.box rfl rfl (GSpec.plain rfl (spec_box rfl (GetC.agg (Get.tmp rfl)))) (fun r1 => ?_)
  refine L.op1 rfl rfl (GSpec.plain rfl (spec_assign rfl (Get.cstr (l := []) rfl rfl))) ?_
  refine L.nil ?_
  refine N.thenW ?_
  refine W.keep (.cons (t := 1) rfl (.cons (t := 2) rfl .nil)) .refl ?_
  refine W.seq ?_
  refine W.region ?_
  refine L.op1 rfl rfl (GSpec.plain rfl (spec_fieldAddr (f := 0) (off' := 0) rfl Tryd.underlying54 rfl Tryd.sizeOf9 (Get.tmp rfl) rfl)) ?_
  refine L.op1 rfl rfl (GSpec.plain rfl (spec_load1 (k := 0) rfl Tryd.isAgg9 (Get.tmp rfl) rfl rfl)) ?_
  refine L.op1 rfl rfl (GSpec.plain rfl (spec_assign rfl (Get.tmp rfl))) ?_
  refine L.nil ?_
  refine N.thenW ?_
  refine W.ret ?_
  refine N.ret () rfl (.tmp (t := 2) (Get.tmp rfl) .nil) (res1 (eqS ?_)) .nil (fun _ _ h => h)
  rfl

theorem repBk_ok (l : List Bk) : CallT Tryd.prog 39 [Rp.slice eBk l, Rp.fn Tryd.prog (fun x : Bk => [Rp.agg (eBk x)]) (fun x => .one (Rp.str x.name))] [] (.one (Rp.bool (repB Bk.name l))) := by
  refine W.enter (fn := Tryd.f39) (n := 31) Tryd.func39 rfl Tryd.ntmps39 rfl (fun w₀ C₀ => ?_)
  simp only [argS]
  refine W.fact 0 rfl slice_fact fun hl => ?_
  refine W.seq ?_
  refine W.region ?_
  refine L.op1 rfl rfl (GSpec.plain rfl (spec_assign rfl Get.cbool)) ?_
  refine L.nil ?_
  refine N.thenW ?_
  refine W.seq ?_
  refine W.seq ?_
  refine W.region ?_
  refine L.op1 rfl rfl (GSpec.plain rfl (spec_move rfl (Get.tmp rfl))) ?_
  refine L.op1 rfl rfl (GSpec.plain rfl (spec_len rfl Tryd.underlying23 (Get.tmp rfl))) ?_
  refine L.op1 rfl rfl (GSpec.plain rfl (spec_move rfl (Get.cint rfl))) ?_
  refine L.nil ?_
  refine N.thenW ?_
  refine W.block ?_
  -- assigned in the loop, not kept: [4]
  refine W.loopK (σ := Nat) (.cons (t := 0) rfl (.cons (t := 1) rfl (.cons (t := 8) rfl .nil))) (fun z => [(9, Rp.int .i64 (z : Nat))]) (fun z => []) (fun z => z ≤ l.length ∧ ∀ a, a < z → ∀ b, b < a → (l.getD a default).name ≠ (l.getD b default).name) (fun z => l.length - z) 0 ⟨Nat.zero_le _, fun a ha => absurd ha (Nat.not_lt_zero _)⟩ (.cons (t := 9) rfl .nil) .nil ?_
  intro i hI S' M' hS hM
  obtain ⟨hI1, hI2⟩ := hI
  try dsimp only at hS hM
  simp only [List.cons_append, List.nil_append] at hS hM
  subst hS hM
  try dsimp only
  refine W.seq ?_
  refine W.region ?_
  refine L.op1 rfl rfl (GSpec.plain rfl (spec_lss rfl (Get.tmp rfl) (Get.tmp rfl))) ?_
  refine L.nil ?_
  refine N.thenW ?_
  refine W.seq ?_
  refine W.cond (Get.tmp rfl) (fun h1 => ?_) (fun h1 => ?_)
  · have ph1 := h1; try simp only [decide_eq_true_eq, decide_eq_false_iff_not, Bool.and_eq_true, Bool.or_eq_true, Bool.and_eq_false_iff, Bool.or_eq_false_iff, Bool.not_eq_true', Bool.not_eq_false', Bool.not_true, Bool.not_false, Int.not_lt, Int.not_le] at ph1
    refine W.skip ?_
    refine N.thenW ?_
    refine W.seq ?_
    refine W.block ?_
    refine W.seq ?_
    refine W.region ?_
    refine L.op1 rfl rfl (GSpec.plain rfl (spec_move rfl (Get.tmp rfl))) ?_
    refine L.op1 rfl rfl (GSpec.plain rfl (spec_assign rfl (Get.tmp rfl))) ?_
    refine L.nil ?_
    refine N.thenW ?_
    refine W.seq ?_
    refine W.region ?_
    refine L.op1 rfl rfl (GSpec.plain rfl (spec_move rfl (Get.tmp rfl))) ?_
    refine L.op1 rfl rfl (GSpec.plain rfl (spec_move rfl (Get.cint rfl))) ?_
    refine L.nil ?_
    refine N.thenW ?_
    refine W.block ?_
    refine W.loopK (σ := Nat) (.cons (t := 0) rfl (.cons (t := 1) rfl (.cons (t := 5) rfl (.cons (t := 8) rfl (.cons (t := 9) rfl (.cons (t := 10) rfl (.cons (t := 11) rfl (.cons (t := 12) rfl .nil)))))))) (fun z => [(13, Rp.int .i64 (z : Nat))]) (fun z => []) (fun z => z ≤ i ∧ ∀ b, b < z → (l.getD i default).name ≠ (l.getD b default).name) (fun z => i - z) 0 ⟨Nat.zero_le _, fun b hb => absurd hb (Nat.not_lt_zero _)⟩ (.cons (t := 13) rfl .nil) .nil ?_
    intro k hI S' M' hS hM
    obtain ⟨hK1, hK2⟩ := hI
    try dsimp only at hS hM
    simp only [List.cons_append, List.nil_append] at hS hM
    subst hS hM
    try dsimp only
    refine W.seq ?_
    refine W.region ?_
    refine L.op1 rfl rfl (GSpec.plain rfl (spec_lss rfl (Get.tmp rfl) (Get.tmp rfl))) ?_
    refine L.nil ?_
    refine N.thenW ?_
    refine W.seq ?_
    refine W.cond (Get.tmp rfl) (fun h2 => ?_) (fun h2 => ?_)
    · have ph2 := h2; try simp only [decide_eq_true_eq, decide_eq_false_iff_not, Bool.and_eq_true, Bool.or_eq_true, Bool.and_eq_false_iff, Bool.or_eq_false_iff, Bool.not_eq_true', Bool.not_eq_false', Bool.not_true, Bool.not_false, Int.not_lt, Int.not_le] at ph2
      refine W.skip ?_
      refine N.thenW ?_
      refine W.seq ?_
      refine W.block ?_
      refine W.seq ?_
      refine W.region ?_
      refine L.op1 rfl rfl (GSpec.plain rfl (spec_move rfl (Get.tmp rfl))) ?_
      refine L.op1 rfl rfl (GSpec.plain rfl (spec_assign rfl (Get.tmp rfl))) ?_
      refine L.nil ?_
      refine N.thenW ?_
      refine W.seq ?_
      apply W.any 13 mixed (by kernel_rfl)
      · apply Head.one rfl rfl (GSpec.plain rfl (spec_move rfl (Get.tmp rfl)))
        apply Head.one rfl rfl (GSpec.plain rfl (spec_move rfl (Get.tmp rfl)))
        apply Head.one rfl rfl (GSpec.plain rfl (spec_move rfl (Get.tmp rfl)))
        apply Head.one rfl rfl (GSpec.plain rfl (spec_indexAddrD (E := eBk) rfl Tryd.underlying23 Tryd.sizeOf54 (fun _ => rfl) (Get.tmp rfl) (Get.tmp rfl) (by omega)))
        apply Head.one rfl rfl (GSpec.plain rfl (spec_loadPA rfl Tryd.isAgg54 Tryd.sizeOf54 (Get.tmp rfl) rfl))
        apply Head.one rfl rfl (GSpec.plain rfl (spec_callF (A := fun x : Bk => [Rp.agg (eBk x)]) (X := fun x : Bk => .one (Rp.str x.name)) (l.getD i default) rfl (Get.tmp rfl) (.cons (Get.tmp rfl) .nil)))
        apply Head.one rfl rfl (GSpec.plain rfl (spec_move rfl (Get.tmp rfl)))
        apply Head.one rfl rfl (GSpec.plain rfl (spec_move rfl (Get.tmp rfl)))
        apply Head.one rfl rfl (GSpec.plain rfl (spec_move rfl (Get.tmp rfl)))
        apply Head.one rfl rfl (GSpec.plain rfl (spec_indexAddrD (E := eBk) rfl Tryd.underlying23 Tryd.sizeOf54 (fun _ => rfl) (Get.tmp rfl) (Get.tmp rfl) (by omega)))
        apply Head.one rfl rfl (GSpec.plain rfl (spec_loadPA rfl Tryd.isAgg54 Tryd.sizeOf54 (Get.tmp rfl) rfl))
        apply Head.one rfl rfl (GSpec.plain rfl (spec_callF (A := fun x : Bk => [Rp.agg (eBk x)]) (X := fun x : Bk => .one (Rp.str x.name)) (l.getD k default) rfl (Get.tmp rfl) (.cons (Get.tmp rfl) .nil)))
        apply Head.one rfl rfl (GSpec.plain rfl (spec_eqlS rfl (Get.tmp rfl) (Get.tmp rfl)))
        exact Head.nil
      refine Fin.one ?_
      refine Fin.one ?_
      refine Fin.one ?_
      refine Fin.one ?_
      refine Fin.one ?_
      refine Fin.one ?_
      refine Fin.one ?_
      refine Fin.one ?_
      refine Fin.one ?_
      refine Fin.one ?_
      refine Fin.one ?_
      refine Fin.one ?_
      refine Fin.one ?_
      refine Fin.nil ?_
      refine L.nil ?_
      refine N.thenW ?_
      refine W.cond (Get.tmp rfl) (fun h3 => ?_) (fun h3 => ?_)
      · have ph3 := h3; try simp only [decide_eq_true_eq, decide_eq_false_iff_not, Bool.and_eq_true, Bool.or_eq_true, Bool.and_eq_false_iff, Bool.or_eq_false_iff, Bool.not_eq_true', Bool.not_eq_false', Bool.not_true, Bool.not_false, Int.not_lt, Int.not_le] at ph3
        refine W.seq ?_
        refine W.region ?_
        refine L.op1 rfl rfl (GSpec.plain rfl (spec_assign rfl Get.cbool)) ?_
        refine L.nil ?_
        refine N.thenW ?_
        refine W.ret ?_
        refine N.ret () rfl (.tmp (t := 4) (Get.tmp rfl) .nil) (res1 (eqB ?_)) .nil (fun _ _ h => h)
        exact (rep_yes (i := i) (k := k) (by omega) (by omega) (by simpa using h3)).symm
      · have ph3 := h3; try simp only [decide_eq_true_eq, decide_eq_false_iff_not, Bool.and_eq_true, Bool.or_eq_true, Bool.and_eq_false_iff, Bool.or_eq_false_iff, Bool.not_eq_true', Bool.not_eq_false', Bool.not_true, Bool.not_false, Int.not_lt, Int.not_le] at ph3
        refine W.skip ?_
        refine N.blockNormal ?_
        refine N.thenW ?_
        refine W.region ?_
        first | refine L.op1 rfl rfl (GSpec.plain rfl (fit_i64 (by omega) (by omega) (spec_add rfl (Get.tmp rfl) (Get.cint rfl)))) ?_ | refine L.op1 rfl rfl (GSpec.plain rfl (spec_add rfl (Get.tmp rfl) (Get.cint rfl))) ?_
        refine L.op1 rfl rfl (GSpec.plain rfl (spec_move rfl (Get.tmp rfl))) ?_
        refine L.nil ?_
        refine N.roundK (k + 1) ?hI7 ?hmu7 ?hs7 ?hk7 ?hp7
        case hs7 => exact (.cons (t := 13) rfl .nil)
        case hk7 => exact (.cons (t := 0) rfl (.cons (t := 1) rfl (.cons (t := 5) rfl (.cons (t := 8) rfl (.cons (t := 9) rfl (.cons (t := 10) rfl (.cons (t := 11) rfl (.cons (t := 12) rfl .nil))))))))
        case hp7 => exact .nil
        case hI7 => exact ⟨by omega, fun b hb => by by_cases e : b = k; (subst e; simpa using h3); exact hK2 b (by omega)⟩
        case hmu7 => omega
    · have ph2 := h2; try simp only [decide_eq_true_eq, decide_eq_false_iff_not, Bool.and_eq_true, Bool.or_eq_true, Bool.and_eq_false_iff, Bool.or_eq_false_iff, Bool.not_eq_true', Bool.not_eq_false', Bool.not_true, Bool.not_false, Int.not_lt, Int.not_le] at ph2
      refine W.exit ?_
      refine N.thenExit ?_
      refine N.thenExit ?_
      refine N.blockExit ?_
      refine N.blockNormal ?_
      refine N.thenW ?_
      refine W.region ?_
      first | refine L.op1 rfl rfl (GSpec.plain rfl (fit_i64 (by omega) (by omega) (spec_add rfl (Get.tmp rfl) (Get.cint rfl)))) ?_ | refine L.op1 rfl rfl (GSpec.plain rfl (spec_add rfl (Get.tmp rfl) (Get.cint rfl))) ?_
      refine L.op1 rfl rfl (GSpec.plain rfl (spec_move rfl (Get.tmp rfl))) ?_
      refine L.nil ?_
      refine N.roundK (i + 1) ?hI8 ?hmu8 ?hs8 ?hk8 ?hp8
      case hs8 => exact (.cons (t := 9) rfl .nil)
      case hk8 => exact (.cons (t := 0) rfl (.cons (t := 1) rfl (.cons (t := 8) rfl .nil)))
      case hp8 => exact .nil
      case hI8 => exact ⟨by omega, fun a ha b hb => by by_cases e : a = i; (subst e; exact hK2 b (by omega)); exact hI2 a (by omega) b hb⟩
      case hmu8 => omega
  · have ph1 := h1; try simp only [decide_eq_true_eq, decide_eq_false_iff_not, Bool.and_eq_true, Bool.or_eq_true, Bool.and_eq_false_iff, Bool.or_eq_false_iff, Bool.not_eq_true', Bool.not_eq_false', Bool.not_true, Bool.not_false, Int.not_lt, Int.not_le] at ph1
    refine W.exit ?_
    refine N.thenExit ?_
    refine N.thenExit ?_
    refine N.blockExit ?_
    refine N.thenW ?_
    refine W.seq ?_
    refine W.region ?_
    refine L.op1 rfl rfl (GSpec.plain rfl (spec_assign rfl Get.cbool)) ?_
    refine L.nil ?_
    refine N.thenW ?_
    refine W.ret ?_
    refine N.ret () rfl (.tmp (t := 4) (Get.tmp rfl) .nil) (res1 (eqB ?_)) .nil (fun _ _ h => h)
    exact (rep_no fun a ha b hb => hI2 a (by omega) b hb).symm

theorem cname_ok (x : Cl) : CallT Tryd.prog 68 [Rp.agg (eC x)] [] (.one (Rp.str x.name)) := by
  refine W.enter (fn := Tryd.f68) (n := 5) Tryd.func68 rfl Tryd.ntmps68 rfl (fun w₀ C₀ => ?_)
  simp only [argS]
  refine W.seq ?_
  refine W.region ?_
  refine L.box rfl rfl (GSpec.plain rfl (spec_box rfl (GetC.agg (Get.tmp rfl)))) (fun r1 => ?_)
  refine L.op1 rfl rfl (GSpec.plain rfl (spec_assign rfl (Get.cstr (l := []) rfl rfl))) ?_
  refine L.nil ?_
  refine N.thenW ?_
  refine W.keep (.cons (t := 1) rfl (.cons (t := 2) rfl .nil)) .refl ?_
  refine W.seq ?_
  refine W.region ?_
  refine L.op1 rfl rfl (GSpec.plain rfl (spec_fieldAddr (f := 0) (off' := 0) rfl Tryd.underlying25 rfl Tryd.sizeOf9 (Get.tmp rfl) rfl)) ?_
  refine L.op1 rfl rfl (GSpec.plain rfl (spec_load1 (k := 0) rfl Tryd.isAgg9 (Get.tmp rfl) rfl rfl)) ?_
  refine L.op1 rfl rfl (GSpec.plain rfl (spec_assign rfl (Get.tmp rfl))) ?_
  refine L.nil ?_
  refine N.thenW ?_
  refine W.ret ?_
  refine N.ret () rfl (.tmp (t := 2) (Get.tmp rfl) .nil) (res1 (eqS ?_)) .nil (fun _ _ h => h)
  rfl

theorem repC_ok (l : List Cl) : CallT Tryd.prog 67 [Rp.slice eC l, Rp.fn Tryd.prog (fun x : Cl => [Rp.agg (eC x)]) (fun x => .one (Rp.str x.name))] [] (.one (Rp.bool (repB Cl.name l))) := by
  refine W.enter (fn := Tryd.f67) (n := 31) Tryd.func67 rfl Tryd.ntmps67 rfl (fun w₀ C₀ => ?_)
  simp only [argS]
  refine W.fact 0 rfl slice_fact fun hl => ?_
  refine W.seq ?_
  refine W.region ?_
  refine L.op1 rfl rfl (GSpec.plain rfl (spec_assign rfl Get.cbool)) ?_
  refine L.nil ?_
  refine N.thenW ?_
  refine W.seq ?_
  refine W.seq ?_
  refine W.region ?_
  refine L.op1 rfl rfl (GSpec.plain rfl (spec_move rfl (Get.tmp rfl))) ?_
  refine L.op1 rfl rfl (GSpec.plain rfl (spec_len rfl Tryd.underlying38 (Get.tmp rfl))) ?_
  refine L.op1 rfl rfl (GSpec.plain rfl (spec_move rfl (Get.cint rfl))) ?_
  refine L.nil ?_
  refine N.thenW ?_
  refine W.block ?_
  -- assigned in the loop, not kept: [4]
  refine W.loopK (σ := Nat) (.cons (t := 0) rfl (.cons (t := 1) rfl (.cons (t := 8) rfl .nil))) (fun z => [(9, Rp.int .i64 (z : Nat))]) (fun z => []) (fun z => z ≤ l.length ∧ ∀ a, a < z → ∀ b, b < a → (l.getD a default).name ≠ (l.getD b default).name) (fun z => l.length - z) 0 ⟨Nat.zero_le _, fun a ha => absurd ha (Nat.not_lt_zero _)⟩ (.cons (t := 9) rfl .nil) .nil ?_
  intro i hI S' M' hS hM
  obtain ⟨hI1, hI2⟩ := hI
  try dsimp only at hS hM
  simp only [List.cons_append, List.nil_append] at hS hM
  subst hS hM
  try dsimp only
  refine W.seq ?_
  refine W.region ?_
  refine L.op1 rfl rfl (GSpec.plain rfl (spec_lss rfl (Get.tmp rfl) (Get.tmp rfl))) ?_
  refine L.nil ?_
  refine N.thenW ?_
  refine W.seq ?_
  refine W.cond (Get.tmp rfl) (fun h1 => ?_) (fun h1 => ?_)
  · have ph1 := h1; try simp only [decide_eq_true_eq, decide_eq_false_iff_not, Bool.and_eq_true, Bool.or_eq_true, Bool.and_eq_false_iff, Bool.or_eq_false_iff, Bool.not_eq_true', Bool.not_eq_false', Bool.not_true, Bool.not_false, Int.not_lt, Int.not_le] at ph1
    refine W.skip ?_
    refine N.thenW ?_
    refine W.seq ?_
    refine W.block ?_
    refine W.seq ?_
    refine W.region ?_
    refine L.op1 rfl rfl (GSpec.plain rfl (spec_move rfl (Get.tmp rfl))) ?_
    refine L.op1 rfl rfl (GSpec.plain rfl (spec_assign rfl (Get.tmp rfl))) ?_
    refine L.nil ?_
    refine N.thenW ?_
    refine W.seq ?_
    refine W.region ?_
    refine L.op1 rfl rfl (GSpec.plain rfl (spec_move rfl (Get.tmp rfl))) ?_
    refine L.op1 rfl rfl (GSpec.plain rfl (spec_move rfl (Get.cint rfl))) ?_
    refine L.nil ?_
    refine N.thenW ?_
    refine W.block ?_
    refine W.loopK (σ := Nat) (.cons (t := 0) rfl (.cons (t := 1) rfl (.cons (t := 5) rfl (.cons (t := 8) rfl (.cons (t := 9) rfl (.cons (t := 10) rfl (.cons (t := 11) rfl (.cons (t := 12) rfl .nil)))))))) (fun z => [(13, Rp.int .i64 (z : Nat))]) (fun z => []) (fun z => z ≤ i ∧ ∀ b, b < z → (l.getD i default).name ≠ (l.getD b default).name) (fun z => i - z) 0 ⟨Nat.zero_le _, fun b hb => absurd hb (Nat.not_lt_zero _)⟩ (.cons (t := 13) rfl .nil) .nil ?_
    intro k hI S' M' hS hM
    obtain ⟨hK1, hK2⟩ := hI
    try dsimp only at hS hM
    simp only [List.cons_append, List.nil_append] at hS hM
    subst hS hM
    try dsimp only
    refine W.seq ?_
    refine W.region ?_
    refine L.op1 rfl rfl (GSpec.plain rfl (spec_lss rfl (Get.tmp rfl) (Get.tmp rfl))) ?_
    refine L.nil ?_
    refine N.thenW ?_
    refine W.seq ?_
    refine W.cond (Get.tmp rfl) (fun h2 => ?_) (fun h2 => ?_)
    · have ph2 := h2; try simp only [decide_eq_true_eq, decide_eq_false_iff_not, Bool.and_eq_true, Bool.or_eq_true, Bool.and_eq_false_iff, Bool.or_eq_false_iff, Bool.not_eq_true', Bool.not_eq_false', Bool.not_true, Bool.not_false, Int.not_lt, Int.not_le] at ph2
      refine W.skip ?_
      refine N.thenW ?_
      refine W.seq ?_
      refine W.block ?_
      refine W.seq ?_
      refine W.region ?_
      refine L.op1 rfl rfl (GSpec.plain rfl (spec_move rfl (Get.tmp rfl))) ?_
      refine L.op1 rfl rfl (GSpec.plain rfl (spec_assign rfl (Get.tmp rfl))) ?_
      refine L.nil ?_
      refine N.thenW ?_
      refine W.seq ?_
      apply W.any 13 mixed (by kernel_rfl)
      · apply Head.one rfl rfl (GSpec.plain rfl (spec_move rfl (Get.tmp rfl)))
        apply Head.one rfl rfl (GSpec.plain rfl (spec_move rfl (Get.tmp rfl)))
        apply Head.one rfl rfl (GSpec.plain rfl (spec_move rfl (Get.tmp rfl)))
        apply Head.one rfl rfl (GSpec.plain rfl (spec_indexAddrD (E := eC) rfl Tryd.underlying38 Tryd.sizeOf25 (fun _ => rfl) (Get.tmp rfl) (Get.tmp rfl) (by omega)))
        apply Head.one rfl rfl (GSpec.plain rfl (spec_loadPA rfl Tryd.isAgg25 Tryd.sizeOf25 (Get.tmp rfl) rfl))
        apply Head.one rfl rfl (GSpec.plain rfl (spec_callF (A := fun x : Cl => [Rp.agg (eC x)]) (X := fun x : Cl => .one (Rp.str x.name)) (l.getD i default) rfl (Get.tmp rfl) (.cons (Get.tmp rfl) .nil)))
        apply Head.one rfl rfl (GSpec.plain rfl (spec_move rfl (Get.tmp rfl)))
        apply Head.one rfl rfl (GSpec.plain rfl (spec_move rfl (Get.tmp rfl)))
        apply Head.one rfl rfl (GSpec.plain rfl (spec_move rfl (Get.tmp rfl)))
        apply Head.one rfl rfl (GSpec.plain rfl (spec_indexAddrD (E := eC) rfl Tryd.underlying38 Tryd.sizeOf25 (fun _ => rfl) (Get.tmp rfl) (Get.tmp rfl) (by omega)))
        apply Head.one rfl rfl (GSpec.plain rfl (spec_loadPA rfl Tryd.isAgg25 Tryd.sizeOf25 (Get.tmp rfl) rfl))
        apply Head.one rfl rfl (GSpec.plain rfl (spec_callF (A := fun x : Cl => [Rp.agg (eC x)]) (X := fun x : Cl => .one (Rp.str x.name)) (l.getD k default) rfl (Get.tmp rfl) (.cons (Get.tmp rfl) .nil)))
        apply Head.one rfl rfl (GSpec.plain rfl (spec_eqlS rfl (Get.tmp rfl) (Get.tmp rfl)))
        exact Head.nil
      refine Fin.one ?_
      refine Fin.one ?_
      refine Fin.one ?_
      refine Fin.one ?_
      refine Fin.one ?_
      refine Fin.one ?_
      refine Fin.one ?_
      refine Fin.one ?_
      refine Fin.one ?_
      refine Fin.one ?_
      refine Fin.one ?_
      refine Fin.one ?_
      refine Fin.one ?_
      refine Fin.nil ?_
      refine L.nil ?_
      refine N.thenW ?_
      refine W.cond (Get.tmp rfl) (fun h3 => ?_) (fun h3 => ?_)
      · have ph3 := h3; try simp only [decide_eq_true_eq, decide_eq_false_iff_not, Bool.and_eq_true, Bool.or_eq_true, Bool.and_eq_false_iff, Bool.or_eq_false_iff, Bool.not_eq_true', Bool.not_eq_false', Bool.not_true, Bool.not_false, Int.not_lt, Int.not_le] at ph3
        refine W.seq ?_
        refine W.region ?_
        refine L.op1 rfl rfl (GSpec.plain rfl (spec_assign rfl Get.cbool)) ?_
        refine L.nil ?_
        refine N.thenW ?_
        refine W.ret ?_
        refine N.ret () rfl (.tmp (t := 4) (Get.tmp rfl) .nil) (res1 (eqB ?_)) .nil (fun _ _ h => h)
        exact (rep_yes (i := i) (k := k) (by omega) (by omega) (by simpa using h3)).symm
      · have ph3 := h3; try simp only [decide_eq_true_eq, decide_eq_false_iff_not, Bool.and_eq_true, Bool.or_eq_true, Bool.and_eq_false_iff, Bool.or_eq_false_iff, Bool.not_eq_true', Bool.not_eq_false', Bool.not_true, Bool.not_false, Int.not_lt, Int.not_le] at ph3
        refine W.skip ?_
        refine N.blockNormal ?_
        refine N.thenW ?_
        refine W.region ?_
        first | refine L.op1 rfl rfl (GSpec.plain rfl (fit_i64 (by omega) (by omega) (spec_add rfl (Get.tmp rfl) (Get.cint rfl)))) ?_ | refine L.op1 rfl rfl (GSpec.plain rfl (spec_add rfl (Get.tmp rfl) (Get.cint rfl))) ?_
        refine L.op1 rfl rfl (GSpec.plain rfl (spec_move rfl (Get.tmp rfl))) ?_
        refine L.nil ?_
        refine N.roundK (k + 1) ?hI9 ?hmu9 ?hs9 ?hk9 ?hp9
        case hs9 => exact (.cons (t := 13) rfl .nil)
        case hk9 => exact (.cons (t := 0) rfl (.cons (t := 1) rfl (.cons (t := 5) rfl (.cons (t := 8) rfl (.cons (t := 9) rfl (.cons (t := 10) rfl (.cons (t := 11) rfl (.cons (t := 12) rfl .nil))))))))
        case hp9 => exact .nil
        case hI9 => exact ⟨by omega, fun b hb => by by_cases e : b = k; (subst e; simpa using h3); exact hK2 b (by omega)⟩
        case hmu9 => omega
    · have ph2 := h2; try simp only [decide_eq_true_eq, decide_eq_false_iff_not, Bool.and_eq_true, Bool.or_eq_true, Bool.and_eq_false_iff, Bool.or_eq_false_iff, Bool.not_eq_true', Bool.not_eq_false', Bool.not_true, Bool.not_false, Int.not_lt, Int.not_le] at ph2
      refine W.exit ?_
      refine N.thenExit ?_
      refine N.thenExit ?_
      refine N.blockExit ?_
      refine N.blockNormal ?_
      refine N.thenW ?_
      refine W.region ?_
      first | refine L.op1 rfl rfl (GSpec.plain rfl (fit_i64 (by omega) (by omega) (spec_add rfl (Get.tmp rfl) (Get.cint rfl)))) ?_ | refine L.op1 rfl rfl (GSpec.plain rfl (spec_add rfl (Get.tmp rfl) (Get.cint rfl))) ?_
      refine L.op1 rfl rfl (GSpec.plain rfl (spec_move rfl (Get.tmp rfl))) ?_
      refine L.nil ?_
      refine N.roundK (i + 1) ?hI10 ?hmu10 ?hs10 ?hk10 ?hp10
      case hs10 => exact (.cons (t := 9) rfl .nil)
      case hk10 => exact (.cons (t := 0) rfl (.cons (t := 1) rfl (.cons (t := 8) rfl .nil)))
      case hp10 => exact .nil
      case hI10 => exact ⟨by omega, fun a ha b hb => by by_cases e : a = i; (subst e; exact hK2 b (by omega)); exact hI2 a (by omega) b hb⟩
      case hmu10 => omega
  · have ph1 := h1; try simp only [decide_eq_true_eq, decide_eq_false_iff_not, Bool.and_eq_true, Bool.or_eq_true, Bool.and_eq_false_iff, Bool.or_eq_false_iff, Bool.not_eq_true', Bool.not_eq_false', Bool.not_true, Bool.not_false, Int.not_lt, Int.not_le] at ph1
    refine W.exit ?_
    refine N.thenExit ?_
    refine N.thenExit ?_
    refine N.blockExit ?_
    refine N.thenW ?_
    refine W.seq ?_
    refine W.region ?_
    refine L.op1 rfl rfl (GSpec.plain rfl (spec_assign rfl Get.cbool)) ?_
    refine L.nil ?_
    refine N.thenW ?_
    refine W.ret ?_
    refine N.ret () rfl (.tmp (t := 4) (Get.tmp rfl) .nil) (res1 (eqB ?_)) .nil (fun _ _ h => h)
    exact (rep_no fun a ha b hb => hI2 a (by omega) b hb).symm

end Go.Proofs.YtcabngjnmipflaaDoor
set_option linter.unusedSimpArgs false
set_option maxRecDepth 8000
set_option linter.unusedVariables false
namespace Go.Proofs.YtcabngjnmipflaaDoor
open Go.Sim
theorem vblk_ok (b : Bk) : CallT Tryd.prog 36 [Rp.agg (eBk b)] [kwG] (.one (Rp.bool (!nameB b.name))) := by
  refine W.enter (fn := Tryd.f36) (n := 7) Tryd.func36 rfl Tryd.ntmps36 rfl (fun w₀ C₀ => ?_)
  simp only [argS]
  refine W.seq ?_
  refine W.region ?_
  refine L.box rfl rfl (GSpec.plain rfl (spec_box rfl (GetC.agg (Get.tmp rfl)))) (fun r1 => ?_)
  refine L.op1 rfl rfl (GSpec.plain rfl (spec_assign rfl Get.cbool)) ?_
  refine L.nil ?_
  refine N.thenW ?_
  refine W.seq ?_
  refine W.region ?_
  refine L.op1 rfl rfl (GSpec.plain rfl (spec_fieldAddr (f := 0) (off' := 0) rfl Tryd.underlying54 rfl Tryd.sizeOf9 (Get.tmp rfl) rfl)) ?_
  refine L.op1 rfl rfl (GSpec.plain rfl (spec_load1 (k := 0) rfl Tryd.isAgg9 (Get.tmp rfl) rfl rfl)) ?_
  refine L.op1 rfl rfl (GSpec.plain rfl (spec_callG (k := 1) rfl Tryd.call33 rfl (isName_ok _) (.cons (Get.tmp rfl) .nil))) ?_
  refine L.op1 rfl rfl (GSpec.plain rfl (spec_not rfl (Get.tmp rfl))) ?_
  refine L.op1 rfl rfl (GSpec.plain rfl (spec_assign rfl (Get.tmp rfl))) ?_
  refine L.nil ?_
  refine N.thenW ?_
  refine W.keep (.cons (t := 2) rfl .nil) .refl ?_
  refine W.ret ?_
  refine N.ret () rfl (.tmp (t := 2) (Get.tmp rfl) .nil) (res1 (eqB ?_)) .nil (fun _ _ h => h)
  rfl

theorem idxBk_ok (l : List Bk) (p : Bk → Bool) : CallT Tryd.prog 61 [Rp.slice eBk l, Rp.fnM Tryd.prog (fun b : Bk => [Rp.agg (eBk b)]) (fun _ => [kwG]) (fun b => .one (Rp.bool (p b)))] [kwG] (.one (Rp.int .i64 (idxI p l))) := by
  refine W.enter (fn := Tryd.f61) (n := 19) Tryd.func61 rfl Tryd.ntmps61 rfl (fun w₀ C₀ => ?_)
  simp only [argS]
  refine W.fact 0 rfl slice_fact fun hl => ?_
  refine W.seq ?_
  refine W.region ?_
  refine L.op1 rfl rfl (GSpec.plain rfl (spec_assign rfl (Get.cint rfl))) ?_
  refine L.nil ?_
  refine N.thenW ?_
  refine W.seq ?_
  refine W.seq ?_
  refine W.region ?_
  refine L.op1 rfl rfl (GSpec.plain rfl (spec_move rfl (Get.tmp rfl))) ?_
  refine L.op1 rfl rfl (GSpec.plain rfl (spec_len rfl Tryd.underlying23 (Get.tmp rfl))) ?_
  refine L.op1 rfl rfl (GSpec.plain rfl (spec_move rfl (Get.cint rfl))) ?_
  refine L.nil ?_
  refine N.thenW ?_
  refine W.block ?_
  -- assigned in the loop, not kept: [4]
  refine W.loopK (σ := Nat) (.cons (t := 0) rfl (.cons (t := 1) rfl (.cons (t := 7) rfl .nil))) (fun z => [(8, Rp.int .i64 (z : Nat))]) (fun z => []) (fun z => z ≤ l.length ∧ ∀ j : Nat, j < z → p (l.getD j default) = false) (fun z => l.length - z) 0 ⟨Nat.zero_le _, fun j hj => by omega⟩ (.cons (t := 8) rfl .nil) (.cons 0 rfl .nil) ?_
  intro i hI S' M' hS hM
  obtain ⟨hI1, hI2⟩ := hI
  try dsimp only at hS hM
  simp only [List.cons_append, List.nil_append] at hS hM
  subst hS hM
  try dsimp only
  refine W.seq ?_
  refine W.region ?_
  refine L.op1 rfl rfl (GSpec.plain rfl (spec_lss rfl (Get.tmp rfl) (Get.tmp rfl))) ?_
  refine L.nil ?_
  refine N.thenW ?_
  refine W.seq ?_
  refine W.cond (Get.tmp rfl) (fun h1 => ?_) (fun h1 => ?_)
  · have ph1 := h1; try simp only [decide_eq_true_eq, decide_eq_false_iff_not, Bool.and_eq_true, Bool.or_eq_true, Bool.and_eq_false_iff, Bool.or_eq_false_iff, Bool.not_eq_true', Bool.not_eq_false', Bool.not_true, Bool.not_false, Int.not_lt, Int.not_le] at ph1
    refine W.skip ?_
    refine N.thenW ?_
    refine W.seq ?_
    refine W.block ?_
    refine W.seq ?_
    refine W.region ?_
    refine L.op1 rfl rfl (GSpec.plain rfl (spec_move rfl (Get.tmp rfl))) ?_
    refine L.op1 rfl rfl (GSpec.plain rfl (spec_assign rfl (Get.tmp rfl))) ?_
    refine L.nil ?_
    refine N.thenW ?_
    refine W.seq ?_
    refine W.region ?_
    refine L.op1 rfl rfl (GSpec.plain rfl (spec_move rfl (Get.tmp rfl))) ?_
    refine L.op1 rfl rfl (GSpec.plain rfl (spec_move rfl (Get.tmp rfl))) ?_
    refine L.op1 rfl rfl (GSpec.plain rfl (spec_move rfl (Get.tmp rfl))) ?_
    refine L.op1 rfl rfl (GSpec.plain rfl (spec_indexAddrD (E := eBk) rfl Tryd.underlying23 Tryd.sizeOf54 (fun _ => rfl) (Get.tmp rfl) (Get.tmp rfl) (by omega))) ?_
    refine L.op1 rfl rfl (GSpec.plain rfl (spec_loadPA rfl Tryd.isAgg54 Tryd.sizeOf54 (Get.tmp rfl) rfl)) ?_
    refine L.op1 rfl rfl (GSpec.plain rfl (spec_callFG (k := 0) rfl rfl (A := fun b : Bk => [Rp.agg (eBk b)]) (X := fun b : Bk => .one (Rp.bool (p b))) (l.getD i default) rfl (Get.tmp rfl) (.cons (Get.tmp rfl) .nil))) ?_
    refine L.nil ?_
    refine N.thenW ?_
    refine W.cond (Get.tmp rfl) (fun h2 => ?_) (fun h2 => ?_)
    · have ph2 := h2; try simp only [decide_eq_true_eq, decide_eq_false_iff_not, Bool.and_eq_true, Bool.or_eq_true, Bool.and_eq_false_iff, Bool.or_eq_false_iff, Bool.not_eq_true', Bool.not_eq_false', Bool.not_true, Bool.not_false, Int.not_lt, Int.not_le] at ph2
      refine W.seq ?_
      refine W.region ?_
      refine L.op1 rfl rfl (GSpec.plain rfl (spec_move rfl (Get.tmp rfl))) ?_
      refine L.op1 rfl rfl (GSpec.plain rfl (spec_assign rfl (Get.tmp rfl))) ?_
      refine L.nil ?_
      refine N.thenW ?_
      refine W.ret ?_
      refine N.ret () rfl (.tmp (t := 4) (Get.tmp rfl) .nil) (res1 (eqI ?_)) .nil (fun _ _ h => h)
      exact (idx_yes (by omega) h2 hI2).symm
    · have ph2 := h2; try simp only [decide_eq_true_eq, decide_eq_false_iff_not, Bool.and_eq_true, Bool.or_eq_true, Bool.and_eq_false_iff, Bool.or_eq_false_iff, Bool.not_eq_true', Bool.not_eq_false', Bool.not_true, Bool.not_false, Int.not_lt, Int.not_le] at ph2
      refine W.skip ?_
      refine N.blockNormal ?_
      refine N.thenW ?_
      refine W.region ?_
      first | refine L.op1 rfl rfl (GSpec.plain rfl (fit_i64 (by omega) (by omega) (spec_add rfl (Get.tmp rfl) (Get.cint rfl)))) ?_ | refine L.op1 rfl rfl (GSpec.plain rfl (spec_add rfl (Get.tmp rfl) (Get.cint rfl))) ?_
      refine L.op1 rfl rfl (GSpec.plain rfl (spec_move rfl (Get.tmp rfl))) ?_
      refine L.nil ?_
      refine N.roundK (i + 1) ?hI1 ?hmu1 ?hs1 ?hk1 ?hp1
      case hs1 => exact (.cons (t := 8) rfl .nil)
      case hk1 => exact (.cons (t := 0) rfl (.cons (t := 1) rfl (.cons (t := 7) rfl .nil)))
      case hp1 => exact (.cons 0 rfl .nil)
      case hI1 => exact ⟨by omega, upto hI2 h2⟩
      case hmu1 => omega
  · have ph1 := h1; try simp only [decide_eq_true_eq, decide_eq_false_iff_not, Bool.and_eq_true, Bool.or_eq_true, Bool.and_eq_false_iff, Bool.or_eq_false_iff, Bool.not_eq_true', Bool.not_eq_false', Bool.not_true, Bool.not_false, Int.not_lt, Int.not_le] at ph1
    refine W.exit ?_
    refine N.thenExit ?_
    refine N.thenExit ?_
    refine N.blockExit ?_
    refine N.thenW ?_
    refine W.seq ?_
    refine W.region ?_
    refine L.op1 rfl rfl (GSpec.plain rfl (spec_assign rfl (Get.cint rfl))) ?_
    refine L.nil ?_
    refine N.thenW ?_
    refine W.ret ?_
    refine N.ret () rfl (.tmp (t := 4) (Get.tmp rfl) .nil) (res1 (eqI ?_)) .nil (fun _ _ h => h)
    exact (idx_no fun j hj => hI2 j (by omega)).symm

theorem contBk_ok (l : List Bk) (p : Bk → Bool) : CallT Tryd.prog 35 [Rp.slice eBk l, Rp.fnM Tryd.prog (fun b : Bk => [Rp.agg (eBk b)]) (fun _ => [kwG]) (fun b => .one (Rp.bool (p b)))] [kwG] (.one (Rp.bool (l.any p))) := by
  refine W.enter (fn := Tryd.f35) (n := 9) Tryd.func35 rfl Tryd.ntmps35 rfl (fun w₀ C₀ => ?_)
  simp only [argS]
  refine W.seq ?_
  refine W.region ?_
  refine L.op1 rfl rfl (GSpec.plain rfl (spec_assign rfl Get.cbool)) ?_
  refine L.nil ?_
  refine N.thenW ?_
  refine W.seq ?_
  refine W.region ?_
  refine L.op1 rfl rfl (GSpec.plain rfl (spec_move rfl (Get.tmp rfl))) ?_
  refine L.op1 rfl rfl (GSpec.plain rfl (spec_move rfl (Get.tmp rfl))) ?_
  refine L.op1 rfl rfl (GSpec.plain rfl (spec_callG (k := 0) rfl Tryd.call61 rfl (idxBk_ok l p) (.cons (Get.tmp rfl) (.cons (Get.tmp rfl) .nil)))) ?_
  refine L.op1 rfl rfl (GSpec.plain rfl (spec_geq rfl (Get.tmp rfl) (Get.cint rfl))) ?_
  refine L.op1 rfl rfl (GSpec.plain rfl (spec_assign rfl (Get.tmp rfl))) ?_
  refine L.nil ?_
  refine N.thenW ?_
  refine W.keep (.cons (t := 4) rfl .nil) .refl ?_
  refine W.ret ?_
  refine N.ret () rfl (.tmp (t := 4) (Get.tmp rfl) .nil) (res1 (eqB ?_)) .nil (fun _ _ h => h)
  exact idx_any _ _

theorem field_ok (l : List Fd) (s : List UInt8) : CallT Tryd.prog 41 [Rp.slice eF l, Rp.str s] [] (.one (Rp.bool (hasF l s))) := by
  refine W.enter (fn := Tryd.f41) (n := 19) Tryd.func41 rfl Tryd.ntmps41 rfl (fun w₀ C₀ => ?_)
  simp only [argS]
  refine W.fact 0 rfl slice_fact fun hl => ?_
  refine W.seq ?_
  refine W.region ?_
  refine L.op1 rfl rfl (GSpec.plain rfl (spec_assign rfl Get.cbool)) ?_
  refine L.nil ?_
  refine N.thenW ?_
  refine W.seq ?_
  refine W.seq ?_
  refine W.region ?_
  refine L.op1 rfl rfl (GSpec.plain rfl (spec_assign rfl (Get.cint rfl))) ?_
  refine L.nil ?_
  refine N.thenW ?_
  refine W.block ?_
  -- assigned in the loop, not kept: [4]
  refine W.loopK (σ := Nat) (.cons (t := 0) rfl (.cons (t := 1) rfl .nil)) (fun z => [(5, Rp.int .i64 (z : Nat))]) (fun z => []) (fun z => z ≤ l.length ∧ ∀ j : Nat, j < z → ((l.getD j default).name == s) = false) (fun z => l.length - z) 0 ⟨Nat.zero_le _, fun j hj => by omega⟩ (.cons (t := 5) rfl .nil) .nil ?_
  intro i hI S' M' hS hM
  obtain ⟨hI1, hI2⟩ := hI
  try dsimp only at hS hM
  simp only [List.cons_append, List.nil_append] at hS hM
  subst hS hM
  try dsimp only
  refine W.seq ?_
  refine W.seq ?_
  refine W.region ?_
  refine L.op1 rfl rfl (GSpec.plain rfl (spec_move rfl (Get.tmp rfl))) ?_
  refine L.op1 rfl rfl (GSpec.plain rfl (spec_move rfl (Get.tmp rfl))) ?_
  refine L.op1 rfl rfl (GSpec.plain rfl (spec_len rfl Tryd.underlying22 (Get.tmp rfl))) ?_
  refine L.op1 rfl rfl (GSpec.plain rfl (spec_lss rfl (Get.tmp rfl) (Get.tmp rfl))) ?_
  refine L.nil ?_
  refine N.thenW ?_
  refine W.cond (Get.tmp rfl) (fun h1 => ?_) (fun h1 => ?_)
  · have ph1 := h1; try simp only [decide_eq_true_eq, decide_eq_false_iff_not, Bool.and_eq_true, Bool.or_eq_true, Bool.and_eq_false_iff, Bool.or_eq_false_iff, Bool.not_eq_true', Bool.not_eq_false', Bool.not_true, Bool.not_false, Int.not_lt, Int.not_le] at ph1
    refine W.skip ?_
    refine N.thenW ?_
    refine W.seq ?_
    refine W.block ?_
    refine W.seq ?_
    refine W.region ?_
    refine L.op1 rfl rfl (GSpec.plain rfl (spec_move rfl (Get.tmp rfl))) ?_
    refine L.op1 rfl rfl (GSpec.plain rfl (spec_move rfl (Get.tmp rfl))) ?_
    refine L.op1 rfl rfl (GSpec.plain rfl (spec_indexAddrD (E := eF) rfl Tryd.underlying22 Tryd.sizeOf27 (fun _ => rfl) (Get.tmp rfl) (Get.tmp rfl) (by omega))) ?_
    refine L.op1 rfl rfl (GSpec.plain rfl (spec_fieldAddrP (f := 0) rfl Tryd.underlying27 rfl Tryd.sizeOf9 (Get.tmp rfl) rfl rfl)) ?_
    refine L.op1 rfl rfl (GSpec.plain rfl (spec_loadP1 rfl Tryd.isAgg9 (Get.tmp rfl))) ?_
    refine L.op1 rfl rfl (GSpec.plain rfl (spec_move rfl (Get.tmp rfl))) ?_
    refine L.op1 rfl rfl (GSpec.plain rfl (spec_eqlS rfl (Get.tmp rfl) (Get.tmp rfl))) ?_
    refine L.nil ?_
    refine N.thenW ?_
    refine W.cond (Get.tmp rfl) (fun h2 => ?_) (fun h2 => ?_)
    · have ph2 := h2; try simp only [decide_eq_true_eq, decide_eq_false_iff_not, Bool.and_eq_true, Bool.or_eq_true, Bool.and_eq_false_iff, Bool.or_eq_false_iff, Bool.not_eq_true', Bool.not_eq_false', Bool.not_true, Bool.not_false, Int.not_lt, Int.not_le] at ph2
      refine W.seq ?_
      refine W.region ?_
      refine L.op1 rfl rfl (GSpec.plain rfl (spec_assign rfl Get.cbool)) ?_
      refine L.nil ?_
      refine N.thenW ?_
      refine W.ret ?_
      refine N.ret () rfl (.tmp (t := 4) (Get.tmp rfl) .nil) (res1 (eqB ?_)) .nil (fun _ _ h => h)
      exact (any_yes (p := fun f : Fd => f.name == s) (i := i) (by omega) (by simpa using h2)).symm
    · have ph2 := h2; try simp only [decide_eq_true_eq, decide_eq_false_iff_not, Bool.and_eq_true, Bool.or_eq_true, Bool.and_eq_false_iff, Bool.or_eq_false_iff, Bool.not_eq_true', Bool.not_eq_false', Bool.not_true, Bool.not_false, Int.not_lt, Int.not_le] at ph2
      refine W.skip ?_
      refine N.blockNormal ?_
      refine N.thenW ?_
      refine W.region ?_
      refine L.op1 rfl rfl (GSpec.plain rfl (spec_move rfl (Get.tmp rfl))) ?_
      first | refine L.op1 rfl rfl (GSpec.plain rfl (fit_i64 (by omega) (by omega) (spec_add rfl (Get.tmp rfl) (Get.cint rfl)))) ?_ | refine L.op1 rfl rfl (GSpec.plain rfl (spec_add rfl (Get.tmp rfl) (Get.cint rfl))) ?_
      refine L.op1 rfl rfl (GSpec.plain rfl (spec_assign rfl (Get.tmp rfl))) ?_
      refine L.nil ?_
      refine N.roundK (i + 1) ?hI2 ?hmu2 ?hs2 ?hk2 ?hp2
      case hs2 => exact (.cons (t := 5) rfl .nil)
      case hk2 => exact (.cons (t := 0) rfl (.cons (t := 1) rfl .nil))
      case hp2 => exact .nil
      case hI2 => exact ⟨by omega, upto hI2 (by simpa using h2)⟩
      case hmu2 => omega
  · have ph1 := h1; try simp only [decide_eq_true_eq, decide_eq_false_iff_not, Bool.and_eq_true, Bool.or_eq_true, Bool.and_eq_false_iff, Bool.or_eq_false_iff, Bool.not_eq_true', Bool.not_eq_false', Bool.not_true, Bool.not_false, Int.not_lt, Int.not_le] at ph1
    refine W.exit ?_
    refine N.thenExit ?_
    refine N.thenExit ?_
    refine N.blockExit ?_
    refine N.thenW ?_
    refine W.keep .nil .refl ?_
    refine W.seq ?_
    refine W.region ?_
    refine L.op1 rfl rfl (GSpec.plain rfl (spec_assign rfl Get.cbool)) ?_
    refine L.nil ?_
    refine N.thenW ?_
    refine W.ret ?_
    refine N.ret () rfl (.tmp (t := 4) (Get.tmp rfl) .nil) (res1 (eqB ?_)) .nil (fun _ _ h => h)
    exact (any_no (p := fun f : Fd => f.name == s) fun j hj => hI2 j (by omega)).symm

theorem block_ok (l : List Bk) (s : List UInt8) : CallT Tryd.prog 42 [Rp.slice eBk l, Rp.str s] [] (.one (Rp.int .i64 (blkI l s))) := by
  refine W.enter (fn := Tryd.f42) (n := 20) Tryd.func42 rfl Tryd.ntmps42 rfl (fun w₀ C₀ => ?_)
  simp only [argS]
  refine W.fact 0 rfl slice_fact fun hl => ?_
  refine W.seq ?_
  refine W.region ?_
  refine L.op1 rfl rfl (GSpec.plain rfl (spec_assign rfl (Get.cint rfl))) ?_
  refine L.nil ?_
  refine N.thenW ?_
  refine W.seq ?_
  refine W.seq ?_
  refine W.region ?_
  refine L.op1 rfl rfl (GSpec.plain rfl (spec_assign rfl (Get.cint rfl))) ?_
  refine L.nil ?_
  refine N.thenW ?_
  refine W.block ?_
  -- assigned in the loop, not kept: [4]
  refine W.loopK (σ := Nat) (.cons (t := 0) rfl (.cons (t := 1) rfl .nil)) (fun z => [(5, Rp.int .i64 (z : Nat))]) (fun z => []) (fun z => z ≤ l.length ∧ ∀ j : Nat, j < z → ((l.getD j default).name == s) = false) (fun z => l.length - z) 0 ⟨Nat.zero_le _, fun j hj => by omega⟩ (.cons (t := 5) rfl .nil) .nil ?_
  intro i hI S' M' hS hM
  obtain ⟨hI1, hI2⟩ := hI
  try dsimp only at hS hM
  simp only [List.cons_append, List.nil_append] at hS hM
  subst hS hM
  try dsimp only
  refine W.seq ?_
  refine W.seq ?_
  refine W.region ?_
  refine L.op1 rfl rfl (GSpec.plain rfl (spec_move rfl (Get.tmp rfl))) ?_
  refine L.op1 rfl rfl (GSpec.plain rfl (spec_move rfl (Get.tmp rfl))) ?_
  refine L.op1 rfl rfl (GSpec.plain rfl (spec_len rfl Tryd.underlying23 (Get.tmp rfl))) ?_
  refine L.op1 rfl rfl (GSpec.plain rfl (spec_lss rfl (Get.tmp rfl) (Get.tmp rfl))) ?_
  refine L.nil ?_
  refine N.thenW ?_
  refine W.cond (Get.tmp rfl) (fun h1 => ?_) (fun h1 => ?_)
  · have ph1 := h1; try simp only [decide_eq_true_eq, decide_eq_false_iff_not, Bool.and_eq_true, Bool.or_eq_true, Bool.and_eq_false_iff, Bool.or_eq_false_iff, Bool.not_eq_true', Bool.not_eq_false', Bool.not_true, Bool.not_false, Int.not_lt, Int.not_le] at ph1
    refine W.skip ?_
    refine N.thenW ?_
    refine W.seq ?_
    refine W.block ?_
    refine W.seq ?_
    refine W.region ?_
    refine L.op1 rfl rfl (GSpec.plain rfl (spec_move rfl (Get.tmp rfl))) ?_
    refine L.op1 rfl rfl (GSpec.plain rfl (spec_move rfl (Get.tmp rfl))) ?_
    refine L.op1 rfl rfl (GSpec.plain rfl (spec_indexAddrD (E := eBk) rfl Tryd.underlying23 Tryd.sizeOf54 (fun _ => rfl) (Get.tmp rfl) (Get.tmp rfl) (by omega))) ?_
    refine L.op1 rfl rfl (GSpec.plain rfl (spec_fieldAddrP (f := 0) rfl Tryd.underlying54 rfl Tryd.sizeOf9 (Get.tmp rfl) rfl rfl)) ?_
    refine L.op1 rfl rfl (GSpec.plain rfl (spec_loadP1 rfl Tryd.isAgg9 (Get.tmp rfl))) ?_
    refine L.op1 rfl rfl (GSpec.plain rfl (spec_move rfl (Get.tmp rfl))) ?_
    refine L.op1 rfl rfl (GSpec.plain rfl (spec_eqlS rfl (Get.tmp rfl) (Get.tmp rfl))) ?_
    refine L.nil ?_
    refine N.thenW ?_
    refine W.cond (Get.tmp rfl) (fun h2 => ?_) (fun h2 => ?_)
    · have ph2 := h2; try simp only [decide_eq_true_eq, decide_eq_false_iff_not, Bool.and_eq_true, Bool.or_eq_true, Bool.and_eq_false_iff, Bool.or_eq_false_iff, Bool.not_eq_true', Bool.not_eq_false', Bool.not_true, Bool.not_false, Int.not_lt, Int.not_le] at ph2
      refine W.seq ?_
      refine W.region ?_
      refine L.op1 rfl rfl (GSpec.plain rfl (spec_move rfl (Get.tmp rfl))) ?_
      refine L.op1 rfl rfl (GSpec.plain rfl (spec_assign rfl (Get.tmp rfl))) ?_
      refine L.nil ?_
      refine N.thenW ?_
      refine W.ret ?_
      refine N.ret () rfl (.tmp (t := 4) (Get.tmp rfl) .nil) (res1 (eqI ?_)) .nil (fun _ _ h => h)
      exact (idx_yes (p := fun b : Bk => b.name == s) (by omega) (by simpa using h2) hI2).symm
    · have ph2 := h2; try simp only [decide_eq_true_eq, decide_eq_false_iff_not, Bool.and_eq_true, Bool.or_eq_true, Bool.and_eq_false_iff, Bool.or_eq_false_iff, Bool.not_eq_true', Bool.not_eq_false', Bool.not_true, Bool.not_false, Int.not_lt, Int.not_le] at ph2
      refine W.skip ?_
      refine N.blockNormal ?_
      refine N.thenW ?_
      refine W.region ?_
      refine L.op1 rfl rfl (GSpec.plain rfl (spec_move rfl (Get.tmp rfl))) ?_
      first | refine L.op1 rfl rfl (GSpec.plain rfl (fit_i64 (by omega) (by omega) (spec_add rfl (Get.tmp rfl) (Get.cint rfl)))) ?_ | refine L.op1 rfl rfl (GSpec.plain rfl (spec_add rfl (Get.tmp rfl) (Get.cint rfl))) ?_
      refine L.op1 rfl rfl (GSpec.plain rfl (spec_assign rfl (Get.tmp rfl))) ?_
      refine L.nil ?_
      refine N.roundK (i + 1) ?hI3 ?hmu3 ?hs3 ?hk3 ?hp3
      case hs3 => exact (.cons (t := 5) rfl .nil)
      case hk3 => exact (.cons (t := 0) rfl (.cons (t := 1) rfl .nil))
      case hp3 => exact .nil
      case hI3 => exact ⟨by omega, upto hI2 (by simpa using h2)⟩
      case hmu3 => omega
  · have ph1 := h1; try simp only [decide_eq_true_eq, decide_eq_false_iff_not, Bool.and_eq_true, Bool.or_eq_true, Bool.and_eq_false_iff, Bool.or_eq_false_iff, Bool.not_eq_true', Bool.not_eq_false', Bool.not_true, Bool.not_false, Int.not_lt, Int.not_le] at ph1
    refine W.exit ?_
    refine N.thenExit ?_
    refine N.thenExit ?_
    refine N.blockExit ?_
    refine N.thenW ?_
    refine W.keep .nil .refl ?_
    refine W.seq ?_
    refine W.region ?_
    refine L.op1 rfl rfl (GSpec.plain rfl (spec_assign rfl (Get.cint rfl))) ?_
    refine L.nil ?_
    refine N.thenW ?_
    refine W.ret ?_
    refine N.ret () rfl (.tmp (t := 4) (Get.tmp rfl) .nil) (res1 (eqI ?_)) .nil (fun _ _ h => h)
    exact (idx_no (p := fun b : Bk => b.name == s) fun j hj => hI2 j (by omega)).symm

theorem validC_ok (c : Cl) : CallT Tryd.prog 15 [Rp.agg (eC c)] [kwG] (.one (Rp.int .i64 (validC c))) := by
  refine W.enter (fn := Tryd.f15) (n := 57) Tryd.func15 rfl Tryd.ntmps15 rfl (fun w₀ C₀ => ?_)
  simp only [argS]
  refine W.seq ?_
  refine W.region ?_
  refine L.box rfl rfl (GSpec.plain rfl (spec_box rfl (GetC.agg (Get.tmp rfl)))) (fun r1 => ?_)
  refine L.op1 rfl rfl (GSpec.plain rfl (spec_assign rfl (Get.cint rfl))) ?_
  refine L.nil ?_
  refine N.thenW ?_
  refine W.seq ?_
  refine W.block ?_
  refine W.seq ?_
  refine W.region ?_
  refine L.op1 rfl rfl (GSpec.plain rfl (spec_fieldAddr (f := 0) (off' := 0) rfl Tryd.underlying25 rfl Tryd.sizeOf9 (Get.tmp rfl) rfl)) ?_
  refine L.op1 rfl rfl (GSpec.plain rfl (spec_load1 (k := 0) rfl Tryd.isAgg9 (Get.tmp rfl) rfl rfl)) ?_
  refine L.op1 rfl rfl (GSpec.plain rfl (spec_callG (k := 1) rfl Tryd.call33 rfl (isName_ok _) (.cons (Get.tmp rfl) .nil))) ?_
  refine L.op1 rfl rfl (GSpec.plain rfl (spec_not rfl (Get.tmp rfl))) ?_
  refine L.op1 rfl rfl (GSpec.plain rfl (spec_move rfl (Get.tmp rfl))) ?_
  refine L.op1 rfl rfl (GSpec.guard rfl rfl rfl fun hg => (spec_fieldAddr (f := 1) (off' := 1) rfl Tryd.underlying25 rfl Tryd.sizeOf9 (Get.tmp rfl) rfl)) ?_
  refine L.op1 rfl rfl (GSpec.guard rfl rfl rfl fun hg => (spec_load1 (k := 0) rfl Tryd.isAgg9 (Get.opt rfl hg) rfl rfl)) ?_
  refine L.op1 rfl rfl (GSpec.guard rfl rfl rfl fun hg => (spec_neqS rfl (Get.opt rfl hg) (Get.cstr (l := []) rfl rfl))) ?_
  refine L.op1 rfl rfl (GSpec.guard rfl rfl rfl fun hg => (spec_move rfl (Get.opt rfl hg))) ?_
  refine L.op1 rfl rfl (GSpec.guardOpt rfl rfl rfl fun hg => (spec_fieldAddr (f := 1) (off' := 1) rfl Tryd.underlying25 rfl Tryd.sizeOf9 (Get.tmp rfl) rfl)) ?_
  refine L.op1 rfl rfl (GSpec.guardOpt rfl rfl rfl fun hg => (spec_load1 (k := 0) rfl Tryd.isAgg9 (Get.opt rfl hg) rfl rfl)) ?_
  refine L.op1 rfl rfl (GSpec.guardOpt rfl rfl rfl fun hg => (spec_callG (k := 1) rfl Tryd.call33 rfl (isName_ok _) (.cons (Get.opt rfl hg) .nil))) ?_
  refine L.op1 rfl rfl (GSpec.guardOpt rfl rfl rfl fun hg => (spec_not rfl (Get.opt rfl hg))) ?_
  refine L.op1 rfl rfl (GSpec.guard rfl rfl rfl fun hg => (spec_and rfl (Get.opt rfl hg) (fun hb => (Get.opt rfl ⟨hg, hb⟩)))) ?_
  refine L.op1 rfl rfl (GSpec.plain rfl (spec_or rfl (Get.tmp rfl) (fun hb => (Get.opt rfl hb)))) ?_
  refine L.op1 rfl rfl (GSpec.plain rfl (spec_assign rfl (Get.tmp rfl))) ?_
  refine L.nil ?_
  refine N.thenW ?_
  refine W.keep (.cons (t := 1) rfl (.cons (t := 2) rfl (.cons (t := 6) rfl .nil))) .refl ?_
  refine W.cond (Get.tmp rfl) (fun h1 => ?_) (fun h1 => ?_)
  · have hn : nameB c.name = false ∨ (c.parent ≠ [] ∧ nameB c.parent = false) := by have h := h1; simp only [decide_eq_true_eq, decide_eq_false_iff_not, Bool.and_eq_true, Bool.or_eq_true, Bool.and_eq_false_iff, Bool.or_eq_false_iff, Bool.not_eq_true', Bool.not_eq_false', Bool.not_true, Bool.not_false, Int.not_lt, Int.not_le, beq_eq_false_iff_ne, ne_eq] at h; exact h
    refine W.seq ?_
    refine W.region ?_
    refine L.op1 rfl rfl (GSpec.plain rfl (spec_assign rfl (Get.cint rfl))) ?_
    refine L.nil ?_
    refine N.thenW ?_
    refine W.ret ?_
    refine N.ret () rfl (.tmp (t := 2) (Get.tmp rfl) .nil) (res1 (eqI ?_)) .nil (fun _ _ h => h)
    unfold validC; rw [if_pos hn]
  · have hn : ¬ (nameB c.name = false ∨ (c.parent ≠ [] ∧ nameB c.parent = false)) := by have h := h1; simp only [decide_eq_true_eq, decide_eq_false_iff_not, Bool.and_eq_true, Bool.or_eq_true, Bool.and_eq_false_iff, Bool.or_eq_false_iff, Bool.not_eq_true', Bool.not_eq_false', Bool.not_true, Bool.not_false, Int.not_lt, Int.not_le, beq_iff_eq] at h; rintro (q | ⟨q1, q2⟩); (rw [q] at h; simp at h); (rcases h with ⟨_, h | h⟩; (exact q1 h); (rw [q2] at h; simp at h))
    refine W.seq ?_
    refine W.region ?_
    refine L.op1 rfl rfl (GSpec.plain rfl (spec_fieldAddr (f := 2) (off' := 2) rfl Tryd.underlying25 rfl Tryd.sizeOf22 (Get.tmp rfl) rfl)) ?_
    refine L.op1 rfl rfl (GSpec.plain rfl (spec_load1 (k := 0) rfl Tryd.isAgg22 (Get.tmp rfl) rfl rfl)) ?_
    refine L.op1 rfl rfl (GSpec.plain rfl (spec_len rfl Tryd.underlying22 (Get.tmp rfl))) ?_
    refine L.op1 rfl rfl (GSpec.plain rfl (spec_gtr rfl (Get.tmp rfl) (Get.cint rfl))) ?_
    refine L.op1 rfl rfl (GSpec.plain rfl (spec_move rfl (Get.tmp rfl))) ?_
    refine L.op1 rfl rfl (GSpec.guard rfl rfl rfl fun hg => (spec_fieldAddr (f := 3) (off' := 3) rfl Tryd.underlying25 rfl Tryd.sizeOf23 (Get.tmp rfl) rfl)) ?_
    refine L.op1 rfl rfl (GSpec.guard rfl rfl rfl fun hg => (spec_load1 (k := 0) rfl Tryd.isAgg23 (Get.opt rfl hg) rfl rfl)) ?_
    refine L.op1 rfl rfl (GSpec.guard rfl rfl rfl fun hg => (spec_len rfl Tryd.underlying23 (Get.opt rfl hg))) ?_
    refine L.op1 rfl rfl (GSpec.guard rfl rfl rfl fun hg => (spec_gtr rfl (Get.opt rfl hg) (Get.cint rfl))) ?_
    refine L.op1 rfl rfl (GSpec.plain rfl (spec_or rfl (Get.tmp rfl) (fun hb => (Get.opt rfl hb)))) ?_
    refine L.op1 rfl rfl (GSpec.plain rfl (spec_assign rfl (Get.tmp rfl))) ?_
    refine L.nil ?_
    refine N.thenW ?_
    refine W.keep (.cons (t := 1) rfl (.cons (t := 2) rfl (.cons (t := 22) rfl .nil))) .refl ?_
    refine W.cond (Get.tmp rfl) (fun h2 => ?_) (fun h2 => ?_)
    · have hl : 16 < c.fields.length ∨ 16 < c.blocks.length := by have h := h2; simp only [decide_eq_true_eq, decide_eq_false_iff_not, Bool.and_eq_true, Bool.or_eq_true, Bool.and_eq_false_iff, Bool.or_eq_false_iff, Bool.not_eq_true', Bool.not_eq_false', Bool.not_true, Bool.not_false, Int.not_lt, Int.not_le] at h; omega
      refine W.seq ?_
      refine W.region ?_
      refine L.op1 rfl rfl (GSpec.plain rfl (spec_assign rfl (Get.cint rfl))) ?_
      refine L.nil ?_
      refine N.thenW ?_
      refine W.ret ?_
      refine N.ret () rfl (.tmp (t := 2) (Get.tmp rfl) .nil) (res1 (eqI ?_)) .nil (fun _ _ h => h)
      unfold validC; rw [if_neg hn, if_pos hl]
    · have hl : ¬ (16 < c.fields.length ∨ 16 < c.blocks.length) := by have h := h2; simp only [decide_eq_true_eq, decide_eq_false_iff_not, Bool.and_eq_true, Bool.or_eq_true, Bool.and_eq_false_iff, Bool.or_eq_false_iff, Bool.not_eq_true', Bool.not_eq_false', Bool.not_true, Bool.not_false, Int.not_lt, Int.not_le] at h; omega
      refine W.skip ?_
      refine N.blockNormal ?_
      refine N.thenW ?_
      refine W.seq ?_
      refine W.seq ?_
      refine W.region ?_
      refine L.op1 rfl rfl (GSpec.plain rfl (spec_fieldAddr (f := 2) (off' := 2) rfl Tryd.underlying25 rfl Tryd.sizeOf22 (Get.tmp rfl) rfl)) ?_
      refine L.op1 rfl rfl (GSpec.plain rfl (spec_load1 (k := 0) rfl Tryd.isAgg22 (Get.tmp rfl) rfl rfl)) ?_
      refine L.op1 rfl rfl (GSpec.plain rfl (spec_len rfl Tryd.underlying22 (Get.tmp rfl))) ?_
      refine L.op1 rfl rfl (GSpec.plain rfl (spec_move rfl (Get.cint rfl))) ?_
      refine L.nil ?_
      refine N.thenW ?_
      refine W.fact 34 rfl slice_fact fun hfl => ?_
      refine W.block ?_
      -- assigned in the loop, not kept: [2]
      refine W.loopK (σ := Nat) (.cons (t := 1) rfl (.cons (t := 34) rfl (.cons (t := 35) rfl .nil))) (fun z => [(36, Rp.int .i64 (z : Nat))]) (fun z => []) (fun z => z ≤ c.fields.length ∧ ∀ j : Nat, j < z → validF (c.fields.getD j default) = 0) (fun z => c.fields.length - z) 0 ⟨Nat.zero_le _, fun j hj => by omega⟩ (.cons (t := 36) rfl .nil) (.cons 0 rfl (.cons 0 rfl .nil)) ?_
      intro i hI S' M' hS hM
      obtain ⟨hI1, hI2⟩ := hI
      try dsimp only at hS hM
      simp only [List.cons_append, List.nil_append] at hS hM
      subst hS hM
      try dsimp only
      refine W.seq ?_
      refine W.region ?_
      refine L.op1 rfl rfl (GSpec.plain rfl (spec_lss rfl (Get.tmp rfl) (Get.tmp rfl))) ?_
      refine L.nil ?_
      refine N.thenW ?_
      refine W.seq ?_
      refine W.cond (Get.tmp rfl) (fun h3 => ?_) (fun h3 => ?_)
      · have ph3 := h3; try simp only [decide_eq_true_eq, decide_eq_false_iff_not, Bool.and_eq_true, Bool.or_eq_true, Bool.and_eq_false_iff, Bool.or_eq_false_iff, Bool.not_eq_true', Bool.not_eq_false', Bool.not_true, Bool.not_false, Int.not_lt, Int.not_le] at ph3
        refine W.skip ?_
        refine N.thenW ?_
        refine W.seq ?_
        refine W.block ?_
        refine W.seq ?_
        refine W.region ?_
        refine L.op1 rfl rfl (GSpec.plain rfl (spec_indexAddrD (E := eF) rfl Tryd.underlying22 Tryd.sizeOf27 (fun _ => rfl) (Get.tmp rfl) (Get.tmp rfl) (by omega))) ?_
        refine L.op1 rfl rfl (GSpec.plain rfl (spec_loadPA rfl Tryd.isAgg27 Tryd.sizeOf27 (Get.tmp rfl) rfl)) ?_
        refine L.box rfl rfl (GSpec.plain rfl (spec_alloc rfl ti27 z27)) (fun r4 => ?_)
        refine L.storeW (k := 0) rfl rfl rfl Tryd.sizeOf27 (Get.tmp rfl) (Get.tmp rfl) rfl rfl rfl ?_
        refine L.nil ?_
        refine N.thenW ?_
        refine W.seq ?_
        refine W.region ?_
        refine L.op1 rfl rfl (GSpec.plain rfl (spec_loadW (k := 0) rfl Tryd.isAgg27 Tryd.sizeOf27 (Get.tmp rfl) rfl rfl)) ?_
        refine L.op1 rfl rfl (GSpec.plain rfl (spec_callG (k := 2) rfl Tryd.call13 rfl (validF_ok_ _) (.cons (Get.tmp rfl) .nil))) ?_
        refine L.op1 rfl rfl (GSpec.plain rfl (spec_assign rfl (Get.tmp rfl))) ?_
        refine L.nil ?_
        refine N.thenW ?_
        refine W.seq ?_
        refine W.region ?_
        refine L.op1 rfl rfl (GSpec.plain rfl (spec_move rfl (Get.tmp rfl))) ?_
        refine L.op1 rfl rfl (GSpec.plain rfl (spec_neq rfl (Get.tmp rfl) (Get.cint rfl))) ?_
        refine L.nil ?_
        refine N.thenW ?_
        refine W.cond (Get.tmp rfl) (fun h4 => ?_) (fun h4 => ?_)
        · have ph4 := h4; try simp only [decide_eq_true_eq, decide_eq_false_iff_not, Bool.and_eq_true, Bool.or_eq_true, Bool.and_eq_false_iff, Bool.or_eq_false_iff, Bool.not_eq_true', Bool.not_eq_false', Bool.not_true, Bool.not_false, Int.not_lt, Int.not_le] at ph4
          refine W.seq ?_
          refine W.region ?_
          refine L.op1 rfl rfl (GSpec.plain rfl (spec_move rfl (Get.tmp rfl))) ?_
          refine L.op1 rfl rfl (GSpec.plain rfl (spec_assign rfl (Get.tmp rfl))) ?_
          refine L.nil ?_
          refine N.thenW ?_
          refine W.ret ?_
          refine N.ret () rfl (.tmp (t := 2) (Get.tmp rfl) .nil) (res1 (eqI ?_)) .nil (fun _ _ h => h)
          have hf := firstE_at (e := validF) (i := i) (by omega) (by simpa using h4) hI2
          unfold validC; rw [if_neg hn, if_neg hl, if_pos (by rw [hf]; simpa using h4), hf]; rfl
        · have ph4 := h4; try simp only [decide_eq_true_eq, decide_eq_false_iff_not, Bool.and_eq_true, Bool.or_eq_true, Bool.and_eq_false_iff, Bool.or_eq_false_iff, Bool.not_eq_true', Bool.not_eq_false', Bool.not_true, Bool.not_false, Int.not_lt, Int.not_le] at ph4
          refine W.skip ?_
          refine N.blockNormal ?_
          refine N.thenW ?_
          refine W.region ?_
          first | refine L.op1 rfl rfl (GSpec.plain rfl (fit_i64 (by omega) (by omega) (spec_add rfl (Get.tmp rfl) (Get.cint rfl)))) ?_ | refine L.op1 rfl rfl (GSpec.plain rfl (spec_add rfl (Get.tmp rfl) (Get.cint rfl))) ?_
          refine L.op1 rfl rfl (GSpec.plain rfl (spec_move rfl (Get.tmp rfl))) ?_
          refine L.nil ?_
          refine N.roundK (i + 1) ?hI4 ?hmu4 ?hs4 ?hk4 ?hp4
          case hs4 => exact (.cons (t := 36) rfl .nil)
          case hk4 => exact (.cons (t := 1) rfl (.cons (t := 34) rfl (.cons (t := 35) rfl .nil)))
          case hp4 => exact (.cons 1 rfl (.cons 1 rfl .nil))
          case hI4 => exact ⟨by omega, upto hI2 (by simpa using h4)⟩
          case hmu4 => omega
      · have ph3 := h3; try simp only [decide_eq_true_eq, decide_eq_false_iff_not, Bool.and_eq_true, Bool.or_eq_true, Bool.and_eq_false_iff, Bool.or_eq_false_iff, Bool.not_eq_true', Bool.not_eq_false', Bool.not_true, Bool.not_false, Int.not_lt, Int.not_le] at ph3
        refine W.exit ?_
        refine N.thenExit ?_
        refine N.thenExit ?_
        refine N.blockExit ?_
        refine N.thenW ?_
        have hf0 : firstE validF c.fields = 0 := firstE_none fun j hj => hI2 j (by omega)
        refine W.seq ?_
        refine W.seq ?_
        refine W.region ?_
        refine L.op1 rfl rfl (GSpec.plain rfl (spec_fieldAddr (f := 3) (off' := 3) rfl Tryd.underlying25 rfl Tryd.sizeOf23 (Get.tmp rfl) rfl)) ?_
        refine L.op1 rfl rfl (GSpec.plain rfl (spec_load1 (k := 0) rfl Tryd.isAgg23 (Get.tmp rfl) rfl rfl)) ?_
        refine L.op1 rfl rfl (GSpec.plain rfl (spec_callG (k := 1) rfl Tryd.call35 rfl (contBk_ok c.blocks fun b => !nameB b.name) (.cons (Get.tmp rfl) (.cons (Get.weak Get.clo (fnM_of_clo Tryd.call36 (fun i => vblk_ok i))) .nil)))) ?_
        refine L.nil ?_
        refine N.thenW ?_
        refine W.keep (.cons (t := 1) rfl (.cons (t := 48) rfl .nil)) .refl ?_
        refine W.cond (Get.tmp rfl) (fun h5 => ?_) (fun h5 => ?_)
        · refine W.seq ?_
          refine W.region ?_
          refine L.op1 rfl rfl (GSpec.plain rfl (spec_assign rfl (Get.cint rfl))) ?_
          refine L.nil ?_
          refine N.thenW ?_
          refine W.ret ?_
          refine N.ret () rfl (.tmp (t := 2) (Get.tmp rfl) .nil) (res1 (eqI ?_)) .nil (fun _ _ h => h)
          unfold validC; rw [if_neg hn, if_neg hl, if_neg (by rw [hf0]; simp), if_pos h5]
        · have hbk : (c.blocks.any fun b => !nameB b.name) = false := h5
          refine W.skip ?_
          refine N.thenW ?_
          refine W.seq ?_
          refine W.seq ?_
          refine W.region ?_
          refine L.op1 rfl rfl (GSpec.plain rfl (spec_fieldAddr (f := 2) (off' := 2) rfl Tryd.underlying25 rfl Tryd.sizeOf22 (Get.tmp rfl) rfl)) ?_
          refine L.op1 rfl rfl (GSpec.plain rfl (spec_load1 (k := 0) rfl Tryd.isAgg22 (Get.tmp rfl) rfl rfl)) ?_
          refine L.op1 rfl rfl (GSpec.plain rfl (spec_call rfl Tryd.call37 (repF_ok _) (.cons (Get.tmp rfl) (.cons (Get.weak Get.clo (fn_of_clo Tryd.call38 (fun i => fname_ok i))) .nil)))) ?_
          refine L.op1 rfl rfl (GSpec.plain rfl (spec_move rfl (Get.tmp rfl))) ?_
          refine L.op1 rfl rfl (GSpec.guard rfl rfl rfl fun hg => (spec_fieldAddr (f := 3) (off' := 3) rfl Tryd.underlying25 rfl Tryd.sizeOf23 (Get.tmp rfl) rfl)) ?_
          refine L.op1 rfl rfl (GSpec.guard rfl rfl rfl fun hg => (spec_load1 (k := 0) rfl Tryd.isAgg23 (Get.opt rfl hg) rfl rfl)) ?_
          refine L.op1 rfl rfl (GSpec.guard rfl rfl rfl fun hg => (spec_call rfl Tryd.call39 (repBk_ok _) (.cons (Get.opt rfl hg) (.cons (Get.weak Get.clo (fn_of_clo Tryd.call40 (fun i => bname_ok i))) .nil)))) ?_
          refine L.op1 rfl rfl (GSpec.plain rfl (spec_or rfl (Get.tmp rfl) (fun hb => (Get.opt rfl hb)))) ?_
          refine L.nil ?_
          refine N.thenW ?_
          refine W.keep (.cons (t := 56) rfl .nil) .refl ?_
          refine W.cond (Get.tmp rfl) (fun h6 => ?_) (fun h6 => ?_)
          · refine W.seq ?_
            refine W.region ?_
            refine L.op1 rfl rfl (GSpec.plain rfl (spec_assign rfl (Get.cint rfl))) ?_
            refine L.nil ?_
            refine N.thenW ?_
            refine W.ret ?_
            refine N.ret () rfl (.tmp (t := 2) (Get.tmp rfl) .nil) (res1 (eqI ?_)) .nil (fun _ _ h => h)
            unfold validC; rw [if_neg hn, if_neg hl, if_neg (by rw [hf0]; simp), if_neg (by rw [hbk]; simp), if_pos (by simpa using h6)]
          · refine W.skip ?_
            refine N.thenW ?_
            refine W.seq ?_
            refine W.region ?_
            refine L.op1 rfl rfl (GSpec.plain rfl (spec_assign rfl (Get.cint rfl))) ?_
            refine L.nil ?_
            refine N.thenW ?_
            refine W.ret ?_
            refine N.ret () rfl (.tmp (t := 2) (Get.tmp rfl) .nil) (res1 (eqI ?_)) .nil (fun _ _ h => h)
            unfold validC; rw [if_neg hn, if_neg hl, if_neg (by rw [hf0]; simp), if_neg (by rw [hbk]; simp), if_neg (by simpa using h6)]

end Go.Proofs.YtcabngjnmipflaaDoor
set_option linter.unusedSimpArgs false
set_option maxRecDepth 8000
set_option linter.unusedVariables false
namespace Go.Proofs.YtcabngjnmipflaaDoor
open Go.Sim
theorem rvalidC_ok (c : Cl) : CallT Tryd.prog 16 [Rp.agg (eC c)] [] (.one (Rp.int .i64 (validC c))) := by
  refine W.enter (fn := Tryd.f16) (n := 101) Tryd.func16 rfl Tryd.ntmps16 rfl (fun w₀ C₀ => ?_)
  simp only [argS]
  refine W.seq ?_
  refine W.region ?_
  refine L.box rfl rfl (GSpec.plain rfl (spec_box rfl (GetC.agg (Get.tmp rfl)))) (fun r1 => ?_)
  refine L.op1 rfl rfl (GSpec.plain rfl (spec_assign rfl (Get.cint rfl))) ?_
  refine L.nil ?_
  refine N.thenW ?_
  refine W.seq ?_
  refine W.seq ?_
  refine W.region ?_
  refine L.op1 rfl rfl (GSpec.plain rfl (spec_fieldAddr (f := 0) (off' := 0) rfl Tryd.underlying25 rfl Tryd.sizeOf9 (Get.tmp rfl) rfl)) ?_
  refine L.op1 rfl rfl (GSpec.plain rfl (spec_load1 (k := 0) rfl Tryd.isAgg9 (Get.tmp rfl) rfl rfl)) ?_
  refine L.op1 rfl rfl (GSpec.plain rfl (spec_call rfl Tryd.call34 (isName2_ok _) (.cons (Get.tmp rfl) .nil))) ?_
  refine L.op1 rfl rfl (GSpec.plain rfl (spec_not rfl (Get.tmp rfl))) ?_
  refine L.op1 rfl rfl (GSpec.plain rfl (spec_move rfl (Get.tmp rfl))) ?_
  refine L.op1 rfl rfl (GSpec.guard rfl rfl rfl fun hg => (spec_fieldAddr (f := 1) (off' := 1) rfl Tryd.underlying25 rfl Tryd.sizeOf9 (Get.tmp rfl) rfl)) ?_
  refine L.op1 rfl rfl (GSpec.guard rfl rfl rfl fun hg => (spec_load1 (k := 0) rfl Tryd.isAgg9 (Get.opt rfl hg) rfl rfl)) ?_
  refine L.op1 rfl rfl (GSpec.guard rfl rfl rfl fun hg => (spec_neqS rfl (Get.opt rfl hg) (Get.cstr (l := []) rfl rfl))) ?_
  refine L.op1 rfl rfl (GSpec.guard rfl rfl rfl fun hg => (spec_move rfl (Get.opt rfl hg))) ?_
  refine L.op1 rfl rfl (GSpec.guardOpt rfl rfl rfl fun hg => (spec_fieldAddr (f := 1) (off' := 1) rfl Tryd.underlying25 rfl Tryd.sizeOf9 (Get.tmp rfl) rfl)) ?_
  refine L.op1 rfl rfl (GSpec.guardOpt rfl rfl rfl fun hg => (spec_load1 (k := 0) rfl Tryd.isAgg9 (Get.opt rfl hg) rfl rfl)) ?_
  refine L.op1 rfl rfl (GSpec.guardOpt rfl rfl rfl fun hg => (spec_call rfl Tryd.call34 (isName2_ok _) (.cons (Get.opt rfl hg) .nil))) ?_
  refine L.op1 rfl rfl (GSpec.guardOpt rfl rfl rfl fun hg => (spec_not rfl (Get.opt rfl hg))) ?_
  refine L.op1 rfl rfl (GSpec.guard rfl rfl rfl fun hg => (spec_and rfl (Get.opt rfl hg) (fun hb => (Get.opt rfl ⟨hg, hb⟩)))) ?_
  refine L.op1 rfl rfl (GSpec.plain rfl (spec_or rfl (Get.tmp rfl) (fun hb => (Get.opt rfl hb)))) ?_
  refine L.nil ?_
  refine N.thenW ?_
  refine W.keep (.cons (t := 1) rfl (.cons (t := 2) rfl (.cons (t := 22) rfl .nil))) .refl ?_
  refine W.cond (Get.tmp rfl) (fun h1 => ?_) (fun h1 => ?_)
  · have hn : nameB c.name = false ∨ (c.parent ≠ [] ∧ nameB c.parent = false) := by have h := h1; simp only [decide_eq_true_eq, decide_eq_false_iff_not, Bool.and_eq_true, Bool.or_eq_true, Bool.and_eq_false_iff, Bool.or_eq_false_iff, Bool.not_eq_true', Bool.not_eq_false', Bool.not_true, Bool.not_false, Int.not_lt, Int.not_le, beq_eq_false_iff_ne, ne_eq] at h; exact h
    refine W.seq ?_
    refine W.region ?_
    refine L.op1 rfl rfl (GSpec.plain rfl (spec_assign rfl (Get.cint rfl))) ?_
    refine L.nil ?_
    refine N.thenW ?_
    refine W.ret ?_
    refine N.ret () rfl (.tmp (t := 2) (Get.tmp rfl) .nil) (res1 (eqI ?_)) .nil (fun _ _ h => h)
    unfold validC; rw [if_pos hn]
  · have hn : ¬ (nameB c.name = false ∨ (c.parent ≠ [] ∧ nameB c.parent = false)) := by have h := h1; simp only [decide_eq_true_eq, decide_eq_false_iff_not, Bool.and_eq_true, Bool.or_eq_true, Bool.and_eq_false_iff, Bool.or_eq_false_iff, Bool.not_eq_true', Bool.not_eq_false', Bool.not_true, Bool.not_false, Int.not_lt, Int.not_le, beq_iff_eq] at h; rintro (q | ⟨q1, q2⟩); (rw [q] at h; simp at h); (rcases h with ⟨_, h | h⟩; (exact q1 h); (rw [q2] at h; simp at h))
    refine W.skip ?_
    refine N.thenW ?_
    refine W.seq ?_
    refine W.seq ?_
    refine W.region ?_
    refine L.op1 rfl rfl (GSpec.plain rfl (spec_fieldAddr (f := 2) (off' := 2) rfl Tryd.underlying25 rfl Tryd.sizeOf22 (Get.tmp rfl) rfl)) ?_
    refine L.op1 rfl rfl (GSpec.plain rfl (spec_load1 (k := 0) rfl Tryd.isAgg22 (Get.tmp rfl) rfl rfl)) ?_
    refine L.op1 rfl rfl (GSpec.plain rfl (spec_len rfl Tryd.underlying22 (Get.tmp rfl))) ?_
    refine L.op1 rfl rfl (GSpec.plain rfl (spec_gtr rfl (Get.tmp rfl) (Get.cint rfl))) ?_
    refine L.op1 rfl rfl (GSpec.plain rfl (spec_move rfl (Get.tmp rfl))) ?_
    refine L.op1 rfl rfl (GSpec.guard rfl rfl rfl fun hg => (spec_fieldAddr (f := 3) (off' := 3) rfl Tryd.underlying25 rfl Tryd.sizeOf23 (Get.tmp rfl) rfl)) ?_
    refine L.op1 rfl rfl (GSpec.guard rfl rfl rfl fun hg => (spec_load1 (k := 0) rfl Tryd.isAgg23 (Get.opt rfl hg) rfl rfl)) ?_
    refine L.op1 rfl rfl (GSpec.guard rfl rfl rfl fun hg => (spec_len rfl Tryd.underlying23 (Get.opt rfl hg))) ?_
    refine L.op1 rfl rfl (GSpec.guard rfl rfl rfl fun hg => (spec_gtr rfl (Get.opt rfl hg) (Get.cint rfl))) ?_
    refine L.op1 rfl rfl (GSpec.plain rfl (spec_or rfl (Get.tmp rfl) (fun hb => (Get.opt rfl hb)))) ?_
    refine L.nil ?_
    refine N.thenW ?_
    refine W.keep (.cons (t := 1) rfl (.cons (t := 2) rfl (.cons (t := 32) rfl .nil))) .refl ?_
    refine W.cond (Get.tmp rfl) (fun h2 => ?_) (fun h2 => ?_)
    · have hl : 16 < c.fields.length ∨ 16 < c.blocks.length := by have h := h2; simp only [decide_eq_true_eq, decide_eq_false_iff_not, Bool.and_eq_true, Bool.or_eq_true, Bool.and_eq_false_iff, Bool.or_eq_false_iff, Bool.not_eq_true', Bool.not_eq_false', Bool.not_true, Bool.not_false, Int.not_lt, Int.not_le] at h; omega
      refine W.seq ?_
      refine W.region ?_
      refine L.op1 rfl rfl (GSpec.plain rfl (spec_assign rfl (Get.cint rfl))) ?_
      refine L.nil ?_
      refine N.thenW ?_
      refine W.ret ?_
      refine N.ret () rfl (.tmp (t := 2) (Get.tmp rfl) .nil) (res1 (eqI ?_)) .nil (fun _ _ h => h)
      unfold validC; rw [if_neg hn, if_pos hl]
    · have hl : ¬ (16 < c.fields.length ∨ 16 < c.blocks.length) := by have h := h2; simp only [decide_eq_true_eq, decide_eq_false_iff_not, Bool.and_eq_true, Bool.or_eq_true, Bool.and_eq_false_iff, Bool.or_eq_false_iff, Bool.not_eq_true', Bool.not_eq_false', Bool.not_true, Bool.not_false, Int.not_lt, Int.not_le] at h; omega
      refine W.skip ?_
      refine N.thenW ?_
      refine W.seq ?_
      refine W.seq ?_
      refine W.region ?_
      refine L.op1 rfl rfl (GSpec.plain rfl (spec_assign rfl (Get.cint rfl))) ?_
      refine L.nil ?_
      refine N.thenW ?_
      refine W.block ?_
      -- assigned in the loop, not kept: [2]
      refine W.loopK (σ := Nat) (.cons (t := 1) rfl .nil) (fun z => [(3, Rp.int .i64 (z : Nat))]) (fun z => []) (fun z => z ≤ c.fields.length ∧ ∀ j : Nat, j < z → validF (c.fields.getD j default) = 0) (fun z => c.fields.length - z) 0 ⟨Nat.zero_le _, fun j hj => by omega⟩ (.cons (t := 3) rfl .nil) (.cons 0 rfl .nil) ?_
      intro i hI S' M' hS hM
      obtain ⟨hI1, hI2⟩ := hI
      try dsimp only at hS hM
      simp only [List.cons_append, List.nil_append] at hS hM
      subst hS hM
      try dsimp only
      refine W.seq ?_
      refine W.seq ?_
      refine W.region ?_
      refine L.op1 rfl rfl (GSpec.plain rfl (spec_move rfl (Get.tmp rfl))) ?_
      refine L.op1 rfl rfl (GSpec.plain rfl (spec_fieldAddr (f := 2) (off' := 2) rfl Tryd.underlying25 rfl Tryd.sizeOf22 (Get.tmp rfl) rfl)) ?_
      refine L.op1 rfl rfl (GSpec.plain rfl (spec_load1 (k := 0) rfl Tryd.isAgg22 (Get.tmp rfl) rfl rfl)) ?_
      refine L.op1 rfl rfl (GSpec.plain rfl (spec_len rfl Tryd.underlying22 (Get.tmp rfl))) ?_
      refine L.op1 rfl rfl (GSpec.plain rfl (spec_lss rfl (Get.tmp rfl) (Get.tmp rfl))) ?_
      refine L.nil ?_
      refine N.thenW ?_
      refine W.cond (Get.tmp rfl) (fun h3 => ?_) (fun h3 => ?_)
      · have ph3 := h3; try simp only [decide_eq_true_eq, decide_eq_false_iff_not, Bool.and_eq_true, Bool.or_eq_true, Bool.and_eq_false_iff, Bool.or_eq_false_iff, Bool.not_eq_true', Bool.not_eq_false', Bool.not_true, Bool.not_false, Int.not_lt, Int.not_le] at ph3
        refine W.skip ?_
        refine N.thenW ?_
        refine W.seq ?_
        refine W.block ?_
        refine W.seq ?_
        refine W.region ?_
        refine L.op1 rfl rfl (GSpec.plain rfl (spec_fieldAddr (f := 2) (off' := 2) rfl Tryd.underlying25 rfl Tryd.sizeOf22 (Get.tmp rfl) rfl)) ?_
        refine L.op1 rfl rfl (GSpec.plain rfl (spec_load1 (k := 0) rfl Tryd.isAgg22 (Get.tmp rfl) rfl rfl)) ?_
        refine L.op1 rfl rfl (GSpec.plain rfl (spec_move rfl (Get.tmp rfl))) ?_
        refine L.op1 rfl rfl (GSpec.plain rfl (spec_indexAddrD (E := eF) rfl Tryd.underlying22 Tryd.sizeOf27 (fun _ => rfl) (Get.tmp rfl) (Get.tmp rfl) (by (first | omega | (simp only [Int.toNat_natCast]; omega))))) ?_
        refine L.op1 rfl rfl (GSpec.plain rfl (spec_loadPA rfl Tryd.isAgg27 Tryd.sizeOf27 (Get.tmp rfl) rfl)) ?_
        refine L.op1 rfl rfl (GSpec.plain rfl (spec_call rfl Tryd.call14 (rvalidF_ok _) (.cons (Get.tmp rfl) .nil))) ?_
        refine L.op1 rfl rfl (GSpec.plain rfl (spec_assign rfl (Get.tmp rfl))) ?_
        refine L.nil ?_
        refine N.thenW ?_
        refine W.seq ?_
        refine W.region ?_
        refine L.op1 rfl rfl (GSpec.plain rfl (spec_move rfl (Get.tmp rfl))) ?_
        refine L.op1 rfl rfl (GSpec.plain rfl (spec_neq rfl (Get.tmp rfl) (Get.cint rfl))) ?_
        refine L.nil ?_
        refine N.thenW ?_
        refine W.cond (Get.tmp rfl) (fun h4 => ?_) (fun h4 => ?_)
        · have ph4 := h4; try simp only [decide_eq_true_eq, decide_eq_false_iff_not, Bool.and_eq_true, Bool.or_eq_true, Bool.and_eq_false_iff, Bool.or_eq_false_iff, Bool.not_eq_true', Bool.not_eq_false', Bool.not_true, Bool.not_false, Int.not_lt, Int.not_le] at ph4
          refine W.seq ?_
          refine W.region ?_
          refine L.op1 rfl rfl (GSpec.plain rfl (spec_move rfl (Get.tmp rfl))) ?_
          refine L.op1 rfl rfl (GSpec.plain rfl (spec_assign rfl (Get.tmp rfl))) ?_
          refine L.nil ?_
          refine N.thenW ?_
          refine W.ret ?_
          refine N.ret () rfl (.tmp (t := 2) (Get.tmp rfl) .nil) (res1 (eqI ?_)) .nil (fun _ _ h => h)
          have hf := firstE_at (e := validF) (i := i) (by omega) (by simpa using h4) hI2
          unfold validC; rw [if_neg hn, if_neg hl, if_pos (by rw [hf]; simpa using h4), hf]; rfl
        · have ph4 := h4; try simp only [decide_eq_true_eq, decide_eq_false_iff_not, Bool.and_eq_true, Bool.or_eq_true, Bool.and_eq_false_iff, Bool.or_eq_false_iff, Bool.not_eq_true', Bool.not_eq_false', Bool.not_true, Bool.not_false, Int.not_lt, Int.not_le] at ph4
          refine W.skip ?_
          refine N.blockNormal ?_
          refine N.thenW ?_
          refine W.region ?_
          refine L.op1 rfl rfl (GSpec.plain rfl (spec_move rfl (Get.tmp rfl))) ?_
          first | refine L.op1 rfl rfl (GSpec.plain rfl (fit_i64 (by (first | omega | (simp only [Int.toNat_natCast]; omega))) (by (first | omega | (simp only [Int.toNat_natCast]; omega))) (spec_add rfl (Get.tmp rfl) (Get.cint rfl)))) ?_ | refine L.op1 rfl rfl (GSpec.plain rfl (spec_add rfl (Get.tmp rfl) (Get.cint rfl))) ?_
          refine L.op1 rfl rfl (GSpec.plain rfl (spec_assign rfl (Get.tmp rfl))) ?_
          refine L.nil ?_
          refine N.roundK (i + 1) ?hI1 ?hmu1 ?hs1 ?hk1 ?hp1
          case hs1 => exact (.cons (t := 3) rfl .nil)
          case hk1 => exact (.cons (t := 1) rfl .nil)
          case hp1 => exact (.cons 0 rfl .nil)
          case hI1 => exact ⟨by omega, upto hI2 (by simpa using h4)⟩
          case hmu1 => omega
      · have ph3 := h3; try simp only [decide_eq_true_eq, decide_eq_false_iff_not, Bool.and_eq_true, Bool.or_eq_true, Bool.and_eq_false_iff, Bool.or_eq_false_iff, Bool.not_eq_true', Bool.not_eq_false', Bool.not_true, Bool.not_false, Int.not_lt, Int.not_le] at ph3
        refine W.exit ?_
        refine N.thenExit ?_
        refine N.thenExit ?_
        refine N.blockExit ?_
        refine N.thenW ?_
        have hf0 : firstE validF c.fields = 0 := firstE_none fun j hj => hI2 j (by omega)
        refine W.keep (.cons (t := 1) rfl .nil) .refl ?_
        refine W.seq ?_
        refine W.seq ?_
        refine W.region ?_
        refine L.op1 rfl rfl (GSpec.plain rfl (spec_assign rfl (Get.cint rfl))) ?_
        refine L.nil ?_
        refine N.thenW ?_
        refine W.block ?_
        refine W.loopK (σ := Nat) (.cons (t := 1) rfl .nil) (fun z => [(5, Rp.int .i64 (z : Nat))]) (fun z => []) (fun z => z ≤ c.blocks.length ∧ ∀ j : Nat, j < z → (!nameB (c.blocks.getD j default).name) = false) (fun z => c.blocks.length - z) 0 ⟨Nat.zero_le _, fun j hj => by omega⟩ (.cons (t := 5) rfl .nil) (.cons 0 rfl .nil) ?_
        intro i hI S' M' hS hM
        obtain ⟨hI1, hI2⟩ := hI
        try dsimp only at hS hM
        simp only [List.cons_append, List.nil_append] at hS hM
        subst hS hM
        try dsimp only
        refine W.seq ?_
        refine W.seq ?_
        refine W.region ?_
        refine L.op1 rfl rfl (GSpec.plain rfl (spec_move rfl (Get.tmp rfl))) ?_
        refine L.op1 rfl rfl (GSpec.plain rfl (spec_fieldAddr (f := 3) (off' := 3) rfl Tryd.underlying25 rfl Tryd.sizeOf23 (Get.tmp rfl) rfl)) ?_
        refine L.op1 rfl rfl (GSpec.plain rfl (spec_load1 (k := 0) rfl Tryd.isAgg23 (Get.tmp rfl) rfl rfl)) ?_
        refine L.op1 rfl rfl (GSpec.plain rfl (spec_len rfl Tryd.underlying23 (Get.tmp rfl))) ?_
        refine L.op1 rfl rfl (GSpec.plain rfl (spec_lss rfl (Get.tmp rfl) (Get.tmp rfl))) ?_
        refine L.nil ?_
        refine N.thenW ?_
        refine W.cond (Get.tmp rfl) (fun h5 => ?_) (fun h5 => ?_)
        · have ph5 := h5; try simp only [decide_eq_true_eq, decide_eq_false_iff_not, Bool.and_eq_true, Bool.or_eq_true, Bool.and_eq_false_iff, Bool.or_eq_false_iff, Bool.not_eq_true', Bool.not_eq_false', Bool.not_true, Bool.not_false, Int.not_lt, Int.not_le] at ph5
          refine W.skip ?_
          refine N.thenW ?_
          refine W.seq ?_
          refine W.block ?_
          refine W.seq ?_
          refine W.region ?_
          refine L.op1 rfl rfl (GSpec.plain rfl (spec_fieldAddr (f := 3) (off' := 3) rfl Tryd.underlying25 rfl Tryd.sizeOf23 (Get.tmp rfl) rfl)) ?_
          refine L.op1 rfl rfl (GSpec.plain rfl (spec_load1 (k := 0) rfl Tryd.isAgg23 (Get.tmp rfl) rfl rfl)) ?_
          refine L.op1 rfl rfl (GSpec.plain rfl (spec_move rfl (Get.tmp rfl))) ?_
          refine L.op1 rfl rfl (GSpec.plain rfl (spec_indexAddrD (E := eBk) rfl Tryd.underlying23 Tryd.sizeOf54 (fun _ => rfl) (Get.tmp rfl) (Get.tmp rfl) (by (first | omega | (simp only [Int.toNat_natCast]; omega))))) ?_
          refine L.op1 rfl rfl (GSpec.plain rfl (spec_fieldAddrP (f := 0) rfl Tryd.underlying54 rfl Tryd.sizeOf9 (Get.tmp rfl) rfl rfl)) ?_
          refine L.op1 rfl rfl (GSpec.plain rfl (spec_loadP1 rfl Tryd.isAgg9 (Get.tmp rfl))) ?_
          refine L.op1 rfl rfl (GSpec.plain rfl (spec_call rfl Tryd.call34 (isName2_ok _) (.cons (Get.tmp rfl) .nil))) ?_
          refine L.op1 rfl rfl (GSpec.plain rfl (spec_not rfl (Get.tmp rfl))) ?_
          refine L.nil ?_
          refine N.thenW ?_
          refine W.cond (Get.tmp rfl) (fun h6 => ?_) (fun h6 => ?_)
          · refine W.seq ?_
            refine W.region ?_
            refine L.op1 rfl rfl (GSpec.plain rfl (spec_assign rfl (Get.cint rfl))) ?_
            refine L.nil ?_
            refine N.thenW ?_
            refine W.ret ?_
            refine N.ret () rfl (.tmp (t := 2) (Get.tmp rfl) .nil) (res1 (eqI ?_)) .nil (fun _ _ h => h)
            unfold validC; rw [if_neg hn, if_neg hl, if_neg (by rw [hf0]; simp), if_pos (any_yes (p := fun b : Bk => !nameB b.name) (i := i) (by omega) (by simpa using h6))]
          · refine W.skip ?_
            refine N.blockNormal ?_
            refine N.thenW ?_
            refine W.region ?_
            refine L.op1 rfl rfl (GSpec.plain rfl (spec_move rfl (Get.tmp rfl))) ?_
            first | refine L.op1 rfl rfl (GSpec.plain rfl (fit_i64 (by (first | omega | (simp only [Int.toNat_natCast]; omega))) (by (first | omega | (simp only [Int.toNat_natCast]; omega))) (spec_add rfl (Get.tmp rfl) (Get.cint rfl)))) ?_ | refine L.op1 rfl rfl (GSpec.plain rfl (spec_add rfl (Get.tmp rfl) (Get.cint rfl))) ?_
            refine L.op1 rfl rfl (GSpec.plain rfl (spec_assign rfl (Get.tmp rfl))) ?_
            refine L.nil ?_
            refine N.roundK (i + 1) ?hI2 ?hmu2 ?hs2 ?hk2 ?hp2
            case hs2 => exact (.cons (t := 5) rfl .nil)
            case hk2 => exact (.cons (t := 1) rfl .nil)
            case hp2 => exact (.cons 0 rfl .nil)
            case hI2 => exact ⟨by omega, upto hI2 (by simpa using h6)⟩
            case hmu2 => omega
        · have ph5 := h5; try simp only [decide_eq_true_eq, decide_eq_false_iff_not, Bool.and_eq_true, Bool.or_eq_true, Bool.and_eq_false_iff, Bool.or_eq_false_iff, Bool.not_eq_true', Bool.not_eq_false', Bool.not_true, Bool.not_false, Int.not_lt, Int.not_le] at ph5
          refine W.exit ?_
          refine N.thenExit ?_
          refine N.thenExit ?_
          refine N.blockExit ?_
          refine N.thenW ?_
          have hbk : (c.blocks.any fun b => !nameB b.name) = false := any_no (p := fun b : Bk => !nameB b.name) fun j hj => hI2 j (by omega)
          refine W.keep (.cons (t := 1) rfl .nil) .refl ?_
          refine W.seq ?_
          refine W.seq ?_
          refine W.region ?_
          refine L.op1 rfl rfl (GSpec.plain rfl (spec_assign rfl (Get.cint rfl))) ?_
          refine L.nil ?_
          refine N.thenW ?_
          refine W.block ?_
          refine W.loopK (σ := Nat) (.cons (t := 1) rfl .nil) (fun z => [(6, Rp.int .i64 (z : Nat))]) (fun z => []) (fun z => z ≤ c.fields.length ∧ ∀ j : Nat, j < z → ∀ k, k < j → (c.fields.getD j default).name ≠ (c.fields.getD k default).name) (fun z => c.fields.length - z) 0 ⟨Nat.zero_le _, fun j hj => by omega⟩ (.cons (t := 6) rfl .nil) (.cons 0 rfl .nil) ?_
          intro i hI S' M' hS hM
          obtain ⟨hI1, hI2⟩ := hI
          try dsimp only at hS hM
          simp only [List.cons_append, List.nil_append] at hS hM
          subst hS hM
          try dsimp only
          refine W.seq ?_
          refine W.seq ?_
          refine W.region ?_
          refine L.op1 rfl rfl (GSpec.plain rfl (spec_move rfl (Get.tmp rfl))) ?_
          refine L.op1 rfl rfl (GSpec.plain rfl (spec_fieldAddr (f := 2) (off' := 2) rfl Tryd.underlying25 rfl Tryd.sizeOf22 (Get.tmp rfl) rfl)) ?_
          refine L.op1 rfl rfl (GSpec.plain rfl (spec_load1 (k := 0) rfl Tryd.isAgg22 (Get.tmp rfl) rfl rfl)) ?_
          refine L.op1 rfl rfl (GSpec.plain rfl (spec_len rfl Tryd.underlying22 (Get.tmp rfl))) ?_
          refine L.op1 rfl rfl (GSpec.plain rfl (spec_lss rfl (Get.tmp rfl) (Get.tmp rfl))) ?_
          refine L.nil ?_
          refine N.thenW ?_
          refine W.cond (Get.tmp rfl) (fun h7 => ?_) (fun h7 => ?_)
          · have ph7 := h7; try simp only [decide_eq_true_eq, decide_eq_false_iff_not, Bool.and_eq_true, Bool.or_eq_true, Bool.and_eq_false_iff, Bool.or_eq_false_iff, Bool.not_eq_true', Bool.not_eq_false', Bool.not_true, Bool.not_false, Int.not_lt, Int.not_le] at ph7
            refine W.skip ?_
            refine N.thenW ?_
            refine W.seq ?_
            refine W.block ?_
            refine W.seq ?_
            apply W.any 11 mixed (by kernel_rfl)
            · apply Head.one rfl rfl (GSpec.plain rfl (spec_fieldAddr (f := 2) (off' := 2) rfl Tryd.underlying25 rfl Tryd.sizeOf22 (Get.tmp rfl) rfl))
              apply Head.one rfl rfl (GSpec.plain rfl (spec_load1 (k := 0) rfl Tryd.isAgg22 (Get.tmp rfl) rfl rfl))
              apply Head.one rfl rfl (GSpec.plain rfl (spec_move rfl (Get.tmp rfl)))
              apply Head.one rfl rfl (GSpec.plain rfl (spec_slice (E := eF) rfl Tryd.underlying22 Tryd.sizeOf27 (fun _ => rfl) (Get.tmp rfl) .none (.some (Get.tmp rfl) (by (first | omega | (simp only [Int.toNat_natCast]; omega)))) (by (first | omega | (simp only [Int.toNat_natCast]; omega)))))
              apply Head.one rfl rfl (GSpec.plain rfl (spec_fieldAddr (f := 2) (off' := 2) rfl Tryd.underlying25 rfl Tryd.sizeOf22 (Get.tmp rfl) rfl))
              apply Head.one rfl rfl (GSpec.plain rfl (spec_load1 (k := 0) rfl Tryd.isAgg22 (Get.tmp rfl) rfl rfl))
              apply Head.one rfl rfl (GSpec.plain rfl (spec_move rfl (Get.tmp rfl)))
              apply Head.one rfl rfl (GSpec.plain rfl (spec_indexAddrD (E := eF) rfl Tryd.underlying22 Tryd.sizeOf27 (fun _ => rfl) (Get.tmp rfl) (Get.tmp rfl) (by (first | omega | (simp only [Int.toNat_natCast]; omega)))))
              apply Head.one rfl rfl (GSpec.plain rfl (spec_fieldAddrP (f := 0) rfl Tryd.underlying27 rfl Tryd.sizeOf9 (Get.tmp rfl) rfl rfl))
              apply Head.one rfl rfl (GSpec.plain rfl (spec_loadP1 rfl Tryd.isAgg9 (Get.tmp rfl)))
              apply Head.one rfl rfl (GSpec.plain rfl (spec_call rfl Tryd.call41 (field_ok _ _) (.cons (Get.tmp rfl) (.cons (Get.tmp rfl) .nil))))
              exact Head.nil
            refine Fin.one ?_
            refine Fin.one ?_
            refine Fin.one ?_
            refine Fin.one ?_
            refine Fin.one ?_
            refine Fin.one ?_
            refine Fin.one ?_
            refine Fin.one ?_
            refine Fin.one ?_
            refine Fin.one ?_
            refine Fin.one ?_
            refine Fin.nil ?_
            refine L.nil ?_
            refine N.thenW ?_
            refine W.cond (Get.tmp rfl) (fun h8 => ?_) (fun h8 => ?_)
            · have hr : repB Fd.name c.fields = true := by have h := h8; simp only [Int.toNat_natCast, Nat.sub_zero, List.drop_zero] at h; obtain ⟨k, hk, e⟩ := (hasF_take (l := c.fields) (i := i) (by omega)).1 h; exact rep_yes (by omega) hk e
              refine W.seq ?_
              refine W.region ?_
              refine L.op1 rfl rfl (GSpec.plain rfl (spec_assign rfl (Get.cint rfl))) ?_
              refine L.nil ?_
              refine N.thenW ?_
              refine W.ret ?_
              refine N.ret () rfl (.tmp (t := 2) (Get.tmp rfl) .nil) (res1 (eqI ?_)) .nil (fun _ _ h => h)
              unfold validC; rw [if_neg hn, if_neg hl, if_neg (by rw [hf0]; simp), if_neg (by rw [hbk]; simp), if_pos (.inl hr)]
            · have hr : ∀ k, k < i → (c.fields.getD i default).name ≠ (c.fields.getD k default).name := fun k hk e => by have h := h8; simp only [Int.toNat_natCast, Nat.sub_zero, List.drop_zero] at h; rw [(hasF_take (l := c.fields) (i := i) (by omega)).2 ⟨k, hk, e⟩] at h; cases h
              refine W.skip ?_
              refine N.blockNormal ?_
              refine N.thenW ?_
              refine W.region ?_
              refine L.op1 rfl rfl (GSpec.plain rfl (spec_move rfl (Get.tmp rfl))) ?_
              first | refine L.op1 rfl rfl (GSpec.plain rfl (fit_i64 (by (first | omega | (simp only [Int.toNat_natCast]; omega))) (by (first | omega | (simp only [Int.toNat_natCast]; omega))) (spec_add rfl (Get.tmp rfl) (Get.cint rfl)))) ?_ | refine L.op1 rfl rfl (GSpec.plain rfl (spec_add rfl (Get.tmp rfl) (Get.cint rfl))) ?_
              refine L.op1 rfl rfl (GSpec.plain rfl (spec_assign rfl (Get.tmp rfl))) ?_
              refine L.nil ?_
              refine N.roundK (i + 1) ?hI3 ?hmu3 ?hs3 ?hk3 ?hp3
              case hs3 => exact (.cons (t := 6) rfl .nil)
              case hk3 => exact (.cons (t := 1) rfl .nil)
              case hp3 => exact (.cons 0 rfl .nil)
              case hI3 => exact ⟨by omega, upto hI2 hr⟩
              case hmu3 => omega
          · have ph7 := h7; try simp only [decide_eq_true_eq, decide_eq_false_iff_not, Bool.and_eq_true, Bool.or_eq_true, Bool.and_eq_false_iff, Bool.or_eq_false_iff, Bool.not_eq_true', Bool.not_eq_false', Bool.not_true, Bool.not_false, Int.not_lt, Int.not_le] at ph7
            refine W.exit ?_
            refine N.thenExit ?_
            refine N.thenExit ?_
            refine N.blockExit ?_
            refine N.thenW ?_
            have hrf : repB Fd.name c.fields = false := rep_no fun a ha b hb => hI2 a (by omega) b hb
            refine W.keep (.cons (t := 1) rfl .nil) .refl ?_
            refine W.seq ?_
            refine W.seq ?_
            refine W.region ?_
            refine L.op1 rfl rfl (GSpec.plain rfl (spec_assign rfl (Get.cint rfl))) ?_
            refine L.nil ?_
            refine N.thenW ?_
            refine W.block ?_
            refine W.loopK (σ := Nat) (.cons (t := 1) rfl .nil) (fun z => [(7, Rp.int .i64 (z : Nat))]) (fun z => []) (fun z => z ≤ c.blocks.length ∧ ∀ j : Nat, j < z → ∀ k, k < j → (c.blocks.getD j default).name ≠ (c.blocks.getD k default).name) (fun z => c.blocks.length - z) 0 ⟨Nat.zero_le _, fun j hj => by omega⟩ (.cons (t := 7) rfl .nil) (.cons 0 rfl .nil) ?_
            intro i hI S' M' hS hM
            obtain ⟨hI1, hI2⟩ := hI
            try dsimp only at hS hM
            simp only [List.cons_append, List.nil_append] at hS hM
            subst hS hM
            try dsimp only
            refine W.seq ?_
            refine W.seq ?_
            refine W.region ?_
            refine L.op1 rfl rfl (GSpec.plain rfl (spec_move rfl (Get.tmp rfl))) ?_
            refine L.op1 rfl rfl (GSpec.plain rfl (spec_fieldAddr (f := 3) (off' := 3) rfl Tryd.underlying25 rfl Tryd.sizeOf23 (Get.tmp rfl) rfl)) ?_
            refine L.op1 rfl rfl (GSpec.plain rfl (spec_load1 (k := 0) rfl Tryd.isAgg23 (Get.tmp rfl) rfl rfl)) ?_
            refine L.op1 rfl rfl (GSpec.plain rfl (spec_len rfl Tryd.underlying23 (Get.tmp rfl))) ?_
            refine L.op1 rfl rfl (GSpec.plain rfl (spec_lss rfl (Get.tmp rfl) (Get.tmp rfl))) ?_
            refine L.nil ?_
            refine N.thenW ?_
            refine W.cond (Get.tmp rfl) (fun h9 => ?_) (fun h9 => ?_)
            · have ph9 := h9; try simp only [decide_eq_true_eq, decide_eq_false_iff_not, Bool.and_eq_true, Bool.or_eq_true, Bool.and_eq_false_iff, Bool.or_eq_false_iff, Bool.not_eq_true', Bool.not_eq_false', Bool.not_true, Bool.not_false, Int.not_lt, Int.not_le] at ph9
              refine W.skip ?_
              refine N.thenW ?_
              refine W.seq ?_
              refine W.block ?_
              refine W.seq ?_
              apply W.any 12 mixed (by kernel_rfl)
              · apply Head.one rfl rfl (GSpec.plain rfl (spec_fieldAddr (f := 3) (off' := 3) rfl Tryd.underlying25 rfl Tryd.sizeOf23 (Get.tmp rfl) rfl))
                apply Head.one rfl rfl (GSpec.plain rfl (spec_load1 (k := 0) rfl Tryd.isAgg23 (Get.tmp rfl) rfl rfl))
                apply Head.one rfl rfl (GSpec.plain rfl (spec_move rfl (Get.tmp rfl)))
                apply Head.one rfl rfl (GSpec.plain rfl (spec_slice (E := eBk) rfl Tryd.underlying23 Tryd.sizeOf54 (fun _ => rfl) (Get.tmp rfl) .none (.some (Get.tmp rfl) (by (first | omega | (simp only [Int.toNat_natCast]; omega)))) (by (first | omega | (simp only [Int.toNat_natCast]; omega)))))
                apply Head.one rfl rfl (GSpec.plain rfl (spec_fieldAddr (f := 3) (off' := 3) rfl Tryd.underlying25 rfl Tryd.sizeOf23 (Get.tmp rfl) rfl))
                apply Head.one rfl rfl (GSpec.plain rfl (spec_load1 (k := 0) rfl Tryd.isAgg23 (Get.tmp rfl) rfl rfl))
                apply Head.one rfl rfl (GSpec.plain rfl (spec_move rfl (Get.tmp rfl)))
                apply Head.one rfl rfl (GSpec.plain rfl (spec_indexAddrD (E := eBk) rfl Tryd.underlying23 Tryd.sizeOf54 (fun _ => rfl) (Get.tmp rfl) (Get.tmp rfl) (by (first | omega | (simp only [Int.toNat_natCast]; omega)))))
                apply Head.one rfl rfl (GSpec.plain rfl (spec_fieldAddrP (f := 0) rfl Tryd.underlying54 rfl Tryd.sizeOf9 (Get.tmp rfl) rfl rfl))
                apply Head.one rfl rfl (GSpec.plain rfl (spec_loadP1 rfl Tryd.isAgg9 (Get.tmp rfl)))
                apply Head.one rfl rfl (GSpec.plain rfl (spec_call rfl Tryd.call42 (block_ok _ _) (.cons (Get.tmp rfl) (.cons (Get.tmp rfl) .nil))))
                apply Head.one rfl rfl (GSpec.plain rfl (spec_geq rfl (Get.tmp rfl) (Get.cint rfl)))
                exact Head.nil
              refine Fin.one ?_
              refine Fin.one ?_
              refine Fin.one ?_
              refine Fin.one ?_
              refine Fin.one ?_
              refine Fin.one ?_
              refine Fin.one ?_
              refine Fin.one ?_
              refine Fin.one ?_
              refine Fin.one ?_
              refine Fin.one ?_
              refine Fin.one ?_
              refine Fin.nil ?_
              refine L.nil ?_
              refine N.thenW ?_
              refine W.cond (Get.tmp rfl) (fun h10 => ?_) (fun h10 => ?_)
              · have hr2 : repB Bk.name c.blocks = true := by have h := of_decide_eq_true h10; simp only [Int.toNat_natCast, Nat.sub_zero, List.drop_zero] at h; obtain ⟨k, hk, e⟩ := (blkI_take (l := c.blocks) (i := i) (by omega)).1 h; exact rep_yes (by omega) hk e
                refine W.seq ?_
                refine W.region ?_
                refine L.op1 rfl rfl (GSpec.plain rfl (spec_assign rfl (Get.cint rfl))) ?_
                refine L.nil ?_
                refine N.thenW ?_
                refine W.ret ?_
                refine N.ret () rfl (.tmp (t := 2) (Get.tmp rfl) .nil) (res1 (eqI ?_)) .nil (fun _ _ h => h)
                unfold validC; rw [if_neg hn, if_neg hl, if_neg (by rw [hf0]; simp), if_neg (by rw [hbk]; simp), if_pos (.inr hr2)]
              · have hr2 : ∀ k, k < i → (c.blocks.getD i default).name ≠ (c.blocks.getD k default).name := fun k hk e => by have h := of_decide_eq_false h10; simp only [Int.toNat_natCast, Nat.sub_zero, List.drop_zero] at h; exact h ((blkI_take (l := c.blocks) (i := i) (by omega)).2 ⟨k, hk, e⟩)
                refine W.skip ?_
                refine N.blockNormal ?_
                refine N.thenW ?_
                refine W.region ?_
                refine L.op1 rfl rfl (GSpec.plain rfl (spec_move rfl (Get.tmp rfl))) ?_
                first | refine L.op1 rfl rfl (GSpec.plain rfl (fit_i64 (by (first | omega | (simp only [Int.toNat_natCast]; omega))) (by (first | omega | (simp only [Int.toNat_natCast]; omega))) (spec_add rfl (Get.tmp rfl) (Get.cint rfl)))) ?_ | refine L.op1 rfl rfl (GSpec.plain rfl (spec_add rfl (Get.tmp rfl) (Get.cint rfl))) ?_
                refine L.op1 rfl rfl (GSpec.plain rfl (spec_assign rfl (Get.tmp rfl))) ?_
                refine L.nil ?_
                refine N.roundK (i + 1) ?hI4 ?hmu4 ?hs4 ?hk4 ?hp4
                case hs4 => exact (.cons (t := 7) rfl .nil)
                case hk4 => exact (.cons (t := 1) rfl .nil)
                case hp4 => exact (.cons 0 rfl .nil)
                case hI4 => exact ⟨by omega, upto hI2 hr2⟩
                case hmu4 => omega
            · have ph9 := h9; try simp only [decide_eq_true_eq, decide_eq_false_iff_not, Bool.and_eq_true, Bool.or_eq_true, Bool.and_eq_false_iff, Bool.or_eq_false_iff, Bool.not_eq_true', Bool.not_eq_false', Bool.not_true, Bool.not_false, Int.not_lt, Int.not_le] at ph9
              refine W.exit ?_
              refine N.thenExit ?_
              refine N.thenExit ?_
              refine N.blockExit ?_
              refine N.thenW ?_
              have hrb : repB Bk.name c.blocks = false := rep_no fun a ha b hb => hI2 a (by omega) b hb
              refine W.keep .nil .refl ?_
              refine W.seq ?_
              refine W.region ?_
              refine L.op1 rfl rfl (GSpec.plain rfl (spec_assign rfl (Get.cint rfl))) ?_
              refine L.nil ?_
              refine N.thenW ?_
              refine W.ret ?_
              refine N.ret () rfl (.tmp (t := 2) (Get.tmp rfl) .nil) (res1 (eqI ?_)) .nil (fun _ _ h => h)
              unfold validC; rw [if_neg hn, if_neg hl, if_neg (by rw [hf0]; simp), if_neg (by rw [hbk]; simp), if_neg (by rw [hrf, hrb]; simp)]

end Go.Proofs.YtcabngjnmipflaaDoor
/- Sizes of trees, and finding classes; as data. -/
namespace Go.Proofs.YtcabngjnmipflaaDoor
open Go.Sim
/-- No list of the expression is too long to be copied. -/
inductive ExOk : Ex → Prop
  | mk (e : Ex) (h : e.args.length * 56 ≤ 140737488355328) (hs : ∀ a ∈ e.args, ExOk a) : ExOk e
inductive ItOk : It → Prop
  | mk (x : It) (hx : ExOk x.expr) (hw : x.weights.length * 32 ≤ 140737488355328) (hi : x.items.length * 216 ≤ 140737488355328) (he : x.els.length * 216 ≤ 140737488355328) (hb : x.before.length * 16 ≤ 140737488355328) (ha : x.after.length * 16 ≤ 140737488355328)
      (his : ∀ a ∈ x.items, ItOk a) (hes : ∀ a ∈ x.els, ItOk a) : ItOk x
def ItsOk (l : List It) : Prop := l.length * 216 ≤ 140737488355328 ∧ ∀ a ∈ l, ItOk a
def BkOk (b : Bk) : Prop := ItsOk b.items
def ClOk (c : Cl) : Prop := c.fields.length * 48 ≤ 140737488355328 ∧ c.blocks.length * 40 ≤ 140737488355328 ∧ ∀ b ∈ c.blocks, BkOk b
/-- The class with a name. -/
def findI (src : List Cl) (s : List UInt8) : Int := idxI (fun c => c.name == s) src
def findC (src : List Cl) (s : List UInt8) : Cl × Bool := if 0 ≤ findI src s then (src.getD (findI src s).toNat default, true) else (default, false)
theorem find_yes {src : List Cl} {s : List UInt8} {i : Nat} (hi : i < src.length) (h : (src.getD i default).name = s) (hn : ∀ j, j < i → (src.getD j default).name ≠ s) : findC src s = (src.getD i default, true) := by
  have := idx_yes (p := fun c : Cl => c.name == s) hi (by simpa using h) (fun j hj => by simpa using hn j hj)
  unfold findC findI
  rw [this, if_pos (by omega)]; simp
theorem find_no {src : List Cl} {s : List UInt8} (hn : ∀ j, j < src.length → (src.getD j default).name ≠ s) : findC src s = (default, false) := by
  have := idx_no (p := fun c : Cl => c.name == s) (l := src) (fun j hj => by simpa using hn j hj)
  unfold findC findI
  rw [this, if_neg (by omega)]
theorem find_cases (src : List Cl) (s : List UInt8) : (∃ i, i < src.length ∧ (src.getD i default).name = s ∧ (∀ j, j < i → (src.getD j default).name ≠ s) ∧ findC src s = (src.getD i default, true)) ∨ ((∀ j, j < src.length → (src.getD j default).name ≠ s) ∧ findC src s = (default, false)) := by
  rcases idx_cases (fun c : Cl => c.name == s) src with ⟨i, h1, h2, h3, _⟩ | ⟨h1, _⟩
  · have h2' : (src.getD i default).name = s := by simpa using h2
    have h3' : ∀ j, j < i → (src.getD j default).name ≠ s := fun j hj => by simpa using h3 j hj
    exact .inl ⟨i, h1, h2', h3', find_yes h1 h2' h3'⟩
  · have h1' : ∀ j, j < src.length → (src.getD j default).name ≠ s := fun j hj => by simpa using h1 j hj
    exact .inr ⟨h1', find_no h1'⟩
theorem find_mem {src : List Cl} {s : List UInt8} (h : (findC src s).2 = true) : (findC src s).1 ∈ src ∧ (findC src s).1.name = s := by
  rcases find_cases src s with ⟨i, h1, h2, _, h4⟩ | ⟨_, h4⟩
  · rw [h4]; exact ⟨getD_mem' h1, h2⟩
  · rw [h4] at h; cases h
theorem eC_default : eC (default : Cl) = [Rp.str [], Rp.str [], Rp.slice eF [], Rp.slice eBk []] := rfl
end Go.Proofs.YtcabngjnmipflaaDoor
set_option linter.unusedSimpArgs false
set_option maxRecDepth 8000
set_option linter.unusedVariables false
namespace Go.Proofs.YtcabngjnmipflaaDoor
open Go.Sim
theorem cloneF_ok (l : List Fd) (hl : l.length * 48 ≤ 140737488355328) : CallT Tryd.prog 65 [Rp.slice eF l] [] (.one (Rp.slice eF l)) := by
  refine W.enter (fn := Tryd.f65) (n := 8) Tryd.func65 rfl Tryd.ntmps65 rfl (fun w₀ C₀ => ?_)
  simp only [argS]
  refine W.seq ?_
  refine W.region ?_
  refine L.op1 rfl rfl (GSpec.plain rfl (spec_assign rfl (Get.cnil (E := eF)))) ?_
  refine L.nil ?_
  refine N.thenW ?_
  refine W.seq ?_
  refine W.seq ?_
  refine W.region ?_
  refine L.op1 rfl rfl (GSpec.plain rfl (spec_move rfl (Get.tmp rfl))) ?_
  refine L.op rfl rfl (GSpec.plain rfl (spec_eqlNil rfl Tryd.underlying22 (Get.tmp rfl))) (fun bn4 => ?_)
  refine L.nil ?_
  refine N.thenW ?_
  refine W.cond (Get.tmp rfl) (fun h1 => ?_) (fun h1 => ?_)
  · have ph1 := h1; try simp only [decide_eq_true_eq, decide_eq_false_iff_not, Bool.and_eq_true, Bool.or_eq_true, Bool.and_eq_false_iff, Bool.or_eq_false_iff, Bool.not_eq_true', Bool.not_eq_false', Bool.not_true, Bool.not_false, Int.not_lt, Int.not_le] at ph1
    refine W.seq ?_
    refine W.region ?_
    refine L.op1 rfl rfl (GSpec.plain rfl (spec_assign rfl (Get.cnil (E := eF)))) ?_
    refine L.nil ?_
    refine N.thenW ?_
    refine W.ret ?_
    refine N.ret () rfl (.tmp (t := 2) (Get.tmp rfl) .nil) (res1 (eqSl ?_)) .nil (fun _ _ h => h)
    exact (bn4.2 h1).symm
  · have ph1 := h1; try simp only [decide_eq_true_eq, decide_eq_false_iff_not, Bool.and_eq_true, Bool.or_eq_true, Bool.and_eq_false_iff, Bool.or_eq_false_iff, Bool.not_eq_true', Bool.not_eq_false', Bool.not_true, Bool.not_false, Int.not_lt, Int.not_le] at ph1
    refine W.skip ?_
    refine N.thenW ?_
    refine W.seq ?_
    refine W.region ?_
    refine L.op rfl rfl (GSpec.plain rfl (spec_buildSlice0 (E := eF) rfl Tryd.underlying22 Tryd.sizeOf27)) (fun v5 => ?_)
    refine L.op1 rfl rfl (GSpec.plain rfl (spec_move rfl (Get.tmp rfl))) ?_
    refine L.append (k := 0) (E := eF) rfl rfl rfl rfl Tryd.underlying22 ti27 rfl (by decide) (fun _ => rfl) (Get.tmp rfl) (Get.tmp rfl) rfl (by (first | omega | (simp; omega))) (by (first | omega | (simp; omega))) (fun v7 => ?_)
    refine L.op1 rfl rfl (GSpec.plain rfl (spec_assign rfl (Get.tmp rfl))) ?_
    refine L.nil ?_
    refine N.thenW ?_
    refine W.keep (.cons (t := 2) rfl .nil) .refl ?_
    refine W.ret ?_
    refine N.pub (t := 2) (k := 0) rfl rfl (fun _ => rfl) ?_
    refine N.ret () rfl (.tmp (t := 2) (Get.tmp rfl) .nil) (res1 (eqSl ?_)) .nil (fun _ _ h => h)
    simp

theorem cloneW_ok (l : List Wt) (hl : l.length * 32 ≤ 140737488355328) : CallT Tryd.prog 83 [Rp.slice eW l] [] (.one (Rp.slice eW l)) := by
  refine W.enter (fn := Tryd.f83) (n := 8) Tryd.func83 rfl Tryd.ntmps83 rfl (fun w₀ C₀ => ?_)
  simp only [argS]
  refine W.seq ?_
  refine W.region ?_
  refine L.op1 rfl rfl (GSpec.plain rfl (spec_assign rfl (Get.cnil (E := eW)))) ?_
  refine L.nil ?_
  refine N.thenW ?_
  refine W.seq ?_
  refine W.seq ?_
  refine W.region ?_
  refine L.op1 rfl rfl (GSpec.plain rfl (spec_move rfl (Get.tmp rfl))) ?_
  refine L.op rfl rfl (GSpec.plain rfl (spec_eqlNil rfl Tryd.underlying84 (Get.tmp rfl))) (fun bn4 => ?_)
  refine L.nil ?_
  refine N.thenW ?_
  refine W.cond (Get.tmp rfl) (fun h1 => ?_) (fun h1 => ?_)
  · have ph1 := h1; try simp only [decide_eq_true_eq, decide_eq_false_iff_not, Bool.and_eq_true, Bool.or_eq_true, Bool.and_eq_false_iff, Bool.or_eq_false_iff, Bool.not_eq_true', Bool.not_eq_false', Bool.not_true, Bool.not_false, Int.not_lt, Int.not_le] at ph1
    refine W.seq ?_
    refine W.region ?_
    refine L.op1 rfl rfl (GSpec.plain rfl (spec_assign rfl (Get.cnil (E := eW)))) ?_
    refine L.nil ?_
    refine N.thenW ?_
    refine W.ret ?_
    refine N.ret () rfl (.tmp (t := 2) (Get.tmp rfl) .nil) (res1 (eqSl ?_)) .nil (fun _ _ h => h)
    exact (bn4.2 h1).symm
  · have ph1 := h1; try simp only [decide_eq_true_eq, decide_eq_false_iff_not, Bool.and_eq_true, Bool.or_eq_true, Bool.and_eq_false_iff, Bool.or_eq_false_iff, Bool.not_eq_true', Bool.not_eq_false', Bool.not_true, Bool.not_false, Int.not_lt, Int.not_le] at ph1
    refine W.skip ?_
    refine N.thenW ?_
    refine W.seq ?_
    refine W.region ?_
    refine L.op rfl rfl (GSpec.plain rfl (spec_buildSlice0 (E := eW) rfl Tryd.underlying84 Tryd.sizeOf109)) (fun v5 => ?_)
    refine L.op1 rfl rfl (GSpec.plain rfl (spec_move rfl (Get.tmp rfl))) ?_
    refine L.append (k := 0) (E := eW) rfl rfl rfl rfl Tryd.underlying84 ti109 rfl (by decide) (fun _ => rfl) (Get.tmp rfl) (Get.tmp rfl) rfl (by (first | omega | (simp; omega))) (by (first | omega | (simp; omega))) (fun v7 => ?_)
    refine L.op1 rfl rfl (GSpec.plain rfl (spec_assign rfl (Get.tmp rfl))) ?_
    refine L.nil ?_
    refine N.thenW ?_
    refine W.keep (.cons (t := 2) rfl .nil) .refl ?_
    refine W.ret ?_
    refine N.pub (t := 2) (k := 0) rfl rfl (fun _ => rfl) ?_
    refine N.ret () rfl (.tmp (t := 2) (Get.tmp rfl) .nil) (res1 (eqSl ?_)) .nil (fun _ _ h => h)
    simp

theorem cloneS_ok (l : List (List UInt8)) (hl : l.length * 16 ≤ 140737488355328) : CallT Tryd.prog 84 [Rp.slice eS l] [] (.one (Rp.slice eS l)) := by
  refine W.enter (fn := Tryd.f84) (n := 8) Tryd.func84 rfl Tryd.ntmps84 rfl (fun w₀ C₀ => ?_)
  simp only [argS]
  refine W.seq ?_
  refine W.region ?_
  refine L.op1 rfl rfl (GSpec.plain rfl (spec_assign rfl (Get.cnil (E := eS)))) ?_
  refine L.nil ?_
  refine N.thenW ?_
  refine W.seq ?_
  refine W.seq ?_
  refine W.region ?_
  refine L.op1 rfl rfl (GSpec.plain rfl (spec_move rfl (Get.tmp rfl))) ?_
  refine L.op rfl rfl (GSpec.plain rfl (spec_eqlNil rfl Tryd.underlying40 (Get.tmp rfl))) (fun bn4 => ?_)
  refine L.nil ?_
  refine N.thenW ?_
  refine W.cond (Get.tmp rfl) (fun h1 => ?_) (fun h1 => ?_)
  · have ph1 := h1; try simp only [decide_eq_true_eq, decide_eq_false_iff_not, Bool.and_eq_true, Bool.or_eq_true, Bool.and_eq_false_iff, Bool.or_eq_false_iff, Bool.not_eq_true', Bool.not_eq_false', Bool.not_true, Bool.not_false, Int.not_lt, Int.not_le] at ph1
    refine W.seq ?_
    refine W.region ?_
    refine L.op1 rfl rfl (GSpec.plain rfl (spec_assign rfl (Get.cnil (E := eS)))) ?_
    refine L.nil ?_
    refine N.thenW ?_
    refine W.ret ?_
    refine N.ret () rfl (.tmp (t := 2) (Get.tmp rfl) .nil) (res1 (eqSl ?_)) .nil (fun _ _ h => h)
    exact (bn4.2 h1).symm
  · have ph1 := h1; try simp only [decide_eq_true_eq, decide_eq_false_iff_not, Bool.and_eq_true, Bool.or_eq_true, Bool.and_eq_false_iff, Bool.or_eq_false_iff, Bool.not_eq_true', Bool.not_eq_false', Bool.not_true, Bool.not_false, Int.not_lt, Int.not_le] at ph1
    refine W.skip ?_
    refine N.thenW ?_
    refine W.seq ?_
    refine W.region ?_
    refine L.op rfl rfl (GSpec.plain rfl (spec_buildSlice0 (E := eS) rfl Tryd.underlying40 Tryd.sizeOf9)) (fun v5 => ?_)
    refine L.op1 rfl rfl (GSpec.plain rfl (spec_move rfl (Get.tmp rfl))) ?_
    refine L.append (k := 0) (E := eS) rfl rfl rfl rfl Tryd.underlying40 ti9 rfl (by decide) (fun _ => rfl) (Get.tmp rfl) (Get.tmp rfl) rfl (by (first | omega | (simp; omega))) (by (first | omega | (simp; omega))) (fun v7 => ?_)
    refine L.op1 rfl rfl (GSpec.plain rfl (spec_assign rfl (Get.tmp rfl))) ?_
    refine L.nil ?_
    refine N.thenW ?_
    refine W.keep (.cons (t := 2) rfl .nil) .refl ?_
    refine W.ret ?_
    refine N.pub (t := 2) (k := 0) rfl rfl (fun _ => rfl) ?_
    refine N.ret () rfl (.tmp (t := 2) (Get.tmp rfl) .nil) (res1 (eqSl ?_)) .nil (fun _ _ h => h)
    simp

end Go.Proofs.YtcabngjnmipflaaDoor
set_option linter.unusedSimpArgs false
set_option maxRecDepth 8000
set_option linter.unusedVariables false
namespace Go.Proofs.YtcabngjnmipflaaDoor
open Go.Sim
theorem expr_ok  : ∀ (e : Ex), ExOk e → CallT Tryd.prog 82 [Rp.agg (eX e)] [] (.one (Rp.agg (eX e))) := by
  refine Ex.ind fun e ih hok => ?_
  obtain ⟨_, hlen, hsub⟩ := hok
  refine W.enter (fn := Tryd.f82) (n := 22) Tryd.func82 rfl Tryd.ntmps82 rfl (fun w₀ C₀ => ?_)
  simp only [argS]
  refine W.seq ?_
  refine W.region ?_
  refine L.box rfl rfl (GSpec.plain rfl (spec_box rfl (GetC.agg (Get.tmp rfl)))) (fun r1 => ?_)
  refine L.box rfl rfl (GSpec.plain rfl (spec_alloc rfl ti83 z83)) (fun r2 => ?_)
  refine L.nil ?_
  refine N.thenW ?_
  refine W.seq ?_
  refine W.region ?_
  refine L.op1 rfl rfl (GSpec.plain rfl (spec_assign rfl Get.cval)) ?_
  refine L.nil ?_
  refine N.thenW ?_
  refine W.seq ?_
  refine W.seq ?_
  refine W.region ?_
  refine L.op1 rfl rfl (GSpec.plain rfl (spec_fieldAddr (f := 3) (off' := 3) rfl Tryd.underlying83 rfl Tryd.sizeOf81 (Get.tmp rfl) rfl)) ?_
  refine L.op1 rfl rfl (GSpec.plain rfl (Spec.eq (exs_eq _) (spec_load1 (k := 1) rfl Tryd.isAgg81 (Get.tmp rfl) rfl rfl))) ?_
  refine L.op1 rfl rfl (GSpec.plain rfl (spec_len rfl Tryd.underlying81 (Get.tmp rfl))) ?_
  refine L.op1 rfl rfl (GSpec.plain rfl (spec_move rfl (Get.cint rfl))) ?_
  refine L.nil ?_
  refine N.thenW ?_
  refine W.nil 83 4 eX ?_
  refine W.block ?_
  refine W.loopK (σ := Nat × Value) (.cons (t := 1) rfl (.cons (t := 2) rfl (.cons (t := 7) rfl (.cons (t := 8) rfl .nil)))) (fun z => [(9, Rp.int .i64 (z.1 : Nat)), (3, Rp.val z.2)]) (fun z => [MF.osl z.2 83 4 eX (e.args.take z.1)]) (fun z => z.1 ≤ e.args.length) (fun z => e.args.length - z.1) (0, .slice none 0 0) (Nat.zero_le _) (.cons (t := 9) rfl (.cons (t := 3) rfl .nil)) (.cons 0 rfl (.cons 0 rfl (.cons 0 rfl .nil))) ?_
  intro ⟨i, vo⟩ hI S' M' hS hM
  try dsimp only at hS hM
  simp only [List.cons_append, List.nil_append] at hS hM
  subst hS hM
  try dsimp only
  try dsimp only at hI
  refine W.seq ?_
  refine W.region ?_
  refine L.op1 rfl rfl (GSpec.plain rfl (spec_lss rfl (Get.tmp rfl) (Get.tmp rfl))) ?_
  refine L.nil ?_
  refine N.thenW ?_
  refine W.seq ?_
  refine W.cond (Get.tmp rfl) (fun h1 => ?_) (fun h1 => ?_)
  · have ph1 := h1; try simp only [decide_eq_true_eq, decide_eq_false_iff_not, Bool.and_eq_true, Bool.or_eq_true, Bool.and_eq_false_iff, Bool.or_eq_false_iff, Bool.not_eq_true', Bool.not_eq_false', Bool.not_true, Bool.not_false, Int.not_lt, Int.not_le] at ph1
    refine W.skip ?_
    refine N.thenW ?_
    refine W.seq ?_
    refine W.block ?_
    refine W.seq ?_
    refine W.region ?_
    refine L.op1 rfl rfl (GSpec.plain rfl (spec_indexAddrD (E := eX) rfl Tryd.underlying81 Tryd.sizeOf83 (fun _ => rfl) (Get.tmp rfl) (Get.tmp rfl) (by omega))) ?_
    refine L.op1 rfl rfl (GSpec.plain rfl (spec_loadPA rfl Tryd.isAgg83 Tryd.sizeOf83 (Get.tmp rfl) rfl)) ?_
    refine L.box rfl rfl (GSpec.plain rfl (spec_alloc rfl ti83 z83)) (fun r5 => ?_)
    refine L.storeW (k := 0) rfl rfl rfl Tryd.sizeOf83 (Get.tmp rfl) (Get.tmp rfl) rfl rfl rfl ?_
    refine L.nil ?_
    refine N.thenW ?_
    refine W.region ?_
    refine L.op1 rfl rfl (GSpec.plain rfl (spec_move rfl (Get.tmp rfl))) ?_
    refine L.op1 rfl rfl (GSpec.plain rfl (spec_loadW (k := 0) rfl Tryd.isAgg83 Tryd.sizeOf83 (Get.tmp rfl) rfl rfl)) ?_
    refine L.op1 rfl rfl (GSpec.plain rfl (spec_call rfl Tryd.call82 (ih _ (getD_mem' (by omega)) (hsub _ (getD_mem' (by omega)))) (.cons (Get.tmp rfl) .nil))) ?_
    refine L.op1 rfl rfl (GSpec.plain rfl (spec_buildSlice1 (y := e.args.getD i default) (E := eX) rfl Tryd.underlying81 ti83 z83 (by decide) (GetC.agg (Get.tmp rfl)) (fun _ => rfl))) ?_
    refine L.append (k := 1) (E := eX) rfl rfl rfl rfl Tryd.underlying81 ti83 rfl (by decide) (fun _ => rfl) (Get.tmp rfl) (Get.tmp rfl) rfl (by (simp only [List.length_take, List.length_cons, List.length_nil]; omega)) (by (simp only [List.length_take, List.length_cons, List.length_nil]; omega)) (fun v17 => ?_)
    refine L.op1 rfl rfl (GSpec.plain rfl (spec_assign rfl (Get.tmp rfl))) ?_
    refine L.nil ?_
    refine N.blockNormal ?_
    refine N.thenW ?_
    refine W.region ?_
    first | refine L.op1 rfl rfl (GSpec.plain rfl (fit_i64 (by omega) (by omega) (spec_add rfl (Get.tmp rfl) (Get.cint rfl)))) ?_ | refine L.op1 rfl rfl (GSpec.plain rfl (spec_add rfl (Get.tmp rfl) (Get.cint rfl))) ?_
    refine L.op1 rfl rfl (GSpec.plain rfl (spec_move rfl (Get.tmp rfl))) ?_
    refine L.nil ?_
    refine N.roundK (i + 1, v17) ?hI1 ?hmu1 ?hs1 ?hk1 ?hp1
    case hs1 => exact (.cons (t := 9) rfl (.cons (t := 3) rfl .nil))
    case hk1 => exact (.cons (t := 1) rfl (.cons (t := 2) rfl (.cons (t := 7) rfl (.cons (t := 8) rfl .nil))))
    case hp1 => dsimp only; rw [take_succ (show i < e.args.length by omega)]; exact (.cons 1 rfl (.cons 1 rfl (.cons 1 rfl .nil)))
    case hI1 => dsimp only; omega
    case hmu1 => dsimp only; omega
  · have ph1 := h1; try simp only [decide_eq_true_eq, decide_eq_false_iff_not, Bool.and_eq_true, Bool.or_eq_true, Bool.and_eq_false_iff, Bool.or_eq_false_iff, Bool.not_eq_true', Bool.not_eq_false', Bool.not_true, Bool.not_false, Int.not_lt, Int.not_le] at ph1
    refine W.exit ?_
    refine N.thenExit ?_
    refine N.thenExit ?_
    refine N.blockExit ?_
    refine N.thenW ?_
    refine W.pub (t := 3) (k := 0) rfl rfl (fun _ => rfl) ?_
    refine W.seq ?_
    refine W.region ?_
    refine L.op1 rfl rfl (GSpec.plain rfl (spec_move rfl (Get.tmp rfl))) ?_
    refine L.op1 rfl rfl (GSpec.plain rfl (spec_fieldAddr (f := 3) (off' := 3) rfl Tryd.underlying83 rfl Tryd.sizeOf81 (Get.tmp rfl) rfl)) ?_
    refine L.storeB (k := 1) rfl rfl rfl Tryd.sizeOf81 (Get.tmp rfl) (Get.tmp rfl) rfl rfl ?_
    refine L.nil ?_
    refine N.thenW ?_
    refine W.keep (.cons (t := 1) rfl (.cons (t := 2) rfl .nil)) .refl ?_
    refine W.seq ?_
    refine W.region ?_
    refine L.op1 rfl rfl (GSpec.plain rfl (spec_loadW (k := 1) rfl Tryd.isAgg83 Tryd.sizeOf83 (Get.tmp rfl) rfl rfl)) ?_
    refine L.storeW (k := 0) rfl rfl rfl Tryd.sizeOf83 (Get.tmp rfl) (Get.tmp rfl) rfl rfl rfl ?_
    refine L.nil ?_
    refine N.thenW ?_
    refine W.ret ?_
    refine N.ret () rfl (.cellA (k := 0) (Get.tmp (t := 2) rfl) rfl Tryd.isAgg83 Tryd.sizeOf83 rfl .nil) (res1 (eqA ?_)) .nil (fun _ _ h => h)
    rw [show i = e.args.length by omega, List.take_length, ← exs_eq]; rfl

end Go.Proofs.YtcabngjnmipflaaDoor
set_option linter.unusedSimpArgs false
set_option maxRecDepth 8000
set_option linter.unusedVariables false
namespace Go.Proofs.YtcabngjnmipflaaDoor
open Go.Sim
theorem items_step (l : List It) (hok : ItsOk l) (ih : ∀ x ∈ l, (ItsOk x.items → CallT Tryd.prog 66 [Rp.slice eIt x.items] [] (.one (Rp.slice eIt x.items))) ∧ (ItsOk x.els → CallT Tryd.prog 66 [Rp.slice eIt x.els] [] (.one (Rp.slice eIt x.els)))) : CallT Tryd.prog 66 [Rp.slice eIt l] [] (.one (Rp.slice eIt l)) := by
  refine W.enter (fn := Tryd.f66) (n := 42) Tryd.func66 rfl Tryd.ntmps66 rfl (fun w₀ C₀ => ?_)
  simp only [argS]
  obtain ⟨hlen, hsub⟩ := hok
  refine W.seq ?_
  refine W.region ?_
  refine L.op1 rfl rfl (GSpec.plain rfl (spec_assign rfl (Get.cnil (E := eIt)))) ?_
  refine L.nil ?_
  refine N.thenW ?_
  refine W.seq ?_
  refine W.region ?_
  refine L.op1 rfl rfl (GSpec.plain rfl (spec_assign rfl Get.cval)) ?_
  refine L.nil ?_
  refine N.thenW ?_
  refine W.seq ?_
  refine W.seq ?_
  refine W.region ?_
  refine L.op1 rfl rfl (GSpec.plain rfl (spec_move rfl (Get.tmp rfl))) ?_
  refine L.op1 rfl rfl (GSpec.plain rfl (spec_len rfl Tryd.underlying52 (Get.tmp rfl))) ?_
  refine L.op1 rfl rfl (GSpec.plain rfl (spec_move rfl (Get.cint rfl))) ?_
  refine L.nil ?_
  refine N.thenW ?_
  refine W.nil 86 12 eIt ?_
  refine W.block ?_
  refine W.loopK (σ := Nat × Value) (.cons (t := 2) rfl (.cons (t := 6) rfl (.cons (t := 7) rfl .nil))) (fun z => [(8, Rp.int .i64 (z.1 : Nat)), (3, Rp.val z.2)]) (fun z => [MF.osl z.2 86 12 eIt (l.take z.1)]) (fun z => z.1 ≤ l.length) (fun z => l.length - z.1) (0, .slice none 0 0) (Nat.zero_le _) (.cons (t := 8) rfl (.cons (t := 3) rfl .nil)) (.cons 0 rfl .nil) ?_
  intro ⟨i, vo⟩ hI S' M' hS hM
  try dsimp only at hS hM
  simp only [List.cons_append, List.nil_append] at hS hM
  subst hS hM
  try dsimp only
  try dsimp only at hI
  refine W.seq ?_
  refine W.region ?_
  refine L.op1 rfl rfl (GSpec.plain rfl (spec_lss rfl (Get.tmp rfl) (Get.tmp rfl))) ?_
  refine L.nil ?_
  refine N.thenW ?_
  refine W.seq ?_
  refine W.cond (Get.tmp rfl) (fun h1 => ?_) (fun h1 => ?_)
  · have ph1 := h1; try simp only [decide_eq_true_eq, decide_eq_false_iff_not, Bool.and_eq_true, Bool.or_eq_true, Bool.and_eq_false_iff, Bool.or_eq_false_iff, Bool.not_eq_true', Bool.not_eq_false', Bool.not_true, Bool.not_false, Int.not_lt, Int.not_le] at ph1
    refine W.skip ?_
    refine N.thenW ?_
    obtain ⟨_, oX, oW, oI, oE, oB, oA, oIs, oEs⟩ := hsub _ (getD_mem' (show i < l.length by omega))
    have hm := getD_mem' (show i < l.length by omega)
    refine W.seq ?_
    refine W.block ?_
    refine W.seq ?_
    refine W.region ?_
    refine L.op1 rfl rfl (GSpec.plain rfl (spec_indexAddrD (E := eIt) rfl Tryd.underlying52 Tryd.sizeOf86 (fun _ => rfl) (Get.tmp rfl) (Get.tmp rfl) (by omega))) ?_
    refine L.op1 rfl rfl (GSpec.plain rfl (spec_loadPA rfl Tryd.isAgg86 Tryd.sizeOf86 (Get.tmp rfl) rfl)) ?_
    refine L.box rfl rfl (GSpec.plain rfl (spec_alloc rfl ti86 z86)) (fun r5 => ?_)
    refine L.storeW (k := 0) rfl rfl rfl Tryd.sizeOf86 (Get.tmp rfl) (Get.tmp rfl) rfl rfl rfl ?_
    refine L.nil ?_
    refine N.thenW ?_
    refine W.seq ?_
    refine W.region ?_
    refine L.op1 rfl rfl (GSpec.plain rfl (spec_fieldAddr (f := 1) (off' := 1) rfl Tryd.underlying86 rfl Tryd.sizeOf83 (Get.tmp rfl) rfl)) ?_
    refine L.op1 rfl rfl (GSpec.plain rfl (spec_loadA (k := 0) rfl Tryd.isAgg83 Tryd.sizeOf83 (Get.tmp rfl) rfl rfl)) ?_
    refine L.op1 rfl rfl (GSpec.plain rfl (spec_call rfl Tryd.call82 (expr_ok _ oX) (.cons (Get.tmp rfl) .nil))) ?_
    refine L.op1 rfl rfl (GSpec.plain rfl (spec_fieldAddr (f := 1) (off' := 1) rfl Tryd.underlying86 rfl Tryd.sizeOf83 (Get.tmp rfl) rfl)) ?_
    refine L.storeC (k := 0) rfl rfl rfl Tryd.sizeOf83 (Get.tmp rfl) (Get.tmp rfl) rfl rfl rfl ?_
    refine L.nil ?_
    refine N.thenW ?_
    refine W.seq ?_
    refine W.region ?_
    refine L.op1 rfl rfl (GSpec.plain rfl (spec_fieldAddr (f := 4) (off' := 7) rfl Tryd.underlying86 rfl Tryd.sizeOf84 (Get.tmp rfl) rfl)) ?_
    refine L.op1 rfl rfl (GSpec.plain rfl (spec_load1 (k := 0) rfl Tryd.isAgg84 (Get.tmp rfl) rfl rfl)) ?_
    refine L.op1 rfl rfl (GSpec.plain rfl (spec_call rfl Tryd.call83 (cloneW_ok _ oW) (.cons (Get.tmp rfl) .nil))) ?_
    refine L.op1 rfl rfl (GSpec.plain rfl (spec_fieldAddr (f := 4) (off' := 7) rfl Tryd.underlying86 rfl Tryd.sizeOf84 (Get.tmp rfl) rfl)) ?_
    refine L.storeB (k := 0) rfl rfl rfl Tryd.sizeOf84 (Get.tmp rfl) (Get.tmp rfl) rfl rfl ?_
    refine L.nil ?_
    refine N.thenW ?_
    refine W.seq ?_
    apply W.any 7 mixed (by kernel_rfl)
    · apply Head.one rfl rfl (GSpec.plain rfl (spec_fieldAddr (f := 5) (off' := 8) rfl Tryd.underlying86 rfl Tryd.sizeOf52 (Get.tmp rfl) rfl))
      apply Head.one rfl rfl (GSpec.plain rfl (Spec.eq (its_eq _) (spec_load1 (k := 0) rfl Tryd.isAgg52 (Get.tmp rfl) rfl rfl)))
      apply Head.one rfl rfl (GSpec.plain rfl (spec_call rfl Tryd.call66 ((ih _ hm).1 ⟨oI, oIs⟩) (.cons (Get.tmp rfl) .nil)))
      apply Head.one rfl rfl (GSpec.plain rfl (spec_fieldAddr (f := 6) (off' := 9) rfl Tryd.underlying86 rfl Tryd.sizeOf52 (Get.tmp rfl) rfl))
      apply Head.one rfl rfl (GSpec.plain rfl (Spec.eq (its_eq _) (spec_load1 (k := 0) rfl Tryd.isAgg52 (Get.tmp rfl) rfl rfl)))
      apply Head.one rfl rfl (GSpec.plain rfl (spec_call rfl Tryd.call66 ((ih _ hm).2 ⟨oE, oEs⟩) (.cons (Get.tmp rfl) .nil)))
      apply Head.one rfl rfl (GSpec.plain rfl (spec_fieldAddr (f := 5) (off' := 8) rfl Tryd.underlying86 rfl Tryd.sizeOf52 (Get.tmp rfl) rfl))
      exact Head.nil
    refine Fin.one ?_
    refine Fin.one ?_
    refine Fin.one ?_
    refine Fin.one ?_
    refine Fin.one ?_
    refine Fin.one ?_
    refine Fin.one ?_
    refine Fin.nil ?_
    refine L.storeB (k := 0) rfl rfl rfl Tryd.sizeOf52 (Get.tmp rfl) (Get.tmp rfl) rfl rfl ?_
    refine L.op1 rfl rfl (GSpec.plain rfl (spec_fieldAddr (f := 6) (off' := 9) rfl Tryd.underlying86 rfl Tryd.sizeOf52 (Get.tmp rfl) rfl)) ?_
    refine L.storeB (k := 0) rfl rfl rfl Tryd.sizeOf52 (Get.tmp rfl) (Get.tmp rfl) rfl rfl ?_
    refine L.nil ?_
    refine N.thenW ?_
    refine W.seq ?_
    apply W.any 7 mixed (by kernel_rfl)
    · apply Head.one rfl rfl (GSpec.plain rfl (spec_fieldAddr (f := 7) (off' := 10) rfl Tryd.underlying86 rfl Tryd.sizeOf40 (Get.tmp rfl) rfl))
      apply Head.one rfl rfl (GSpec.plain rfl (spec_load1 (k := 0) rfl Tryd.isAgg40 (Get.tmp rfl) rfl rfl))
      apply Head.one rfl rfl (GSpec.plain rfl (spec_call rfl Tryd.call84 (cloneS_ok _ oB) (.cons (Get.tmp rfl) .nil)))
      apply Head.one rfl rfl (GSpec.plain rfl (spec_fieldAddr (f := 8) (off' := 11) rfl Tryd.underlying86 rfl Tryd.sizeOf40 (Get.tmp rfl) rfl))
      apply Head.one rfl rfl (GSpec.plain rfl (spec_load1 (k := 0) rfl Tryd.isAgg40 (Get.tmp rfl) rfl rfl))
      apply Head.one rfl rfl (GSpec.plain rfl (spec_call rfl Tryd.call84 (cloneS_ok _ oA) (.cons (Get.tmp rfl) .nil)))
      apply Head.one rfl rfl (GSpec.plain rfl (spec_fieldAddr (f := 7) (off' := 10) rfl Tryd.underlying86 rfl Tryd.sizeOf40 (Get.tmp rfl) rfl))
      exact Head.nil
    refine Fin.one ?_
    refine Fin.one ?_
    refine Fin.one ?_
    refine Fin.one ?_
    refine Fin.one ?_
    refine Fin.one ?_
    refine Fin.one ?_
    refine Fin.nil ?_
    refine L.storeB (k := 0) rfl rfl rfl Tryd.sizeOf40 (Get.tmp rfl) (Get.tmp rfl) rfl rfl ?_
    refine L.op1 rfl rfl (GSpec.plain rfl (spec_fieldAddr (f := 8) (off' := 11) rfl Tryd.underlying86 rfl Tryd.sizeOf40 (Get.tmp rfl) rfl)) ?_
    refine L.storeB (k := 0) rfl rfl rfl Tryd.sizeOf40 (Get.tmp rfl) (Get.tmp rfl) rfl rfl ?_
    refine L.nil ?_
    refine N.thenW ?_
    rw [← its_eq (l.getD i default).items, ← its_eq (l.getD i default).els]
    refine W.region ?_
    refine L.op1 rfl rfl (GSpec.plain rfl (spec_move rfl (Get.tmp rfl))) ?_
    refine L.op1 rfl rfl (GSpec.plain rfl (spec_loadW (k := 0) rfl Tryd.isAgg86 Tryd.sizeOf86 (Get.tmp rfl) rfl rfl)) ?_
    refine L.op1 rfl rfl (GSpec.plain rfl (spec_buildSlice1 (y := l.getD i default) (E := eIt) rfl Tryd.underlying52 ti86 z86 (by decide) (GetC.agg (Get.tmp rfl)) (fun _ => rfl))) ?_
    refine L.append (k := 1) (E := eIt) rfl rfl rfl rfl Tryd.underlying52 ti86 rfl (by decide) (fun _ => rfl) (Get.tmp rfl) (Get.tmp rfl) rfl (by (simp only [List.length_take, List.length_cons, List.length_nil]; omega)) (by (simp only [List.length_take, List.length_cons, List.length_nil]; omega)) (fun v39 => ?_)
    refine L.op1 rfl rfl (GSpec.plain rfl (spec_assign rfl (Get.tmp rfl))) ?_
    refine L.nil ?_
    refine N.blockNormal ?_
    refine N.thenW ?_
    refine W.region ?_
    first | refine L.op1 rfl rfl (GSpec.plain rfl (fit_i64 (by omega) (by omega) (spec_add rfl (Get.tmp rfl) (Get.cint rfl)))) ?_ | refine L.op1 rfl rfl (GSpec.plain rfl (spec_add rfl (Get.tmp rfl) (Get.cint rfl))) ?_
    refine L.op1 rfl rfl (GSpec.plain rfl (spec_move rfl (Get.tmp rfl))) ?_
    refine L.nil ?_
    refine N.roundK (i + 1, v39) ?hI1 ?hmu1 ?hs1 ?hk1 ?hp1
    case hs1 => exact (.cons (t := 8) rfl (.cons (t := 3) rfl .nil))
    case hk1 => exact (.cons (t := 2) rfl (.cons (t := 6) rfl (.cons (t := 7) rfl .nil)))
    case hp1 => dsimp only; rw [take_succ (show i < l.length by omega)]; exact (.cons 1 rfl .nil)
    case hI1 => dsimp only; omega
    case hmu1 => dsimp only; omega
  · have ph1 := h1; try simp only [decide_eq_true_eq, decide_eq_false_iff_not, Bool.and_eq_true, Bool.or_eq_true, Bool.and_eq_false_iff, Bool.or_eq_false_iff, Bool.not_eq_true', Bool.not_eq_false', Bool.not_true, Bool.not_false, Int.not_lt, Int.not_le] at ph1
    refine W.exit ?_
    refine N.thenExit ?_
    refine N.thenExit ?_
    refine N.blockExit ?_
    refine N.thenW ?_
    refine W.pub (t := 3) (k := 0) rfl rfl (fun _ => rfl) ?_
    refine W.seq ?_
    refine W.region ?_
    refine L.op1 rfl rfl (GSpec.plain rfl (spec_move rfl (Get.tmp rfl))) ?_
    refine L.op1 rfl rfl (GSpec.plain rfl (spec_assign rfl (Get.tmp rfl))) ?_
    refine L.nil ?_
    refine N.thenW ?_
    refine W.keep (.cons (t := 2) rfl .nil) .refl ?_
    refine W.ret ?_
    refine N.ret () rfl (.tmp (t := 2) (Get.tmp rfl) .nil) (res1 (eqSl ?_)) .nil (fun _ _ h => h)
    rw [show i = l.length by omega, List.take_length]

end Go.Proofs.YtcabngjnmipflaaDoor
/- Copying constraints; equality of trees. -/
namespace Go.Proofs.YtcabngjnmipflaaDoor
open Go.Sim
def CopyI (l : List It) : Prop := ItsOk l → CallT Tryd.prog 66 [Rp.slice eIt l] [] (.one (Rp.slice eIt l))
theorem copy_all : ∀ x : It, CopyI x.items ∧ CopyI x.els :=
  It.ind fun _ h1 h2 => ⟨fun hok => items_step _ hok fun x hx => h1 x hx, fun hok => items_step _ hok fun x hx => h2 x hx⟩
theorem items_ok (l : List It) (hok : ItsOk l) : CallT Tryd.prog 66 [Rp.slice eIt l] [] (.one (Rp.slice eIt l)) := items_step l hok fun x _ => copy_all x
noncomputable instance : DecidableEq Ex := fun a b => Classical.propDecidable (a = b)
noncomputable instance : DecidableEq It := fun a b => Classical.propDecidable (a = b)
noncomputable instance : DecidableEq Bk := fun a b => Classical.propDecidable (a = b)
noncomputable instance : DecidableEq Cl := fun a b => Classical.propDecidable (a = b)
theorem ex_ext {a b : Ex} (h1 : a.op = b.op) (h2 : a.n = b.n) (h3 : a.name = b.name) (h4 : a.args = b.args) : a = b := by
  cases a; cases b
  simp only [Ex.op, Ex.n, Ex.name, Ex.args] at h1 h2 h3 h4
  subst h1 h2 h3 h4; rfl
theorem it_ext {a b : It} (h1 : a.kind = b.kind) (h2 : a.expr = b.expr) (h3 : a.name = b.name) (h4 : a.index = b.index) (h5 : a.weights = b.weights) (h6 : a.items = b.items) (h7 : a.els = b.els) (h8 : a.before = b.before) (h9 : a.after = b.after) : a = b := by
  cases a; cases b
  simp only [It.kind, It.expr, It.name, It.index, It.weights, It.items, It.els, It.before, It.after] at *
  subst h1 h2 h3 h4 h5 h6 h7 h8 h9; rfl
theorem bk_ext {a b : Bk} (h1 : a.name = b.name) (h2 : a.items = b.items) : a = b := by cases a; cases b; simp only at h1 h2; subst h1 h2; rfl
theorem cl_ext {a b : Cl} (h1 : a.name = b.name) (h2 : a.parent = b.parent) (h3 : a.fields = b.fields) (h4 : a.blocks = b.blocks) : a = b := by
  cases a; cases b; simp only at h1 h2 h3 h4; subst h1 h2 h3 h4; rfl
mutual
def cntI : It → Int
  | .mk _ _ _ _ _ is es _ _ => IntKind.i64.wrap (IntKind.i64.wrap (1 + cntL is 0) + cntL es 0)
def cntL : List It → Int → Int
  | [], n => n
  | x :: r, n => if n < 200 then cntL r (IntKind.i64.wrap (n + cntI x)) else n
end
theorem cntI_eq (x : It) : cntI x = IntKind.i64.wrap (IntKind.i64.wrap (1 + cntL x.items 0) + cntL x.els 0) := by cases x; simp only [cntI, It.items, It.els]
theorem cnt_next {l : List It} {i : Nat} {n m : Int} (hi : i < l.length) (hn : n < 200) (h : cntL (l.drop i) n = m) : cntL (l.drop (i + 1)) (IntKind.i64.wrap (n + IntKind.i64.wrap (IntKind.i64.wrap (1 + cntL (l.getD i default).items 0) + cntL (l.getD i default).els 0))) = m := by
  rw [← h, List.drop_eq_getElem_cons hi, cntL, if_pos hn, cntI_eq]
  have : l.getD i default = l[i] := by simp [List.getD, hi]
  rw [this]
theorem cnt_end {l : List It} {i : Nat} {n m : Int} (h : cntL (l.drop i) n = m) (hc : l.length ≤ i ∨ 200 ≤ n) : n = m := by
  rw [← h]
  by_cases hi : i < l.length
  · rw [List.drop_eq_getElem_cons hi, cntL, if_neg (by omega)]
  · rw [List.drop_of_length_le (by omega), cntL]
def anyB : RA := ⟨Bool, fun b => Rp.bool b, fun _ => []⟩
def fewX (src : List Cl) : RA := ⟨{b : Bool // b = true → src.length ≤ 40}, fun b => Rp.bool b.1, fun _ => []⟩
theorem ex_fact {e : Ex} (w : World) (C : Nat → Prop) (v : Value) (h : (Rp.agg (eX e)).p w C v) : e.args.length ≤ 9223372036854775807 :=
  agg_fact (fun w C vs h => by
    match vs, h with
    | [a, b, c, d], ⟨_, _, _, h4, _⟩ => rw [exs_eq] at h4; exact h4.1) w C v h
theorem it_fact {e : It} (w : World) (C : Nat → Prop) (v : Value) (h : (Rp.agg (eIt e)).p w C v) : e.weights.length ≤ 9223372036854775807 :=
  agg_fact (fun _ _ _ h => let ⟨_, _, hv⟩ := h.get 7 (R := Rp.slice eW e.weights) rfl; hv.1) w C v h
theorem cl_fact {c : Cl} (w : World) (C : Nat → Prop) (v : Value) (h : (Rp.agg (eC c)).p w C v) : c.fields.length ≤ 9223372036854775807 ∧ c.blocks.length ≤ 9223372036854775807 :=
  agg_fact (fun w C vs h => by
    match vs, h with
    | [a, b, c, d], ⟨_, _, h3, h4, _⟩ => exact ⟨h3.1, h4.1⟩) w C v h
/-- The lists of a class in a list have lengths that Go can hold. -/
theorem cls_fact {l : List Cl} {i : Nat} (hi : i < l.length) (w : World) (C : Nat → Prop) (v : Value) (h : (Rp.slice eC l).p w C v) : (l.getD i default).fields.length ≤ 9223372036854775807 ∧ (l.getD i default).blocks.length ≤ 9223372036854775807 := by
  obtain ⟨_, h⟩ := h
  rcases h with ⟨_, h⟩ | ⟨a, cap, _, _, h⟩
  · rw [h] at hi; cases hi
  · rcases h with h | ⟨_, _, cs, T, fr, _, hA⟩
    · rw [h] at hi; cases hi
    · have hg : ∀ (l : List Cl) (j : Nat) (c : Cl), l[j]? = some c → (l.flatMap eC)[4 * j + 2]? = some (Rp.slice eF c.fields) ∧ (l.flatMap eC)[4 * j + 3]? = some (Rp.slice eBk c.blocks) := by
        intro l
        induction l with
        | nil => intro j c h; simp at h
        | cons x l ih =>
          intro j c h
          cases j with
          | zero => simp at h; subst h; exact ⟨rfl, rfl⟩
          | succ j =>
            have := ih j c (by simpa using h)
            rw [List.flatMap_cons, show 4 * (j + 1) + 2 = 4 + (4 * j + 2) by omega, show 4 * (j + 1) + 3 = 4 + (4 * j + 3) by omega]
            rw [List.getElem?_append_right (by simp [eC]), List.getElem?_append_right (by simp [eC])]
            simpa [eC] using this
      have hi' : l[i]? = some (l.getD i default) := by rw [List.getD, List.getElem?_eq_getElem hi]; rfl
      obtain ⟨q1, q2⟩ := hg l i _ hi'
      obtain ⟨_, _, r1⟩ := hA.1.get _ q1
      obtain ⟨_, _, r2⟩ := hA.1.get _ q2
      exact ⟨r1.1, r2.1⟩
end Go.Proofs.YtcabngjnmipflaaDoor
