import Derived.Test.YteannfdcbblooaaDoorThG
import Derived.Test.YteannfdcbblooaaDoorThW8
set_option linter.unusedSimpArgs false
set_option maxRecDepth 8000
set_option linter.unusedVariables false
namespace Go.Proofs.YteannfdcbblooaaDoor
open Go.Sim
theorem ThreadTree_ok (s : List UInt8) (i : Int) (hs : s.length ≤ 1048576) : CallT Tryd.prog 7 [Rp.str s, Rp.int .i64 i] [tabG] (.one (Rp.bool true)) := by
  refine W.enter (fn := Tryd.f7) (n := 144) Tryd.func7 rfl Tryd.ntmps7 rfl (fun w₀ C₀ => ?_)
  simp only [argS]
  have hcl := child_len s i
  have hpl := parent_len s
  have hdr := dep_range s
  refine W.seq ?_
  refine W.region ?_
  refine L.op1 rfl rfl (GSpec.plain rfl (spec_assign rfl Get.cbool)) ?_
  refine L.nil ?_
  refine N.thenW ?_
  refine W.seq ?_
  refine W.region ?_
  refine L.op1 rfl rfl (GSpec.plain rfl (spec_move rfl (Get.tmp rfl))) ?_
  refine L.op1 rfl rfl (GSpec.plain rfl (spec_move rfl (Get.tmp rfl))) ?_
  refine L.op1 rfl rfl (GSpec.plain rfl (spec_callG0 (k := 0) rfl Tryd.call15 rfl rfl (childT_ok _ _ (by first | omega | decide)) (.cons (Get.tmp rfl) (.cons (Get.tmp rfl) .nil)))) ?_
  refine L.op1 rfl rfl (GSpec.plain rfl (spec_move rfl (Get.tmp rfl))) ?_
  refine L.op1 rfl rfl (GSpec.plain rfl (spec_extract rfl (Get.tmp rfl) rfl)) ?_
  refine L.op1 rfl rfl (GSpec.plain rfl (spec_extract rfl (Get.tmp rfl) rfl)) ?_
  refine L.op1 rfl rfl (GSpec.plain rfl (spec_assign rfl (Get.tmp rfl))) ?_
  refine L.op1 rfl rfl (GSpec.plain rfl (spec_assign rfl (Get.tmp rfl))) ?_
  refine L.nil ?_
  refine N.thenW ?_
  refine W.seq ?_
  refine W.seq ?_
  refine W.region ?_
  refine L.op1 rfl rfl (GSpec.plain rfl (spec_move rfl (Get.tmp rfl))) ?_
  refine L.op1 rfl rfl (GSpec.plain rfl (spec_eql rfl (Get.tmp rfl) (Get.cint rfl))) ?_
  refine L.nil ?_
  refine N.thenW ?_
  refine W.keep (.cons (t := 0) rfl (.cons (t := 4) rfl (.cons (t := 5) rfl (.cons (t := 27) rfl .nil)))) .refl ?_
  refine W.cond (Get.tmp rfl) (fun h1 => ?_) (fun h1 => ?_)
  · have hc0 : (childQ (numsP s) i).2 = 0 := of_decide_eq_true h1
    obtain ⟨f1, f2, f3, f4, f5⟩ := tree_child hc0
    refine W.seq ?_
    refine W.region ?_
    refine L.op1 rfl rfl (GSpec.plain rfl (spec_move rfl (Get.tmp rfl))) ?_
    refine L.op1 rfl rfl (GSpec.plain rfl (spec_callG0 (k := 0) rfl Tryd.call17 rfl rfl (parent_ok _ (by first | omega | decide)) (.cons (Get.tmp rfl) .nil))) ?_
    refine L.op1 rfl rfl (GSpec.plain rfl (spec_move rfl (Get.tmp rfl))) ?_
    refine L.op1 rfl rfl (GSpec.plain rfl (spec_extract rfl (Get.tmp rfl) rfl)) ?_
    refine L.op1 rfl rfl (GSpec.plain rfl (spec_extract rfl (Get.tmp rfl) rfl)) ?_
    refine L.op1 rfl rfl (GSpec.plain rfl (spec_assign rfl (Get.tmp rfl))) ?_
    refine L.op1 rfl rfl (GSpec.plain rfl (spec_assign rfl (Get.tmp rfl))) ?_
    refine L.nil ?_
    refine N.thenW ?_
    refine W.keep (.cons (t := 0) rfl (.cons (t := 4) rfl (.cons (t := 5) rfl (.cons (t := 7) rfl (.cons (t := 8) rfl .nil))))) .refl ?_
    refine W.seq ?_
    refine W.seq ?_
    refine W.region ?_
    refine L.op1 rfl rfl (GSpec.plain rfl (spec_move rfl (Get.tmp rfl))) ?_
    refine L.op1 rfl rfl (GSpec.plain rfl (spec_not rfl (Get.tmp rfl))) ?_
    refine L.op1 rfl rfl (GSpec.plain rfl (spec_move rfl (Get.tmp rfl))) ?_
    refine L.op1 rfl rfl (GSpec.guard rfl rfl rfl fun hg => (spec_move rfl (Get.tmp rfl))) ?_
    refine L.op1 rfl rfl (GSpec.guard rfl rfl rfl fun hg => (spec_move rfl (Get.tmp rfl))) ?_
    refine L.op1 rfl rfl (GSpec.guard rfl rfl rfl fun hg => (spec_neqS rfl (Get.opt rfl hg) (Get.opt rfl hg))) ?_
    refine L.op1 rfl rfl (GSpec.plain rfl (spec_or rfl (Get.tmp rfl) (fun hb => (Get.opt rfl hb)))) ?_
    refine L.op1 rfl rfl (GSpec.plain rfl (spec_move rfl (Get.tmp rfl))) ?_
    refine L.op1 rfl rfl (GSpec.guard rfl rfl rfl fun hg => (spec_move rfl (Get.tmp rfl))) ?_
    refine L.op1 rfl rfl (GSpec.guard rfl rfl rfl fun hg => (spec_call rfl Tryd.call12 (depth_ok _ (by first | omega | decide)) (.cons (Get.opt rfl hg) .nil))) ?_
    refine L.op1 rfl rfl (GSpec.guard rfl rfl rfl fun hg => (spec_move rfl (Get.tmp rfl))) ?_
    refine L.op1 rfl rfl (GSpec.guard rfl rfl rfl fun hg => (spec_call rfl Tryd.call12 (depth_ok _ (by first | omega | decide)) (.cons (Get.opt rfl hg) .nil))) ?_
    first | refine L.op1 rfl rfl (GSpec.guard rfl rfl rfl fun hg => (fit_i64 (by (first | omega | (simp only [decide_eq_true_eq, decide_eq_false_iff_not, Bool.and_eq_true, Bool.or_eq_true, Bool.and_eq_false_iff, Bool.or_eq_false_iff, Bool.not_eq_true', Bool.not_eq_false', Bool.not_true, Bool.not_false, Int.not_lt, Int.not_le] at hg; omega))) (by (first | omega | (simp only [decide_eq_true_eq, decide_eq_false_iff_not, Bool.and_eq_true, Bool.or_eq_true, Bool.and_eq_false_iff, Bool.or_eq_false_iff, Bool.not_eq_true', Bool.not_eq_false', Bool.not_true, Bool.not_false, Int.not_lt, Int.not_le] at hg; omega))) (spec_add rfl (Get.opt rfl hg) (Get.cint rfl)))) ?_ | refine L.op1 rfl rfl (GSpec.guard rfl rfl rfl fun hg => (spec_add rfl (Get.opt rfl hg) (Get.cint rfl))) ?_
    refine L.op1 rfl rfl (GSpec.guard rfl rfl rfl fun hg => (spec_neq rfl (Get.opt rfl hg) (Get.opt rfl hg))) ?_
    refine L.op1 rfl rfl (GSpec.plain rfl (spec_or rfl (Get.tmp rfl) (fun hb => (Get.opt rfl hb)))) ?_
    refine L.op1 rfl rfl (GSpec.plain rfl (spec_move rfl (Get.tmp rfl))) ?_
    refine L.op1 rfl rfl (GSpec.guard rfl rfl rfl fun hg => (spec_move rfl (Get.tmp rfl))) ?_
    refine L.op1 rfl rfl (GSpec.guard rfl rfl rfl fun hg => (spec_move rfl (Get.tmp rfl))) ?_
    refine L.op1 rfl rfl (GSpec.guard rfl rfl rfl fun hg => (spec_call rfl Tryd.call21 (above_ok _ _ (by first | omega | decide) (by first | omega | decide)) (.cons (Get.opt rfl hg) (.cons (Get.opt rfl hg) .nil)))) ?_
    refine L.op1 rfl rfl (GSpec.guard rfl rfl rfl fun hg => (spec_not rfl (Get.opt rfl hg))) ?_
    refine L.op1 rfl rfl (GSpec.plain rfl (spec_or rfl (Get.tmp rfl) (fun hb => (Get.opt rfl hb)))) ?_
    refine L.op1 rfl rfl (GSpec.plain rfl (spec_move rfl (Get.tmp rfl))) ?_
    refine L.op1 rfl rfl (GSpec.guard rfl rfl rfl fun hg => (spec_move rfl (Get.tmp rfl))) ?_
    refine L.op1 rfl rfl (GSpec.guard rfl rfl rfl fun hg => (spec_move rfl (Get.tmp rfl))) ?_
    refine L.op1 rfl rfl (GSpec.guard rfl rfl rfl fun hg => (spec_call rfl Tryd.call21 (above_ok _ _ (by first | omega | decide) (by first | omega | decide)) (.cons (Get.opt rfl hg) (.cons (Get.opt rfl hg) .nil)))) ?_
    refine L.op1 rfl rfl (GSpec.plain rfl (spec_or rfl (Get.tmp rfl) (fun hb => (Get.opt rfl hb)))) ?_
    refine L.op1 rfl rfl (GSpec.plain rfl (spec_move rfl (Get.tmp rfl))) ?_
    refine L.op1 rfl rfl (GSpec.guard rfl rfl rfl fun hg => (spec_move rfl (Get.tmp rfl))) ?_
    refine L.op1 rfl rfl (GSpec.guard rfl rfl rfl fun hg => (spec_move rfl (Get.tmp rfl))) ?_
    refine L.op1 rfl rfl (GSpec.guard rfl rfl rfl fun hg => (spec_call rfl Tryd.call19 (less_ok _ _ (by first | omega | decide) (by first | omega | decide)) (.cons (Get.opt rfl hg) (.cons (Get.opt rfl hg) .nil)))) ?_
    refine L.op1 rfl rfl (GSpec.guard rfl rfl rfl fun hg => (spec_not rfl (Get.opt rfl hg))) ?_
    refine L.op1 rfl rfl (GSpec.plain rfl (spec_or rfl (Get.tmp rfl) (fun hb => (Get.opt rfl hb)))) ?_
    refine L.nil ?_
    refine N.thenW ?_
    refine W.keep (.cons (t := 0) rfl (.cons (t := 4) rfl (.cons (t := 5) rfl (.cons (t := 64) rfl .nil)))) .refl ?_
    refine W.cond (Get.tmp rfl) (fun h2 => ?_) (fun h2 => ?_)
    · exfalso; have h := h2; simp [f1, f2, f3, f4, f5] at h
    · have ph2 := h2; try simp only [decide_eq_true_eq, decide_eq_false_iff_not, Bool.and_eq_true, Bool.or_eq_true, Bool.and_eq_false_iff, Bool.or_eq_false_iff, Bool.not_eq_true', Bool.not_eq_false', Bool.not_true, Bool.not_false, Int.not_lt, Int.not_le] at ph2
      refine W.skip ?_
      refine N.thenW ?_
      refine W.seq ?_
      refine W.region ?_
      refine L.op1 rfl rfl (GSpec.plain rfl (spec_move rfl (Get.tmp rfl))) ?_
      refine L.op1 rfl rfl (GSpec.plain rfl (spec_callG0 (k := 0) rfl Tryd.call17 rfl rfl (parent_ok _ (by first | omega | decide)) (.cons (Get.tmp rfl) .nil))) ?_
      refine L.op1 rfl rfl (GSpec.plain rfl (spec_move rfl (Get.tmp rfl))) ?_
      refine L.op1 rfl rfl (GSpec.plain rfl (spec_extract rfl (Get.tmp rfl) rfl)) ?_
      refine L.op1 rfl rfl (GSpec.plain rfl (spec_extract rfl (Get.tmp rfl) rfl)) ?_
      refine L.op1 rfl rfl (GSpec.plain rfl (spec_assign rfl (Get.tmp rfl))) ?_
      refine L.op1 rfl rfl (GSpec.plain rfl (spec_assign rfl (Get.tmp rfl))) ?_
      refine L.nil ?_
      refine N.thenW ?_
      refine W.keep (.cons (t := 0) rfl (.cons (t := 4) rfl (.cons (t := 5) rfl (.cons (t := 9) rfl (.cons (t := 10) rfl .nil))))) .refl ?_
      refine W.seq ?_
      refine W.region ?_
      refine L.op1 rfl rfl (GSpec.plain rfl (spec_move rfl (Get.tmp rfl))) ?_
      refine L.op1 rfl rfl (GSpec.plain rfl (spec_move rfl (Get.tmp rfl))) ?_
      refine L.op1 rfl rfl (GSpec.guard rfl rfl rfl fun hg => (spec_move rfl (Get.tmp rfl))) ?_
      refine L.op1 rfl rfl (GSpec.guard rfl rfl rfl fun hg => (spec_move rfl (Get.tmp rfl))) ?_
      refine L.op1 rfl rfl (GSpec.guard rfl rfl rfl fun hg => (spec_call rfl Tryd.call21 (above_ok _ _ (by first | omega | decide) (by first | omega | decide)) (.cons (Get.opt rfl hg) (.cons (Get.opt rfl hg) .nil)))) ?_
      refine L.op1 rfl rfl (GSpec.guard rfl rfl rfl fun hg => (spec_not rfl (Get.opt rfl hg))) ?_
      refine L.op1 rfl rfl (GSpec.plain rfl (spec_and rfl (Get.tmp rfl) (fun hb => (Get.opt rfl hb)))) ?_
      refine L.nil ?_
      refine N.thenW ?_
      refine W.keep (.cons (t := 0) rfl (.cons (t := 4) rfl (.cons (t := 76) rfl .nil))) .refl ?_
      refine W.cond (Get.tmp rfl) (fun h3 => ?_) (fun h3 => ?_)
      · exfalso; have h := h3; simp only [Bool.and_eq_true, Bool.not_eq_true'] at h; rw [tree_up hc0 h.1] at h; cases h.2
      · have ph3 := h3; try simp only [decide_eq_true_eq, decide_eq_false_iff_not, Bool.and_eq_true, Bool.or_eq_true, Bool.and_eq_false_iff, Bool.or_eq_false_iff, Bool.not_eq_true', Bool.not_eq_false', Bool.not_true, Bool.not_false, Int.not_lt, Int.not_le] at ph3
        refine W.skip ?_
        refine N.thenW ?_
        refine W.seq ?_
        refine W.region ?_
        refine L.op1 rfl rfl (GSpec.plain rfl (spec_move rfl (Get.tmp rfl))) ?_
        refine L.op1 rfl rfl (GSpec.plain rfl (spec_callG0 (k := 0) rfl Tryd.call17 rfl rfl (parent_ok _ (by first | omega | decide)) (.cons (Get.tmp rfl) .nil))) ?_
        refine L.op1 rfl rfl (GSpec.plain rfl (spec_move rfl (Get.tmp rfl))) ?_
        refine L.op1 rfl rfl (GSpec.plain rfl (spec_extract rfl (Get.tmp rfl) rfl)) ?_
        refine L.op1 rfl rfl (GSpec.plain rfl (spec_extract rfl (Get.tmp rfl) rfl)) ?_
        refine L.op1 rfl rfl (GSpec.plain rfl (spec_assign rfl (Get.tmp rfl))) ?_
        refine L.op1 rfl rfl (GSpec.plain rfl (spec_assign rfl (Get.tmp rfl))) ?_
        refine L.nil ?_
        refine N.thenW ?_
        refine W.keep (.cons (t := 0) rfl (.cons (t := 4) rfl (.cons (t := 11) rfl (.cons (t := 12) rfl .nil)))) .refl ?_
        refine W.seq ?_
        refine W.seq ?_
        refine W.region ?_
        refine L.op1 rfl rfl (GSpec.plain rfl (spec_move rfl (Get.tmp rfl))) ?_
        refine L.op1 rfl rfl (GSpec.plain rfl (spec_not rfl (Get.tmp rfl))) ?_
        refine L.nil ?_
        refine N.thenW ?_
        refine W.cond (Get.tmp rfl) (fun h4 => ?_) (fun h4 => ?_)
        · have hp0 : (parentQ (numsP s)).2 = false := by have h := h4; rw [Bool.not_eq_true'] at h; exact h
          refine W.seq ?_
          refine W.region ?_
          refine L.op1 rfl rfl (GSpec.plain rfl (spec_move rfl (Get.tmp rfl))) ?_
          refine L.op1 rfl rfl (GSpec.plain rfl (spec_call rfl Tryd.call10 (valid_ok _ (by first | omega | decide)) (.cons (Get.tmp rfl) .nil))) ?_
          refine L.op1 rfl rfl (GSpec.plain rfl (spec_not rfl (Get.tmp rfl))) ?_
          refine L.op1 rfl rfl (GSpec.plain rfl (spec_move rfl (Get.tmp rfl))) ?_
          refine L.op1 rfl rfl (GSpec.guard rfl rfl rfl fun hg => (spec_move rfl (Get.tmp rfl))) ?_
          refine L.op1 rfl rfl (GSpec.guard rfl rfl rfl fun hg => (spec_eqlS rfl (Get.opt rfl hg) (Get.cstr (l := []) rfl rfl))) ?_
          refine L.op1 rfl rfl (GSpec.plain rfl (spec_or rfl (Get.tmp rfl) (fun hb => (Get.opt rfl hb)))) ?_
          refine L.op1 rfl rfl (GSpec.plain rfl (spec_move rfl (Get.tmp rfl))) ?_
          refine L.op1 rfl rfl (GSpec.guard rfl rfl rfl fun hg => (spec_callG0 (k := 0) rfl Tryd.call14 rfl rfl (awake_ok ) .nil)) ?_
          refine L.op1 rfl rfl (GSpec.plain rfl (spec_and rfl (Get.tmp rfl) (fun hb => (Get.opt rfl hb)))) ?_
          refine L.op1 rfl rfl (GSpec.plain rfl (spec_assign rfl (Get.tmp rfl))) ?_
          refine L.nil ?_
          refine N.thenW ?_
          refine W.keep (.cons (t := 0) rfl (.cons (t := 4) rfl (.cons (t := 11) rfl .nil))) .refl ?_
          refine W.ret ?_
          refine N.ret () rfl (.tmp (t := 4) (Get.tmp rfl) .nil) (res1 (eqB ?_)) .nil (fun _ _ h => h)
          have q := tree_root hp0; simpa using q
        · have hp1 : (parentQ (numsP s)).2 = true := by have h := h4; rw [Bool.not_eq_false'] at h; exact h
          obtain ⟨m, hm, hsm, hch⟩ := tree_last hp1
          refine W.skip ?_
          refine N.thenW ?_
          refine W.seq ?_
          refine W.region ?_
          refine L.op1 rfl rfl (GSpec.plain rfl (spec_assign rfl (Get.cint rfl))) ?_
          refine L.nil ?_
          refine N.thenW ?_
          refine W.seq ?_
          refine W.seq ?_
          refine W.region ?_
          refine L.op1 rfl rfl (GSpec.plain rfl (spec_move rfl (Get.tmp rfl))) ?_
          refine L.op1 rfl rfl (GSpec.plain rfl (spec_lenS rfl Tryd.underlying9 (Get.tmp rfl))) ?_
          first | refine L.op1 rfl rfl (GSpec.plain rfl (fit_i64 (by (first | omega | (have q1 := fmt_digs hm.1 _ (getD_mem' (show w < (fmt m).length by omega)); have q2 := (val_fmt hm.1).2 w; have q3 := hm.2; (try simp only [Int.toNat_natCast]); omega))) (by (first | omega | (have q1 := fmt_digs hm.1 _ (getD_mem' (show w < (fmt m).length by omega)); have q2 := (val_fmt hm.1).2 w; have q3 := hm.2; (try simp only [Int.toNat_natCast]); omega))) (spec_sub rfl (Get.tmp rfl) (Get.cint rfl)))) ?_ | refine L.op1 rfl rfl (GSpec.plain rfl (spec_sub rfl (Get.tmp rfl) (Get.cint rfl))) ?_
          refine L.op1 rfl rfl (GSpec.plain rfl (spec_assign rfl (Get.tmp rfl))) ?_
          refine L.nil ?_
          refine N.thenW ?_
          refine W.keep (.cons (t := 0) rfl (.cons (t := 4) rfl (.cons (t := 11) rfl (.cons (t := 13) rfl (.cons (t := 14) rfl .nil))))) .refl ?_
          refine W.block ?_
          refine W.loopK (σ := Nat) (.cons (t := 0) rfl (.cons (t := 4) rfl (.cons (t := 11) rfl .nil))) (fun z => [(13, Rp.int .i64 (z : Nat)), (14, Rp.int .i64 ((s.length : Int) - 1 - (z : Nat)))]) (fun z => []) (fun z => z ≤ s.length ∧ ∀ j : Nat, j < z → ch s (s.length - 1 - j) ≠ 46) (fun z => s.length - z) 0 ⟨Nat.zero_le _, fun j hj => by omega⟩ (.cons (t := 13) rfl (.weak (t := 14) rfl (eqI (by omega)) .nil)) (.cons 0 rfl .nil) ?_
          intro z hI S' M' hS hM
          obtain ⟨hI1, hI2⟩ := hI
          try dsimp only at hS hM
          simp only [List.cons_append, List.nil_append] at hS hM
          subst hS hM
          try dsimp only
          refine W.seq ?_
          refine W.seq ?_
          refine W.region ?_
          refine L.op1 rfl rfl (GSpec.plain rfl (spec_move rfl (Get.tmp rfl))) ?_
          refine L.op1 rfl rfl (GSpec.plain rfl (spec_geq rfl (Get.tmp rfl) (Get.cint rfl))) ?_
          refine L.op1 rfl rfl (GSpec.plain rfl (spec_move rfl (Get.tmp rfl))) ?_
          refine L.op1 rfl rfl (GSpec.guard rfl rfl rfl fun hg => (spec_move rfl (Get.tmp rfl))) ?_
          refine L.op1 rfl rfl (GSpec.guard rfl rfl rfl fun hg => (spec_move rfl (Get.tmp rfl))) ?_
          refine L.op1 rfl rfl (GSpec.guard rfl rfl rfl fun hg => (spec_indexS rfl Tryd.underlying9 (Get.opt rfl hg) (Get.opt rfl hg) (by (first | omega | (simp only [decide_eq_true_eq, decide_eq_false_iff_not, Bool.and_eq_true, Bool.or_eq_true, Bool.and_eq_false_iff, Bool.or_eq_false_iff, Bool.not_eq_true', Bool.not_eq_false', Bool.not_true, Bool.not_false, Int.not_lt, Int.not_le] at hg; omega))))) ?_
          refine L.op1 rfl rfl (GSpec.guard rfl rfl rfl fun hg => (spec_neq rfl (Get.opt rfl hg) (Get.cint rfl))) ?_
          refine L.op1 rfl rfl (GSpec.plain rfl (spec_and rfl (Get.tmp rfl) (fun hb => (Get.opt rfl hb)))) ?_
          refine L.nil ?_
          refine N.thenW ?_
          refine W.cond (Get.tmp rfl) (fun h5 => ?_) (fun h5 => ?_)
          · have hx : 0 ≤ (s.length : Int) - 1 - (z : Nat) ∧ ch s (s.length - 1 - z) ≠ 46 := by have h := h5; rw [show ((s.length : Int) - 1 - (z : Nat)).toNat = s.length - 1 - z by omega] at h; simp only [Bool.and_eq_true, Bool.not_eq_true', decide_eq_true_eq, decide_eq_false_iff_not] at h; unfold ch; exact h
            have hx1 := hx.1
            refine W.skip ?_
            refine N.thenW ?_
            refine W.seq ?_
            refine W.block ?_
            refine W.region ?_
            refine L.op1 rfl rfl (GSpec.plain rfl (spec_move rfl (Get.tmp rfl))) ?_
            first | refine L.op1 rfl rfl (GSpec.plain rfl (fit_i64 (by (first | omega | (have q1 := fmt_digs hm.1 _ (getD_mem' (show w < (fmt m).length by omega)); have q2 := (val_fmt hm.1).2 w; have q3 := hm.2; (try simp only [Int.toNat_natCast]); omega))) (by (first | omega | (have q1 := fmt_digs hm.1 _ (getD_mem' (show w < (fmt m).length by omega)); have q2 := (val_fmt hm.1).2 w; have q3 := hm.2; (try simp only [Int.toNat_natCast]); omega))) (spec_add rfl (Get.tmp rfl) (Get.cint rfl)))) ?_ | refine L.op1 rfl rfl (GSpec.plain rfl (spec_add rfl (Get.tmp rfl) (Get.cint rfl))) ?_
            refine L.op1 rfl rfl (GSpec.plain rfl (spec_assign rfl (Get.tmp rfl))) ?_
            refine L.nil ?_
            refine N.blockNormal ?_
            refine N.thenW ?_
            refine W.region ?_
            refine L.op1 rfl rfl (GSpec.plain rfl (spec_move rfl (Get.tmp rfl))) ?_
            first | refine L.op1 rfl rfl (GSpec.plain rfl (fit_i64 (by (first | omega | (have q1 := fmt_digs hm.1 _ (getD_mem' (show w < (fmt m).length by omega)); have q2 := (val_fmt hm.1).2 w; have q3 := hm.2; (try simp only [Int.toNat_natCast]); omega))) (by (first | omega | (have q1 := fmt_digs hm.1 _ (getD_mem' (show w < (fmt m).length by omega)); have q2 := (val_fmt hm.1).2 w; have q3 := hm.2; (try simp only [Int.toNat_natCast]); omega))) (spec_sub rfl (Get.tmp rfl) (Get.cint rfl)))) ?_ | refine L.op1 rfl rfl (GSpec.plain rfl (spec_sub rfl (Get.tmp rfl) (Get.cint rfl))) ?_
            refine L.op1 rfl rfl (GSpec.plain rfl (spec_assign rfl (Get.tmp rfl))) ?_
            refine L.nil ?_
            refine N.roundK (z + 1) ?hI1 ?hmu1 ?hs1 ?hk1 ?hp1
            case hs1 => exact (.weak (t := 13) rfl (eqI (by omega)) (.weak (t := 14) rfl (eqI (by omega)) .nil))
            case hk1 => exact (.cons (t := 0) rfl (.cons (t := 4) rfl (.cons (t := 11) rfl .nil)))
            case hp1 => exact (.cons 0 rfl .nil)
            case hI1 => exact ⟨by omega, upto hI2 hx.2⟩
            case hmu1 => omega
          · have hx : ((s.length : Int) - 1 - (z : Nat) < 0) ∨ ch s (s.length - 1 - z) = 46 := by have h := h5; rw [show ((s.length : Int) - 1 - (z : Nat)).toNat = s.length - 1 - z by omega] at h; simp only [Bool.and_eq_false_iff, Bool.not_eq_false', decide_eq_true_eq, decide_eq_false_iff_not] at h; unfold ch; omega
            refine W.exit ?_
            refine N.thenExit ?_
            refine N.thenExit ?_
            refine N.blockExit ?_
            refine N.thenW ?_
            have hz : z = (fmt m).length := tail_len hm.1 hsm hI1 hI2 hx
            have hfl := fmt_len hm
            refine W.keep (.cons (t := 0) rfl (.cons (t := 4) rfl (.cons (t := 11) rfl (.cons (t := 13) rfl .nil)))) .refl ?_
            refine W.seq ?_
            refine W.region ?_
            refine L.op1 rfl rfl (GSpec.plain rfl (spec_assign rfl (Get.cint rfl))) ?_
            refine L.nil ?_
            refine N.thenW ?_
            refine W.seq ?_
            refine W.seq ?_
            refine W.region ?_
            refine L.op1 rfl rfl (GSpec.plain rfl (spec_move rfl (Get.tmp rfl))) ?_
            refine L.op1 rfl rfl (GSpec.plain rfl (spec_move rfl (Get.tmp rfl))) ?_
            refine L.op1 rfl rfl (GSpec.plain rfl (spec_lenS rfl Tryd.underlying9 (Get.tmp rfl))) ?_
            refine L.op1 rfl rfl (GSpec.plain rfl (spec_move rfl (Get.tmp rfl))) ?_
            first | refine L.op1 rfl rfl (GSpec.plain rfl (fit_i64 (by (first | omega | (have q1 := fmt_digs hm.1 _ (getD_mem' (show w < (fmt m).length by omega)); have q2 := (val_fmt hm.1).2 w; have q3 := hm.2; (try simp only [Int.toNat_natCast]); omega))) (by (first | omega | (have q1 := fmt_digs hm.1 _ (getD_mem' (show w < (fmt m).length by omega)); have q2 := (val_fmt hm.1).2 w; have q3 := hm.2; (try simp only [Int.toNat_natCast]); omega))) (spec_sub rfl (Get.tmp rfl) (Get.tmp rfl)))) ?_ | refine L.op1 rfl rfl (GSpec.plain rfl (spec_sub rfl (Get.tmp rfl) (Get.tmp rfl))) ?_
            refine L.op1 rfl rfl (GSpec.plain rfl (spec_sliceS rfl Tryd.underlying9 (Get.tmp rfl) (.some (Get.tmp rfl) (by (first | omega | (have q1 := fmt_digs hm.1 _ (getD_mem' (show w < (fmt m).length by omega)); have q2 := (val_fmt hm.1).2 w; have q3 := hm.2; (try simp only [Int.toNat_natCast]); omega)))) .none (by (first | omega | (have q1 := fmt_digs hm.1 _ (getD_mem' (show w < (fmt m).length by omega)); have q2 := (val_fmt hm.1).2 w; have q3 := hm.2; (try simp only [Int.toNat_natCast]); omega))))) ?_
            refine L.op1 rfl rfl (GSpec.plain rfl (spec_strBytes (E := eU8) (fun _ => rfl) rfl Tryd.underlying9 Tryd.underlying5 Tryd.underlying38 (Get.tmp rfl))) ?_
            refine L.op1 rfl rfl (GSpec.plain rfl (spec_len rfl Tryd.underlying38 (Get.tmp rfl))) ?_
            refine L.op1 rfl rfl (GSpec.plain rfl (spec_move rfl (Get.cint rfl))) ?_
            refine L.nil ?_
            refine N.thenW ?_
            rw [tail_eq hsm hz]
            refine W.keep (.cons (t := 0) rfl (.cons (t := 4) rfl (.cons (t := 11) rfl (.cons (t := 15) rfl (.cons (t := 115) rfl (.cons (t := 116) rfl (.cons (t := 117) rfl .nil))))))) .refl ?_
            refine W.block ?_
            refine W.loopK (σ := Nat) (.cons (t := 0) rfl (.cons (t := 4) rfl (.cons (t := 11) rfl (.cons (t := 115) rfl (.cons (t := 116) rfl .nil))))) (fun z => [(117, Rp.int .i64 (z : Nat)), (15, Rp.int .i64 (valD ((fmt m).take z)))]) (fun z => []) (fun z => z ≤ (fmt m).length) (fun z => (fmt m).length - z) 0 (Nat.zero_le _) (.cons (t := 117) rfl (.weak (t := 15) rfl (eqI (by rfl)) .nil)) (.cons 0 rfl .nil) ?_
            intro w hI S' M' hS hM
            try dsimp only at hS hM
            simp only [List.cons_append, List.nil_append] at hS hM
            subst hS hM
            try dsimp only
            refine W.seq ?_
            refine W.region ?_
            refine L.op1 rfl rfl (GSpec.plain rfl (spec_lss rfl (Get.tmp rfl) (Get.tmp rfl))) ?_
            refine L.nil ?_
            refine N.thenW ?_
            refine W.seq ?_
            refine W.cond (Get.tmp rfl) (fun h6 => ?_) (fun h6 => ?_)
            · have ph6 := h6; try simp only [decide_eq_true_eq, decide_eq_false_iff_not, Bool.and_eq_true, Bool.or_eq_true, Bool.and_eq_false_iff, Bool.or_eq_false_iff, Bool.not_eq_true', Bool.not_eq_false', Bool.not_true, Bool.not_false, Int.not_lt, Int.not_le] at ph6
              refine W.skip ?_
              refine N.thenW ?_
              refine W.seq ?_
              refine W.block ?_
              refine W.seq ?_
              refine W.region ?_
              refine L.op1 rfl rfl (GSpec.plain rfl (spec_indexAddrD (E := eU8) rfl Tryd.underlying38 Tryd.sizeOf5 (fun _ => rfl) (Get.tmp rfl) (Get.tmp rfl) (by (first | omega | (have q1 := fmt_digs hm.1 _ (getD_mem' (show w < (fmt m).length by omega)); have q2 := (val_fmt hm.1).2 w; have q3 := hm.2; (try simp only [Int.toNat_natCast]); omega))))) ?_
              refine L.op1 rfl rfl (GSpec.plain rfl (spec_loadP1 rfl Tryd.isAgg5 (Get.tmp rfl))) ?_
              refine L.op1 rfl rfl (GSpec.plain rfl (spec_assign rfl (Get.tmp rfl))) ?_
              refine L.nil ?_
              refine N.thenW ?_
              refine W.region ?_
              refine L.op1 rfl rfl (GSpec.plain rfl (spec_move rfl (Get.tmp rfl))) ?_
              first | refine L.op1 rfl rfl (GSpec.plain rfl (fit_i64 (by (first | omega | (have q1 := fmt_digs hm.1 _ (getD_mem' (show w < (fmt m).length by omega)); have q2 := (val_fmt hm.1).2 w; have q3 := hm.2; (try simp only [Int.toNat_natCast]); omega))) (by (first | omega | (have q1 := fmt_digs hm.1 _ (getD_mem' (show w < (fmt m).length by omega)); have q2 := (val_fmt hm.1).2 w; have q3 := hm.2; (try simp only [Int.toNat_natCast]); omega))) (spec_mul rfl (Get.cint rfl) (Get.tmp rfl)))) ?_ | refine L.op1 rfl rfl (GSpec.plain rfl (spec_mul rfl (Get.cint rfl) (Get.tmp rfl))) ?_
              refine L.op1 rfl rfl (GSpec.plain rfl (spec_move rfl (Get.tmp rfl))) ?_
              first | refine L.op1 rfl rfl (GSpec.plain rfl (fit_u8 (by (first | omega | (have q1 := fmt_digs hm.1 _ (getD_mem' (show w < (fmt m).length by omega)); have q2 := (val_fmt hm.1).2 w; have q3 := hm.2; (try simp only [Int.toNat_natCast]); omega))) (by (first | omega | (have q1 := fmt_digs hm.1 _ (getD_mem' (show w < (fmt m).length by omega)); have q2 := (val_fmt hm.1).2 w; have q3 := hm.2; (try simp only [Int.toNat_natCast]); omega))) (spec_sub rfl (Get.tmp rfl) (Get.cint rfl)))) ?_ | refine L.op1 rfl rfl (GSpec.plain rfl (spec_sub rfl (Get.tmp rfl) (Get.cint rfl))) ?_
              first | refine L.op1 rfl rfl (GSpec.plain rfl (fit_i64 (by (first | omega | (have q1 := fmt_digs hm.1 _ (getD_mem' (show w < (fmt m).length by omega)); have q2 := (val_fmt hm.1).2 w; have q3 := hm.2; (try simp only [Int.toNat_natCast]); omega))) (by (first | omega | (have q1 := fmt_digs hm.1 _ (getD_mem' (show w < (fmt m).length by omega)); have q2 := (val_fmt hm.1).2 w; have q3 := hm.2; (try simp only [Int.toNat_natCast]); omega))) (spec_conv rfl Tryd.underlying3 ⟨_, Tryd.underlying5⟩ (Get.tmp rfl)))) ?_ | refine L.op1 rfl rfl (GSpec.plain rfl (spec_conv rfl Tryd.underlying3 ⟨_, Tryd.underlying5⟩ (Get.tmp rfl))) ?_
              first | refine L.op1 rfl rfl (GSpec.plain rfl (fit_i64 (by (first | omega | (have q1 := fmt_digs hm.1 _ (getD_mem' (show w < (fmt m).length by omega)); have q2 := (val_fmt hm.1).2 w; have q3 := hm.2; (try simp only [Int.toNat_natCast]); omega))) (by (first | omega | (have q1 := fmt_digs hm.1 _ (getD_mem' (show w < (fmt m).length by omega)); have q2 := (val_fmt hm.1).2 w; have q3 := hm.2; (try simp only [Int.toNat_natCast]); omega))) (spec_add rfl (Get.tmp rfl) (Get.tmp rfl)))) ?_ | refine L.op1 rfl rfl (GSpec.plain rfl (spec_add rfl (Get.tmp rfl) (Get.tmp rfl))) ?_
              refine L.op1 rfl rfl (GSpec.plain rfl (spec_assign rfl (Get.tmp rfl))) ?_
              refine L.nil ?_
              refine N.blockNormal ?_
              refine N.thenW ?_
              refine W.region ?_
              first | refine L.op1 rfl rfl (GSpec.plain rfl (fit_i64 (by (first | omega | (have q1 := fmt_digs hm.1 _ (getD_mem' (show w < (fmt m).length by omega)); have q2 := (val_fmt hm.1).2 w; have q3 := hm.2; (try simp only [Int.toNat_natCast]); omega))) (by (first | omega | (have q1 := fmt_digs hm.1 _ (getD_mem' (show w < (fmt m).length by omega)); have q2 := (val_fmt hm.1).2 w; have q3 := hm.2; (try simp only [Int.toNat_natCast]); omega))) (spec_add rfl (Get.tmp rfl) (Get.cint rfl)))) ?_ | refine L.op1 rfl rfl (GSpec.plain rfl (spec_add rfl (Get.tmp rfl) (Get.cint rfl))) ?_
              refine L.op1 rfl rfl (GSpec.plain rfl (spec_move rfl (Get.tmp rfl))) ?_
              refine L.nil ?_
              refine N.roundK (w + 1) ?hI2 ?hmu2 ?hs2 ?hk2 ?hp2
              case hs2 => exact (.cons (t := 117) rfl (.weak (t := 15) rfl (eqI (by simp only [Int.toNat_natCast]; exact (val_step (l := fmt m) (i := w) (by omega)).symm)) .nil))
              case hk2 => exact (.cons (t := 0) rfl (.cons (t := 4) rfl (.cons (t := 11) rfl (.cons (t := 115) rfl (.cons (t := 116) rfl .nil)))))
              case hp2 => exact (.cons 0 rfl .nil)
              all_goals (first | rfl | trivial | omega | (simp_all; done))
            · have ph6 := h6; try simp only [decide_eq_true_eq, decide_eq_false_iff_not, Bool.and_eq_true, Bool.or_eq_true, Bool.and_eq_false_iff, Bool.or_eq_false_iff, Bool.not_eq_true', Bool.not_eq_false', Bool.not_true, Bool.not_false, Int.not_lt, Int.not_le] at ph6
              refine W.exit ?_
              refine N.thenExit ?_
              refine N.thenExit ?_
              refine N.blockExit ?_
              refine N.thenW ?_
              rw [show w = (fmt m).length by omega, List.take_length, (val_fmt hm.1).1]
              refine W.seq ?_
              refine W.region ?_
              refine L.op1 rfl rfl (GSpec.plain rfl (spec_move rfl (Get.tmp rfl))) ?_
              refine L.op1 rfl rfl (GSpec.plain rfl (spec_move rfl (Get.tmp rfl))) ?_
              refine L.op1 rfl rfl (GSpec.plain rfl (spec_callG0 (k := 0) rfl Tryd.call15 rfl rfl (childT_ok _ _ (by first | omega | decide)) (.cons (Get.tmp rfl) (.cons (Get.tmp rfl) .nil)))) ?_
              refine L.op1 rfl rfl (GSpec.plain rfl (spec_move rfl (Get.tmp rfl))) ?_
              refine L.op1 rfl rfl (GSpec.plain rfl (spec_extract rfl (Get.tmp rfl) rfl)) ?_
              refine L.op1 rfl rfl (GSpec.plain rfl (spec_extract rfl (Get.tmp rfl) rfl)) ?_
              refine L.op1 rfl rfl (GSpec.plain rfl (spec_assign rfl (Get.tmp rfl))) ?_
              refine L.op1 rfl rfl (GSpec.plain rfl (spec_assign rfl (Get.tmp rfl))) ?_
              refine L.nil ?_
              refine N.thenW ?_
              refine W.keep (.cons (t := 0) rfl (.cons (t := 4) rfl (.cons (t := 18) rfl (.cons (t := 19) rfl .nil)))) .refl ?_
              refine W.seq ?_
              refine W.region ?_
              refine L.op1 rfl rfl (GSpec.plain rfl (spec_move rfl (Get.tmp rfl))) ?_
              refine L.op1 rfl rfl (GSpec.plain rfl (spec_eql rfl (Get.tmp rfl) (Get.cint rfl))) ?_
              refine L.op1 rfl rfl (GSpec.plain rfl (spec_move rfl (Get.tmp rfl))) ?_
              refine L.op1 rfl rfl (GSpec.guard rfl rfl rfl fun hg => (spec_move rfl (Get.tmp rfl))) ?_
              refine L.op1 rfl rfl (GSpec.guard rfl rfl rfl fun hg => (spec_move rfl (Get.tmp rfl))) ?_
              refine L.op1 rfl rfl (GSpec.guard rfl rfl rfl fun hg => (spec_eqlS rfl (Get.opt rfl hg) (Get.opt rfl hg))) ?_
              refine L.op1 rfl rfl (GSpec.plain rfl (spec_and rfl (Get.tmp rfl) (fun hb => (Get.opt rfl hb)))) ?_
              refine L.op1 rfl rfl (GSpec.plain rfl (spec_move rfl (Get.tmp rfl))) ?_
              refine L.op1 rfl rfl (GSpec.guard rfl rfl rfl fun hg => (spec_callG0 (k := 0) rfl Tryd.call14 rfl rfl (awake_ok ) .nil)) ?_
              refine L.op1 rfl rfl (GSpec.plain rfl (spec_and rfl (Get.tmp rfl) (fun hb => (Get.opt rfl hb)))) ?_
              refine L.op1 rfl rfl (GSpec.plain rfl (spec_assign rfl (Get.tmp rfl))) ?_
              refine L.nil ?_
              refine N.thenW ?_
              refine W.keep (.cons (t := 4) rfl .nil) .refl ?_
              refine W.ret ?_
              refine N.ret () rfl (.tmp (t := 4) (Get.tmp rfl) .nil) (res1 (eqB ?_)) .nil (fun _ _ h => h)
              simp [hch]
  · refine W.skip ?_
    refine N.thenW ?_
    refine W.seq ?_
    refine W.region ?_
    refine L.op1 rfl rfl (GSpec.plain rfl (spec_move rfl (Get.tmp rfl))) ?_
    refine L.op1 rfl rfl (GSpec.plain rfl (spec_callG0 (k := 0) rfl Tryd.call17 rfl rfl (parent_ok _ (by first | omega | decide)) (.cons (Get.tmp rfl) .nil))) ?_
    refine L.op1 rfl rfl (GSpec.plain rfl (spec_move rfl (Get.tmp rfl))) ?_
    refine L.op1 rfl rfl (GSpec.plain rfl (spec_extract rfl (Get.tmp rfl) rfl)) ?_
    refine L.op1 rfl rfl (GSpec.plain rfl (spec_extract rfl (Get.tmp rfl) rfl)) ?_
    refine L.op1 rfl rfl (GSpec.plain rfl (spec_assign rfl (Get.tmp rfl))) ?_
    refine L.op1 rfl rfl (GSpec.plain rfl (spec_assign rfl (Get.tmp rfl))) ?_
    refine L.nil ?_
    refine N.thenW ?_
    refine W.keep (.cons (t := 0) rfl (.cons (t := 4) rfl (.cons (t := 11) rfl (.cons (t := 12) rfl .nil)))) .refl ?_
    refine W.seq ?_
    refine W.seq ?_
    refine W.region ?_
    refine L.op1 rfl rfl (GSpec.plain rfl (spec_move rfl (Get.tmp rfl))) ?_
    refine L.op1 rfl rfl (GSpec.plain rfl (spec_not rfl (Get.tmp rfl))) ?_
    refine L.nil ?_
    refine N.thenW ?_
    refine W.cond (Get.tmp rfl) (fun h7 => ?_) (fun h7 => ?_)
    · have hp0 : (parentQ (numsP s)).2 = false := by have h := h7; rw [Bool.not_eq_true'] at h; exact h
      refine W.seq ?_
      refine W.region ?_
      refine L.op1 rfl rfl (GSpec.plain rfl (spec_move rfl (Get.tmp rfl))) ?_
      refine L.op1 rfl rfl (GSpec.plain rfl (spec_call rfl Tryd.call10 (valid_ok _ (by first | omega | decide)) (.cons (Get.tmp rfl) .nil))) ?_
      refine L.op1 rfl rfl (GSpec.plain rfl (spec_not rfl (Get.tmp rfl))) ?_
      refine L.op1 rfl rfl (GSpec.plain rfl (spec_move rfl (Get.tmp rfl))) ?_
      refine L.op1 rfl rfl (GSpec.guard rfl rfl rfl fun hg => (spec_move rfl (Get.tmp rfl))) ?_
      refine L.op1 rfl rfl (GSpec.guard rfl rfl rfl fun hg => (spec_eqlS rfl (Get.opt rfl hg) (Get.cstr (l := []) rfl rfl))) ?_
      refine L.op1 rfl rfl (GSpec.plain rfl (spec_or rfl (Get.tmp rfl) (fun hb => (Get.opt rfl hb)))) ?_
      refine L.op1 rfl rfl (GSpec.plain rfl (spec_move rfl (Get.tmp rfl))) ?_
      refine L.op1 rfl rfl (GSpec.guard rfl rfl rfl fun hg => (spec_callG0 (k := 0) rfl Tryd.call14 rfl rfl (awake_ok ) .nil)) ?_
      refine L.op1 rfl rfl (GSpec.plain rfl (spec_and rfl (Get.tmp rfl) (fun hb => (Get.opt rfl hb)))) ?_
      refine L.op1 rfl rfl (GSpec.plain rfl (spec_assign rfl (Get.tmp rfl))) ?_
      refine L.nil ?_
      refine N.thenW ?_
      refine W.keep (.cons (t := 0) rfl (.cons (t := 4) rfl (.cons (t := 11) rfl .nil))) .refl ?_
      refine W.ret ?_
      refine N.ret () rfl (.tmp (t := 4) (Get.tmp rfl) .nil) (res1 (eqB ?_)) .nil (fun _ _ h => h)
      have q := tree_root hp0; simpa using q
    · have hp1 : (parentQ (numsP s)).2 = true := by have h := h7; rw [Bool.not_eq_false'] at h; exact h
      obtain ⟨m, hm, hsm, hch⟩ := tree_last hp1
      refine W.skip ?_
      refine N.thenW ?_
      refine W.seq ?_
      refine W.region ?_
      refine L.op1 rfl rfl (GSpec.plain rfl (spec_assign rfl (Get.cint rfl))) ?_
      refine L.nil ?_
      refine N.thenW ?_
      refine W.seq ?_
      refine W.seq ?_
      refine W.region ?_
      refine L.op1 rfl rfl (GSpec.plain rfl (spec_move rfl (Get.tmp rfl))) ?_
      refine L.op1 rfl rfl (GSpec.plain rfl (spec_lenS rfl Tryd.underlying9 (Get.tmp rfl))) ?_
      first | refine L.op1 rfl rfl (GSpec.plain rfl (fit_i64 (by (first | omega | (have q1 := fmt_digs hm.1 _ (getD_mem' (show w < (fmt m).length by omega)); have q2 := (val_fmt hm.1).2 w; have q3 := hm.2; (try simp only [Int.toNat_natCast]); omega))) (by (first | omega | (have q1 := fmt_digs hm.1 _ (getD_mem' (show w < (fmt m).length by omega)); have q2 := (val_fmt hm.1).2 w; have q3 := hm.2; (try simp only [Int.toNat_natCast]); omega))) (spec_sub rfl (Get.tmp rfl) (Get.cint rfl)))) ?_ | refine L.op1 rfl rfl (GSpec.plain rfl (spec_sub rfl (Get.tmp rfl) (Get.cint rfl))) ?_
      refine L.op1 rfl rfl (GSpec.plain rfl (spec_assign rfl (Get.tmp rfl))) ?_
      refine L.nil ?_
      refine N.thenW ?_
      refine W.keep (.cons (t := 0) rfl (.cons (t := 4) rfl (.cons (t := 11) rfl (.cons (t := 13) rfl (.cons (t := 14) rfl .nil))))) .refl ?_
      refine W.block ?_
      refine W.loopK (σ := Nat) (.cons (t := 0) rfl (.cons (t := 4) rfl (.cons (t := 11) rfl .nil))) (fun z => [(13, Rp.int .i64 (z : Nat)), (14, Rp.int .i64 ((s.length : Int) - 1 - (z : Nat)))]) (fun z => []) (fun z => z ≤ s.length ∧ ∀ j : Nat, j < z → ch s (s.length - 1 - j) ≠ 46) (fun z => s.length - z) 0 ⟨Nat.zero_le _, fun j hj => by omega⟩ (.cons (t := 13) rfl (.weak (t := 14) rfl (eqI (by omega)) .nil)) (.cons 0 rfl .nil) ?_
      intro z hI S' M' hS hM
      obtain ⟨hI1, hI2⟩ := hI
      try dsimp only at hS hM
      simp only [List.cons_append, List.nil_append] at hS hM
      subst hS hM
      try dsimp only
      refine W.seq ?_
      refine W.seq ?_
      refine W.region ?_
      refine L.op1 rfl rfl (GSpec.plain rfl (spec_move rfl (Get.tmp rfl))) ?_
      refine L.op1 rfl rfl (GSpec.plain rfl (spec_geq rfl (Get.tmp rfl) (Get.cint rfl))) ?_
      refine L.op1 rfl rfl (GSpec.plain rfl (spec_move rfl (Get.tmp rfl))) ?_
      refine L.op1 rfl rfl (GSpec.guard rfl rfl rfl fun hg => (spec_move rfl (Get.tmp rfl))) ?_
      refine L.op1 rfl rfl (GSpec.guard rfl rfl rfl fun hg => (spec_move rfl (Get.tmp rfl))) ?_
      refine L.op1 rfl rfl (GSpec.guard rfl rfl rfl fun hg => (spec_indexS rfl Tryd.underlying9 (Get.opt rfl hg) (Get.opt rfl hg) (by (first | omega | (simp only [decide_eq_true_eq, decide_eq_false_iff_not, Bool.and_eq_true, Bool.or_eq_true, Bool.and_eq_false_iff, Bool.or_eq_false_iff, Bool.not_eq_true', Bool.not_eq_false', Bool.not_true, Bool.not_false, Int.not_lt, Int.not_le] at hg; omega))))) ?_
      refine L.op1 rfl rfl (GSpec.guard rfl rfl rfl fun hg => (spec_neq rfl (Get.opt rfl hg) (Get.cint rfl))) ?_
      refine L.op1 rfl rfl (GSpec.plain rfl (spec_and rfl (Get.tmp rfl) (fun hb => (Get.opt rfl hb)))) ?_
      refine L.nil ?_
      refine N.thenW ?_
      refine W.cond (Get.tmp rfl) (fun h8 => ?_) (fun h8 => ?_)
      · have hx : 0 ≤ (s.length : Int) - 1 - (z : Nat) ∧ ch s (s.length - 1 - z) ≠ 46 := by have h := h8; rw [show ((s.length : Int) - 1 - (z : Nat)).toNat = s.length - 1 - z by omega] at h; simp only [Bool.and_eq_true, Bool.not_eq_true', decide_eq_true_eq, decide_eq_false_iff_not] at h; unfold ch; exact h
        have hx1 := hx.1
        refine W.skip ?_
        refine N.thenW ?_
        refine W.seq ?_
        refine W.block ?_
        refine W.region ?_
        refine L.op1 rfl rfl (GSpec.plain rfl (spec_move rfl (Get.tmp rfl))) ?_
        first | refine L.op1 rfl rfl (GSpec.plain rfl (fit_i64 (by (first | omega | (have q1 := fmt_digs hm.1 _ (getD_mem' (show w < (fmt m).length by omega)); have q2 := (val_fmt hm.1).2 w; have q3 := hm.2; (try simp only [Int.toNat_natCast]); omega))) (by (first | omega | (have q1 := fmt_digs hm.1 _ (getD_mem' (show w < (fmt m).length by omega)); have q2 := (val_fmt hm.1).2 w; have q3 := hm.2; (try simp only [Int.toNat_natCast]); omega))) (spec_add rfl (Get.tmp rfl) (Get.cint rfl)))) ?_ | refine L.op1 rfl rfl (GSpec.plain rfl (spec_add rfl (Get.tmp rfl) (Get.cint rfl))) ?_
        refine L.op1 rfl rfl (GSpec.plain rfl (spec_assign rfl (Get.tmp rfl))) ?_
        refine L.nil ?_
        refine N.blockNormal ?_
        refine N.thenW ?_
        refine W.region ?_
        refine L.op1 rfl rfl (GSpec.plain rfl (spec_move rfl (Get.tmp rfl))) ?_
        first | refine L.op1 rfl rfl (GSpec.plain rfl (fit_i64 (by (first | omega | (have q1 := fmt_digs hm.1 _ (getD_mem' (show w < (fmt m).length by omega)); have q2 := (val_fmt hm.1).2 w; have q3 := hm.2; (try simp only [Int.toNat_natCast]); omega))) (by (first | omega | (have q1 := fmt_digs hm.1 _ (getD_mem' (show w < (fmt m).length by omega)); have q2 := (val_fmt hm.1).2 w; have q3 := hm.2; (try simp only [Int.toNat_natCast]); omega))) (spec_sub rfl (Get.tmp rfl) (Get.cint rfl)))) ?_ | refine L.op1 rfl rfl (GSpec.plain rfl (spec_sub rfl (Get.tmp rfl) (Get.cint rfl))) ?_
        refine L.op1 rfl rfl (GSpec.plain rfl (spec_assign rfl (Get.tmp rfl))) ?_
        refine L.nil ?_
        refine N.roundK (z + 1) ?hI3 ?hmu3 ?hs3 ?hk3 ?hp3
        case hs3 => exact (.weak (t := 13) rfl (eqI (by omega)) (.weak (t := 14) rfl (eqI (by omega)) .nil))
        case hk3 => exact (.cons (t := 0) rfl (.cons (t := 4) rfl (.cons (t := 11) rfl .nil)))
        case hp3 => exact (.cons 0 rfl .nil)
        case hI3 => exact ⟨by omega, upto hI2 hx.2⟩
        case hmu3 => omega
      · have hx : ((s.length : Int) - 1 - (z : Nat) < 0) ∨ ch s (s.length - 1 - z) = 46 := by have h := h8; rw [show ((s.length : Int) - 1 - (z : Nat)).toNat = s.length - 1 - z by omega] at h; simp only [Bool.and_eq_false_iff, Bool.not_eq_false', decide_eq_true_eq, decide_eq_false_iff_not] at h; unfold ch; omega
        refine W.exit ?_
        refine N.thenExit ?_
        refine N.thenExit ?_
        refine N.blockExit ?_
        refine N.thenW ?_
        have hz : z = (fmt m).length := tail_len hm.1 hsm hI1 hI2 hx
        have hfl := fmt_len hm
        refine W.keep (.cons (t := 0) rfl (.cons (t := 4) rfl (.cons (t := 11) rfl (.cons (t := 13) rfl .nil)))) .refl ?_
        refine W.seq ?_
        refine W.region ?_
        refine L.op1 rfl rfl (GSpec.plain rfl (spec_assign rfl (Get.cint rfl))) ?_
        refine L.nil ?_
        refine N.thenW ?_
        refine W.seq ?_
        refine W.seq ?_
        refine W.region ?_
        refine L.op1 rfl rfl (GSpec.plain rfl (spec_move rfl (Get.tmp rfl))) ?_
        refine L.op1 rfl rfl (GSpec.plain rfl (spec_move rfl (Get.tmp rfl))) ?_
        refine L.op1 rfl rfl (GSpec.plain rfl (spec_lenS rfl Tryd.underlying9 (Get.tmp rfl))) ?_
        refine L.op1 rfl rfl (GSpec.plain rfl (spec_move rfl (Get.tmp rfl))) ?_
        first | refine L.op1 rfl rfl (GSpec.plain rfl (fit_i64 (by (first | omega | (have q1 := fmt_digs hm.1 _ (getD_mem' (show w < (fmt m).length by omega)); have q2 := (val_fmt hm.1).2 w; have q3 := hm.2; (try simp only [Int.toNat_natCast]); omega))) (by (first | omega | (have q1 := fmt_digs hm.1 _ (getD_mem' (show w < (fmt m).length by omega)); have q2 := (val_fmt hm.1).2 w; have q3 := hm.2; (try simp only [Int.toNat_natCast]); omega))) (spec_sub rfl (Get.tmp rfl) (Get.tmp rfl)))) ?_ | refine L.op1 rfl rfl (GSpec.plain rfl (spec_sub rfl (Get.tmp rfl) (Get.tmp rfl))) ?_
        refine L.op1 rfl rfl (GSpec.plain rfl (spec_sliceS rfl Tryd.underlying9 (Get.tmp rfl) (.some (Get.tmp rfl) (by (first | omega | (have q1 := fmt_digs hm.1 _ (getD_mem' (show w < (fmt m).length by omega)); have q2 := (val_fmt hm.1).2 w; have q3 := hm.2; (try simp only [Int.toNat_natCast]); omega)))) .none (by (first | omega | (have q1 := fmt_digs hm.1 _ (getD_mem' (show w < (fmt m).length by omega)); have q2 := (val_fmt hm.1).2 w; have q3 := hm.2; (try simp only [Int.toNat_natCast]); omega))))) ?_
        refine L.op1 rfl rfl (GSpec.plain rfl (spec_strBytes (E := eU8) (fun _ => rfl) rfl Tryd.underlying9 Tryd.underlying5 Tryd.underlying38 (Get.tmp rfl))) ?_
        refine L.op1 rfl rfl (GSpec.plain rfl (spec_len rfl Tryd.underlying38 (Get.tmp rfl))) ?_
        refine L.op1 rfl rfl (GSpec.plain rfl (spec_move rfl (Get.cint rfl))) ?_
        refine L.nil ?_
        refine N.thenW ?_
        rw [tail_eq hsm hz]
        refine W.keep (.cons (t := 0) rfl (.cons (t := 4) rfl (.cons (t := 11) rfl (.cons (t := 15) rfl (.cons (t := 115) rfl (.cons (t := 116) rfl (.cons (t := 117) rfl .nil))))))) .refl ?_
        refine W.block ?_
        refine W.loopK (σ := Nat) (.cons (t := 0) rfl (.cons (t := 4) rfl (.cons (t := 11) rfl (.cons (t := 115) rfl (.cons (t := 116) rfl .nil))))) (fun z => [(117, Rp.int .i64 (z : Nat)), (15, Rp.int .i64 (valD ((fmt m).take z)))]) (fun z => []) (fun z => z ≤ (fmt m).length) (fun z => (fmt m).length - z) 0 (Nat.zero_le _) (.cons (t := 117) rfl (.weak (t := 15) rfl (eqI (by rfl)) .nil)) (.cons 0 rfl .nil) ?_
        intro w hI S' M' hS hM
        try dsimp only at hS hM
        simp only [List.cons_append, List.nil_append] at hS hM
        subst hS hM
        try dsimp only
        refine W.seq ?_
        refine W.region ?_
        refine L.op1 rfl rfl (GSpec.plain rfl (spec_lss rfl (Get.tmp rfl) (Get.tmp rfl))) ?_
        refine L.nil ?_
        refine N.thenW ?_
        refine W.seq ?_
        refine W.cond (Get.tmp rfl) (fun h9 => ?_) (fun h9 => ?_)
        · have ph9 := h9; try simp only [decide_eq_true_eq, decide_eq_false_iff_not, Bool.and_eq_true, Bool.or_eq_true, Bool.and_eq_false_iff, Bool.or_eq_false_iff, Bool.not_eq_true', Bool.not_eq_false', Bool.not_true, Bool.not_false, Int.not_lt, Int.not_le] at ph9
          refine W.skip ?_
          refine N.thenW ?_
          refine W.seq ?_
          refine W.block ?_
          refine W.seq ?_
          refine W.region ?_
          refine L.op1 rfl rfl (GSpec.plain rfl (spec_indexAddrD (E := eU8) rfl Tryd.underlying38 Tryd.sizeOf5 (fun _ => rfl) (Get.tmp rfl) (Get.tmp rfl) (by (first | omega | (have q1 := fmt_digs hm.1 _ (getD_mem' (show w < (fmt m).length by omega)); have q2 := (val_fmt hm.1).2 w; have q3 := hm.2; (try simp only [Int.toNat_natCast]); omega))))) ?_
          refine L.op1 rfl rfl (GSpec.plain rfl (spec_loadP1 rfl Tryd.isAgg5 (Get.tmp rfl))) ?_
          refine L.op1 rfl rfl (GSpec.plain rfl (spec_assign rfl (Get.tmp rfl))) ?_
          refine L.nil ?_
          refine N.thenW ?_
          refine W.region ?_
          refine L.op1 rfl rfl (GSpec.plain rfl (spec_move rfl (Get.tmp rfl))) ?_
          first | refine L.op1 rfl rfl (GSpec.plain rfl (fit_i64 (by (first | omega | (have q1 := fmt_digs hm.1 _ (getD_mem' (show w < (fmt m).length by omega)); have q2 := (val_fmt hm.1).2 w; have q3 := hm.2; (try simp only [Int.toNat_natCast]); omega))) (by (first | omega | (have q1 := fmt_digs hm.1 _ (getD_mem' (show w < (fmt m).length by omega)); have q2 := (val_fmt hm.1).2 w; have q3 := hm.2; (try simp only [Int.toNat_natCast]); omega))) (spec_mul rfl (Get.cint rfl) (Get.tmp rfl)))) ?_ | refine L.op1 rfl rfl (GSpec.plain rfl (spec_mul rfl (Get.cint rfl) (Get.tmp rfl))) ?_
          refine L.op1 rfl rfl (GSpec.plain rfl (spec_move rfl (Get.tmp rfl))) ?_
          first | refine L.op1 rfl rfl (GSpec.plain rfl (fit_u8 (by (first | omega | (have q1 := fmt_digs hm.1 _ (getD_mem' (show w < (fmt m).length by omega)); have q2 := (val_fmt hm.1).2 w; have q3 := hm.2; (try simp only [Int.toNat_natCast]); omega))) (by (first | omega | (have q1 := fmt_digs hm.1 _ (getD_mem' (show w < (fmt m).length by omega)); have q2 := (val_fmt hm.1).2 w; have q3 := hm.2; (try simp only [Int.toNat_natCast]); omega))) (spec_sub rfl (Get.tmp rfl) (Get.cint rfl)))) ?_ | refine L.op1 rfl rfl (GSpec.plain rfl (spec_sub rfl (Get.tmp rfl) (Get.cint rfl))) ?_
          first | refine L.op1 rfl rfl (GSpec.plain rfl (fit_i64 (by (first | omega | (have q1 := fmt_digs hm.1 _ (getD_mem' (show w < (fmt m).length by omega)); have q2 := (val_fmt hm.1).2 w; have q3 := hm.2; (try simp only [Int.toNat_natCast]); omega))) (by (first | omega | (have q1 := fmt_digs hm.1 _ (getD_mem' (show w < (fmt m).length by omega)); have q2 := (val_fmt hm.1).2 w; have q3 := hm.2; (try simp only [Int.toNat_natCast]); omega))) (spec_conv rfl Tryd.underlying3 ⟨_, Tryd.underlying5⟩ (Get.tmp rfl)))) ?_ | refine L.op1 rfl rfl (GSpec.plain rfl (spec_conv rfl Tryd.underlying3 ⟨_, Tryd.underlying5⟩ (Get.tmp rfl))) ?_
          first | refine L.op1 rfl rfl (GSpec.plain rfl (fit_i64 (by (first | omega | (have q1 := fmt_digs hm.1 _ (getD_mem' (show w < (fmt m).length by omega)); have q2 := (val_fmt hm.1).2 w; have q3 := hm.2; (try simp only [Int.toNat_natCast]); omega))) (by (first | omega | (have q1 := fmt_digs hm.1 _ (getD_mem' (show w < (fmt m).length by omega)); have q2 := (val_fmt hm.1).2 w; have q3 := hm.2; (try simp only [Int.toNat_natCast]); omega))) (spec_add rfl (Get.tmp rfl) (Get.tmp rfl)))) ?_ | refine L.op1 rfl rfl (GSpec.plain rfl (spec_add rfl (Get.tmp rfl) (Get.tmp rfl))) ?_
          refine L.op1 rfl rfl (GSpec.plain rfl (spec_assign rfl (Get.tmp rfl))) ?_
          refine L.nil ?_
          refine N.blockNormal ?_
          refine N.thenW ?_
          refine W.region ?_
          first | refine L.op1 rfl rfl (GSpec.plain rfl (fit_i64 (by (first | omega | (have q1 := fmt_digs hm.1 _ (getD_mem' (show w < (fmt m).length by omega)); have q2 := (val_fmt hm.1).2 w; have q3 := hm.2; (try simp only [Int.toNat_natCast]); omega))) (by (first | omega | (have q1 := fmt_digs hm.1 _ (getD_mem' (show w < (fmt m).length by omega)); have q2 := (val_fmt hm.1).2 w; have q3 := hm.2; (try simp only [Int.toNat_natCast]); omega))) (spec_add rfl (Get.tmp rfl) (Get.cint rfl)))) ?_ | refine L.op1 rfl rfl (GSpec.plain rfl (spec_add rfl (Get.tmp rfl) (Get.cint rfl))) ?_
          refine L.op1 rfl rfl (GSpec.plain rfl (spec_move rfl (Get.tmp rfl))) ?_
          refine L.nil ?_
          refine N.roundK (w + 1) ?hI4 ?hmu4 ?hs4 ?hk4 ?hp4
          case hs4 => exact (.cons (t := 117) rfl (.weak (t := 15) rfl (eqI (by simp only [Int.toNat_natCast]; exact (val_step (l := fmt m) (i := w) (by omega)).symm)) .nil))
          case hk4 => exact (.cons (t := 0) rfl (.cons (t := 4) rfl (.cons (t := 11) rfl (.cons (t := 115) rfl (.cons (t := 116) rfl .nil)))))
          case hp4 => exact (.cons 0 rfl .nil)
          all_goals (first | rfl | trivial | omega | (simp_all; done))
        · have ph9 := h9; try simp only [decide_eq_true_eq, decide_eq_false_iff_not, Bool.and_eq_true, Bool.or_eq_true, Bool.and_eq_false_iff, Bool.or_eq_false_iff, Bool.not_eq_true', Bool.not_eq_false', Bool.not_true, Bool.not_false, Int.not_lt, Int.not_le] at ph9
          refine W.exit ?_
          refine N.thenExit ?_
          refine N.thenExit ?_
          refine N.blockExit ?_
          refine N.thenW ?_
          rw [show w = (fmt m).length by omega, List.take_length, (val_fmt hm.1).1]
          refine W.seq ?_
          refine W.region ?_
          refine L.op1 rfl rfl (GSpec.plain rfl (spec_move rfl (Get.tmp rfl))) ?_
          refine L.op1 rfl rfl (GSpec.plain rfl (spec_move rfl (Get.tmp rfl))) ?_
          refine L.op1 rfl rfl (GSpec.plain rfl (spec_callG0 (k := 0) rfl Tryd.call15 rfl rfl (childT_ok _ _ (by first | omega | decide)) (.cons (Get.tmp rfl) (.cons (Get.tmp rfl) .nil)))) ?_
          refine L.op1 rfl rfl (GSpec.plain rfl (spec_move rfl (Get.tmp rfl))) ?_
          refine L.op1 rfl rfl (GSpec.plain rfl (spec_extract rfl (Get.tmp rfl) rfl)) ?_
          refine L.op1 rfl rfl (GSpec.plain rfl (spec_extract rfl (Get.tmp rfl) rfl)) ?_
          refine L.op1 rfl rfl (GSpec.plain rfl (spec_assign rfl (Get.tmp rfl))) ?_
          refine L.op1 rfl rfl (GSpec.plain rfl (spec_assign rfl (Get.tmp rfl))) ?_
          refine L.nil ?_
          refine N.thenW ?_
          refine W.keep (.cons (t := 0) rfl (.cons (t := 4) rfl (.cons (t := 18) rfl (.cons (t := 19) rfl .nil)))) .refl ?_
          refine W.seq ?_
          refine W.region ?_
          refine L.op1 rfl rfl (GSpec.plain rfl (spec_move rfl (Get.tmp rfl))) ?_
          refine L.op1 rfl rfl (GSpec.plain rfl (spec_eql rfl (Get.tmp rfl) (Get.cint rfl))) ?_
          refine L.op1 rfl rfl (GSpec.plain rfl (spec_move rfl (Get.tmp rfl))) ?_
          refine L.op1 rfl rfl (GSpec.guard rfl rfl rfl fun hg => (spec_move rfl (Get.tmp rfl))) ?_
          refine L.op1 rfl rfl (GSpec.guard rfl rfl rfl fun hg => (spec_move rfl (Get.tmp rfl))) ?_
          refine L.op1 rfl rfl (GSpec.guard rfl rfl rfl fun hg => (spec_eqlS rfl (Get.opt rfl hg) (Get.opt rfl hg))) ?_
          refine L.op1 rfl rfl (GSpec.plain rfl (spec_and rfl (Get.tmp rfl) (fun hb => (Get.opt rfl hb)))) ?_
          refine L.op1 rfl rfl (GSpec.plain rfl (spec_move rfl (Get.tmp rfl))) ?_
          refine L.op1 rfl rfl (GSpec.guard rfl rfl rfl fun hg => (spec_callG0 (k := 0) rfl Tryd.call14 rfl rfl (awake_ok ) .nil)) ?_
          refine L.op1 rfl rfl (GSpec.plain rfl (spec_and rfl (Get.tmp rfl) (fun hb => (Get.opt rfl hb)))) ?_
          refine L.op1 rfl rfl (GSpec.plain rfl (spec_assign rfl (Get.tmp rfl))) ?_
          refine L.nil ?_
          refine N.thenW ?_
          refine W.keep (.cons (t := 4) rfl .nil) .refl ?_
          refine W.ret ?_
          refine N.ret () rfl (.tmp (t := 4) (Get.tmp rfl) .nil) (res1 (eqB ?_)) .nil (fun _ _ h => h)
          simp [hch]

end Go.Proofs.YteannfdcbblooaaDoor
