import Derived.Test.YteannfdcbblooaaDoorThW3
set_option linter.unusedSimpArgs false
set_option maxRecDepth 8000
set_option linter.unusedVariables false
namespace Go.Proofs.YteannfdcbblooaaDoor
open Go.Sim
theorem rnumbers_ok (s : List UInt8) (h : s.length ≤ 1048576) : CallT Tryd.prog 29 [Rp.str s] [] (.one (Rp.tuple [Rp.slice eI (numsR s).1, Rp.bool (numsR s).2])) := by
  refine W.enter (fn := Tryd.f29) (n := 82) Tryd.func29 rfl Tryd.ntmps29 rfl (fun w₀ C₀ => ?_)
  simp only [argS]
  refine W.seq ?_
  refine W.region ?_
  refine L.op1 rfl rfl (GSpec.plain rfl (spec_assign rfl (Get.cnil (E := eI)))) ?_
  refine L.op1 rfl rfl (GSpec.plain rfl (spec_assign rfl Get.cbool)) ?_
  refine L.nil ?_
  refine N.thenW ?_
  refine W.seq ?_
  refine W.region ?_
  refine L.op1 rfl rfl (GSpec.plain rfl (spec_assign rfl Get.cval)) ?_
  refine L.nil ?_
  refine N.thenW ?_
  refine W.seq ?_
  refine W.region ?_
  refine L.op1 rfl rfl (GSpec.plain rfl (spec_assign rfl (Get.cint rfl))) ?_
  refine L.nil ?_
  refine N.thenW ?_
  refine W.nil 3 1 eI ?_
  refine W.seq ?_
  refine W.block ?_
  -- assigned in the loop, not kept: [2, 3]
  refine W.loopK (σ := Nat × List Int × Value) (.cons (t := 0) rfl .nil) (fun z => [(4, Rp.val z.2.2), (5, Rp.int .i64 (z.1 : Nat))]) (fun z => [MF.osl z.2.2 3 1 eI z.2.1]) (fun z => z.1 ≤ s.length ∧ OutI s z.1 z.2.1) (fun z => s.length - z.1) (0, [], .slice none 0 0) ⟨Nat.zero_le _, Nat.zero_le _, .inl ⟨rfl, rfl⟩⟩ (.cons (t := 4) rfl (.cons (t := 5) rfl .nil)) (.cons 0 rfl .nil) ?_
  intro ⟨i, out, vo⟩ hI S' M' hS hM
  obtain ⟨hI1, hI2⟩ := hI
  try dsimp only at hS hM
  simp only [List.cons_append, List.nil_append] at hS hM
  subst hS hM
  try dsimp only
  try dsimp only at hI1 hI2
  have hol := hI2.1
  refine W.seq ?_
  refine W.seq ?_
  refine W.region ?_
  refine L.op1 rfl rfl (GSpec.plain rfl (spec_move rfl (Get.tmp rfl))) ?_
  refine L.op1 rfl rfl (GSpec.plain rfl (spec_move rfl (Get.tmp rfl))) ?_
  refine L.op1 rfl rfl (GSpec.plain rfl (spec_lenS rfl Tryd.underlying9 (Get.tmp rfl))) ?_
  refine L.op1 rfl rfl (GSpec.plain rfl (spec_lss rfl (Get.tmp rfl) (Get.tmp rfl))) ?_
  refine L.nil ?_
  refine N.thenW ?_
  refine W.cond (Get.tmp rfl) (fun h1 => ?_) (fun h1 => ?_)
  · have ph1 := h1; try simp only [decide_eq_true_eq, decide_eq_false_iff_not, Bool.and_eq_true, Bool.or_eq_true, Bool.and_eq_false_iff, Bool.or_eq_false_iff, Bool.not_eq_true', Bool.not_eq_false', Bool.not_true, Bool.not_false, Int.not_lt, Int.not_le] at ph1
    refine W.skip ?_
    refine N.thenW ?_
    refine W.block ?_
    refine W.cut (σ := {k : Nat // i ≤ k ∧ k ≤ s.length ∧ (k < s.length ∨ 0 < k) ∧ runN s k = some ⟨out, 0, 0, false⟩}) (fun z => [(0, Rp.str s), (4, Rp.val vo), (5, Rp.int .i64 (z.1 : Nat))]) (fun z => [MF.osl vo 3 1 eI out]) ?_ ?_
    · refine W.seq ?_
      refine W.region ?_
      refine L.op1 rfl rfl (GSpec.plain rfl (spec_move rfl (Get.tmp rfl))) ?_
      refine L.op1 rfl rfl (GSpec.plain rfl (spec_lenO (k := 0) rfl Tryd.underlying47 (Get.tmp rfl) rfl)) ?_
      refine L.op1 rfl rfl (GSpec.plain rfl (spec_gtr rfl (Get.tmp rfl) (Get.cint rfl))) ?_
      refine L.nil ?_
      refine N.thenW ?_
      refine W.cond (Get.tmp rfl) (fun h2 => ?_) (fun h2 => ?_)
      · have ph2 := h2; try simp only [decide_eq_true_eq, decide_eq_false_iff_not, Bool.and_eq_true, Bool.or_eq_true, Bool.and_eq_false_iff, Bool.or_eq_false_iff, Bool.not_eq_true', Bool.not_eq_false', Bool.not_true, Bool.not_false, Int.not_lt, Int.not_le] at ph2
        refine W.seq ?_
        refine W.seq ?_
        refine W.region ?_
        refine L.op1 rfl rfl (GSpec.plain rfl (spec_move rfl (Get.tmp rfl))) ?_
        refine L.op1 rfl rfl (GSpec.plain rfl (spec_move rfl (Get.tmp rfl))) ?_
        refine L.op1 rfl rfl (GSpec.plain rfl (spec_indexS rfl Tryd.underlying9 (Get.tmp rfl) (Get.tmp rfl) (by (first | omega | (simp only [Int.toNat_natCast]; omega) | (simp only [List.length_cons, List.length_nil]; omega))))) ?_
        refine L.op1 rfl rfl (GSpec.plain rfl (spec_neq rfl (Get.tmp rfl) (Get.cint rfl))) ?_
        refine L.nil ?_
        refine N.thenW ?_
        refine W.cond (Get.tmp rfl) (fun h3 => ?_) (fun h3 => ?_)
        · have ph3 : ch s i ≠ 46 := by have h := h3; simpa [ch] using h
          refine W.seq ?_
          refine W.region ?_
          refine L.op1 rfl rfl (GSpec.plain rfl (spec_assign rfl (Get.cnil (E := eI)))) ?_
          refine L.op1 rfl rfl (GSpec.plain rfl (spec_assign rfl Get.cbool)) ?_
          refine L.nil ?_
          refine N.thenW ?_
          refine W.ret ?_
          refine N.ret () rfl (.tmp (t := 2) (Get.tmp rfl) (.tmp (t := 3) (Get.tmp rfl) .nil)) (res2w (eqSl ?_) (eqB ?_)) .nil (fun _ _ h => h)
          all_goals rw [out_bad hI2 ph2 (by omega) ph3]
        · have ph3 : ch s i = 46 := by have h := h3; simpa [ch] using h
          refine W.skip ?_
          refine N.thenW ?_
          refine W.region ?_
          refine L.op1 rfl rfl (GSpec.plain rfl (spec_move rfl (Get.tmp rfl))) ?_
          first | refine L.op1 rfl rfl (GSpec.plain rfl (fit_i64 (by (first | omega | (simp only [Int.toNat_natCast]; omega) | (simp only [List.length_cons, List.length_nil]; omega))) (by (first | omega | (simp only [Int.toNat_natCast]; omega) | (simp only [List.length_cons, List.length_nil]; omega))) (spec_add rfl (Get.tmp rfl) (Get.cint rfl)))) ?_ | refine L.op1 rfl rfl (GSpec.plain rfl (spec_add rfl (Get.tmp rfl) (Get.cint rfl))) ?_
          refine L.op1 rfl rfl (GSpec.plain rfl (spec_assign rfl (Get.tmp rfl))) ?_
          refine L.nil ?_
          refine N.mid ⟨i + 1, by omega, by omega, by omega, out_dot hI2 ph2 ph3⟩ ?hs1 ?hp1
          case hs1 => exact (.cons (t := 0) rfl (.cons (t := 4) rfl (.cons (t := 5) rfl .nil)))
          case hp1 => exact (.cons 0 rfl .nil)
      · have ph2 := h2; try simp only [decide_eq_true_eq, decide_eq_false_iff_not, Bool.and_eq_true, Bool.or_eq_true, Bool.and_eq_false_iff, Bool.or_eq_false_iff, Bool.not_eq_true', Bool.not_eq_false', Bool.not_true, Bool.not_false, Int.not_lt, Int.not_le] at ph2
        refine W.skip ?_
        refine N.mid ⟨i, by omega, by omega, by omega, out_first hI2 ph2⟩ ?hs2 ?hp2
        case hs2 => exact (.cons (t := 0) rfl (.cons (t := 4) rfl (.cons (t := 5) rfl .nil)))
        case hp2 => exact (.cons 0 rfl .nil)
    intro ⟨k, hik, hk1, hk0, hk2⟩
    try dsimp only
    refine W.seq ?_
    refine W.region ?_
    refine L.op1 rfl rfl (GSpec.plain rfl (spec_move rfl (Get.tmp rfl))) ?_
    refine L.op1 rfl rfl (GSpec.plain rfl (spec_assign rfl (Get.tmp rfl))) ?_
    refine L.nil ?_
    refine N.thenW ?_
    refine W.seq ?_
    refine W.region ?_
    refine L.op1 rfl rfl (GSpec.plain rfl (spec_assign rfl (Get.cint rfl))) ?_
    refine L.nil ?_
    refine N.thenW ?_
    refine W.seq ?_
    refine W.block ?_
    refine W.loopK (σ := Nat × Int) (.cons (t := 0) rfl (.cons (t := 4) rfl (.cons (t := 5) rfl (.cons (t := 21) rfl .nil)))) (fun z => [(6, Rp.int .i64 (z.1 : Nat)), (7, Rp.int .i64 z.2)]) (fun z => []) (fun z => InI s out k z.1 z.2 ∧ True) (fun z => s.length - z.1) (k, 0) ⟨in_first hk1 hk2, trivial⟩ (.cons (t := 6) rfl (.cons (t := 7) rfl .nil)) (.cons 0 rfl .nil) ?_
    intro ⟨e, n⟩ hI S' M' hS hM
    obtain ⟨hK, _⟩ := hI
    try dsimp only at hS hM
    simp only [List.cons_append, List.nil_append] at hS hM
    subst hS hM
    try dsimp only
    try dsimp only at hK
    have hK1 := hK.1
    have hK2 := hK.2.1
    have hK3 := hK.2.2.1
    have hK4 := hK.2.2.2.1
    refine W.seq ?_
    refine W.seq ?_
    refine W.region ?_
    refine L.op1 rfl rfl (GSpec.plain rfl (spec_move rfl (Get.tmp rfl))) ?_
    refine L.op1 rfl rfl (GSpec.plain rfl (spec_move rfl (Get.tmp rfl))) ?_
    refine L.op1 rfl rfl (GSpec.plain rfl (spec_lenS rfl Tryd.underlying9 (Get.tmp rfl))) ?_
    refine L.op1 rfl rfl (GSpec.plain rfl (spec_lss rfl (Get.tmp rfl) (Get.tmp rfl))) ?_
    refine L.op1 rfl rfl (GSpec.plain rfl (spec_move rfl (Get.tmp rfl))) ?_
    refine L.op1 rfl rfl (GSpec.guard rfl rfl rfl fun hg => (spec_move rfl (Get.tmp rfl))) ?_
    refine L.op1 rfl rfl (GSpec.guard rfl rfl rfl fun hg => (spec_move rfl (Get.tmp rfl))) ?_
    refine L.op1 rfl rfl (GSpec.guard rfl rfl rfl fun hg => (spec_indexS rfl Tryd.underlying9 (Get.opt rfl hg) (Get.opt rfl hg) (by (first | omega | (simp only [decide_eq_true_eq, decide_eq_false_iff_not, Bool.and_eq_true, Bool.or_eq_true, Bool.and_eq_false_iff, Bool.or_eq_false_iff, Bool.not_eq_true', Bool.not_eq_false', Bool.not_true, Bool.not_false, Int.not_lt, Int.not_le] at hg; omega))))) ?_
    refine L.op1 rfl rfl (GSpec.guard rfl rfl rfl fun hg => (spec_geq rfl (Get.opt rfl hg) (Get.cint rfl))) ?_
    refine L.op1 rfl rfl (GSpec.plain rfl (spec_and rfl (Get.tmp rfl) (fun hb => (Get.opt rfl hb)))) ?_
    refine L.op1 rfl rfl (GSpec.plain rfl (spec_move rfl (Get.tmp rfl))) ?_
    refine L.op1 rfl rfl (GSpec.guard rfl rfl rfl fun hg => (spec_move rfl (Get.tmp rfl))) ?_
    refine L.op1 rfl rfl (GSpec.guard rfl rfl rfl fun hg => (spec_move rfl (Get.tmp rfl))) ?_
    refine L.op1 rfl rfl (GSpec.guard rfl rfl rfl fun hg => (spec_indexS rfl Tryd.underlying9 (Get.opt rfl hg) (Get.opt rfl hg) (by (first | omega | (simp only [decide_eq_true_eq, decide_eq_false_iff_not, Bool.and_eq_true, Bool.or_eq_true, Bool.and_eq_false_iff, Bool.or_eq_false_iff, Bool.not_eq_true', Bool.not_eq_false', Bool.not_true, Bool.not_false, Int.not_lt, Int.not_le] at hg; omega))))) ?_
    refine L.op1 rfl rfl (GSpec.guard rfl rfl rfl fun hg => (spec_leq rfl (Get.opt rfl hg) (Get.cint rfl))) ?_
    refine L.op1 rfl rfl (GSpec.plain rfl (spec_and rfl (Get.tmp rfl) (fun hb => (Get.opt rfl hb)))) ?_
    refine L.op1 rfl rfl (GSpec.plain rfl (spec_move rfl (Get.tmp rfl))) ?_
    refine L.op1 rfl rfl (GSpec.guard rfl rfl rfl fun hg => (spec_move rfl (Get.tmp rfl))) ?_
    refine L.op1 rfl rfl (GSpec.guard rfl rfl rfl fun hg => (spec_lss rfl (Get.opt rfl hg) (Get.cint rfl))) ?_
    refine L.op1 rfl rfl (GSpec.plain rfl (spec_and rfl (Get.tmp rfl) (fun hb => (Get.opt rfl hb)))) ?_
    refine L.nil ?_
    refine N.thenW ?_
    refine W.cond (Get.tmp rfl) (fun h4 => ?_) (fun h4 => ?_)
    · have ph4 := h4
      simp only [decide_eq_true_eq, decide_eq_false_iff_not, Bool.and_eq_true, Bool.or_eq_true, Bool.and_eq_false_iff, Bool.or_eq_false_iff, Bool.not_eq_true', Bool.not_eq_false', Bool.not_true, Bool.not_false, Int.not_lt, Int.not_le, Int.toNat_natCast] at ph4
      have hdig : digC (ch s e) := by simp only [digC, ch]; exact ⟨ph4.1.1.2, ph4.1.2⟩
      have hd1 := hdig.1
      have hd2 := hdig.2
      unfold ch at hd1 hd2
      refine W.skip ?_
      refine N.thenW ?_
      refine W.block ?_
      refine W.seq ?_
      refine W.region ?_
      refine L.op1 rfl rfl (GSpec.plain rfl (spec_move rfl (Get.tmp rfl))) ?_
      first | refine L.op1 rfl rfl (GSpec.plain rfl (fit_i64 (by (first | omega | (simp only [Int.toNat_natCast]; omega) | (simp only [List.length_cons, List.length_nil]; omega))) (by (first | omega | (simp only [Int.toNat_natCast]; omega) | (simp only [List.length_cons, List.length_nil]; omega))) (spec_mul rfl (Get.cint rfl) (Get.tmp rfl)))) ?_ | refine L.op1 rfl rfl (GSpec.plain rfl (spec_mul rfl (Get.cint rfl) (Get.tmp rfl))) ?_
      refine L.op1 rfl rfl (GSpec.plain rfl (spec_move rfl (Get.tmp rfl))) ?_
      refine L.op1 rfl rfl (GSpec.plain rfl (spec_move rfl (Get.tmp rfl))) ?_
      refine L.op1 rfl rfl (GSpec.plain rfl (spec_indexS rfl Tryd.underlying9 (Get.tmp rfl) (Get.tmp rfl) (by (first | omega | (simp only [Int.toNat_natCast]; omega) | (simp only [List.length_cons, List.length_nil]; omega))))) ?_
      first | refine L.op1 rfl rfl (GSpec.plain rfl (fit_u8 (by (first | omega | (simp only [Int.toNat_natCast]; omega) | (simp only [List.length_cons, List.length_nil]; omega))) (by (first | omega | (simp only [Int.toNat_natCast]; omega) | (simp only [List.length_cons, List.length_nil]; omega))) (spec_sub rfl (Get.tmp rfl) (Get.cint rfl)))) ?_ | refine L.op1 rfl rfl (GSpec.plain rfl (spec_sub rfl (Get.tmp rfl) (Get.cint rfl))) ?_
      first | refine L.op1 rfl rfl (GSpec.plain rfl (fit_i64 (by (first | omega | (simp only [Int.toNat_natCast]; omega) | (simp only [List.length_cons, List.length_nil]; omega))) (by (first | omega | (simp only [Int.toNat_natCast]; omega) | (simp only [List.length_cons, List.length_nil]; omega))) (spec_conv rfl Tryd.underlying3 ⟨_, Tryd.underlying5⟩ (Get.tmp rfl)))) ?_ | refine L.op1 rfl rfl (GSpec.plain rfl (spec_conv rfl Tryd.underlying3 ⟨_, Tryd.underlying5⟩ (Get.tmp rfl))) ?_
      first | refine L.op1 rfl rfl (GSpec.plain rfl (fit_i64 (by (first | omega | (simp only [Int.toNat_natCast]; omega) | (simp only [List.length_cons, List.length_nil]; omega))) (by (first | omega | (simp only [Int.toNat_natCast]; omega) | (simp only [List.length_cons, List.length_nil]; omega))) (spec_add rfl (Get.tmp rfl) (Get.tmp rfl)))) ?_ | refine L.op1 rfl rfl (GSpec.plain rfl (spec_add rfl (Get.tmp rfl) (Get.tmp rfl))) ?_
      refine L.op1 rfl rfl (GSpec.plain rfl (spec_assign rfl (Get.tmp rfl))) ?_
      refine L.nil ?_
      refine N.thenW ?_
      refine W.region ?_
      refine L.op1 rfl rfl (GSpec.plain rfl (spec_move rfl (Get.tmp rfl))) ?_
      first | refine L.op1 rfl rfl (GSpec.plain rfl (fit_i64 (by (first | omega | (simp only [Int.toNat_natCast]; omega) | (simp only [List.length_cons, List.length_nil]; omega))) (by (first | omega | (simp only [Int.toNat_natCast]; omega) | (simp only [List.length_cons, List.length_nil]; omega))) (spec_add rfl (Get.tmp rfl) (Get.cint rfl)))) ?_ | refine L.op1 rfl rfl (GSpec.plain rfl (spec_add rfl (Get.tmp rfl) (Get.cint rfl))) ?_
      refine L.op1 rfl rfl (GSpec.plain rfl (spec_assign rfl (Get.tmp rfl))) ?_
      refine L.nil ?_
      refine N.blockNormal ?_
      refine N.roundK (e + 1, 10 * n + (ch s e - 48)) ?hI3 ?hmu3 ?hs3 ?hk3 ?hp3
      case hs3 => exact (.cons (t := 6) rfl (.weak (t := 7) rfl (eqI (by simp only [ch, Int.toNat_natCast])) .nil))
      case hk3 => exact (.cons (t := 0) rfl (.cons (t := 4) rfl (.cons (t := 5) rfl (.cons (t := 21) rfl .nil))))
      case hp3 => exact (.cons 0 rfl .nil)
      case hI3 => refine ⟨?_, trivial⟩; dsimp only; exact in_step hK (by omega) hdig (by omega)
      case hmu3 => dsimp only; omega
    · have hst : StopI s e n := by intro q; have h := h4; simp only [Bool.and_eq_false_iff, decide_eq_false_iff_not, Int.toNat_natCast] at h; have q1 := q.1.1.1; have q2 := q.1.1.2; have q3 := q.1.2; have q4 := q.2; unfold ch at q2 q3; omega
      refine W.exit ?_
      refine N.thenExit ?_
      refine N.thenExit ?_
      refine N.blockExit ?_
      refine N.thenW ?_
      refine W.seq ?_
      refine W.seq ?_
      refine W.region ?_
      refine L.op1 rfl rfl (GSpec.plain rfl (spec_move rfl (Get.tmp rfl))) ?_
      refine L.op1 rfl rfl (GSpec.plain rfl (spec_move rfl (Get.tmp rfl))) ?_
      refine L.op1 rfl rfl (GSpec.plain rfl (spec_eql rfl (Get.tmp rfl) (Get.tmp rfl))) ?_
      refine L.op1 rfl rfl (GSpec.plain rfl (spec_move rfl (Get.tmp rfl))) ?_
      refine L.op1 rfl rfl (GSpec.guard rfl rfl rfl fun hg => (spec_move rfl (Get.tmp rfl))) ?_
      refine L.op1 rfl rfl (GSpec.guard rfl rfl rfl fun hg => (spec_move rfl (Get.tmp rfl))) ?_
      refine L.op1 rfl rfl (GSpec.guard rfl rfl rfl fun hg => (spec_indexS rfl Tryd.underlying9 (Get.opt rfl hg) (Get.opt rfl hg) (by (first | omega | (simp only [decide_eq_true_eq, decide_eq_false_iff_not, Bool.and_eq_true, Bool.or_eq_true, Bool.and_eq_false_iff, Bool.or_eq_false_iff, Bool.not_eq_true', Bool.not_eq_false', Bool.not_true, Bool.not_false, Int.not_lt, Int.not_le] at hg; omega))))) ?_
      refine L.op1 rfl rfl (GSpec.guard rfl rfl rfl fun hg => (spec_eql rfl (Get.opt rfl hg) (Get.cint rfl))) ?_
      refine L.op1 rfl rfl (GSpec.guard rfl rfl rfl fun hg => (spec_move rfl (Get.opt rfl hg))) ?_
      refine L.op1 rfl rfl (GSpec.guardOpt rfl rfl rfl fun hg => (spec_move rfl (Get.tmp rfl))) ?_
      refine L.op1 rfl rfl (GSpec.guardOpt rfl rfl rfl fun hg => (spec_move rfl (Get.tmp rfl))) ?_
      first | refine L.op1 rfl rfl (GSpec.guardOpt rfl rfl rfl fun hg => (fit_i64 (by (first | omega | (simp only [decide_eq_true_eq, decide_eq_false_iff_not, Bool.and_eq_true, Bool.or_eq_true, Bool.and_eq_false_iff, Bool.or_eq_false_iff, Bool.not_eq_true', Bool.not_eq_false', Bool.not_true, Bool.not_false, Int.not_lt, Int.not_le] at hg; omega))) (by (first | omega | (simp only [decide_eq_true_eq, decide_eq_false_iff_not, Bool.and_eq_true, Bool.or_eq_true, Bool.and_eq_false_iff, Bool.or_eq_false_iff, Bool.not_eq_true', Bool.not_eq_false', Bool.not_true, Bool.not_false, Int.not_lt, Int.not_le] at hg; omega))) (spec_add rfl (Get.opt rfl hg) (Get.cint rfl)))) ?_ | refine L.op1 rfl rfl (GSpec.guardOpt rfl rfl rfl fun hg => (spec_add rfl (Get.opt rfl hg) (Get.cint rfl))) ?_
      refine L.op1 rfl rfl (GSpec.guardOpt rfl rfl rfl fun hg => (spec_gtr rfl (Get.opt rfl hg) (Get.opt rfl hg))) ?_
      refine L.op1 rfl rfl (GSpec.guard rfl rfl rfl fun hg => (spec_and rfl (Get.opt rfl hg) (fun hb => (Get.opt rfl ⟨hg, hb⟩)))) ?_
      refine L.op1 rfl rfl (GSpec.plain rfl (spec_or rfl (Get.tmp rfl) (fun hb => (Get.opt rfl hb)))) ?_
      refine L.op1 rfl rfl (GSpec.plain rfl (spec_move rfl (Get.tmp rfl))) ?_
      refine L.op1 rfl rfl (GSpec.guard rfl rfl rfl fun hg => (spec_move rfl (Get.tmp rfl))) ?_
      refine L.op1 rfl rfl (GSpec.guard rfl rfl rfl fun hg => (spec_geq rfl (Get.opt rfl hg) (Get.cint rfl))) ?_
      refine L.op1 rfl rfl (GSpec.plain rfl (spec_or rfl (Get.tmp rfl) (fun hb => (Get.opt rfl hb)))) ?_
      refine L.op1 rfl rfl (GSpec.plain rfl (spec_move rfl (Get.tmp rfl))) ?_
      refine L.op1 rfl rfl (GSpec.guard rfl rfl rfl fun hg => (spec_move rfl (Get.tmp rfl))) ?_
      refine L.op1 rfl rfl (GSpec.guard rfl rfl rfl fun hg => (spec_lenO (k := 0) rfl Tryd.underlying47 (Get.opt rfl hg) rfl)) ?_
      refine L.op1 rfl rfl (GSpec.guard rfl rfl rfl fun hg => (spec_eql rfl (Get.opt rfl hg) (Get.cint rfl))) ?_
      refine L.op1 rfl rfl (GSpec.plain rfl (spec_or rfl (Get.tmp rfl) (fun hb => (Get.opt rfl hb)))) ?_
      refine L.nil ?_
      refine N.thenW ?_
      refine W.cond (Get.tmp rfl) (fun h5 => ?_) (fun h5 => ?_)
      · have hb : e = k ∨ (ch s k = 48 ∧ k + 1 < e) ∨ 1048576 ≤ n ∨ (out.length : Int) = 16 := by have h := h5; simp only [Bool.or_eq_true, Bool.and_eq_true, decide_eq_true_eq, Int.toNat_natCast] at h; unfold ch; omega
        refine W.seq ?_
        refine W.region ?_
        refine L.op1 rfl rfl (GSpec.plain rfl (spec_assign rfl (Get.cnil (E := eI)))) ?_
        refine L.op1 rfl rfl (GSpec.plain rfl (spec_assign rfl Get.cbool)) ?_
        refine L.nil ?_
        refine N.thenW ?_
        refine W.ret ?_
        refine N.ret () rfl (.tmp (t := 2) (Get.tmp rfl) (.tmp (t := 3) (Get.tmp rfl) .nil)) (res2w (eqSl ?_) (eqB ?_)) .nil (fun _ _ h => h)
        all_goals rw [in_fail hk0 hK hst hk2 hb]
      · have hb : ¬ (e = k ∨ (ch s k = 48 ∧ k + 1 < e) ∨ 1048576 ≤ n ∨ (out.length : Int) = 16) := by have h := h5; simp only [Bool.or_eq_false_iff, Bool.and_eq_false_iff, decide_eq_false_iff_not, Int.toNat_natCast] at h; unfold ch; omega
        refine W.skip ?_
        refine N.thenW ?_
        refine W.seq ?_
        refine W.region ?_
        refine L.op1 rfl rfl (GSpec.plain rfl (spec_move rfl (Get.tmp rfl))) ?_
        refine L.op1 rfl rfl (GSpec.plain rfl (spec_move rfl (Get.tmp rfl))) ?_
        refine L.op1 rfl rfl (GSpec.plain rfl (spec_buildSlice1 (E := eI) rfl Tryd.underlying47 ti3 z3 (by decide) (GetC.one (Get.tmp rfl)) (fun _ => rfl))) ?_
        refine L.append (k := 0) (E := eI) rfl rfl rfl rfl Tryd.underlying47 ti3 rfl (by decide) (fun _ => rfl) (Get.tmp rfl) (Get.tmp rfl) rfl (by (simp only [List.length_cons, List.length_nil]; omega)) (by (simp only [List.length_cons, List.length_nil]; omega)) (fun v79 => ?_)
        refine L.op1 rfl rfl (GSpec.plain rfl (spec_assign rfl (Get.tmp rfl))) ?_
        refine L.nil ?_
        refine N.thenW ?_
        refine W.region ?_
        refine L.op1 rfl rfl (GSpec.plain rfl (spec_move rfl (Get.tmp rfl))) ?_
        refine L.op1 rfl rfl (GSpec.plain rfl (spec_assign rfl (Get.tmp rfl))) ?_
        refine L.nil ?_
        refine N.blockNormal ?_
        have hD := in_done hK hst hb hol
        refine N.roundK (e, out ++ [n], v79) ?hI4 ?hmu4 ?hs4 ?hk4 ?hp4
        case hs4 => exact (.cons (t := 4) rfl (.cons (t := 5) rfl .nil))
        case hk4 => exact (.cons (t := 0) rfl .nil)
        case hp4 => exact (.cons 0 rfl .nil)
        case hI4 => dsimp only; exact hD.2
        case hmu4 => dsimp only; have := hD.1; omega
  · have ph1 := h1; try simp only [decide_eq_true_eq, decide_eq_false_iff_not, Bool.and_eq_true, Bool.or_eq_true, Bool.and_eq_false_iff, Bool.or_eq_false_iff, Bool.not_eq_true', Bool.not_eq_false', Bool.not_true, Bool.not_false, Int.not_lt, Int.not_le] at ph1
    refine W.exit ?_
    refine N.thenExit ?_
    refine N.thenExit ?_
    refine N.blockExit ?_
    refine N.thenW ?_
    refine W.pub (t := 4) (k := 0) rfl rfl (fun _ => rfl) ?_
    refine W.keep (.cons (t := 4) rfl .nil) .refl ?_
    refine W.seq ?_
    refine W.region ?_
    refine L.op1 rfl rfl (GSpec.plain rfl (spec_move rfl (Get.tmp rfl))) ?_
    refine L.op1 rfl rfl (GSpec.plain rfl (spec_assign rfl (Get.tmp rfl))) ?_
    refine L.op1 rfl rfl (GSpec.plain rfl (spec_assign rfl Get.cbool)) ?_
    refine L.nil ?_
    refine N.thenW ?_
    refine W.ret ?_
    refine N.ret () rfl (.tmp (t := 2) (Get.tmp rfl) (.tmp (t := 3) (Get.tmp rfl) .nil)) (res2w (eqSl ?_) (eqB ?_)) .nil (fun _ _ h => h)
    all_goals rw [out_end hI2 (by omega)]

end Go.Proofs.YteannfdcbblooaaDoor
