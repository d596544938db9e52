/- Lemmas for the claim, part 4: rules for walks, contracts of functions, the data they compute. No conditions. -/
import Derived.Test.YthlfacmpjehjmaaGreatDoorP3
import Derived.Test.YthlfacmpjehjmaaGreatDoorP1
set_option linter.unusedSimpArgs false
set_option maxRecDepth 8000
set_option linter.unusedVariables false
namespace Go.Proofs.YthlfacmpjehjmaaGreatDoor
open Go.Sim
theorem small_ok (c : Int) : CallT Tryz.prog 100 [Rp.int .u8 c] [] (.one (Rp.bool (lowB c))) := by
  refine W.enter (fn := Tryz.f100) (n := 9) Tryz.func100 rfl Tryz.ntmps100 rfl (fun w₀ C₀ => ?_)
  simp only [argS]
  refine W.sr ?_
  refine L.p1 rfl rfl rfl (spec_assign rfl Get.cbool) ?_
  refine L.nt ?_
  refine W.sr ?_
  refine L.mv rfl rfl rfl rfl rfl ?_
  refine L.p1 rfl rfl rfl (spec_geq rfl (Get.tmp rfl) (Get.cint rfl)) ?_
  refine L.mv rfl rfl rfl rfl rfl ?_
  refine L.op1 rfl rfl (GSpec.guard rfl rfl rfl fun hg => (spec_move rfl (Get.tmp rfl))) ?_
  refine L.op1 rfl rfl (GSpec.guard rfl rfl rfl fun hg => (spec_leq rfl (Get.opt rfl hg) (Get.cint rfl))) ?_
  refine L.p1 rfl rfl rfl (spec_and rfl (Get.tmp rfl) (fun hb => (Get.opt rfl hb))) ?_
  refine L.as rfl rfl rfl rfl rfl ?_
  refine L.nt ?_
  refine W.keep (.cons (t := 2) rfl .nil) .refl ?_
  refine W.ret ?_
  refine N.ret () rfl (.tmp (t := 2) (Get.tmp rfl) .nil) (res1 (eqB ?_)) .nil (fun _ _ h => h)
  rfl

theorem digit2_ok (c : Int) : CallT Tryz.prog 115 [Rp.int .u8 c] [] (.one (Rp.bool (digB c))) := by
  refine W.enter (fn := Tryz.f115) (n := 9) Tryz.func115 rfl Tryz.ntmps115 rfl (fun w₀ C₀ => ?_)
  simp only [argS]
  refine W.sr ?_
  refine L.p1 rfl rfl rfl (spec_assign rfl Get.cbool) ?_
  refine L.nt ?_
  refine W.sr ?_
  refine L.mv rfl rfl rfl rfl rfl ?_
  refine L.p1 rfl rfl rfl (spec_geq rfl (Get.tmp rfl) (Get.cint rfl)) ?_
  refine L.mv rfl rfl rfl rfl rfl ?_
  refine L.op1 rfl rfl (GSpec.guard rfl rfl rfl fun hg => (spec_move rfl (Get.tmp rfl))) ?_
  refine L.op1 rfl rfl (GSpec.guard rfl rfl rfl fun hg => (spec_leq rfl (Get.opt rfl hg) (Get.cint rfl))) ?_
  refine L.p1 rfl rfl rfl (spec_and rfl (Get.tmp rfl) (fun hb => (Get.opt rfl hb))) ?_
  refine L.as rfl rfl rfl rfl rfl ?_
  refine L.nt ?_
  refine W.keep (.cons (t := 2) rfl .nil) .refl ?_
  refine W.ret ?_
  refine N.ret () rfl (.tmp (t := 2) (Get.tmp rfl) .nil) (res1 (eqB ?_)) .nil (fun _ _ h => h)
  rfl

theorem inner_ok (c : Int) : CallT Tryz.prog 102 [Rp.int .u8 c] [] (.one (Rp.bool (folB c))) := by
  refine W.enter (fn := Tryz.f102) (n := 21) Tryz.func102 rfl Tryz.ntmps102 rfl (fun w₀ C₀ => ?_)
  simp only [argS]
  refine W.sr ?_
  refine L.p1 rfl rfl rfl (spec_assign rfl Get.cbool) ?_
  refine L.nt ?_
  refine W.sr ?_
  refine L.mv rfl rfl rfl rfl rfl ?_
  refine L.p1 rfl rfl rfl (spec_call rfl Tryz.call100 (small_ok _) (.cons (Get.tmp rfl) .nil)) ?_
  refine L.mv rfl rfl rfl rfl rfl ?_
  refine L.op1 rfl rfl (GSpec.guard rfl rfl rfl fun hg => (spec_move rfl (Get.tmp rfl))) ?_
  refine L.op1 rfl rfl (GSpec.guard rfl rfl rfl fun hg => (spec_call rfl Tryz.call115 (digit2_ok _) (.cons (Get.opt rfl hg) .nil))) ?_
  refine L.p1 rfl rfl rfl (spec_or rfl (Get.tmp rfl) (fun hb => (Get.opt rfl hb))) ?_
  refine L.mv rfl rfl rfl rfl rfl ?_
  refine L.op1 rfl rfl (GSpec.guard rfl rfl rfl fun hg => (spec_move rfl (Get.tmp rfl))) ?_
  refine L.op1 rfl rfl (GSpec.guard rfl rfl rfl fun hg => (spec_geq rfl (Get.opt rfl hg) (Get.cint rfl))) ?_
  refine L.op1 rfl rfl (GSpec.guard rfl rfl rfl fun hg => (spec_move rfl (Get.opt rfl hg))) ?_
  refine L.op1 rfl rfl (GSpec.guardOpt rfl rfl rfl fun hg => (spec_move rfl (Get.tmp rfl))) ?_
  refine L.op1 rfl rfl (GSpec.guardOpt rfl rfl rfl fun hg => (spec_leq rfl (Get.opt rfl hg) (Get.cint rfl))) ?_
  refine L.op1 rfl rfl (GSpec.guard rfl rfl rfl fun hg => (spec_and rfl (Get.opt rfl hg) (fun hb => (Get.opt rfl ⟨hg, hb⟩)))) ?_
  refine L.p1 rfl rfl rfl (spec_or rfl (Get.tmp rfl) (fun hb => (Get.opt rfl hb))) ?_
  refine L.mv rfl rfl rfl rfl rfl ?_
  refine L.op1 rfl rfl (GSpec.guard rfl rfl rfl fun hg => (spec_move rfl (Get.tmp rfl))) ?_
  refine L.op1 rfl rfl (GSpec.guard rfl rfl rfl fun hg => (spec_eql rfl (Get.opt rfl hg) (Get.cint rfl))) ?_
  refine L.p1 rfl rfl rfl (spec_or rfl (Get.tmp rfl) (fun hb => (Get.opt rfl hb))) ?_
  refine L.as rfl rfl rfl rfl rfl ?_
  refine L.nt ?_
  refine W.keep (.cons (t := 2) rfl .nil) .refl ?_
  refine W.ret ?_
  refine N.ret () rfl (.tmp (t := 2) (Get.tmp rfl) .nil) (res1 (eqB ?_)) .nil (fun _ _ h => h)
  rfl

theorem has7_ok (l : List (List UInt8)) (s : List UInt8) : CallT Tryz.prog 113 [Rp.slice eS l, Rp.str s] [] (.one (Rp.bool (l.any fun x => s == x))) := by
  refine W.enter (fn := Tryz.f113) (n := 18) Tryz.func113 rfl Tryz.ntmps113 rfl (fun w₀ C₀ => ?_)
  simp only [argS]
  refine W.fact 0 rfl slice_fact fun hl => ?_
  refine W.sr ?_
  refine L.p1 rfl rfl rfl (spec_assign rfl Get.cbool) ?_
  refine L.nt ?_
  refine W.seq ?_
  refine W.sr ?_
  refine L.p1 rfl rfl rfl (spec_assign rfl (Get.cint rfl)) ?_
  refine L.nt ?_
  refine W.block ?_
  refine W.loopK (σ := Nat) (.cons (t := 0) rfl (.cons (t := 1) rfl .nil)) (fun z => [(5, Rp.int .i64 (z : Nat))]) (fun z => []) (fun z => z ≤ l.length ∧ ∀ j : Nat, j < z → (s == l.getD j default) = false) (fun z => l.length - z) 0 ⟨Nat.zero_le _, fun j hj => by omega⟩ (.cons (t := 5) rfl .nil) .nil ?_
  intro i hI S' M' hS hM
  obtain ⟨hI1, hI2⟩ := hI
  try dsimp only at hS hM
  simp only [List.cons_append, List.nil_append] at hS hM
  subst hS hM
  try dsimp only
  refine W.seq ?_
  refine W.sr ?_
  refine L.mv rfl rfl rfl rfl rfl ?_
  refine L.mv rfl rfl rfl rfl rfl ?_
  refine L.p1 rfl rfl rfl (spec_len rfl Tryz.underlying25 (Get.tmp rfl)) ?_
  refine L.p1 rfl rfl rfl (spec_lss rfl (Get.tmp rfl) (Get.tmp rfl)) ?_
  refine L.nt ?_
  refine W.cond (Get.tmp rfl) (fun h1 => ?_) (fun h1 => ?_)
  · have ph1 := h1; try simp only [sbx] at ph1
    refine W.skip ?_
    refine N.thenW ?_
    refine W.seq ?_
    refine W.block ?_
    refine W.sr ?_
    refine L.mv rfl rfl rfl rfl rfl ?_
    refine L.mv rfl rfl rfl rfl rfl ?_
    refine L.p1 rfl rfl rfl (spec_indexAddrD (E := eS) rfl Tryz.underlying25 Tryz.sizeOf9 (fun _ => rfl) (Get.tmp rfl) (Get.tmp rfl) (by omega)) ?_
    refine L.p1 rfl rfl rfl (spec_loadP1 rfl Tryz.isAgg9 (Get.tmp rfl)) ?_
    refine L.mv rfl rfl rfl rfl rfl ?_
    refine L.p1 rfl rfl rfl (spec_eqlS rfl (Get.tmp rfl) (Get.tmp rfl)) ?_
    refine L.nt ?_
    refine W.cond (Get.tmp rfl) (fun h2 => ?_) (fun h2 => ?_)
    · have ph2 := h2; try simp only [sbx] at ph2
      refine W.sr ?_
      refine L.p1 rfl rfl rfl (spec_assign rfl Get.cbool) ?_
      refine L.nt ?_
      refine W.ret ?_
      refine N.ret () rfl (.tmp (t := 4) (Get.tmp rfl) .nil) (res1 (eqB ?_)) .nil (fun _ _ h => h)
      exact (any_yes (i := i) (by omega) (by simpa using (beq_iff_eq.1 h2).symm)).symm
    · have ph2 := h2; try simp only [sbx] at ph2
      refine W.skip ?_
      refine N.blockNormal ?_
      refine N.thenW ?_
      refine W.region ?_
      refine L.mv rfl rfl rfl rfl rfl ?_
      first | refine L.op1 rfl rfl (GSpec.plain rfl (fit_i64 (by omega) (by omega) (spec_add rfl (Get.tmp rfl) (Get.cint rfl)))) ?_ | refine L.op1 rfl rfl (GSpec.plain rfl (spec_add rfl (Get.tmp rfl) (Get.cint rfl))) ?_
      refine L.as rfl rfl rfl rfl rfl ?_
      refine L.nil ?_
      refine N.roundK (i + 1) ?hI1 ?hmu1 ?hs1 ?hk1 ?hp1
      case hs1 => exact (.cons (t := 5) rfl .nil)
      case hk1 => exact (.cons (t := 0) rfl (.cons (t := 1) rfl .nil))
      case hp1 => exact .nil
      case hI1 => exact ⟨by omega, upto hI2 (by rw [Bool.eq_false_iff] at h2 ⊢; intro h; apply h2; simpa using (beq_iff_eq.1 h).symm)⟩
      case hmu1 => omega
  · have ph1 := h1; try simp only [sbx] at ph1
    refine W.exit ?_
    refine N.thenExit ?_
    refine N.thenExit ?_
    refine N.blockExit ?_
    refine N.thenW ?_
    refine W.keep .nil .refl ?_
    refine W.sr ?_
    refine L.p1 rfl rfl rfl (spec_assign rfl Get.cbool) ?_
    refine L.nt ?_
    refine W.ret ?_
    refine N.ret () rfl (.tmp (t := 4) (Get.tmp rfl) .nil) (res1 (eqB ?_)) .nil (fun _ _ h => h)
    exact (any_no fun j hj => hI2 j (by omega)).symm

theorem has8_ok (l : List (List UInt8)) (s : List UInt8) : CallT Tryz.prog 133 [Rp.slice eS l, Rp.str s] [] (.one (Rp.bool (l.any fun x => s == x))) := by
  refine W.enter (fn := Tryz.f133) (n := 18) Tryz.func133 rfl Tryz.ntmps133 rfl (fun w₀ C₀ => ?_)
  simp only [argS]
  refine W.fact 0 rfl slice_fact fun hl => ?_
  refine W.sr ?_
  refine L.p1 rfl rfl rfl (spec_assign rfl Get.cbool) ?_
  refine L.nt ?_
  refine W.seq ?_
  refine W.sr ?_
  refine L.p1 rfl rfl rfl (spec_assign rfl (Get.cint rfl)) ?_
  refine L.nt ?_
  refine W.block ?_
  refine W.loopK (σ := Nat) (.cons (t := 0) rfl (.cons (t := 1) rfl .nil)) (fun z => [(5, Rp.int .i64 (z : Nat))]) (fun z => []) (fun z => z ≤ l.length ∧ ∀ j : Nat, j < z → (s == l.getD j default) = false) (fun z => l.length - z) 0 ⟨Nat.zero_le _, fun j hj => by omega⟩ (.cons (t := 5) rfl .nil) .nil ?_
  intro i hI S' M' hS hM
  obtain ⟨hI1, hI2⟩ := hI
  try dsimp only at hS hM
  simp only [List.cons_append, List.nil_append] at hS hM
  subst hS hM
  try dsimp only
  refine W.seq ?_
  refine W.sr ?_
  refine L.mv rfl rfl rfl rfl rfl ?_
  refine L.mv rfl rfl rfl rfl rfl ?_
  refine L.p1 rfl rfl rfl (spec_len rfl Tryz.underlying25 (Get.tmp rfl)) ?_
  refine L.p1 rfl rfl rfl (spec_lss rfl (Get.tmp rfl) (Get.tmp rfl)) ?_
  refine L.nt ?_
  refine W.cond (Get.tmp rfl) (fun h1 => ?_) (fun h1 => ?_)
  · have ph1 := h1; try simp only [sbx] at ph1
    refine W.skip ?_
    refine N.thenW ?_
    refine W.seq ?_
    refine W.block ?_
    refine W.sr ?_
    refine L.mv rfl rfl rfl rfl rfl ?_
    refine L.mv rfl rfl rfl rfl rfl ?_
    refine L.p1 rfl rfl rfl (spec_indexAddrD (E := eS) rfl Tryz.underlying25 Tryz.sizeOf9 (fun _ => rfl) (Get.tmp rfl) (Get.tmp rfl) (by omega)) ?_
    refine L.p1 rfl rfl rfl (spec_loadP1 rfl Tryz.isAgg9 (Get.tmp rfl)) ?_
    refine L.mv rfl rfl rfl rfl rfl ?_
    refine L.p1 rfl rfl rfl (spec_eqlS rfl (Get.tmp rfl) (Get.tmp rfl)) ?_
    refine L.nt ?_
    refine W.cond (Get.tmp rfl) (fun h2 => ?_) (fun h2 => ?_)
    · have ph2 := h2; try simp only [sbx] at ph2
      refine W.sr ?_
      refine L.p1 rfl rfl rfl (spec_assign rfl Get.cbool) ?_
      refine L.nt ?_
      refine W.ret ?_
      refine N.ret () rfl (.tmp (t := 4) (Get.tmp rfl) .nil) (res1 (eqB ?_)) .nil (fun _ _ h => h)
      exact (any_yes (i := i) (by omega) (by simpa using (beq_iff_eq.1 h2).symm)).symm
    · have ph2 := h2; try simp only [sbx] at ph2
      refine W.skip ?_
      refine N.blockNormal ?_
      refine N.thenW ?_
      refine W.region ?_
      refine L.mv rfl rfl rfl rfl rfl ?_
      first | refine L.op1 rfl rfl (GSpec.plain rfl (fit_i64 (by omega) (by omega) (spec_add rfl (Get.tmp rfl) (Get.cint rfl)))) ?_ | refine L.op1 rfl rfl (GSpec.plain rfl (spec_add rfl (Get.tmp rfl) (Get.cint rfl))) ?_
      refine L.as rfl rfl rfl rfl rfl ?_
      refine L.nil ?_
      refine N.roundK (i + 1) ?hI2 ?hmu2 ?hs2 ?hk2 ?hp2
      case hs2 => exact (.cons (t := 5) rfl .nil)
      case hk2 => exact (.cons (t := 0) rfl (.cons (t := 1) rfl .nil))
      case hp2 => exact .nil
      case hI2 => exact ⟨by omega, upto hI2 (by rw [Bool.eq_false_iff] at h2 ⊢; intro h; apply h2; simpa using (beq_iff_eq.1 h).symm)⟩
      case hmu2 => omega
  · have ph1 := h1; try simp only [sbx] at ph1
    refine W.exit ?_
    refine N.thenExit ?_
    refine N.thenExit ?_
    refine N.blockExit ?_
    refine N.thenW ?_
    refine W.keep .nil .refl ?_
    refine W.sr ?_
    refine L.p1 rfl rfl rfl (spec_assign rfl Get.cbool) ?_
    refine L.nt ?_
    refine W.ret ?_
    refine N.ret () rfl (.tmp (t := 4) (Get.tmp rfl) .nil) (res1 (eqB ?_)) .nil (fun _ _ h => h)
    exact (any_no fun j hj => hI2 j (by omega)).symm

theorem keywords_ok  : CallT Tryz.prog 114 [] [] (.one (Rp.slice eS keywords)) := by
  refine W.enter (fn := Tryz.f114) (n := 2) Tryz.func114 rfl Tryz.ntmps114 rfl (fun w₀ C₀ => ?_)
  simp only [argS]
  refine W.sr ?_
  refine L.p1 rfl rfl rfl (spec_assign rfl (Get.cnil (E := eS))) ?_
  refine L.nt ?_
  refine W.sr ?_
  refine L.p1 rfl rfl rfl (spec_buildSliceN (xs := keywords) (E := eS) rfl Tryz.underlying25 ti9 z9 (by first | decide | simp) rfl (.cons (GetC.one (Get.cstr (l := [99, 108, 97, 115, 115]) rfl rfl)) rfl rfl rfl (.cons (GetC.one (Get.cstr (l := [101, 120, 116, 101, 110, 100, 115]) rfl rfl)) rfl rfl rfl (.cons (GetC.one (Get.cstr (l := [114, 97, 110, 100]) rfl rfl)) rfl rfl rfl (.cons (GetC.one (Get.cstr (l := [114, 97, 110, 100, 99]) rfl rfl)) rfl rfl rfl (.cons (GetC.one (Get.cstr (l := [115, 116, 97, 116, 101]) rfl rfl)) rfl rfl rfl (.cons (GetC.one (Get.cstr (l := [99, 111, 110, 115, 116, 114, 97, 105, 110, 116]) rfl rfl)) rfl rfl rfl (.cons (GetC.one (Get.cstr (l := [115, 111, 102, 116]) rfl rfl)) rfl rfl rfl (.cons (GetC.one (Get.cstr (l := [100, 105, 115, 116]) rfl rfl)) rfl rfl rfl (.cons (GetC.one (Get.cstr (l := [105, 102]) rfl rfl)) rfl rfl rfl (.cons (GetC.one (Get.cstr (l := [101, 108, 115, 101]) rfl rfl)) rfl rfl rfl (.cons (GetC.one (Get.cstr (l := [101, 97, 99, 104]) rfl rfl)) rfl rfl rfl (.cons (GetC.one (Get.cstr (l := [105, 110]) rfl rfl)) rfl rfl rfl (.cons (GetC.one (Get.cstr (l := [115, 111, 108, 118, 101]) rfl rfl)) rfl rfl rfl (.cons (GetC.one (Get.cstr (l := [98, 101, 102, 111, 114, 101]) rfl rfl)) rfl rfl rfl (.cons (GetC.one (Get.cstr (l := [105, 110, 115, 105, 100, 101]) rfl rfl)) rfl rfl rfl (.cons (GetC.one (Get.cstr (l := [112, 114, 111, 112, 101, 114, 116, 121]) rfl rfl)) rfl rfl rfl (.cons (GetC.one (Get.cstr (l := [115, 101, 113]) rfl rfl)) rfl rfl rfl (.cons (GetC.one (Get.cstr (l := [97, 110, 100]) rfl rfl)) rfl rfl rfl (.cons (GetC.one (Get.cstr (l := [111, 114]) rfl rfl)) rfl rfl rfl (.cons (GetC.one (Get.cstr (l := [110, 111, 116]) rfl rfl)) rfl rfl rfl (.cons (GetC.one (Get.cstr (l := [115, 101, 116]) rfl rfl)) rfl rfl rfl (.cons (GetC.one (Get.cstr (l := [104, 111, 108, 100]) rfl rfl)) rfl rfl rfl (.cons (GetC.one (Get.cstr (l := [112, 108, 97, 105, 110]) rfl rfl)) rfl rfl rfl (.cons (GetC.one (Get.cstr (l := [114, 101, 112, 101, 97, 116]) rfl rfl)) rfl rfl rfl .nil)))))))))))))))))))))))) rfl rfl) ?_
  refine L.as rfl rfl rfl rfl rfl ?_
  refine L.nt ?_
  refine W.ret ?_
  refine N.ret () rfl (.tmp (t := 0) (Get.tmp rfl) .nil) (res1 (eqSl ?_)) .nil (fun _ _ h => h)
  rfl

theorem isKeyword_ok (s : List UInt8) : CallT Tryz.prog 101 [Rp.str s] [] (.one (Rp.bool (kwB s))) := by
  refine W.enter (fn := Tryz.f101) (n := 6) Tryz.func101 rfl Tryz.ntmps101 rfl (fun w₀ C₀ => ?_)
  simp only [argS]
  refine W.sr ?_
  refine L.p1 rfl rfl rfl (spec_assign rfl Get.cbool) ?_
  refine L.nt ?_
  refine W.sr ?_
  refine L.p1 rfl rfl rfl (spec_call rfl Tryz.call114 (keywords_ok ) .nil) ?_
  refine L.mv rfl rfl rfl rfl rfl ?_
  refine L.p1 rfl rfl rfl (spec_call rfl Tryz.call113 (has7_ok _ _) (.cons (Get.tmp rfl) (.cons (Get.tmp rfl) .nil))) ?_
  refine L.as rfl rfl rfl rfl rfl ?_
  refine L.nt ?_
  refine W.keep (.cons (t := 2) rfl .nil) .refl ?_
  refine W.ret ?_
  refine N.ret () rfl (.tmp (t := 2) (Get.tmp rfl) .nil) (res1 (eqB ?_)) .nil (fun _ _ h => h)
  rfl

theorem isName_ok (s : List UInt8) : CallT Tryz.prog 80 [Rp.str s] [] (.one (Rp.bool (nameB s))) := by
  refine W.enter (fn := Tryz.f80) (n := 32) Tryz.func80 rfl Tryz.ntmps80 rfl (fun w₀ C₀ => ?_)
  simp only [argS]
  refine W.fact 0 rfl str_fact fun hs => ?_
  refine W.sr ?_
  refine L.p1 rfl rfl rfl (spec_assign rfl Get.cbool) ?_
  refine L.nt ?_
  refine W.seq ?_
  refine W.sr ?_
  refine L.mv rfl rfl rfl rfl rfl ?_
  refine L.p1 rfl rfl rfl (spec_eqlS rfl (Get.tmp rfl) (Get.cstr (l := []) rfl rfl)) ?_
  refine L.mv rfl rfl rfl rfl rfl ?_
  refine L.op1 rfl rfl (GSpec.guard rfl rfl rfl fun hg => (spec_move rfl (Get.tmp rfl))) ?_
  refine L.op1 rfl rfl (GSpec.guard rfl rfl rfl fun hg => (spec_lenS rfl Tryz.underlying9 (Get.opt rfl hg))) ?_
  refine L.op1 rfl rfl (GSpec.guard rfl rfl rfl fun hg => (spec_gtr rfl (Get.opt rfl hg) (Get.cint rfl))) ?_
  refine L.p1 rfl rfl rfl (spec_or rfl (Get.tmp rfl) (fun hb => (Get.opt rfl hb))) ?_
  refine L.mv rfl rfl rfl rfl rfl ?_
  refine L.op1 rfl rfl (GSpec.guard rfl rfl rfl fun hg => (spec_move rfl (Get.tmp rfl))) ?_
  refine L.op1 rfl rfl (GSpec.guard rfl rfl rfl fun hg => (spec_indexS rfl Tryz.underlying9 (Get.opt rfl hg) (Get.cint rfl) (by (have := name_ne hg; omega)))) ?_
  refine L.op1 rfl rfl (GSpec.guard rfl rfl rfl fun hg => (spec_call rfl Tryz.call100 (small_ok _) (.cons (Get.opt rfl hg) .nil))) ?_
  refine L.op1 rfl rfl (GSpec.guard rfl rfl rfl fun hg => (spec_not rfl (Get.opt rfl hg))) ?_
  refine L.p1 rfl rfl rfl (spec_or rfl (Get.tmp rfl) (fun hb => (Get.opt rfl hb))) ?_
  refine L.mv rfl rfl rfl rfl rfl ?_
  refine L.op1 rfl rfl (GSpec.guard rfl rfl rfl fun hg => (spec_move rfl (Get.tmp rfl))) ?_
  refine L.op1 rfl rfl (GSpec.guard rfl rfl rfl fun hg => (spec_call rfl Tryz.call101 (isKeyword_ok _) (.cons (Get.opt rfl hg) .nil))) ?_
  refine L.p1 rfl rfl rfl (spec_or rfl (Get.tmp rfl) (fun hb => (Get.opt rfl hb))) ?_
  refine L.nt ?_
  refine W.keep (.cons (t := 0) rfl (.cons (t := 2) rfl (.cons (t := 20) rfl .nil))) .refl ?_
  refine W.cond (Get.tmp rfl) (fun h1 => ?_) (fun h1 => ?_)
  · have ph1 := h1; try simp only [sbx] at ph1
    refine W.sr ?_
    refine L.p1 rfl rfl rfl (spec_assign rfl Get.cbool) ?_
    refine L.nt ?_
    refine W.ret ?_
    refine N.ret () rfl (.tmp (t := 2) (Get.tmp rfl) .nil) (res1 (eqB ?_)) .nil (fun _ _ h => h)
    symm; rw [Bool.eq_false_iff]; intro hn
    exact name_first hn h1
  · have ph1 := h1; try simp only [sbx] at ph1
    refine W.skip ?_
    refine N.thenW ?_
    refine W.seq ?_
    refine W.sr ?_
    refine L.p1 rfl rfl rfl (spec_assign rfl (Get.cint rfl)) ?_
    refine L.nt ?_
    refine W.block ?_
    refine W.loopK (σ := Nat) (.cons (t := 0) rfl .nil) (fun z => [(3, Rp.int .i64 (z : Nat))]) (fun z => []) (fun z => z ≤ s.length ∧ ∀ j : Nat, j < z → folB (ch s j) = true) (fun z => s.length - z) 0 ⟨Nat.zero_le _, fun j hj => by omega⟩ (.cons (t := 3) rfl .nil) .nil ?_
    intro i hI S' M' hS hM
    obtain ⟨hI1, hI2⟩ := hI
    try dsimp only at hS hM
    simp only [List.cons_append, List.nil_append] at hS hM
    subst hS hM
    try dsimp only
    refine W.seq ?_
    refine W.sr ?_
    refine L.mv rfl rfl rfl rfl rfl ?_
    refine L.mv rfl rfl rfl rfl rfl ?_
    refine L.p1 rfl rfl rfl (spec_lenS rfl Tryz.underlying9 (Get.tmp rfl)) ?_
    refine L.p1 rfl rfl rfl (spec_lss rfl (Get.tmp rfl) (Get.tmp rfl)) ?_
    refine L.nt ?_
    refine W.cond (Get.tmp rfl) (fun h2 => ?_) (fun h2 => ?_)
    · have ph2 := h2; try simp only [sbx] at ph2
      refine W.skip ?_
      refine N.thenW ?_
      refine W.seq ?_
      refine W.block ?_
      refine W.sr ?_
      refine L.mv rfl rfl rfl rfl rfl ?_
      refine L.mv rfl rfl rfl rfl rfl ?_
      refine L.p1 rfl rfl rfl (spec_indexS rfl Tryz.underlying9 (Get.tmp rfl) (Get.tmp rfl) (by omega)) ?_
      refine L.p1 rfl rfl rfl (spec_call rfl Tryz.call102 (inner_ok _) (.cons (Get.tmp rfl) .nil)) ?_
      refine L.p1 rfl rfl rfl (spec_not rfl (Get.tmp rfl)) ?_
      refine L.nt ?_
      refine W.cond (Get.tmp rfl) (fun h3 => ?_) (fun h3 => ?_)
      · have ph3 := h3; try simp only [sbx] at ph3
        refine W.sr ?_
        refine L.p1 rfl rfl rfl (spec_assign rfl Get.cbool) ?_
        refine L.nt ?_
        refine W.ret ?_
        refine N.ret () rfl (.tmp (t := 2) (Get.tmp rfl) .nil) (res1 (eqB ?_)) .nil (fun _ _ h => h)
        symm; rw [Bool.eq_false_iff]; intro hn
        exact name_inner hn (i := i) (by omega) (by have h := h3; rw [Bool.not_eq_true'] at h; exact h)
      · have ph3 := h3; try simp only [sbx] at ph3
        refine W.skip ?_
        refine N.blockNormal ?_
        refine N.thenW ?_
        refine W.region ?_
        refine L.mv rfl rfl rfl rfl rfl ?_
        first | refine L.op1 rfl rfl (GSpec.plain rfl (fit_i64 (by omega) (by omega) (spec_add rfl (Get.tmp rfl) (Get.cint rfl)))) ?_ | refine L.op1 rfl rfl (GSpec.plain rfl (spec_add rfl (Get.tmp rfl) (Get.cint rfl))) ?_
        refine L.as rfl rfl rfl rfl rfl ?_
        refine L.nil ?_
        refine N.roundK (i + 1) ?hI3 ?hmu3 ?hs3 ?hk3 ?hp3
        case hs3 => exact (.cons (t := 3) rfl .nil)
        case hk3 => exact (.cons (t := 0) rfl .nil)
        case hp3 => exact .nil
        case hI3 => exact ⟨by omega, upto hI2 (by have h := h3; rw [Bool.not_eq_false'] at h; exact h)⟩
        case hmu3 => omega
    · have ph2 := h2; try simp only [sbx] at ph2
      refine W.exit ?_
      refine N.thenExit ?_
      refine N.thenExit ?_
      refine N.blockExit ?_
      refine N.thenW ?_
      refine W.keep .nil .refl ?_
      refine W.sr ?_
      refine L.p1 rfl rfl rfl (spec_assign rfl Get.cbool) ?_
      refine L.nt ?_
      refine W.ret ?_
      refine N.ret () rfl (.tmp (t := 2) (Get.tmp rfl) .nil) (res1 (eqB ?_)) .nil (fun _ _ h => h)
      symm; exact name_all h1 fun j hj => hI2 j (by omega)

theorem split_ok (s : List UInt8) (hn : nameB s = true) : CallT Tryz.prog 171 [Rp.str s] [] (.one (Rp.tuple [Rp.str [], Rp.int .i64 0, Rp.bool false])) := by
  refine W.enter (fn := Tryz.f171) (n := 51) Tryz.func171 rfl Tryz.ntmps171 rfl (fun w₀ C₀ => ?_)
  simp only [argS]
  refine W.fact 0 rfl str_fact fun hs => ?_
  refine W.sr ?_
  refine L.p1 rfl rfl rfl (spec_assign rfl (Get.cstr (l := []) rfl rfl)) ?_
  refine L.p1 rfl rfl rfl (spec_assign rfl (Get.cint rfl)) ?_
  refine L.p1 rfl rfl rfl (spec_assign rfl Get.cbool) ?_
  refine L.nt ?_
  refine W.seq ?_
  refine W.sr ?_
  refine L.mv rfl rfl rfl rfl rfl ?_
  refine L.p1 rfl rfl rfl (spec_lenS rfl Tryz.underlying9 (Get.tmp rfl)) ?_
  refine L.p1 rfl rfl rfl (spec_lss rfl (Get.tmp rfl) (Get.cint rfl)) ?_
  refine L.mv rfl rfl rfl rfl rfl ?_
  refine L.op1 rfl rfl (GSpec.guard rfl rfl rfl fun hg => (spec_move rfl (Get.tmp rfl))) ?_
  refine L.op1 rfl rfl (GSpec.guard rfl rfl rfl fun hg => (spec_move rfl (Get.tmp rfl))) ?_
  refine L.op1 rfl rfl (GSpec.guard rfl rfl rfl fun hg => (spec_lenS rfl Tryz.underlying9 (Get.opt rfl hg))) ?_
  first | refine L.op1 rfl rfl (GSpec.guard rfl rfl rfl fun hg => (fit_i64 (by (first | omega | (have := of_decide_eq_false hg; omega) | (simp only [Bool.or_eq_false_iff, decide_eq_false_iff_not] at hg; omega))) (by (first | omega | (have := of_decide_eq_false hg; omega) | (simp only [Bool.or_eq_false_iff, decide_eq_false_iff_not] at hg; omega))) (spec_sub rfl (Get.opt rfl hg) (Get.cint rfl)))) ?_ | refine L.op1 rfl rfl (GSpec.guard rfl rfl rfl fun hg => (spec_sub rfl (Get.opt rfl hg) (Get.cint rfl))) ?_
  refine L.op1 rfl rfl (GSpec.guard rfl rfl rfl fun hg => (spec_indexS rfl Tryz.underlying9 (Get.opt rfl hg) (Get.opt rfl hg) (by (first | omega | (have := of_decide_eq_false hg; omega) | (simp only [Bool.or_eq_false_iff, decide_eq_false_iff_not] at hg; omega))))) ?_
  refine L.op1 rfl rfl (GSpec.guard rfl rfl rfl fun hg => (spec_neq rfl (Get.opt rfl hg) (Get.cint rfl))) ?_
  refine L.p1 rfl rfl rfl (spec_or rfl (Get.tmp rfl) (fun hb => (Get.opt rfl hb))) ?_
  refine L.mv rfl rfl rfl rfl rfl ?_
  refine L.op1 rfl rfl (GSpec.guard rfl rfl rfl fun hg => (spec_move rfl (Get.tmp rfl))) ?_
  refine L.op1 rfl rfl (GSpec.guard rfl rfl rfl fun hg => (spec_move rfl (Get.tmp rfl))) ?_
  refine L.op1 rfl rfl (GSpec.guard rfl rfl rfl fun hg => (spec_lenS rfl Tryz.underlying9 (Get.opt rfl hg))) ?_
  first | refine L.op1 rfl rfl (GSpec.guard rfl rfl rfl fun hg => (fit_i64 (by (first | omega | (have := of_decide_eq_false hg; omega) | (simp only [Bool.or_eq_false_iff, decide_eq_false_iff_not] at hg; omega))) (by (first | omega | (have := of_decide_eq_false hg; omega) | (simp only [Bool.or_eq_false_iff, decide_eq_false_iff_not] at hg; omega))) (spec_sub rfl (Get.opt rfl hg) (Get.cint rfl)))) ?_ | refine L.op1 rfl rfl (GSpec.guard rfl rfl rfl fun hg => (spec_sub rfl (Get.opt rfl hg) (Get.cint rfl))) ?_
  refine L.op1 rfl rfl (GSpec.guard rfl rfl rfl fun hg => (spec_indexS rfl Tryz.underlying9 (Get.opt rfl hg) (Get.opt rfl hg) (by (first | omega | (have := of_decide_eq_false hg; omega) | (simp only [Bool.or_eq_false_iff, decide_eq_false_iff_not] at hg; omega))))) ?_
  refine L.op1 rfl rfl (GSpec.guard rfl rfl rfl fun hg => (spec_neq rfl (Get.opt rfl hg) (Get.cint rfl))) ?_
  refine L.p1 rfl rfl rfl (spec_or rfl (Get.tmp rfl) (fun hb => (Get.opt rfl hb))) ?_
  refine L.nt ?_
  refine W.keep (.cons (t := 0) rfl (.cons (t := 2) rfl (.cons (t := 3) rfl (.cons (t := 4) rfl (.cons (t := 25) rfl .nil))))) .refl ?_
  refine W.cond (Get.tmp rfl) (fun h1 => ?_) (fun h1 => ?_)
  · have ph1 := h1; try simp only [sbx] at ph1
    refine W.sr ?_
    refine L.p1 rfl rfl rfl (spec_assign rfl (Get.cstr (l := []) rfl rfl)) ?_
    refine L.p1 rfl rfl rfl (spec_assign rfl (Get.cint rfl)) ?_
    refine L.p1 rfl rfl rfl (spec_assign rfl Get.cbool) ?_
    refine L.nt ?_
    refine W.ret ?_
    refine N.ret () rfl (.tmp (t := 2) (Get.tmp rfl) (.tmp (t := 3) (Get.tmp rfl) (.tmp (t := 4) (Get.tmp rfl) .nil))) (res3w (eqS ?_) (eqI ?_) (eqB ?_)) .nil (fun _ _ h => h)
    all_goals rfl
  · exfalso; have h := h1; simp only [Bool.or_eq_false_iff, Bool.not_eq_false', decide_eq_false_iff_not, decide_eq_true_eq] at h; exact name_end hn (by omega) h.1.2

theorem isVar_ok (s : List UInt8) (hn : nameB s = true) : CallT Tryz.prog 155 [Rp.str s] [] (.one (Rp.bool true)) := by
  refine W.enter (fn := Tryz.f155) (n := 17) Tryz.func155 rfl Tryz.ntmps155 rfl (fun w₀ C₀ => ?_)
  simp only [argS]
  refine W.sr ?_
  refine L.p1 rfl rfl rfl (spec_assign rfl Get.cbool) ?_
  refine L.nt ?_
  refine W.sr ?_
  refine L.mv rfl rfl rfl rfl rfl ?_
  refine L.p1 rfl rfl rfl (spec_call rfl Tryz.call171 (split_ok _ (by assumption)) (.cons (Get.tmp rfl) .nil)) ?_
  refine L.mv rfl rfl rfl rfl rfl ?_
  refine L.p1 rfl rfl rfl (spec_extract rfl (Get.tmp rfl) rfl) ?_
  refine L.p1 rfl rfl rfl (spec_extract rfl (Get.tmp rfl) rfl) ?_
  refine L.p1 rfl rfl rfl (spec_extract rfl (Get.tmp rfl) rfl) ?_
  refine L.as rfl rfl rfl rfl rfl ?_
  refine L.as rfl rfl rfl rfl rfl ?_
  refine L.as rfl rfl rfl rfl rfl ?_
  refine L.nt ?_
  refine W.keep (.cons (t := 0) rfl (.cons (t := 2) rfl (.cons (t := 5) rfl .nil))) .refl ?_
  refine W.sr ?_
  refine L.mv rfl rfl rfl rfl rfl ?_
  refine L.mv rfl rfl rfl rfl rfl ?_
  refine L.op1 rfl rfl (GSpec.guard rfl rfl rfl fun hg => (spec_move rfl (Get.tmp rfl))) ?_
  refine L.op1 rfl rfl (GSpec.guard rfl rfl rfl fun hg => (spec_call rfl Tryz.call80 (isName_ok _) (.cons (Get.opt rfl hg) .nil))) ?_
  refine L.p1 rfl rfl rfl (spec_or rfl (Get.tmp rfl) (fun hb => (Get.opt rfl hb))) ?_
  refine L.as rfl rfl rfl rfl rfl ?_
  refine L.nt ?_
  refine W.keep (.cons (t := 2) rfl .nil) .refl ?_
  refine W.ret ?_
  refine N.ret () rfl (.tmp (t := 2) (Get.tmp rfl) .nil) (res1 (eqB ?_)) .nil (fun _ _ h => h)
  rw [hn]; rfl

end Go.Proofs.YthlfacmpjehjmaaGreatDoor
set_option linter.unusedSimpArgs false
set_option maxRecDepth 8000
set_option linter.unusedVariables false
namespace Go.Proofs.YthlfacmpjehjmaaGreatDoor
open Go.Sim
theorem starts_ok (s : List UInt8) (a : Nat) (t : List UInt8) (ha : a ≤ s.length) (hs : s.length ≤ 200) (ht : t.length ≤ 10) : CallT Tryz.prog 143 [Rp.str s, Rp.int .i64 (a : Nat), Rp.str t] [] (.one (Rp.bool (startsE s a t))) := by
  refine W.enter (fn := Tryz.f143) (n := 25) Tryz.func143 rfl Tryz.ntmps143 rfl (fun w₀ C₀ => ?_)
  simp only [argS]
  refine W.sr ?_
  refine L.p1 rfl rfl rfl (spec_assign rfl Get.cbool) ?_
  refine L.nt ?_
  refine W.sr ?_
  refine L.mv rfl rfl rfl rfl rfl ?_
  refine L.p1 rfl rfl rfl (spec_lenS rfl Tryz.underlying9 (Get.tmp rfl)) ?_
  refine L.mv rfl rfl rfl rfl rfl ?_
  first | refine L.op1 rfl rfl (GSpec.plain rfl (fit_i64 (by (first | omega | (simp only [Int.toNat_natCast]; omega))) (by (first | omega | (simp only [Int.toNat_natCast]; omega))) (spec_sub rfl (Get.tmp rfl) (Get.tmp rfl)))) ?_ | refine L.op1 rfl rfl (GSpec.plain rfl (spec_sub rfl (Get.tmp rfl) (Get.tmp rfl))) ?_
  refine L.mv rfl rfl rfl rfl rfl ?_
  refine L.p1 rfl rfl rfl (spec_lenS rfl Tryz.underlying9 (Get.tmp rfl)) ?_
  refine L.p1 rfl rfl rfl (spec_geq rfl (Get.tmp rfl) (Get.tmp rfl)) ?_
  refine L.mv rfl rfl rfl rfl rfl ?_
  refine L.op1 rfl rfl (GSpec.guard rfl rfl rfl fun hg => (spec_move rfl (Get.tmp rfl))) ?_
  refine L.op1 rfl rfl (GSpec.guard rfl rfl rfl fun hg => (spec_move rfl (Get.tmp rfl))) ?_
  refine L.op1 rfl rfl (GSpec.guard rfl rfl rfl fun hg => (spec_move rfl (Get.tmp rfl))) ?_
  refine L.op1 rfl rfl (GSpec.guard rfl rfl rfl fun hg => (spec_move rfl (Get.tmp rfl))) ?_
  refine L.op1 rfl rfl (GSpec.guard rfl rfl rfl fun hg => (spec_lenS rfl Tryz.underlying9 (Get.opt rfl hg))) ?_
  first | refine L.op1 rfl rfl (GSpec.guard rfl rfl rfl fun hg => (fit_i64 (by (have := of_decide_eq_true hg; first | omega | (simp only [Int.toNat_natCast]; omega))) (by (have := of_decide_eq_true hg; first | omega | (simp only [Int.toNat_natCast]; omega))) (spec_add rfl (Get.opt rfl hg) (Get.opt rfl hg)))) ?_ | refine L.op1 rfl rfl (GSpec.guard rfl rfl rfl fun hg => (spec_add rfl (Get.opt rfl hg) (Get.opt rfl hg))) ?_
  refine L.op1 rfl rfl (GSpec.guard rfl rfl rfl fun hg => (spec_sliceS rfl Tryz.underlying9 (Get.opt rfl hg) (.some (Get.opt rfl hg) (by (have := of_decide_eq_true hg; first | omega | (simp only [Int.toNat_natCast]; omega)))) (.some (Get.opt rfl hg) (by (have := of_decide_eq_true hg; first | omega | (simp only [Int.toNat_natCast]; omega)))) (by (have := of_decide_eq_true hg; first | omega | (simp only [Int.toNat_natCast]; omega))))) ?_
  refine L.op1 rfl rfl (GSpec.guard rfl rfl rfl fun hg => (spec_move rfl (Get.tmp rfl))) ?_
  refine L.op1 rfl rfl (GSpec.guard rfl rfl rfl fun hg => (spec_eqlS rfl (Get.opt rfl hg) (Get.opt rfl hg))) ?_
  refine L.p1 rfl rfl rfl (spec_and rfl (Get.tmp rfl) (fun hb => (Get.opt rfl hb))) ?_
  refine L.as rfl rfl rfl rfl rfl ?_
  refine L.nt ?_
  refine W.keep (.cons (t := 6) rfl .nil) .refl ?_
  refine W.ret ?_
  refine N.ret () rfl (.tmp (t := 6) (Get.tmp rfl) .nil) (res1 (eqB ?_)) .nil (fun _ _ h => h)
  rfl

theorem blank_ok (s : List UInt8) (a : Nat) (ha : a ≤ s.length) (hs : NoSl s) : CallT Tryz.prog 128 [Rp.str s, Rp.int .i64 (a : Nat)] [] (.one (Rp.int .i64 (blankE s a : Nat))) := by
  refine W.enter (fn := Tryz.f128) (n := 44) Tryz.func128 rfl Tryz.ntmps128 rfl (fun w₀ C₀ => ?_)
  simp only [argS]
  have hsp := span_spec (fun b => wsB (b.toNat : Int)) s ha
  obtain ⟨q1, q2, q3, q4⟩ := hsp
  have hs2 := hs.1
  have hbe : spanE (fun b => wsB (b.toNat : Int)) s a = blankE s a := rfl
  rw [hbe] at q1 q2 q3 q4
  refine W.sr ?_
  refine L.p1 rfl rfl rfl (spec_assign rfl (Get.cint rfl)) ?_
  refine L.nt ?_
  refine W.seq ?_
  refine W.block ?_
  refine W.loopK (σ := Nat) (.cons (t := 0) rfl .nil) (fun z => [(1, Rp.int .i64 (z : Nat))]) (fun z => []) (fun z => a ≤ z ∧ z ≤ blankE s a) (fun z => blankE s a - z) a ⟨Nat.le_refl _, q1⟩ (.cons (t := 1) rfl .nil) .nil ?_
  intro i hI S' M' hS hM
  try dsimp only at hS hM
  simp only [List.cons_append, List.nil_append] at hS hM
  subst hS hM
  try dsimp only
  refine W.seq ?_
  refine W.sr ?_
  refine L.mv rfl rfl rfl rfl rfl ?_
  refine L.mv rfl rfl rfl rfl rfl ?_
  refine L.p1 rfl rfl rfl (spec_lenS rfl Tryz.underlying9 (Get.tmp rfl)) ?_
  refine L.p1 rfl rfl rfl (spec_lss rfl (Get.tmp rfl) (Get.tmp rfl)) ?_
  refine L.nt ?_
  refine W.cond (Get.tmp rfl) (fun h1 => ?_) (fun h1 => ?_)
  · have ph1 := h1; try simp only [sbx] at ph1
    refine W.skip ?_
    refine N.thenW ?_
    refine W.block ?_
    refine W.sr ?_
    refine L.mv rfl rfl rfl rfl rfl ?_
    refine L.mv rfl rfl rfl rfl rfl ?_
    refine L.p1 rfl rfl rfl (spec_indexS rfl Tryz.underlying9 (Get.tmp rfl) (Get.tmp rfl) (by (first | omega | (simp only [Int.toNat_natCast]; omega)))) ?_
    refine L.p1 rfl rfl rfl (spec_eql rfl (Get.tmp rfl) (Get.cint rfl)) ?_
    refine L.mv rfl rfl rfl rfl rfl ?_
    refine L.op1 rfl rfl (GSpec.guard rfl rfl rfl fun hg => (spec_move rfl (Get.tmp rfl))) ?_
    refine L.op1 rfl rfl (GSpec.guard rfl rfl rfl fun hg => (spec_move rfl (Get.tmp rfl))) ?_
    refine L.op1 rfl rfl (GSpec.guard rfl rfl rfl fun hg => (spec_indexS rfl Tryz.underlying9 (Get.opt rfl hg) (Get.opt rfl hg) (by (first | omega | (simp only [Int.toNat_natCast]; omega))))) ?_
    refine L.op1 rfl rfl (GSpec.guard rfl rfl rfl fun hg => (spec_eql rfl (Get.opt rfl hg) (Get.cint rfl))) ?_
    refine L.p1 rfl rfl rfl (spec_or rfl (Get.tmp rfl) (fun hb => (Get.opt rfl hb))) ?_
    refine L.mv rfl rfl rfl rfl rfl ?_
    refine L.op1 rfl rfl (GSpec.guard rfl rfl rfl fun hg => (spec_move rfl (Get.tmp rfl))) ?_
    refine L.op1 rfl rfl (GSpec.guard rfl rfl rfl fun hg => (spec_move rfl (Get.tmp rfl))) ?_
    refine L.op1 rfl rfl (GSpec.guard rfl rfl rfl fun hg => (spec_indexS rfl Tryz.underlying9 (Get.opt rfl hg) (Get.opt rfl hg) (by (first | omega | (simp only [Int.toNat_natCast]; omega))))) ?_
    refine L.op1 rfl rfl (GSpec.guard rfl rfl rfl fun hg => (spec_eql rfl (Get.opt rfl hg) (Get.cint rfl))) ?_
    refine L.p1 rfl rfl rfl (spec_or rfl (Get.tmp rfl) (fun hb => (Get.opt rfl hb))) ?_
    refine L.nt ?_
    refine W.cond (Get.tmp rfl) (fun h2 => ?_) (fun h2 => ?_)
    · have hw : wsB (ch s i) = true := h2
      have hij : i ≠ blankE s a := by intro e; have := q4 (by omega); rw [← e] at this; exact absurd (hw.symm.trans this) (by simp)
      refine W.region ?_
      refine L.mv rfl rfl rfl rfl rfl ?_
      first | refine L.op1 rfl rfl (GSpec.plain rfl (fit_i64 (by (first | omega | (simp only [Int.toNat_natCast]; omega))) (by (first | omega | (simp only [Int.toNat_natCast]; omega))) (spec_add rfl (Get.tmp rfl) (Get.cint rfl)))) ?_ | refine L.op1 rfl rfl (GSpec.plain rfl (spec_add rfl (Get.tmp rfl) (Get.cint rfl))) ?_
      refine L.as rfl rfl rfl rfl rfl ?_
      refine L.nil ?_
      refine N.blockNormal ?_
      refine N.roundK (i + 1) ?hI1 ?hmu1 ?hs1 ?hk1 ?hp1
      case hs1 => exact (.cons (t := 1) rfl .nil)
      case hk1 => exact (.cons (t := 0) rfl .nil)
      case hp1 => exact .nil
      all_goals (first | rfl | trivial | omega | (simp_all; done))
    · have hw : wsB (ch s i) = false := h2
      have hij : i = blankE s a := by rcases Nat.lt_or_ge i (blankE s a) with q | q; (exact absurd ((q3 i (by omega) q).symm.trans hw) (by simp)); omega
      refine W.sr ?_
      refine L.mv rfl rfl rfl rfl rfl ?_
      refine L.mv rfl rfl rfl rfl rfl ?_
      refine L.p1 rfl rfl rfl (spec_call rfl Tryz.call143 (starts_ok _ _ _ (by omega) (by omega) (by first | decide | omega)) (.cons (Get.tmp rfl) (.cons (Get.tmp rfl) (.cons (Get.cstr (l := [47, 47]) rfl rfl) .nil)))) ?_
      refine L.nt ?_
      refine W.cond (Get.tmp rfl) (fun h3 => ?_) (fun h3 => ?_)
      · exfalso; have h := h3; rw [starts_no hs (show i < s.length by omega)] at h; cases h
      · have ph3 := h3; try simp only [sbx] at ph3
        refine W.sr ?_
        refine L.mv rfl rfl rfl rfl rfl ?_
        refine L.as rfl rfl rfl rfl rfl ?_
        refine L.nt ?_
        refine W.ret ?_
        refine N.ret () rfl (.tmp (t := 4) (Get.tmp rfl) .nil) (res1 (eqI ?_)) .nil (fun _ _ h => h)
        rw [hij]
  · have ph1 := h1; try simp only [sbx] at ph1
    refine W.exit ?_
    refine N.thenExit ?_
    refine N.thenExit ?_
    refine N.blockExit ?_
    refine N.thenW ?_
    refine W.sr ?_
    refine L.mv rfl rfl rfl rfl rfl ?_
    refine L.as rfl rfl rfl rfl rfl ?_
    refine L.nt ?_
    refine W.keep (.cons (t := 4) rfl .nil) .refl ?_
    refine W.ret ?_
    refine N.ret () rfl (.tmp (t := 4) (Get.tmp rfl) .nil) (res1 (eqI ?_)) .nil (fun _ _ h => h)
    rw [show i = blankE s a by omega]

theorem behind_ok (s : List UInt8) (a : Nat) (ha : a ≤ s.length) (hs : s.length ≤ 200) : CallT Tryz.prog 144 [Rp.str s, Rp.int .i64 (a : Nat)] [] (.one (Rp.int .i64 (behindE s a : Nat))) := by
  refine W.enter (fn := Tryz.f144) (n := 18) Tryz.func144 rfl Tryz.ntmps144 rfl (fun w₀ C₀ => ?_)
  simp only [argS]
  have hsp := span_spec (fun b => folB (b.toNat : Int)) s ha
  obtain ⟨q1, q2, q3, q4⟩ := hsp
  have hbe : spanE (fun b => folB (b.toNat : Int)) s a = behindE s a := rfl
  rw [hbe] at q1 q2 q3 q4
  refine W.sr ?_
  refine L.p1 rfl rfl rfl (spec_assign rfl (Get.cint rfl)) ?_
  refine L.nt ?_
  refine W.seq ?_
  refine W.block ?_
  refine W.loopK (σ := Nat) (.cons (t := 0) rfl (.cons (t := 4) rfl .nil)) (fun z => [(1, Rp.int .i64 (z : Nat))]) (fun z => []) (fun z => a ≤ z ∧ z ≤ behindE s a) (fun z => behindE s a - z) a ⟨Nat.le_refl _, q1⟩ (.cons (t := 1) rfl .nil) .nil ?_
  intro i hI S' M' hS hM
  try dsimp only at hS hM
  simp only [List.cons_append, List.nil_append] at hS hM
  subst hS hM
  try dsimp only
  refine W.seq ?_
  refine W.sr ?_
  refine L.mv rfl rfl rfl rfl rfl ?_
  refine L.mv rfl rfl rfl rfl rfl ?_
  refine L.p1 rfl rfl rfl (spec_lenS rfl Tryz.underlying9 (Get.tmp rfl)) ?_
  refine L.p1 rfl rfl rfl (spec_lss rfl (Get.tmp rfl) (Get.tmp rfl)) ?_
  refine L.mv rfl rfl rfl rfl rfl ?_
  refine L.op1 rfl rfl (GSpec.guard rfl rfl rfl fun hg => (spec_move rfl (Get.tmp rfl))) ?_
  refine L.op1 rfl rfl (GSpec.guard rfl rfl rfl fun hg => (spec_move rfl (Get.tmp rfl))) ?_
  refine L.op1 rfl rfl (GSpec.guard rfl rfl rfl fun hg => (spec_indexS rfl Tryz.underlying9 (Get.opt rfl hg) (Get.opt rfl hg) (by (have := of_decide_eq_true hg; first | omega | (simp only [Int.toNat_natCast]; omega))))) ?_
  refine L.op1 rfl rfl (GSpec.guard rfl rfl rfl fun hg => (spec_call rfl Tryz.call102 (inner_ok _) (.cons (Get.opt rfl hg) .nil))) ?_
  refine L.p1 rfl rfl rfl (spec_and rfl (Get.tmp rfl) (fun hb => (Get.opt rfl hb))) ?_
  refine L.nt ?_
  refine W.cond (Get.tmp rfl) (fun h1 => ?_) (fun h1 => ?_)
  · have hw : i < s.length ∧ folB (ch s i) = true := by have h := h1; rw [Bool.and_eq_true, decide_eq_true_eq] at h; exact ⟨by omega, h.2⟩
    have hij : i ≠ behindE s a := by intro e; have := q4 (by omega); rw [← e] at this; exact absurd (hw.2.symm.trans this) (by simp)
    refine W.skip ?_
    refine N.thenW ?_
    refine W.block ?_
    refine W.region ?_
    refine L.mv rfl rfl rfl rfl rfl ?_
    first | refine L.op1 rfl rfl (GSpec.plain rfl (fit_i64 (by (first | omega | (simp only [Int.toNat_natCast]; omega))) (by (first | omega | (simp only [Int.toNat_natCast]; omega))) (spec_add rfl (Get.tmp rfl) (Get.cint rfl)))) ?_ | refine L.op1 rfl rfl (GSpec.plain rfl (spec_add rfl (Get.tmp rfl) (Get.cint rfl))) ?_
    refine L.as rfl rfl rfl rfl rfl ?_
    refine L.nil ?_
    refine N.blockNormal ?_
    refine N.roundK (i + 1) ?hI2 ?hmu2 ?hs2 ?hk2 ?hp2
    case hs2 => exact (.cons (t := 1) rfl .nil)
    case hk2 => exact (.cons (t := 0) rfl (.cons (t := 4) rfl .nil))
    case hp2 => exact .nil
    all_goals (first | rfl | trivial | omega | (simp_all; done))
  · have hij : i = behindE s a := by rcases Nat.lt_or_ge i (behindE s a) with q | q; (have h := h1; rw [decide_eq_true (show (i : Int) < (s.length : Int) by omega), Bool.true_and] at h; exact absurd ((q3 i (by omega) q).symm.trans h) (by simp)); omega
    refine W.exit ?_
    refine N.thenExit ?_
    refine N.thenExit ?_
    refine N.blockExit ?_
    refine N.thenW ?_
    refine W.keep (.cons (t := 1) rfl (.cons (t := 4) rfl .nil)) .refl ?_
    refine W.sr ?_
    refine L.mv rfl rfl rfl rfl rfl ?_
    refine L.as rfl rfl rfl rfl rfl ?_
    refine L.nt ?_
    refine W.ret ?_
    refine N.ret () rfl (.tmp (t := 4) (Get.tmp rfl) .nil) (res1 (eqI ?_)) .nil (fun _ _ h => h)
    rw [hij]

theorem marks_ok  : CallT Tryz.prog 164 [] [] (.one (Rp.slice eS marks)) := by
  refine W.enter (fn := Tryz.f164) (n := 2) Tryz.func164 rfl Tryz.ntmps164 rfl (fun w₀ C₀ => ?_)
  simp only [argS]
  refine W.sr ?_
  refine L.p1 rfl rfl rfl (spec_assign rfl (Get.cnil (E := eS))) ?_
  refine L.nt ?_
  refine W.sr ?_
  refine L.p1 rfl rfl rfl (spec_buildSliceN (xs := marks) (E := eS) rfl Tryz.underlying25 ti9 z9 (by first | decide | simp) rfl (.cons (GetC.one (Get.cstr (l := [40]) rfl rfl)) rfl rfl rfl (.cons (GetC.one (Get.cstr (l := [41]) rfl rfl)) rfl rfl rfl (.cons (GetC.one (Get.cstr (l := [123]) rfl rfl)) rfl rfl rfl (.cons (GetC.one (Get.cstr (l := [125]) rfl rfl)) rfl rfl rfl (.cons (GetC.one (Get.cstr (l := [91]) rfl rfl)) rfl rfl rfl (.cons (GetC.one (Get.cstr (l := [93]) rfl rfl)) rfl rfl rfl (.cons (GetC.one (Get.cstr (l := [44]) rfl rfl)) rfl rfl rfl (.cons (GetC.one (Get.cstr (l := [59]) rfl rfl)) rfl rfl rfl (.cons (GetC.one (Get.cstr (l := [58]) rfl rfl)) rfl rfl rfl (.cons (GetC.one (Get.cstr (l := [46, 46]) rfl rfl)) rfl rfl rfl (.cons (GetC.one (Get.cstr (l := [63]) rfl rfl)) rfl rfl rfl (.cons (GetC.one (Get.cstr (l := [61]) rfl rfl)) rfl rfl rfl (.cons (GetC.one (Get.cstr (l := [61, 61]) rfl rfl)) rfl rfl rfl (.cons (GetC.one (Get.cstr (l := [33, 61]) rfl rfl)) rfl rfl rfl (.cons (GetC.one (Get.cstr (l := [60]) rfl rfl)) rfl rfl rfl (.cons (GetC.one (Get.cstr (l := [60, 61]) rfl rfl)) rfl rfl rfl (.cons (GetC.one (Get.cstr (l := [62]) rfl rfl)) rfl rfl rfl (.cons (GetC.one (Get.cstr (l := [62, 61]) rfl rfl)) rfl rfl rfl (.cons (GetC.one (Get.cstr (l := [60, 60]) rfl rfl)) rfl rfl rfl (.cons (GetC.one (Get.cstr (l := [62, 62]) rfl rfl)) rfl rfl rfl (.cons (GetC.one (Get.cstr (l := [43]) rfl rfl)) rfl rfl rfl (.cons (GetC.one (Get.cstr (l := [45]) rfl rfl)) rfl rfl rfl (.cons (GetC.one (Get.cstr (l := [42]) rfl rfl)) rfl rfl rfl (.cons (GetC.one (Get.cstr (l := [38]) rfl rfl)) rfl rfl rfl (.cons (GetC.one (Get.cstr (l := [124]) rfl rfl)) rfl rfl rfl (.cons (GetC.one (Get.cstr (l := [94]) rfl rfl)) rfl rfl rfl (.cons (GetC.one (Get.cstr (l := [126]) rfl rfl)) rfl rfl rfl (.cons (GetC.one (Get.cstr (l := [33]) rfl rfl)) rfl rfl rfl (.cons (GetC.one (Get.cstr (l := [38, 38]) rfl rfl)) rfl rfl rfl (.cons (GetC.one (Get.cstr (l := [124, 124]) rfl rfl)) rfl rfl rfl (.cons (GetC.one (Get.cstr (l := [45, 62]) rfl rfl)) rfl rfl rfl (.cons (GetC.one (Get.cstr (l := [61, 62]) rfl rfl)) rfl rfl rfl (.cons (GetC.one (Get.cstr (l := [58, 61]) rfl rfl)) rfl rfl rfl (.cons (GetC.one (Get.cstr (l := [58, 47]) rfl rfl)) rfl rfl rfl (.cons (GetC.one (Get.cstr (l := [35, 35]) rfl rfl)) rfl rfl rfl (.cons (GetC.one (Get.cstr (l := [64]) rfl rfl)) rfl rfl rfl .nil)))))))))))))))))))))))))))))))))))) rfl rfl) ?_
  refine L.as rfl rfl rfl rfl rfl ?_
  refine L.nt ?_
  refine W.keep (.cons (t := 0) rfl .nil) .refl ?_
  refine W.ret ?_
  refine N.ret () rfl (.tmp (t := 0) (Get.tmp rfl) .nil) (res1 (eqSl ?_)) .nil (fun _ _ h => h)
  rfl

theorem longest_ok (s : List UInt8) (a : Nat) (ha : a ≤ s.length) (hs : s.length ≤ 200) : CallT Tryz.prog 146 [Rp.str s, Rp.int .i64 (a : Nat)] [] (.one (Rp.str (longE s a))) := by
  refine W.enter (fn := Tryz.f146) (n := 37) Tryz.func146 rfl Tryz.ntmps146 rfl (fun w₀ C₀ => ?_)
  simp only [argS]
  have hml : marks.length = 36 := rfl
  have hm2 : ∀ i, i < 36 → (marks.getD i default).length ≤ 2 := by decide
  refine W.sr ?_
  refine L.p1 rfl rfl rfl (spec_assign rfl (Get.cstr (l := []) rfl rfl)) ?_
  refine L.nt ?_
  refine W.sr ?_
  refine L.p1 rfl rfl rfl (spec_call rfl Tryz.call164 (marks_ok ) .nil) ?_
  refine L.as rfl rfl rfl rfl rfl ?_
  refine L.nt ?_
  refine W.sr ?_
  refine L.p1 rfl rfl rfl (spec_assign rfl (Get.cstr (l := []) rfl rfl)) ?_
  refine L.nt ?_
  refine W.seq ?_
  refine W.sr ?_
  refine L.p1 rfl rfl rfl (spec_assign rfl (Get.cint rfl)) ?_
  refine L.nt ?_
  refine W.block ?_
  refine W.loopK (σ := Nat) (.cons (t := 0) rfl (.cons (t := 1) rfl (.cons (t := 4) rfl (.cons (t := 5) rfl .nil)))) (fun z => [(7, Rp.int .i64 (z : Nat)), (6, Rp.str (longN s a z))]) (fun z => []) (fun z => z ≤ 36) (fun z => 36 - z) 0 (Nat.zero_le _) (.cons (t := 7) rfl (.cons (t := 6) rfl .nil)) .nil ?_
  intro i hI S' M' hS hM
  try dsimp only at hS hM
  simp only [List.cons_append, List.nil_append] at hS hM
  subst hS hM
  try dsimp only
  have hll := long_len s a i (by omega)
  refine W.seq ?_
  refine W.sr ?_
  refine L.mv rfl rfl rfl rfl rfl ?_
  refine L.mv rfl rfl rfl rfl rfl ?_
  refine L.p1 rfl rfl rfl (spec_len rfl Tryz.underlying25 (Get.tmp rfl)) ?_
  refine L.p1 rfl rfl rfl (spec_lss rfl (Get.tmp rfl) (Get.tmp rfl)) ?_
  refine L.nt ?_
  refine W.cond (Get.tmp rfl) (fun h1 => ?_) (fun h1 => ?_)
  · have ph1 := h1; try simp only [sbx] at ph1
    refine W.skip ?_
    refine N.thenW ?_
    refine W.seq ?_
    refine W.block ?_
    refine W.sr ?_
    refine L.mv rfl rfl rfl rfl rfl ?_
    refine L.mv rfl rfl rfl rfl rfl ?_
    refine L.mv rfl rfl rfl rfl rfl ?_
    refine L.mv rfl rfl rfl rfl rfl ?_
    refine L.p1 rfl rfl rfl (spec_indexAddrD (E := eS) rfl Tryz.underlying25 Tryz.sizeOf9 (fun _ => rfl) (Get.tmp rfl) (Get.tmp rfl) (by (first | omega | (simp only [Int.toNat_natCast]; omega)))) ?_
    refine L.p1 rfl rfl rfl (spec_loadP1 rfl Tryz.isAgg9 (Get.tmp rfl)) ?_
    refine L.p1 rfl rfl rfl (spec_call rfl Tryz.call143 (starts_ok s a (marks.getD i default) ha hs (by have := hm2 i (by omega); omega)) (.cons (Get.tmp rfl) (.cons (Get.tmp rfl) (.cons (Get.tmp rfl) .nil)))) ?_
    refine L.mv rfl rfl rfl rfl rfl ?_
    refine L.op1 rfl rfl (GSpec.guard rfl rfl rfl fun hg => (spec_move rfl (Get.tmp rfl))) ?_
    refine L.op1 rfl rfl (GSpec.guard rfl rfl rfl fun hg => (spec_move rfl (Get.tmp rfl))) ?_
    refine L.op1 rfl rfl (GSpec.guard rfl rfl rfl fun hg => (spec_indexAddrD (E := eS) rfl Tryz.underlying25 Tryz.sizeOf9 (fun _ => rfl) (Get.opt rfl hg) (Get.opt rfl hg) (by (first | omega | (simp only [Int.toNat_natCast]; omega))))) ?_
    refine L.op1 rfl rfl (GSpec.guard rfl rfl rfl fun hg => (spec_loadP1 rfl Tryz.isAgg9 (Get.opt rfl hg))) ?_
    refine L.op1 rfl rfl (GSpec.guard rfl rfl rfl fun hg => (spec_lenS rfl Tryz.underlying9 (Get.opt rfl hg))) ?_
    refine L.op1 rfl rfl (GSpec.guard rfl rfl rfl fun hg => (spec_move rfl (Get.tmp rfl))) ?_
    refine L.op1 rfl rfl (GSpec.guard rfl rfl rfl fun hg => (spec_lenS rfl Tryz.underlying9 (Get.opt rfl hg))) ?_
    refine L.op1 rfl rfl (GSpec.guard rfl rfl rfl fun hg => (spec_gtr rfl (Get.opt rfl hg) (Get.opt rfl hg))) ?_
    refine L.p1 rfl rfl rfl (spec_and rfl (Get.tmp rfl) (fun hb => (Get.opt rfl hb))) ?_
    refine L.nt ?_
    refine W.cond (Get.tmp rfl) (fun h2 => ?_) (fun h2 => ?_)
    · have hln : longN s a (i + 1) = marks.getD i default := long_yes h2
      refine W.region ?_
      refine L.mv rfl rfl rfl rfl rfl ?_
      refine L.mv rfl rfl rfl rfl rfl ?_
      refine L.p1 rfl rfl rfl (spec_indexAddrD (E := eS) rfl Tryz.underlying25 Tryz.sizeOf9 (fun _ => rfl) (Get.tmp rfl) (Get.tmp rfl) (by (first | omega | (simp only [Int.toNat_natCast]; omega)))) ?_
      refine L.p1 rfl rfl rfl (spec_loadP1 rfl Tryz.isAgg9 (Get.tmp rfl)) ?_
      refine L.as rfl rfl rfl rfl rfl ?_
      refine L.nil ?_
      refine N.blockNormal ?_
      refine N.thenW ?_
      refine W.region ?_
      refine L.mv rfl rfl rfl rfl rfl ?_
      first | refine L.op1 rfl rfl (GSpec.plain rfl (fit_i64 (by (first | omega | (simp only [Int.toNat_natCast]; omega))) (by (first | omega | (simp only [Int.toNat_natCast]; omega))) (spec_add rfl (Get.tmp rfl) (Get.cint rfl)))) ?_ | refine L.op1 rfl rfl (GSpec.plain rfl (spec_add rfl (Get.tmp rfl) (Get.cint rfl))) ?_
      refine L.as rfl rfl rfl rfl rfl ?_
      refine L.nil ?_
      refine N.roundK (i + 1) ?hI3 ?hmu3 ?hs3 ?hk3 ?hp3
      case hs3 => exact (.cons (t := 7) rfl (.weak (t := 6) rfl (eqS (by first | (rw [hln]; done) | (rw [hln]; rfl))) .nil))
      case hk3 => exact (.cons (t := 0) rfl (.cons (t := 1) rfl (.cons (t := 4) rfl (.cons (t := 5) rfl .nil))))
      case hp3 => exact .nil
      case hI3 => omega
      case hmu3 => omega
    · have hln : longN s a (i + 1) = longN s a i := long_no h2
      refine W.skip ?_
      refine N.blockNormal ?_
      refine N.thenW ?_
      refine W.region ?_
      refine L.mv rfl rfl rfl rfl rfl ?_
      first | refine L.op1 rfl rfl (GSpec.plain rfl (fit_i64 (by (first | omega | (simp only [Int.toNat_natCast]; omega))) (by (first | omega | (simp only [Int.toNat_natCast]; omega))) (spec_add rfl (Get.tmp rfl) (Get.cint rfl)))) ?_ | refine L.op1 rfl rfl (GSpec.plain rfl (spec_add rfl (Get.tmp rfl) (Get.cint rfl))) ?_
      refine L.as rfl rfl rfl rfl rfl ?_
      refine L.nil ?_
      refine N.roundK (i + 1) ?hI4 ?hmu4 ?hs4 ?hk4 ?hp4
      case hs4 => exact (.cons (t := 7) rfl (.weak (t := 6) rfl (eqS (by first | (rw [hln]; done) | (rw [hln]; rfl))) .nil))
      case hk4 => exact (.cons (t := 0) rfl (.cons (t := 1) rfl (.cons (t := 4) rfl (.cons (t := 5) rfl .nil))))
      case hp4 => exact .nil
      case hI4 => omega
      case hmu4 => omega
  · have ph1 := h1; try simp only [sbx] at ph1
    refine W.exit ?_
    refine N.thenExit ?_
    refine N.thenExit ?_
    refine N.blockExit ?_
    refine N.thenW ?_
    have hi : i = 36 := by omega
    subst hi
    refine W.keep (.cons (t := 4) rfl (.cons (t := 6) rfl .nil)) .refl ?_
    refine W.sr ?_
    refine L.mv rfl rfl rfl rfl rfl ?_
    refine L.as rfl rfl rfl rfl rfl ?_
    refine L.nt ?_
    refine W.ret ?_
    refine N.ret () rfl (.tmp (t := 4) (Get.tmp rfl) .nil) (res1 (eqS ?_)) .nil (fun _ _ h => h)
    rfl

theorem line_ok (s : List UInt8) (a : Nat) (ha : a ≤ s.length) (hs : NoSl s) : CallT Tryz.prog 130 [Rp.str s, Rp.int .i64 (a : Nat)] [] (.one (Rp.int .i64 1)) := by
  refine W.enter (fn := Tryz.f130) (n := 19) Tryz.func130 rfl Tryz.ntmps130 rfl (fun w₀ C₀ => ?_)
  simp only [argS]
  have hs2 := hs.1
  refine W.sr ?_
  refine L.p1 rfl rfl rfl (spec_assign rfl (Get.cint rfl)) ?_
  refine L.nt ?_
  refine W.sr ?_
  refine L.p1 rfl rfl rfl (spec_assign rfl (Get.cint rfl)) ?_
  refine L.nt ?_
  refine W.seq ?_
  refine W.sr ?_
  refine L.p1 rfl rfl rfl (spec_assign rfl (Get.cint rfl)) ?_
  refine L.nt ?_
  refine W.block ?_
  refine W.loopK (σ := Nat) (.cons (t := 0) rfl (.cons (t := 1) rfl (.cons (t := 4) rfl .nil))) (fun z => [(6, Rp.int .i64 (z : Nat)), (5, Rp.int .i64 1)]) (fun z => []) (fun z => z ≤ a) (fun z => a - z) 0 (Nat.zero_le _) (.cons (t := 6) rfl (.cons (t := 5) rfl .nil)) .nil ?_
  intro i hI S' M' hS hM
  try dsimp only at hS hM
  simp only [List.cons_append, List.nil_append] at hS hM
  subst hS hM
  try dsimp only
  refine W.seq ?_
  refine W.sr ?_
  refine L.mv rfl rfl rfl rfl rfl ?_
  refine L.mv rfl rfl rfl rfl rfl ?_
  refine L.p1 rfl rfl rfl (spec_lss rfl (Get.tmp rfl) (Get.tmp rfl)) ?_
  refine L.nt ?_
  refine W.cond (Get.tmp rfl) (fun h1 => ?_) (fun h1 => ?_)
  · have ph1 := h1; try simp only [sbx] at ph1
    refine W.skip ?_
    refine N.thenW ?_
    refine W.seq ?_
    refine W.block ?_
    refine W.sr ?_
    refine L.mv rfl rfl rfl rfl rfl ?_
    refine L.mv rfl rfl rfl rfl rfl ?_
    refine L.p1 rfl rfl rfl (spec_indexS rfl Tryz.underlying9 (Get.tmp rfl) (Get.tmp rfl) (by (first | omega | (simp only [Int.toNat_natCast]; omega)))) ?_
    refine L.p1 rfl rfl rfl (spec_eql rfl (Get.tmp rfl) (Get.cint rfl)) ?_
    refine L.nt ?_
    refine W.cond (Get.tmp rfl) (fun h2 => ?_) (fun h2 => ?_)
    · exfalso; have h := of_decide_eq_true h2; exact (hs.2 i (by omega)).2 h
    · have ph2 := h2; try simp only [sbx] at ph2
      refine W.skip ?_
      refine N.blockNormal ?_
      refine N.thenW ?_
      refine W.region ?_
      refine L.mv rfl rfl rfl rfl rfl ?_
      first | refine L.op1 rfl rfl (GSpec.plain rfl (fit_i64 (by (first | omega | (simp only [Int.toNat_natCast]; omega))) (by (first | omega | (simp only [Int.toNat_natCast]; omega))) (spec_add rfl (Get.tmp rfl) (Get.cint rfl)))) ?_ | refine L.op1 rfl rfl (GSpec.plain rfl (spec_add rfl (Get.tmp rfl) (Get.cint rfl))) ?_
      refine L.as rfl rfl rfl rfl rfl ?_
      refine L.nil ?_
      refine N.roundK (i + 1) ?hI5 ?hmu5 ?hs5 ?hk5 ?hp5
      case hs5 => exact (.cons (t := 6) rfl (.cons (t := 5) rfl .nil))
      case hk5 => exact (.cons (t := 0) rfl (.cons (t := 1) rfl (.cons (t := 4) rfl .nil)))
      case hp5 => exact .nil
      all_goals (first | rfl | trivial | omega | (simp_all; done))
  · have ph1 := h1; try simp only [sbx] at ph1
    refine W.exit ?_
    refine N.thenExit ?_
    refine N.thenExit ?_
    refine N.blockExit ?_
    refine N.thenW ?_
    refine W.keep (.cons (t := 4) rfl (.cons (t := 5) rfl .nil)) .refl ?_
    refine W.sr ?_
    refine L.mv rfl rfl rfl rfl rfl ?_
    refine L.as rfl rfl rfl rfl rfl ?_
    refine L.nt ?_
    refine W.ret ?_
    refine N.ret () rfl (.tmp (t := 4) (Get.tmp rfl) .nil) (res1 (eqI ?_)) .nil (fun _ _ h => h)
    rfl

theorem addS_ok (a b : Int) (ha : -100 ≤ a ∧ a ≤ 100) (hb : -100 ≤ b ∧ b ≤ 100) : CallT Tryz.prog 178 [Rp.int .i64 a, Rp.int .i64 b] [] (.one (Rp.tuple [Rp.int .i64 (a + b), Rp.int .i64 0])) := by
  refine W.enter (fn := Tryz.f178) (n := 33) Tryz.func178 rfl Tryz.ntmps178 rfl (fun w₀ C₀ => ?_)
  simp only [argS]
  refine W.sr ?_
  refine L.p1 rfl rfl rfl (spec_assign rfl (Get.cint rfl)) ?_
  refine L.p1 rfl rfl rfl (spec_assign rfl (Get.cint rfl)) ?_
  refine L.nt ?_
  refine W.sr ?_
  refine L.mv rfl rfl rfl rfl rfl ?_
  refine L.mv rfl rfl rfl rfl rfl ?_
  first | refine L.op1 rfl rfl (GSpec.plain rfl (fit_i64 (by omega) (by omega) (spec_add rfl (Get.tmp rfl) (Get.tmp rfl)))) ?_ | refine L.op1 rfl rfl (GSpec.plain rfl (spec_add rfl (Get.tmp rfl) (Get.tmp rfl))) ?_
  refine L.as rfl rfl rfl rfl rfl ?_
  refine L.nt ?_
  refine W.seq ?_
  refine W.sr ?_
  refine L.mv rfl rfl rfl rfl rfl ?_
  refine L.p1 rfl rfl rfl (spec_gtr rfl (Get.tmp rfl) (Get.cint rfl)) ?_
  refine L.mv rfl rfl rfl rfl rfl ?_
  refine L.op1 rfl rfl (GSpec.guard rfl rfl rfl fun hg => (spec_move rfl (Get.tmp rfl))) ?_
  refine L.op1 rfl rfl (GSpec.guard rfl rfl rfl fun hg => (spec_gtr rfl (Get.opt rfl hg) (Get.cint rfl))) ?_
  refine L.p1 rfl rfl rfl (spec_and rfl (Get.tmp rfl) (fun hb => (Get.opt rfl hb))) ?_
  refine L.mv rfl rfl rfl rfl rfl ?_
  refine L.op1 rfl rfl (GSpec.guard rfl rfl rfl fun hg => (spec_move rfl (Get.tmp rfl))) ?_
  refine L.op1 rfl rfl (GSpec.guard rfl rfl rfl fun hg => (spec_lss rfl (Get.opt rfl hg) (Get.cint rfl))) ?_
  refine L.p1 rfl rfl rfl (spec_and rfl (Get.tmp rfl) (fun hb => (Get.opt rfl hb))) ?_
  refine L.mv rfl rfl rfl rfl rfl ?_
  refine L.op1 rfl rfl (GSpec.guard rfl rfl rfl fun hg => (spec_move rfl (Get.tmp rfl))) ?_
  refine L.op1 rfl rfl (GSpec.guard rfl rfl rfl fun hg => (spec_lss rfl (Get.opt rfl hg) (Get.cint rfl))) ?_
  refine L.op1 rfl rfl (GSpec.guard rfl rfl rfl fun hg => (spec_move rfl (Get.opt rfl hg))) ?_
  refine L.op1 rfl rfl (GSpec.guardOpt rfl rfl rfl fun hg => (spec_move rfl (Get.tmp rfl))) ?_
  refine L.op1 rfl rfl (GSpec.guardOpt rfl rfl rfl fun hg => (spec_lss rfl (Get.opt rfl hg) (Get.cint rfl))) ?_
  refine L.op1 rfl rfl (GSpec.guard rfl rfl rfl fun hg => (spec_and rfl (Get.opt rfl hg) (fun hb => (Get.opt rfl ⟨hg, hb⟩)))) ?_
  refine L.op1 rfl rfl (GSpec.guard rfl rfl rfl fun hg => (spec_move rfl (Get.opt rfl hg))) ?_
  refine L.op1 rfl rfl (GSpec.guardOpt rfl rfl rfl fun hg => (spec_move rfl (Get.tmp rfl))) ?_
  refine L.op1 rfl rfl (GSpec.guardOpt rfl rfl rfl fun hg => (spec_geq rfl (Get.opt rfl hg) (Get.cint rfl))) ?_
  refine L.op1 rfl rfl (GSpec.guard rfl rfl rfl fun hg => (spec_and rfl (Get.opt rfl hg) (fun hb => (Get.opt rfl ⟨hg, hb⟩)))) ?_
  refine L.p1 rfl rfl rfl (spec_or rfl (Get.tmp rfl) (fun hb => (Get.opt rfl hb))) ?_
  refine L.nt ?_
  refine W.keep (.cons (t := 4) rfl (.cons (t := 5) rfl (.cons (t := 6) rfl (.cons (t := 31) rfl .nil)))) .refl ?_
  refine W.cond (Get.tmp rfl) (fun h1 => ?_) (fun h1 => ?_)
  · exfalso; have h := h1; simp only [Bool.or_eq_true, Bool.and_eq_true, decide_eq_true_eq] at h; omega
  · have ph1 := h1; try simp only [sbx] at ph1
    refine W.skip ?_
    refine N.thenW ?_
    refine W.sr ?_
    refine L.mv rfl rfl rfl rfl rfl ?_
    refine L.as rfl rfl rfl rfl rfl ?_
    refine L.p1 rfl rfl rfl (spec_assign rfl (Get.cint rfl)) ?_
    refine L.nt ?_
    refine W.ret ?_
    refine N.ret () rfl (.tmp (t := 4) (Get.tmp rfl) (.tmp (t := 5) (Get.tmp rfl) .nil)) (res2w (eqI ?_) (eqI ?_)) .nil (fun _ _ h => h)
    all_goals rfl

theorem subS_ok (a b : Int) (ha : -50 ≤ a ∧ a ≤ 50) (hb : -50 ≤ b ∧ b ≤ 50) : CallT Tryz.prog 163 [Rp.int .i64 a, Rp.int .i64 b] [] (.one (Rp.tuple [Rp.int .i64 (a - b), Rp.int .i64 0])) := by
  refine W.enter (fn := Tryz.f163) (n := 19) Tryz.func163 rfl Tryz.ntmps163 rfl (fun w₀ C₀ => ?_)
  simp only [argS]
  refine W.sr ?_
  refine L.p1 rfl rfl rfl (spec_assign rfl (Get.cint rfl)) ?_
  refine L.p1 rfl rfl rfl (spec_assign rfl (Get.cint rfl)) ?_
  refine L.nt ?_
  refine W.seq ?_
  refine W.sr ?_
  refine L.mv rfl rfl rfl rfl rfl ?_
  refine L.p1 rfl rfl rfl (spec_eql rfl (Get.tmp rfl) (Get.cint rfl)) ?_
  refine L.nt ?_
  refine W.keep (.cons (t := 0) rfl (.cons (t := 1) rfl (.cons (t := 4) rfl (.cons (t := 5) rfl (.cons (t := 7) rfl .nil))))) .refl ?_
  refine W.cond (Get.tmp rfl) (fun h1 => ?_) (fun h1 => ?_)
  · exfalso; have h := of_decide_eq_true h1; omega
  · have ph1 := h1; try simp only [sbx] at ph1
    refine W.skip ?_
    refine N.thenW ?_
    refine W.sr ?_
    refine L.mv rfl rfl rfl rfl rfl ?_
    refine L.mv rfl rfl rfl rfl rfl ?_
    first | refine L.op1 rfl rfl (GSpec.plain rfl (fit_i64 (by omega) (by omega) (spec_neg rfl (Get.tmp rfl)))) ?_ | refine L.op1 rfl rfl (GSpec.plain rfl (spec_neg rfl (Get.tmp rfl))) ?_
    refine L.p1 rfl rfl rfl (spec_call rfl Tryz.call178 (addS_ok _ _ (by omega) (by omega)) (.cons (Get.tmp rfl) (.cons (Get.tmp rfl) .nil))) ?_
    refine L.p1 rfl rfl rfl (spec_extract rfl (Get.tmp rfl) rfl) ?_
    refine L.p1 rfl rfl rfl (spec_extract rfl (Get.tmp rfl) rfl) ?_
    refine L.as rfl rfl rfl rfl rfl ?_
    refine L.as rfl rfl rfl rfl rfl ?_
    refine L.nt ?_
    refine W.keep (.cons (t := 4) rfl (.cons (t := 5) rfl .nil)) .refl ?_
    refine W.ret ?_
    refine N.ret () rfl (.tmp (t := 4) (Get.tmp rfl) (.tmp (t := 5) (Get.tmp rfl) .nil)) (res2w (eqI ?_) (eqI ?_)) .nil (fun _ _ h => h)
    all_goals omega

theorem mul0_ok (b : Int) : CallT Tryz.prog 162 [Rp.int .i64 0, Rp.int .i64 b] [] (.one (Rp.tuple [Rp.int .i64 0, Rp.int .i64 0])) := by
  refine W.enter (fn := Tryz.f162) (n := 38) Tryz.func162 rfl Tryz.ntmps162 rfl (fun w₀ C₀ => ?_)
  simp only [argS]
  refine W.sr ?_
  refine L.p1 rfl rfl rfl (spec_assign rfl (Get.cint rfl)) ?_
  refine L.p1 rfl rfl rfl (spec_assign rfl (Get.cint rfl)) ?_
  refine L.nt ?_
  refine W.seq ?_
  refine W.sr ?_
  refine L.mv rfl rfl rfl rfl rfl ?_
  refine L.p1 rfl rfl rfl (spec_eql rfl (Get.tmp rfl) (Get.cint rfl)) ?_
  refine L.mv rfl rfl rfl rfl rfl ?_
  refine L.op1 rfl rfl (GSpec.guard rfl rfl rfl fun hg => (spec_move rfl (Get.tmp rfl))) ?_
  refine L.op1 rfl rfl (GSpec.guard rfl rfl rfl fun hg => (spec_eql rfl (Get.opt rfl hg) (Get.cint rfl))) ?_
  refine L.p1 rfl rfl rfl (spec_or rfl (Get.tmp rfl) (fun hb => (Get.opt rfl hb))) ?_
  refine L.nt ?_
  refine W.cond (Get.tmp rfl) (fun h1 => ?_) (fun h1 => ?_)
  · have ph1 := h1; try simp only [sbx] at ph1
    refine W.sr ?_
    refine L.p1 rfl rfl rfl (spec_assign rfl (Get.cint rfl)) ?_
    refine L.p1 rfl rfl rfl (spec_assign rfl (Get.cint rfl)) ?_
    refine L.nt ?_
    refine W.keep (.cons (t := 0) rfl (.cons (t := 1) rfl (.cons (t := 4) rfl (.cons (t := 5) rfl .nil)))) .refl ?_
    refine W.ret ?_
    refine N.ret () rfl (.tmp (t := 4) (Get.tmp rfl) (.tmp (t := 5) (Get.tmp rfl) .nil)) (res2w (eqI ?_) (eqI ?_)) .nil (fun _ _ h => h)
    all_goals rfl
  · exfalso; have h := h1; simp at h

theorem digits1_ok (c : UInt8) (hd : 48 ≤ (c.toNat : Int) ∧ (c.toNat : Int) ≤ 57) : CallT Tryz.prog 161 [Rp.str [c]] [] (.one (Rp.bool true)) := by
  refine W.enter (fn := Tryz.f161) (n := 23) Tryz.func161 rfl Tryz.ntmps161 rfl (fun w₀ C₀ => ?_)
  simp only [argS]
  have hl1 : ([c] : List UInt8).length = 1 := rfl
  refine W.sr ?_
  refine L.p1 rfl rfl rfl (spec_assign rfl Get.cbool) ?_
  refine L.nt ?_
  refine W.keep (.cons (t := 0) rfl (.cons (t := 2) rfl .nil)) .refl ?_
  refine W.seq ?_
  refine W.sr ?_
  refine L.p1 rfl rfl rfl (spec_assign rfl (Get.cint rfl)) ?_
  refine L.nt ?_
  refine W.block ?_
  refine W.loopK (σ := Nat) (.cons (t := 0) rfl .nil) (fun z => [(3, Rp.int .i64 (z : Nat))]) (fun z => []) (fun z => z ≤ 1) (fun z => 1 - z) 0 (Nat.zero_le _) (.cons (t := 3) rfl .nil) .nil ?_
  intro i hI S' M' hS hM
  try dsimp only at hS hM
  simp only [List.cons_append, List.nil_append] at hS hM
  subst hS hM
  try dsimp only
  refine W.seq ?_
  refine W.sr ?_
  refine L.mv rfl rfl rfl rfl rfl ?_
  refine L.mv rfl rfl rfl rfl rfl ?_
  refine L.p1 rfl rfl rfl (spec_lenS rfl Tryz.underlying9 (Get.tmp rfl)) ?_
  refine L.p1 rfl rfl rfl (spec_lss rfl (Get.tmp rfl) (Get.tmp rfl)) ?_
  refine L.nt ?_
  refine W.cond (Get.tmp rfl) (fun h1 => ?_) (fun h1 => ?_)
  · have ph1 := h1; try simp only [sbx] at ph1
    refine W.skip ?_
    refine N.thenW ?_
    have hi0 : i = 0 := by omega
    have hc0 : ((([c] : List UInt8).getD ((i : Nat) : Int).toNat 0).toNat : Int) = (c.toNat : Int) := by rw [hi0]; rfl
    refine W.seq ?_
    refine W.block ?_
    refine W.sr ?_
    refine L.mv rfl rfl rfl rfl rfl ?_
    refine L.mv rfl rfl rfl rfl rfl ?_
    refine L.p1 rfl rfl rfl (spec_indexS rfl Tryz.underlying9 (Get.tmp rfl) (Get.tmp rfl) (by (first | omega | (simp only [Int.toNat_natCast]; omega)))) ?_
    refine L.p1 rfl rfl rfl (spec_lss rfl (Get.tmp rfl) (Get.cint rfl)) ?_
    refine L.mv rfl rfl rfl rfl rfl ?_
    refine L.op1 rfl rfl (GSpec.guard rfl rfl rfl fun hg => (spec_move rfl (Get.tmp rfl))) ?_
    refine L.op1 rfl rfl (GSpec.guard rfl rfl rfl fun hg => (spec_move rfl (Get.tmp rfl))) ?_
    refine L.op1 rfl rfl (GSpec.guard rfl rfl rfl fun hg => (spec_indexS rfl Tryz.underlying9 (Get.opt rfl hg) (Get.opt rfl hg) (by (first | omega | (simp only [Int.toNat_natCast]; omega))))) ?_
    refine L.op1 rfl rfl (GSpec.guard rfl rfl rfl fun hg => (spec_gtr rfl (Get.opt rfl hg) (Get.cint rfl))) ?_
    refine L.p1 rfl rfl rfl (spec_or rfl (Get.tmp rfl) (fun hb => (Get.opt rfl hb))) ?_
    refine L.nt ?_
    refine W.cond (Get.tmp rfl) (fun h2 => ?_) (fun h2 => ?_)
    · exfalso; have h := h2; rw [hc0] at h; simp only [Bool.or_eq_true, decide_eq_true_eq] at h; omega
    · have ph2 := h2; try simp only [sbx] at ph2
      refine W.skip ?_
      refine N.blockNormal ?_
      refine N.thenW ?_
      refine W.region ?_
      refine L.mv rfl rfl rfl rfl rfl ?_
      first | refine L.op1 rfl rfl (GSpec.plain rfl (fit_i64 (by (first | omega | (simp only [Int.toNat_natCast]; omega))) (by (first | omega | (simp only [Int.toNat_natCast]; omega))) (spec_add rfl (Get.tmp rfl) (Get.cint rfl)))) ?_ | refine L.op1 rfl rfl (GSpec.plain rfl (spec_add rfl (Get.tmp rfl) (Get.cint rfl))) ?_
      refine L.as rfl rfl rfl rfl rfl ?_
      refine L.nil ?_
      refine N.roundK (i + 1) ?hI6 ?hmu6 ?hs6 ?hk6 ?hp6
      case hs6 => exact (.cons (t := 3) rfl .nil)
      case hk6 => exact (.cons (t := 0) rfl .nil)
      case hp6 => exact .nil
      all_goals (first | rfl | trivial | omega | (simp_all; done))
  · have ph1 := h1; try simp only [sbx] at ph1
    refine W.exit ?_
    refine N.thenExit ?_
    refine N.thenExit ?_
    refine N.blockExit ?_
    refine N.thenW ?_
    refine W.sr ?_
    refine L.mv rfl rfl rfl rfl rfl ?_
    refine L.p1 rfl rfl rfl (spec_lenS rfl Tryz.underlying9 (Get.tmp rfl)) ?_
    refine L.p1 rfl rfl rfl (spec_gtr rfl (Get.tmp rfl) (Get.cint rfl)) ?_
    refine L.as rfl rfl rfl rfl rfl ?_
    refine L.nt ?_
    refine W.keep (.cons (t := 2) rfl .nil) .refl ?_
    refine W.ret ?_
    refine N.ret () rfl (.tmp (t := 2) (Get.tmp rfl) .nil) (res1 (eqB ?_)) .nil (fun _ _ h => h)
    rfl

end Go.Proofs.YthlfacmpjehjmaaGreatDoor
set_option linter.unusedSimpArgs false
set_option maxRecDepth 8000
set_option linter.unusedVariables false
namespace Go.Proofs.YthlfacmpjehjmaaGreatDoor
open Go.Sim
theorem parse1_ok (c : UInt8) (hd : 48 ≤ (c.toNat : Int) ∧ (c.toNat : Int) ≤ 57) : CallT Tryz.prog 145 [Rp.str [c]] [] (.one (Rp.tuple [Rp.int .i64 ((c.toNat : Int) - 48), Rp.int .i64 0])) := by
  refine W.enter (fn := Tryz.f145) (n := 70) Tryz.func145 rfl Tryz.ntmps145 rfl (fun w₀ C₀ => ?_)
  simp only [argS]
  have hl1 : ([c] : List UInt8).length = 1 := rfl
  have hz0 : ((([c] : List UInt8).getD (0 : Int).toNat 0).toNat : Int) = (c.toNat : Int) := rfl
  refine W.sr ?_
  refine L.p1 rfl rfl rfl (spec_assign rfl (Get.cint rfl)) ?_
  refine L.p1 rfl rfl rfl (spec_assign rfl (Get.cint rfl)) ?_
  refine L.nt ?_
  refine W.sr ?_
  refine L.mv rfl rfl rfl rfl rfl ?_
  refine L.as rfl rfl rfl rfl rfl ?_
  refine L.nt ?_
  refine W.sr ?_
  refine L.mv rfl rfl rfl rfl rfl ?_
  refine L.p1 rfl rfl rfl (spec_lenS rfl Tryz.underlying9 (Get.tmp rfl)) ?_
  refine L.p1 rfl rfl rfl (spec_gtr rfl (Get.tmp rfl) (Get.cint rfl)) ?_
  refine L.mv rfl rfl rfl rfl rfl ?_
  refine L.op1 rfl rfl (GSpec.guard rfl rfl rfl fun hg => (spec_move rfl (Get.tmp rfl))) ?_
  refine L.op1 rfl rfl (GSpec.guard rfl rfl rfl fun hg => (spec_indexS rfl Tryz.underlying9 (Get.opt rfl hg) (Get.cint rfl) (by (first | omega | decide)))) ?_
  refine L.op1 rfl rfl (GSpec.guard rfl rfl rfl fun hg => (spec_eql rfl (Get.opt rfl hg) (Get.cint rfl))) ?_
  refine L.p1 rfl rfl rfl (spec_and rfl (Get.tmp rfl) (fun hb => (Get.opt rfl hb))) ?_
  refine L.as rfl rfl rfl rfl rfl ?_
  refine L.nt ?_
  refine W.keep (.cons (t := 0) rfl (.cons (t := 2) rfl (.cons (t := 3) rfl (.cons (t := 4) rfl (.cons (t := 5) rfl .nil))))) .refl ?_
  refine W.seq ?_
  refine W.sr ?_
  refine L.mv rfl rfl rfl rfl rfl ?_
  refine L.nt ?_
  refine W.cond (Get.tmp rfl) (fun h1 => ?_) (fun h1 => ?_)
  · exfalso; have h := h1; simp only [Bool.and_eq_true, decide_eq_true_eq] at h; omega
  · have ph1 := h1; try simp only [sbx] at ph1
    refine W.skip ?_
    refine N.thenW ?_
    refine W.seq ?_
    refine W.sr ?_
    refine L.mv rfl rfl rfl rfl rfl ?_
    refine L.p1 rfl rfl rfl (spec_call rfl Tryz.call161 (digits1_ok _ hd) (.cons (Get.tmp rfl) .nil)) ?_
    refine L.p1 rfl rfl rfl (spec_not rfl (Get.tmp rfl)) ?_
    refine L.mv rfl rfl rfl rfl rfl ?_
    refine L.op1 rfl rfl (GSpec.guard rfl rfl rfl fun hg => (spec_move rfl (Get.tmp rfl))) ?_
    refine L.op1 rfl rfl (GSpec.guard rfl rfl rfl fun hg => (spec_indexS rfl Tryz.underlying9 (Get.opt rfl hg) (Get.cint rfl) (by (first | omega | decide)))) ?_
    refine L.op1 rfl rfl (GSpec.guard rfl rfl rfl fun hg => (spec_eql rfl (Get.opt rfl hg) (Get.cint rfl))) ?_
    refine L.op1 rfl rfl (GSpec.guard rfl rfl rfl fun hg => (spec_move rfl (Get.opt rfl hg))) ?_
    refine L.op1 rfl rfl (GSpec.guardOpt rfl rfl rfl fun hg => (spec_move rfl (Get.tmp rfl))) ?_
    refine L.op1 rfl rfl (GSpec.guardOpt rfl rfl rfl fun hg => (spec_neqS rfl (Get.opt rfl hg) (Get.cstr (l := [48]) rfl rfl))) ?_
    refine L.op1 rfl rfl (GSpec.guard rfl rfl rfl fun hg => (spec_and rfl (Get.opt rfl hg) (fun hb => (Get.opt rfl ⟨hg, hb⟩)))) ?_
    refine L.p1 rfl rfl rfl (spec_or rfl (Get.tmp rfl) (fun hb => (Get.opt rfl hb))) ?_
    refine L.nt ?_
    refine W.keep (.cons (t := 2) rfl (.cons (t := 3) rfl (.cons (t := 4) rfl (.cons (t := 5) rfl (.cons (t := 35) rfl .nil))))) .refl ?_
    refine W.cond (Get.tmp rfl) (fun h2 => ?_) (fun h2 => ?_)
    · exfalso; have h := h2; simp only [Bool.not_true, Bool.false_or, Bool.and_eq_true, decide_eq_true_eq, Bool.not_eq_true', beq_eq_false_iff_ne] at h; exact h.2 (one48 h.1)
    · have ph2 := h2; try simp only [sbx] at ph2
      refine W.skip ?_
      refine N.thenW ?_
      refine W.sr ?_
      refine L.p1 rfl rfl rfl (spec_assign rfl (Get.cint rfl)) ?_
      refine L.nt ?_
      refine W.seq ?_
      refine W.sr ?_
      refine L.p1 rfl rfl rfl (spec_assign rfl (Get.cint rfl)) ?_
      refine L.nt ?_
      refine W.block ?_
      refine W.loopK (σ := Nat) (.cons (t := 4) rfl (.cons (t := 5) rfl .nil)) (fun z => [(7, Rp.int .i64 (z : Nat)), (6, Rp.int .i64 (if z = 0 then 0 else 48 - (c.toNat : Int)))]) (fun z => []) (fun z => z ≤ 1) (fun z => 1 - z) 0 (Nat.zero_le _) (.cons (t := 7) rfl (.cons (t := 6) rfl .nil)) .nil ?_
      intro i hI S' M' hS hM
      try dsimp only at hS hM
      simp only [List.cons_append, List.nil_append] at hS hM
      subst hS hM
      try dsimp only
      refine W.seq ?_
      refine W.sr ?_
      refine L.mv rfl rfl rfl rfl rfl ?_
      refine L.mv rfl rfl rfl rfl rfl ?_
      refine L.p1 rfl rfl rfl (spec_lenS rfl Tryz.underlying9 (Get.tmp rfl)) ?_
      refine L.p1 rfl rfl rfl (spec_lss rfl (Get.tmp rfl) (Get.tmp rfl)) ?_
      refine L.nt ?_
      refine W.cond (Get.tmp rfl) (fun h3 => ?_) (fun h3 => ?_)
      · have ph3 := h3; try simp only [sbx] at ph3
        refine W.skip ?_
        refine N.thenW ?_
        have hi0 : i = 0 := by omega
        have hc0 : ((([c] : List UInt8).getD ((i : Nat) : Int).toNat 0).toNat : Int) = (c.toNat : Int) := by rw [hi0]; rfl
        rw [if_pos hi0]
        refine W.seq ?_
        refine W.block ?_
        refine W.sr ?_
        refine L.mv rfl rfl rfl rfl rfl ?_
        refine L.p1 rfl rfl rfl (spec_call rfl Tryz.call162 (mul0_ok _) (.cons (Get.tmp rfl) (.cons (Get.cint rfl) .nil))) ?_
        refine L.mv rfl rfl rfl rfl rfl ?_
        refine L.p1 rfl rfl rfl (spec_extract rfl (Get.tmp rfl) rfl) ?_
        refine L.p1 rfl rfl rfl (spec_extract rfl (Get.tmp rfl) rfl) ?_
        refine L.as rfl rfl rfl rfl rfl ?_
        refine L.as rfl rfl rfl rfl rfl ?_
        refine L.nt ?_
        refine W.sr ?_
        refine L.mv rfl rfl rfl rfl rfl ?_
        refine L.mv rfl rfl rfl rfl rfl ?_
        refine L.mv rfl rfl rfl rfl rfl ?_
        refine L.p1 rfl rfl rfl (spec_indexS rfl Tryz.underlying9 (Get.tmp rfl) (Get.tmp rfl) (by (first | omega | (simp only [Int.toNat_natCast]; omega)))) ?_
        first | refine L.op1 rfl rfl (GSpec.plain rfl (fit_u8 (by (first | omega | (simp only [Int.toNat_natCast]; omega))) (by (first | omega | (simp only [Int.toNat_natCast]; omega))) (spec_sub rfl (Get.tmp rfl) (Get.cint rfl)))) ?_ | refine L.op1 rfl rfl (GSpec.plain rfl (spec_sub rfl (Get.tmp rfl) (Get.cint rfl))) ?_
        first | refine L.op1 rfl rfl (GSpec.plain rfl (fit_i64 (by (first | omega | (simp only [Int.toNat_natCast]; omega))) (by (first | omega | (simp only [Int.toNat_natCast]; omega))) (spec_conv rfl Tryz.underlying3 ⟨_, Tryz.underlying5⟩ (Get.tmp rfl)))) ?_ | refine L.op1 rfl rfl (GSpec.plain rfl (spec_conv rfl Tryz.underlying3 ⟨_, Tryz.underlying5⟩ (Get.tmp rfl))) ?_
        refine L.p1 rfl rfl rfl (spec_call rfl Tryz.call163 (subS_ok _ _ (by omega) (by omega)) (.cons (Get.tmp rfl) (.cons (Get.tmp rfl) .nil))) ?_
        refine L.mv rfl rfl rfl rfl rfl ?_
        refine L.p1 rfl rfl rfl (spec_extract rfl (Get.tmp rfl) rfl) ?_
        refine L.p1 rfl rfl rfl (spec_extract rfl (Get.tmp rfl) rfl) ?_
        refine L.as rfl rfl rfl rfl rfl ?_
        refine L.as rfl rfl rfl rfl rfl ?_
        refine L.nt ?_
        refine W.seq ?_
        refine W.sr ?_
        refine L.mv rfl rfl rfl rfl rfl ?_
        refine L.p1 rfl rfl rfl (spec_neq rfl (Get.tmp rfl) (Get.cint rfl)) ?_
        refine L.mv rfl rfl rfl rfl rfl ?_
        refine L.op1 rfl rfl (GSpec.guard rfl rfl rfl fun hg => (spec_move rfl (Get.tmp rfl))) ?_
        refine L.op1 rfl rfl (GSpec.guard rfl rfl rfl fun hg => (spec_neq rfl (Get.opt rfl hg) (Get.cint rfl))) ?_
        refine L.p1 rfl rfl rfl (spec_or rfl (Get.tmp rfl) (fun hb => (Get.opt rfl hb))) ?_
        refine L.nt ?_
        refine W.cond (Get.tmp rfl) (fun h4 => ?_) (fun h4 => ?_)
        · exfalso; have h := h4; simp at h
        · have ph4 := h4; try simp only [sbx] at ph4
          refine W.skip ?_
          refine N.thenW ?_
          refine W.region ?_
          refine L.mv rfl rfl rfl rfl rfl ?_
          refine L.as rfl rfl rfl rfl rfl ?_
          refine L.nil ?_
          refine N.blockNormal ?_
          refine N.thenW ?_
          refine W.region ?_
          refine L.mv rfl rfl rfl rfl rfl ?_
          first | refine L.op1 rfl rfl (GSpec.plain rfl (fit_i64 (by (first | omega | (simp only [Int.toNat_natCast]; omega))) (by (first | omega | (simp only [Int.toNat_natCast]; omega))) (spec_add rfl (Get.tmp rfl) (Get.cint rfl)))) ?_ | refine L.op1 rfl rfl (GSpec.plain rfl (spec_add rfl (Get.tmp rfl) (Get.cint rfl))) ?_
          refine L.as rfl rfl rfl rfl rfl ?_
          refine L.nil ?_
          refine N.roundK (i + 1) ?hI1 ?hmu1 ?hs1 ?hk1 ?hp1
          case hs1 => exact (.cons (t := 7) rfl (.weak (t := 6) rfl (eqI (by rw [if_neg (by omega)]; omega)) .nil))
          case hk1 => exact (.cons (t := 4) rfl (.cons (t := 5) rfl .nil))
          case hp1 => exact .nil
          case hI1 => omega
          case hmu1 => omega
      · have ph3 := h3; try simp only [sbx] at ph3
        refine W.exit ?_
        refine N.thenExit ?_
        refine N.thenExit ?_
        refine N.blockExit ?_
        refine N.thenW ?_
        have hi : i = 1 := by omega
        rw [if_neg (show ¬ i = 0 by omega)]
        refine W.keep (.cons (t := 5) rfl (.cons (t := 6) rfl .nil)) .refl ?_
        refine W.seq ?_
        refine W.sr ?_
        refine L.mv rfl rfl rfl rfl rfl ?_
        refine L.nt ?_
        refine W.cond (Get.tmp rfl) (fun h5 => ?_) (fun h5 => ?_)
        · exfalso; have h := h5; simp only [Bool.and_eq_true, decide_eq_true_eq] at h; omega
        · have ph5 := h5; try simp only [sbx] at ph5
          refine W.skip ?_
          refine N.thenW ?_
          refine W.sr ?_
          refine L.mv rfl rfl rfl rfl rfl ?_
          refine L.p1 rfl rfl rfl (spec_call rfl Tryz.call163 (subS_ok _ _ (by omega) (by omega)) (.cons (Get.cint rfl) (.cons (Get.tmp rfl) .nil))) ?_
          refine L.p1 rfl rfl rfl (spec_extract rfl (Get.tmp rfl) rfl) ?_
          refine L.p1 rfl rfl rfl (spec_extract rfl (Get.tmp rfl) rfl) ?_
          refine L.as rfl rfl rfl rfl rfl ?_
          refine L.as rfl rfl rfl rfl rfl ?_
          refine L.nt ?_
          refine W.keep (.cons (t := 2) rfl (.cons (t := 3) rfl .nil)) .refl ?_
          refine W.ret ?_
          refine N.ret () rfl (.tmp (t := 2) (Get.tmp rfl) (.tmp (t := 3) (Get.tmp rfl) .nil)) (res2w (eqI ?_) (eqI ?_)) .nil (fun _ _ h => h)
          all_goals omega

theorem read_ok (s : List UInt8) (a : Nat) (hs : NoSl s) (hr : ReadOk s a) : CallT Tryz.prog 129 [Rp.str s, Rp.int .i64 (a : Nat)] [] (.one (Rp.tuple [Rp.agg (eTk (readE s a)), Rp.int .i64 0])) := by
  refine W.enter (fn := Tryz.f129) (n := 68) Tryz.func129 rfl Tryz.ntmps129 rfl (fun w₀ C₀ => ?_)
  simp only [argS]
  have hlt := hr.lt
  have hs2 := hs.1
  have hbh := behind_le (s := s) (a := a) (by omega)
  have hns := hs
  refine W.sr ?_
  refine L.box rfl rfl (GSpec.plain rfl (spec_alloc rfl ti150 z150)) (fun r4 => ?_)
  refine L.p1 rfl rfl rfl (spec_assign rfl (Get.cint rfl)) ?_
  refine L.nt ?_
  refine W.seq ?_
  refine W.sr ?_
  refine L.mv rfl rfl rfl rfl rfl ?_
  refine L.mv rfl rfl rfl rfl rfl ?_
  refine L.p1 rfl rfl rfl (spec_indexS rfl Tryz.underlying9 (Get.tmp rfl) (Get.tmp rfl) (by (first | omega | (simp only [Int.toNat_natCast]; omega)))) ?_
  refine L.p1 rfl rfl rfl (spec_call rfl Tryz.call100 (small_ok _) (.cons (Get.tmp rfl) .nil)) ?_
  refine L.nt ?_
  refine W.cond (Get.tmp rfl) (fun h1 => ?_) (fun h1 => ?_)
  · have hlo : lowB (ch s a) = true := h1
    refine W.sr ?_
    refine L.mv rfl rfl rfl rfl rfl ?_
    refine L.mv rfl rfl rfl rfl rfl ?_
    refine L.mv rfl rfl rfl rfl rfl ?_
    refine L.mv rfl rfl rfl rfl rfl ?_
    refine L.p1 rfl rfl rfl (spec_call rfl Tryz.call144 (behind_ok _ _ (by omega) (by omega)) (.cons (Get.tmp rfl) (.cons (Get.tmp rfl) .nil))) ?_
    refine L.p1 rfl rfl rfl (spec_sliceS rfl Tryz.underlying9 (Get.tmp rfl) (.some (Get.tmp rfl) (by (first | omega | (simp only [Int.toNat_natCast]; omega)))) (.some (Get.tmp rfl) (by (first | omega | (simp only [Int.toNat_natCast]; omega)))) (by (first | omega | (simp only [Int.toNat_natCast]; omega)))) ?_
    refine L.as rfl rfl rfl rfl rfl ?_
    refine L.nt ?_
    refine W.keep (.cons (t := 0) rfl (.cons (t := 1) rfl (.cons (t := 4) rfl (.cons (t := 5) rfl (.cons (t := 6) rfl .nil))))) .refl ?_
    refine W.seq ?_
    refine W.sr ?_
    refine L.mv rfl rfl rfl rfl rfl ?_
    refine L.p1 rfl rfl rfl (spec_lenS rfl Tryz.underlying9 (Get.tmp rfl)) ?_
    refine L.p1 rfl rfl rfl (spec_gtr rfl (Get.tmp rfl) (Get.cint rfl)) ?_
    refine L.nt ?_
    refine W.cond (Get.tmp rfl) (fun h2 => ?_) (fun h2 => ?_)
    · exact absurd (of_decide_eq_true h2) (by have h := hr.nm hlo; show ¬ ((16 : Int) < ((wordE s a).length : Int)); omega)
    · have ph2 := h2; try simp only [sbx] at ph2
      refine W.skip ?_
      refine N.thenW ?_
      refine W.seq ?_
      refine W.sr ?_
      refine L.mv rfl rfl rfl rfl rfl ?_
      refine L.p1 rfl rfl rfl (spec_call rfl Tryz.call101 (isKeyword_ok _) (.cons (Get.tmp rfl) .nil)) ?_
      refine L.nt ?_
      refine W.cond (Get.tmp rfl) (fun h3 => ?_) (fun h3 => ?_)
      · have hkw : kwB (wordE s a) = true := h3
        refine W.sr ?_
        refine L.mv rfl rfl rfl rfl rfl ?_
        refine L.p1 rfl rfl rfl (spec_build (Rs := [_, Rp.int .i64 0, _, Rp.int .i64 0]) rfl ti150 z150 Tryz.underlying150 pl150 (.cons (GetC.one (Get.cint rfl)) rfl rfl rfl (.cons (GetC.one (Get.tmp rfl)) rfl rfl rfl .nil))) ?_
        refine L.storeW (k := 0) rfl rfl rfl Tryz.sizeOf150 (Get.tmp rfl) (Get.tmp rfl) rfl rfl rfl ?_
        refine L.p1 rfl rfl rfl (spec_assign rfl (Get.cint rfl)) ?_
        refine L.nt ?_
        refine W.keep (.cons (t := 0) rfl (.cons (t := 1) rfl (.cons (t := 4) rfl (.cons (t := 5) rfl (.cons (t := 6) rfl .nil))))) .refl ?_
        refine W.ret ?_
        refine N.ret () rfl (.cellA (k := 0) (Get.tmp (t := 4) rfl) rfl Tryz.isAgg150 Tryz.sizeOf150 rfl (.tmp (t := 5) (Get.tmp rfl) .nil)) (res2w (eqA ?_) (eqI ?_)) .nil (fun _ _ h => h)
        all_goals first | rfl | (unfold readE; rw [if_pos hlo, if_pos hkw]; rfl)
      · have hkw : kwB (wordE s a) = false := h3
        refine W.skip ?_
        refine N.thenW ?_
        refine W.sr ?_
        refine L.mv rfl rfl rfl rfl rfl ?_
        refine L.p1 rfl rfl rfl (spec_build (Rs := [_, Rp.int .i64 0, _, Rp.int .i64 0]) rfl ti150 z150 Tryz.underlying150 pl150 (.cons (GetC.one (Get.cint rfl)) rfl rfl rfl (.cons (GetC.one (Get.tmp rfl)) rfl rfl rfl .nil))) ?_
        refine L.storeW (k := 0) rfl rfl rfl Tryz.sizeOf150 (Get.tmp rfl) (Get.tmp rfl) rfl rfl rfl ?_
        refine L.p1 rfl rfl rfl (spec_assign rfl (Get.cint rfl)) ?_
        refine L.nt ?_
        refine W.keep (.cons (t := 0) rfl (.cons (t := 1) rfl (.cons (t := 4) rfl (.cons (t := 5) rfl .nil)))) .refl ?_
        refine W.ret ?_
        refine N.ret () rfl (.cellA (k := 0) (Get.tmp (t := 4) rfl) rfl Tryz.isAgg150 Tryz.sizeOf150 rfl (.tmp (t := 5) (Get.tmp rfl) .nil)) (res2w (eqA ?_) (eqI ?_)) .nil (fun _ _ h => h)
        all_goals first | rfl | (unfold readE; rw [if_pos hlo, if_neg (by rw [hkw]; simp)]; rfl)
  · have hlo : lowB (ch s a) = false := h1
    refine W.skip ?_
    refine N.thenW ?_
    refine W.seq ?_
    refine W.sr ?_
    refine L.mv rfl rfl rfl rfl rfl ?_
    refine L.mv rfl rfl rfl rfl rfl ?_
    refine L.p1 rfl rfl rfl (spec_indexS rfl Tryz.underlying9 (Get.tmp rfl) (Get.tmp rfl) (by (first | omega | (simp only [Int.toNat_natCast]; omega)))) ?_
    refine L.p1 rfl rfl rfl (spec_call rfl Tryz.call115 (digit2_ok _) (.cons (Get.tmp rfl) .nil)) ?_
    refine L.nt ?_
    refine W.keep (.cons (t := 0) rfl (.cons (t := 1) rfl (.cons (t := 4) rfl (.cons (t := 5) rfl (.cons (t := 34) rfl .nil))))) .refl ?_
    refine W.cond (Get.tmp rfl) (fun h4 => ?_) (fun h4 => ?_)
    · have hdg : digB (ch s a) = true := h4
      have hd2 := dig_bd hdg
      have hw1 := word_one hlt (hr.dg hdg)
      have hw2 : List.take (((behindE s a : Nat) : Int).toNat - ((a : Nat) : Int).toNat) (List.drop ((a : Nat) : Int).toNat s) = [s.getD a 0] := hw1
      refine W.sr ?_
      refine L.mv rfl rfl rfl rfl rfl ?_
      refine L.mv rfl rfl rfl rfl rfl ?_
      refine L.mv rfl rfl rfl rfl rfl ?_
      refine L.mv rfl rfl rfl rfl rfl ?_
      refine L.p1 rfl rfl rfl (spec_call rfl Tryz.call144 (behind_ok _ _ (by omega) (by omega)) (.cons (Get.tmp rfl) (.cons (Get.tmp rfl) .nil))) ?_
      refine L.p1 rfl rfl rfl (spec_sliceS rfl Tryz.underlying9 (Get.tmp rfl) (.some (Get.tmp rfl) (by (first | omega | (simp only [Int.toNat_natCast]; omega)))) (.some (Get.tmp rfl) (by (first | omega | (simp only [Int.toNat_natCast]; omega)))) (by (first | omega | (simp only [Int.toNat_natCast]; omega)))) ?_
      refine L.as rfl rfl rfl rfl rfl ?_
      refine L.nt ?_
      rw [hw2]
      refine W.keep (.cons (t := 0) rfl (.cons (t := 1) rfl (.cons (t := 4) rfl (.cons (t := 5) rfl (.cons (t := 7) rfl .nil))))) .refl ?_
      refine W.sr ?_
      refine L.mv rfl rfl rfl rfl rfl ?_
      refine L.p1 rfl rfl rfl (spec_call rfl Tryz.call145 (parse1_ok (s.getD a 0) hd2) (.cons (Get.tmp rfl) .nil)) ?_
      refine L.mv rfl rfl rfl rfl rfl ?_
      refine L.p1 rfl rfl rfl (spec_extract rfl (Get.tmp rfl) rfl) ?_
      refine L.p1 rfl rfl rfl (spec_extract rfl (Get.tmp rfl) rfl) ?_
      refine L.as rfl rfl rfl rfl rfl ?_
      refine L.as rfl rfl rfl rfl rfl ?_
      refine L.nt ?_
      refine W.seq ?_
      refine W.sr ?_
      refine L.mv rfl rfl rfl rfl rfl ?_
      refine L.p1 rfl rfl rfl (spec_eql rfl (Get.tmp rfl) (Get.cint rfl)) ?_
      refine L.nt ?_
      refine W.keep (.cons (t := 0) rfl (.cons (t := 1) rfl (.cons (t := 4) rfl (.cons (t := 5) rfl (.cons (t := 7) rfl (.cons (t := 8) rfl (.cons (t := 9) rfl (.cons (t := 47) rfl .nil)))))))) .refl ?_
      refine W.cond (Get.tmp rfl) (fun h5 => ?_) (fun h5 => ?_)
      · exfalso; have h := h5; simp at h
      · have ph5 := h5; try simp only [sbx] at ph5
        refine W.skip ?_
        refine N.thenW ?_
        refine W.seq ?_
        refine W.sr ?_
        refine L.mv rfl rfl rfl rfl rfl ?_
        refine L.p1 rfl rfl rfl (spec_neq rfl (Get.tmp rfl) (Get.cint rfl)) ?_
        refine L.mv rfl rfl rfl rfl rfl ?_
        refine L.op1 rfl rfl (GSpec.guard rfl rfl rfl fun hg => (spec_move rfl (Get.tmp rfl))) ?_
        refine L.op1 rfl rfl (GSpec.guard rfl rfl rfl fun hg => (spec_gtr rfl (Get.opt rfl hg) (Get.cint rfl))) ?_
        refine L.p1 rfl rfl rfl (spec_or rfl (Get.tmp rfl) (fun hb => (Get.opt rfl hb))) ?_
        refine L.nt ?_
        refine W.keep (.cons (t := 0) rfl (.cons (t := 1) rfl (.cons (t := 4) rfl (.cons (t := 5) rfl (.cons (t := 7) rfl (.cons (t := 8) rfl (.cons (t := 55) rfl .nil))))))) .refl ?_
        refine W.cond (Get.tmp rfl) (fun h6 => ?_) (fun h6 => ?_)
        · exfalso; have h := h6; have hd3 : (48 : Int) ≤ ((s.getD a 0).toNat : Int) ∧ ((s.getD a 0).toNat : Int) ≤ 57 := hd2; rw [Bool.or_eq_true] at h; rcases h with h | h; (simp at h); have h := of_decide_eq_true h; omega
        · have ph6 := h6; try simp only [sbx] at ph6
          refine W.skip ?_
          refine N.thenW ?_
          refine W.sr ?_
          refine L.mv rfl rfl rfl rfl rfl ?_
          refine L.mv rfl rfl rfl rfl rfl ?_
          refine L.p1 rfl rfl rfl (spec_build (Rs := [_, _, _, Rp.int .i64 0]) rfl ti150 z150 Tryz.underlying150 pl150 (.cons (GetC.one (Get.cint rfl)) rfl rfl rfl (.cons (GetC.one (Get.tmp rfl)) rfl rfl rfl (.cons (GetC.one (Get.tmp rfl)) rfl rfl rfl .nil)))) ?_
          refine L.storeW (k := 0) rfl rfl rfl Tryz.sizeOf150 (Get.tmp rfl) (Get.tmp rfl) rfl rfl rfl ?_
          refine L.p1 rfl rfl rfl (spec_assign rfl (Get.cint rfl)) ?_
          refine L.nt ?_
          refine W.keep (.cons (t := 0) rfl (.cons (t := 1) rfl (.cons (t := 4) rfl (.cons (t := 5) rfl .nil)))) .refl ?_
          refine W.ret ?_
          refine N.ret () rfl (.cellA (k := 0) (Get.tmp (t := 4) rfl) rfl Tryz.isAgg150 Tryz.sizeOf150 rfl (.tmp (t := 5) (Get.tmp rfl) .nil)) (res2w (eqA ?_) (eqI ?_)) .nil (fun _ _ h => h)
          all_goals first | rfl | (unfold readE; rw [if_neg (by rw [hlo]; simp), if_pos hdg, hw1]; rfl)
    · have hdg : digB (ch s a) = false := h4
      refine W.skip ?_
      refine N.thenW ?_
      refine W.sr ?_
      refine L.mv rfl rfl rfl rfl rfl ?_
      refine L.mv rfl rfl rfl rfl rfl ?_
      refine L.p1 rfl rfl rfl (spec_call rfl Tryz.call146 (longest_ok _ _ (by omega) (by omega)) (.cons (Get.tmp rfl) (.cons (Get.tmp rfl) .nil))) ?_
      refine L.as rfl rfl rfl rfl rfl ?_
      refine L.nt ?_
      refine W.keep (.cons (t := 4) rfl (.cons (t := 5) rfl (.cons (t := 10) rfl .nil))) .refl ?_
      refine W.seq ?_
      refine W.sr ?_
      refine L.mv rfl rfl rfl rfl rfl ?_
      refine L.p1 rfl rfl rfl (spec_eqlS rfl (Get.tmp rfl) (Get.cstr (l := []) rfl rfl)) ?_
      refine L.nt ?_
      refine W.cond (Get.tmp rfl) (fun h7 => ?_) (fun h7 => ?_)
      · exfalso; have h := h7; rw [beq_iff_eq] at h; exact hr.mark hlo hdg h
      · have ph7 := h7; try simp only [sbx] at ph7
        refine W.skip ?_
        refine N.thenW ?_
        refine W.sr ?_
        refine L.mv rfl rfl rfl rfl rfl ?_
        refine L.p1 rfl rfl rfl (spec_build (Rs := [_, Rp.int .i64 0, _, Rp.int .i64 0]) rfl ti150 z150 Tryz.underlying150 pl150 (.cons (GetC.one (Get.cint rfl)) rfl rfl rfl (.cons (GetC.one (Get.tmp rfl)) rfl rfl rfl .nil))) ?_
        refine L.storeW (k := 0) rfl rfl rfl Tryz.sizeOf150 (Get.tmp rfl) (Get.tmp rfl) rfl rfl rfl ?_
        refine L.p1 rfl rfl rfl (spec_assign rfl (Get.cint rfl)) ?_
        refine L.nt ?_
        refine W.keep (.cons (t := 4) rfl (.cons (t := 5) rfl .nil)) .refl ?_
        refine W.ret ?_
        refine N.ret () rfl (.cellA (k := 0) (Get.tmp (t := 4) rfl) rfl Tryz.isAgg150 Tryz.sizeOf150 rfl (.tmp (t := 5) (Get.tmp rfl) .nil)) (res2w (eqA ?_) (eqI ?_)) .nil (fun _ _ h => h)
        all_goals first | rfl | (unfold readE; rw [if_neg (by rw [hlo]; simp), if_neg (by rw [hdg]; simp)]; rfl)

theorem tokens_ok (s : List UInt8) (K : Nat) (hl : LexOk s K) : CallT Tryz.prog 109 [Rp.str s] [] (.one (Rp.tuple [Rp.slice eTk (tokE s K), Rp.int .i64 0, Rp.int .i64 0])) := by
  refine W.enter (fn := Tryz.f109) (n := 47) Tryz.func109 rfl Tryz.ntmps109 rfl (fun w₀ C₀ => ?_)
  simp only [argS]
  have hns := hl.ns
  have hs2 := hns.1
  have hK := hl.k
  refine W.sr ?_
  refine L.p1 rfl rfl rfl (spec_assign rfl (Get.cnil (E := eTk))) ?_
  refine L.p1 rfl rfl rfl (spec_assign rfl (Get.cint rfl)) ?_
  refine L.p1 rfl rfl rfl (spec_assign rfl (Get.cint rfl)) ?_
  refine L.nt ?_
  refine W.seq ?_
  refine W.sr ?_
  refine L.mv rfl rfl rfl rfl rfl ?_
  refine L.p1 rfl rfl rfl (spec_lenS rfl Tryz.underlying9 (Get.tmp rfl)) ?_
  refine L.p1 rfl rfl rfl (spec_gtr rfl (Get.tmp rfl) (Get.cint rfl)) ?_
  refine L.nt ?_
  refine W.cond (Get.tmp rfl) (fun h1 => ?_) (fun h1 => ?_)
  · exfalso; have h := of_decide_eq_true h1; omega
  · have ph1 := h1; try simp only [sbx] at ph1
    refine W.skip ?_
    refine N.thenW ?_
    refine W.sr ?_
    refine L.p1 rfl rfl rfl (spec_assign rfl Get.cval) ?_
    refine L.nt ?_
    refine W.nil 150 4 eTk ?_
    refine W.seq ?_
    refine W.sr ?_
    refine L.mv rfl rfl rfl rfl rfl ?_
    refine L.p1 rfl rfl rfl (spec_call rfl Tryz.call128 (blank_ok s 0 (by omega) hns) (.cons (Get.tmp rfl) (.cons (Get.cint rfl) .nil))) ?_
    refine L.as rfl rfl rfl rfl rfl ?_
    refine L.nt ?_
    refine W.keep (.cons (t := 0) rfl (.cons (t := 2) rfl (.cons (t := 3) rfl (.cons (t := 4) rfl (.cons (t := 5) rfl (.cons (t := 6) rfl .nil)))))) .refl ?_
    refine W.block ?_
    refine W.loopK (σ := Nat × Value) (.cons (t := 0) rfl .nil) (fun z => [(6, Rp.int .i64 ((lexN s z.1).1 : Nat)), (5, Rp.val z.2)]) (fun z => [MF.osl z.2 150 4 eTk ((lexN s z.1).2)]) (fun z => z.1 ≤ K) (fun z => K - z.1) (0, (.slice none 0 0)) (Nat.zero_le _) (.cons (t := 6) rfl (.cons (t := 5) rfl .nil)) (.cons 0 rfl .nil) ?_
    intro ⟨k, vo⟩ hI S' M' hS hM
    try dsimp only at hS hM
    simp only [List.cons_append, List.nil_append] at hS hM
    subst hS hM
    try dsimp only
    try dsimp only at hI
    refine W.seq ?_
    refine W.sr ?_
    refine L.mv rfl rfl rfl rfl rfl ?_
    refine L.mv rfl rfl rfl rfl rfl ?_
    refine L.p1 rfl rfl rfl (spec_lenS rfl Tryz.underlying9 (Get.tmp rfl)) ?_
    refine L.p1 rfl rfl rfl (spec_lss rfl (Get.tmp rfl) (Get.tmp rfl)) ?_
    refine L.nt ?_
    refine W.cond (Get.tmp rfl) (fun h2 => ?_) (fun h2 => ?_)
    · have ph2 := h2; try simp only [sbx] at ph2
      refine W.skip ?_
      refine N.thenW ?_
      have hiK : k < K := by rcases Nat.lt_or_ge k K with q | q; exact q; (exfalso; have e : k = K := by omega); (rw [e] at ph2; have := hl.fin; omega)
      obtain ⟨hro, hgo⟩ := hl.go k hiK
      have hrl := hro.lt
      have hxl := lex_len s k
      refine W.seq ?_
      refine W.block ?_
      refine W.sr ?_
      refine L.mv rfl rfl rfl rfl rfl ?_
      refine L.mv rfl rfl rfl rfl rfl ?_
      refine L.p1 rfl rfl rfl (spec_call rfl Tryz.call129 (read_ok s (lexN s k).1 hns hro) (.cons (Get.tmp rfl) (.cons (Get.tmp rfl) .nil))) ?_
      refine L.mv rfl rfl rfl rfl rfl ?_
      refine L.p1 rfl rfl rfl (spec_extract rfl (Get.tmp rfl) rfl) ?_
      refine L.p1 rfl rfl rfl (spec_extract rfl (Get.tmp rfl) rfl) ?_
      refine L.box rfl rfl (GSpec.plain rfl (spec_alloc rfl ti150 z150)) (fun r7 => ?_)
      refine L.storeW (k := 0) rfl rfl rfl Tryz.sizeOf150 (Get.tmp rfl) (Get.tmp rfl) rfl rfl rfl ?_
      refine L.as rfl rfl rfl rfl rfl ?_
      refine L.nt ?_
      refine W.seq ?_
      refine W.sr ?_
      refine L.mv rfl rfl rfl rfl rfl ?_
      refine L.p1 rfl rfl rfl (spec_neq rfl (Get.tmp rfl) (Get.cint rfl)) ?_
      refine L.nt ?_
      refine W.cond (Get.tmp rfl) (fun h3 => ?_) (fun h3 => ?_)
      · exfalso; have h := h3; simp at h
      · have ph3 := h3; try simp only [sbx] at ph3
        refine W.skip ?_
        refine N.thenW ?_
        refine W.sr ?_
        refine L.mv rfl rfl rfl rfl rfl ?_
        refine L.mv rfl rfl rfl rfl rfl ?_
        refine L.p1 rfl rfl rfl (spec_call rfl Tryz.call130 (line_ok s (lexN s k).1 (by omega) hns) (.cons (Get.tmp rfl) (.cons (Get.tmp rfl) .nil))) ?_
        refine L.p1 rfl rfl rfl (spec_fieldAddr (f := 3) (off' := 3) rfl Tryz.underlying150 rfl Tryz.sizeOf3 (Get.tmp rfl) rfl) ?_
        refine L.storeB (k := 0) rfl rfl rfl Tryz.sizeOf3 (Get.tmp rfl) (Get.tmp rfl) rfl rfl ?_
        refine L.nt ?_
        refine W.sr ?_
        refine L.mv rfl rfl rfl rfl rfl ?_
        refine L.p1 rfl rfl rfl (spec_loadW (k := 0) rfl Tryz.isAgg150 Tryz.sizeOf150 (Get.tmp rfl) rfl rfl) ?_
        refine L.p1 rfl rfl rfl (spec_buildSlice1 (y := (⟨(readE s (lexN s k).1).kind, (readE s (lexN s k).1).n, (readE s (lexN s k).1).text, 1⟩ : Tk)) (E := eTk) rfl Tryz.underlying144 ti150 z150 (by decide) (GetC.agg (Get.tmp rfl)) (fun _ => rfl)) ?_
        refine L.append (k := 1) (E := eTk) rfl rfl rfl rfl Tryz.underlying144 ti150 rfl (by decide) (fun _ => rfl) (Get.tmp rfl) (Get.tmp rfl) rfl (by (simp only [List.length_cons, List.length_nil]; omega)) (by (simp only [List.length_cons, List.length_nil]; omega)) (fun v40 => ?_)
        refine L.as rfl rfl rfl rfl rfl ?_
        refine L.nt ?_
        refine W.region ?_
        refine L.mv rfl rfl rfl rfl rfl ?_
        refine L.p1 rfl rfl rfl (spec_fieldAddr (f := 2) (off' := 2) rfl Tryz.underlying150 rfl Tryz.sizeOf9 (Get.tmp rfl) rfl) ?_
        refine L.p1 rfl rfl rfl (spec_load1 (k := 0) rfl Tryz.isAgg9 (Get.tmp rfl) rfl rfl) ?_
        refine L.p1 rfl rfl rfl (spec_lenS rfl Tryz.underlying9 (Get.tmp rfl)) ?_
        first | refine L.op1 rfl rfl (GSpec.plain rfl (fit_i64 (by (first | omega | (simp only [Int.toNat_natCast]; omega))) (by (first | omega | (simp only [Int.toNat_natCast]; omega))) (spec_add rfl (Get.tmp rfl) (Get.tmp rfl)))) ?_ | refine L.op1 rfl rfl (GSpec.plain rfl (spec_add rfl (Get.tmp rfl) (Get.tmp rfl))) ?_
        refine L.as rfl rfl rfl rfl rfl ?_
        refine L.nil ?_
        refine N.blockNormal ?_
        refine N.thenW ?_
        refine W.region ?_
        refine L.mv rfl rfl rfl rfl rfl ?_
        refine L.mv rfl rfl rfl rfl rfl ?_
        refine L.p1 rfl rfl rfl (spec_call rfl Tryz.call128 (blank_ok s ((lexN s k).1 + (readE s (lexN s k).1).text.length) (by omega) hns) (.cons (Get.tmp rfl) (.cons (Get.tmp rfl) .nil))) ?_
        refine L.as rfl rfl rfl rfl rfl ?_
        refine L.nil ?_
        refine N.roundK (k + 1, v40) ?hI2 ?hmu2 ?hs2 ?hk2 ?hp2
        case hs2 => exact (.cons (t := 6) rfl (.cons (t := 5) rfl .nil))
        case hk2 => exact (.cons (t := 0) rfl .nil)
        case hp2 => dsimp only; rw [lexN]; exact (.cons 1 rfl .nil)
        case hI2 => dsimp only; omega
        case hmu2 => dsimp only; omega
    · have ph2 := h2; try simp only [sbx] at ph2
      refine W.exit ?_
      refine N.thenExit ?_
      refine N.thenExit ?_
      refine N.blockExit ?_
      refine N.thenW ?_
      have hk : k = K := by rcases Nat.lt_or_ge k K with q | q; (exfalso; have := (hl.go k q).1.lt; omega); omega
      subst hk
      refine W.pub (t := 5) (k := 0) rfl rfl (fun _ => rfl) ?_
      refine W.keep (.cons (t := 5) rfl .nil) .refl ?_
      refine W.sr ?_
      refine L.mv rfl rfl rfl rfl rfl ?_
      refine L.as rfl rfl rfl rfl rfl ?_
      refine L.p1 rfl rfl rfl (spec_assign rfl (Get.cint rfl)) ?_
      refine L.p1 rfl rfl rfl (spec_assign rfl (Get.cint rfl)) ?_
      refine L.nt ?_
      refine W.ret ?_
      refine N.ret () rfl (.tmp (t := 2) (Get.tmp rfl) (.tmp (t := 3) (Get.tmp rfl) (.tmp (t := 4) (Get.tmp rfl) .nil))) (res3w (eqSl ?_) (eqI ?_) (eqI ?_)) .nil (fun _ _ h => h)
      all_goals rfl

end Go.Proofs.YthlfacmpjehjmaaGreatDoor
set_option linter.unusedSimpArgs false
set_option maxRecDepth 8000
set_option linter.unusedVariables false
namespace Go.Proofs.YthlfacmpjehjmaaGreatDoor
open Go.Sim
theorem dig3_ok (m : Nat) (h : m ≤ 9) : CallT Tryz.prog 112 [Rp.int .i64 (-(m : Int))] [] (.one (Rp.str (digT m))) := by
  refine W.enter (fn := Tryz.f112) (n := 20) Tryz.func112 rfl Tryz.ntmps112 rfl (fun w₀ C₀ => ?_)
  simp only [argS]
  refine W.sr ?_
  refine L.p1 rfl rfl rfl (spec_assign rfl (Get.cstr (l := []) rfl rfl)) ?_
  refine L.nt ?_
  refine W.seq ?_
  refine W.sr ?_
  refine L.mv rfl rfl rfl rfl rfl ?_
  refine L.p1 rfl rfl rfl (spec_gtr rfl (Get.tmp rfl) (Get.cint rfl)) ?_
  refine L.nt ?_
  refine W.cond (Get.tmp rfl) (fun h1 => ?_) (fun h1 => ?_)
  · have ph1 := h1; try simp only [sbx] at ph1
    refine W.sr ?_
    refine L.mv rfl rfl rfl rfl rfl ?_
    first | refine L.op1 rfl rfl (GSpec.plain rfl (fit_i64 (by omega) (by omega) (spec_sub rfl (Get.cint rfl) (Get.tmp rfl)))) ?_ | refine L.op1 rfl rfl (GSpec.plain rfl (spec_sub rfl (Get.cint rfl) (Get.tmp rfl))) ?_
    first | refine L.op1 rfl rfl (GSpec.plain rfl (fit_u8 (by omega) (by omega) (spec_conv rfl Tryz.underlying5 ⟨_, Tryz.underlying3⟩ (Get.tmp rfl)))) ?_ | refine L.op1 rfl rfl (GSpec.plain rfl (spec_conv rfl Tryz.underlying5 ⟨_, Tryz.underlying3⟩ (Get.tmp rfl))) ?_
    rw [digb m h]
    refine L.p1 rfl rfl rfl (spec_buildSlice1 (y := (UInt8.ofNat (48 + m))) (E := eUb) rfl Tryz.underlying173 ti5 z5 (by decide) (GetC.one (Get.tmp rfl)) (fun _ => rfl)) ?_
    refine L.p1 rfl rfl rfl (spec_bytesStr (E := eUb) (fun _ => rfl) rfl Tryz.underlying173 Tryz.underlying5 Tryz.underlying9 (Get.tmp rfl)) ?_
    refine L.as rfl rfl rfl rfl rfl ?_
    refine L.nt ?_
    refine W.keep (.cons (t := 0) rfl (.cons (t := 2) rfl .nil)) .refl ?_
    refine W.ret ?_
    refine N.ret () rfl (.tmp (t := 2) (Get.tmp rfl) .nil) (res1 (eqS ?_)) .nil (fun _ _ h => h)
    rfl
  · exfalso; have h := of_decide_eq_false h1; omega

theorem dec3_ok (m : Nat) (h : m ≤ 9) : CallT Tryz.prog 99 [Rp.int .i64 (m : Int)] [] (.one (Rp.str (digT m))) := by
  refine W.enter (fn := Tryz.f99) (n := 11) Tryz.func99 rfl Tryz.ntmps99 rfl (fun w₀ C₀ => ?_)
  simp only [argS]
  refine W.sr ?_
  refine L.p1 rfl rfl rfl (spec_assign rfl (Get.cstr (l := []) rfl rfl)) ?_
  refine L.nt ?_
  refine W.seq ?_
  refine W.sr ?_
  refine L.mv rfl rfl rfl rfl rfl ?_
  refine L.p1 rfl rfl rfl (spec_lss rfl (Get.tmp rfl) (Get.cint rfl)) ?_
  refine L.nt ?_
  refine W.cond (Get.tmp rfl) (fun h1 => ?_) (fun h1 => ?_)
  · exfalso; have h := of_decide_eq_true h1; omega
  · have ph1 := h1; try simp only [sbx] at ph1
    refine W.skip ?_
    refine N.thenW ?_
    refine W.sr ?_
    refine L.mv rfl rfl rfl rfl rfl ?_
    first | refine L.op1 rfl rfl (GSpec.plain rfl (fit_i64 (by omega) (by omega) (spec_neg rfl (Get.tmp rfl)))) ?_ | refine L.op1 rfl rfl (GSpec.plain rfl (spec_neg rfl (Get.tmp rfl))) ?_
    refine L.p1 rfl rfl rfl (spec_call rfl Tryz.call112 (dig3_ok _ (by omega)) (.cons (Get.tmp rfl) .nil)) ?_
    refine L.as rfl rfl rfl rfl rfl ?_
    refine L.nt ?_
    refine W.keep (.cons (t := 2) rfl .nil) .refl ?_
    refine W.ret ?_
    refine N.ret () rfl (.tmp (t := 2) (Get.tmp rfl) .nil) (res1 (eqS ?_)) .nil (fun _ _ h => h)
    rfl

theorem num3_ok (m : Nat) (h : m ≤ 9) : CallT Tryz.prog 78 [Rp.int .i64 (m : Int)] [] (.one (Rp.str (digT m ++ [59]))) := by
  refine W.enter (fn := Tryz.f78) (n := 6) Tryz.func78 rfl Tryz.ntmps78 rfl (fun w₀ C₀ => ?_)
  simp only [argS]
  refine W.sr ?_
  refine L.p1 rfl rfl rfl (spec_assign rfl (Get.cstr (l := []) rfl rfl)) ?_
  refine L.nt ?_
  refine W.sr ?_
  refine L.mv rfl rfl rfl rfl rfl ?_
  refine L.p1 rfl rfl rfl (spec_call rfl Tryz.call99 (dec3_ok _ (by omega)) (.cons (Get.tmp rfl) .nil)) ?_
  refine L.p1 rfl rfl rfl (spec_addS rfl (Get.tmp rfl) (Get.cstr (l := [59]) rfl rfl) (by (simp only [digT, List.length_cons, List.length_nil]; omega))) ?_
  refine L.as rfl rfl rfl rfl rfl ?_
  refine L.nt ?_
  refine W.ret ?_
  refine N.ret () rfl (.tmp (t := 2) (Get.tmp rfl) .nil) (res1 (eqS ?_)) .nil (fun _ _ h => h)
  rfl

theorem decim_ok (n : Int) (h0 : 0 ≤ n) (h1 : n ≤ 9) : CallT Tryz.prog 168 [Rp.int .i64 n] [] (.one (Rp.str (digT n.toNat))) := by
  refine W.enter (fn := Tryz.f168) (n := 11) Tryz.func168 rfl Tryz.ntmps168 rfl (fun w₀ C₀ => ?_)
  simp only [argS]
  obtain ⟨m, rfl⟩ : ∃ m : Nat, n = (m : Int) := ⟨n.toNat, by omega⟩
  refine W.sr ?_
  refine L.p1 rfl rfl rfl (spec_assign rfl (Get.cstr (l := []) rfl rfl)) ?_
  refine L.nt ?_
  refine W.sr ?_
  refine L.mv rfl rfl rfl rfl rfl ?_
  refine L.p1 rfl rfl rfl (spec_call rfl Tryz.call78 (num3_ok _ (by omega)) (.cons (Get.tmp rfl) .nil)) ?_
  refine L.as rfl rfl rfl rfl rfl ?_
  refine L.nt ?_
  refine W.keep (.cons (t := 2) rfl (.cons (t := 3) rfl .nil)) .refl ?_
  refine W.sr ?_
  refine L.mv rfl rfl rfl rfl rfl ?_
  refine L.mv rfl rfl rfl rfl rfl ?_
  refine L.p1 rfl rfl rfl (spec_lenS rfl Tryz.underlying9 (Get.tmp rfl)) ?_
  first | refine L.op1 rfl rfl (GSpec.plain rfl (fit_i64 (by (simp only [digT, List.length_append, List.length_cons, List.length_nil]; omega)) (by (simp only [digT, List.length_append, List.length_cons, List.length_nil]; omega)) (spec_sub rfl (Get.tmp rfl) (Get.cint rfl)))) ?_ | refine L.op1 rfl rfl (GSpec.plain rfl (spec_sub rfl (Get.tmp rfl) (Get.cint rfl))) ?_
  refine L.p1 rfl rfl rfl (spec_sliceS rfl Tryz.underlying9 (Get.tmp rfl) .none (.some (Get.tmp rfl) (by (simp only [digT, List.length_append, List.length_cons, List.length_nil]; omega))) (by (simp only [digT, List.length_append, List.length_cons, List.length_nil]; omega))) ?_
  refine L.as rfl rfl rfl rfl rfl ?_
  refine L.nt ?_
  refine W.keep (.cons (t := 2) rfl .nil) .refl ?_
  refine W.ret ?_
  refine N.ret () rfl (.tmp (t := 2) (Get.tmp rfl) .nil) (res1 (eqS ?_)) .nil (fun _ _ h => h)
  rfl

theorem isMark_ok (s : List UInt8) : CallT Tryz.prog 192 [Rp.str s] [] (.one (Rp.bool (marks.any fun x => s == x))) := by
  refine W.enter (fn := Tryz.f192) (n := 6) Tryz.func192 rfl Tryz.ntmps192 rfl (fun w₀ C₀ => ?_)
  simp only [argS]
  refine W.sr ?_
  refine L.p1 rfl rfl rfl (spec_assign rfl Get.cbool) ?_
  refine L.nt ?_
  refine W.sr ?_
  refine L.p1 rfl rfl rfl (spec_call rfl Tryz.call164 (marks_ok ) .nil) ?_
  refine L.mv rfl rfl rfl rfl rfl ?_
  refine L.p1 rfl rfl rfl (spec_call rfl Tryz.call113 (has7_ok _ _) (.cons (Get.tmp rfl) (.cons (Get.tmp rfl) .nil))) ?_
  refine L.as rfl rfl rfl rfl rfl ?_
  refine L.nt ?_
  refine W.ret ?_
  refine N.ret () rfl (.tmp (t := 2) (Get.tmp rfl) .nil) (res1 (eqB ?_)) .nil (fun _ _ h => h)
  rfl

theorem tvalid_ok (t : Tk) (ht : TkOk t) : CallT Tryz.prog 179 [Rp.agg (eTk t)] [] (.one (Rp.bool true)) := by
  refine W.enter (fn := Tryz.f179) (n := 53) Tryz.func179 rfl Tryz.ntmps179 rfl (fun w₀ C₀ => ?_)
  simp only [argS]
  refine W.sr ?_
  refine L.box rfl rfl (GSpec.plain rfl (spec_box rfl (GetC.agg (Get.tmp rfl)))) (fun r1 => ?_)
  refine L.p1 rfl rfl rfl (spec_assign rfl Get.cbool) ?_
  refine L.nt ?_
  refine W.keep (.cons (t := 1) rfl (.cons (t := 2) rfl .nil)) .refl ?_
  refine W.seq ?_
  refine W.sr ?_
  refine L.p1 rfl rfl rfl (spec_fieldAddr (f := 0) (off' := 0) rfl Tryz.underlying150 rfl Tryz.sizeOf3 (Get.tmp rfl) rfl) ?_
  refine L.p1 rfl rfl rfl (spec_load1 (k := 0) rfl Tryz.isAgg3 (Get.tmp rfl) rfl rfl) ?_
  refine L.nt ?_
  refine W.block ?_
  refine W.sr ?_
  refine L.p1 rfl rfl rfl (spec_eql rfl (Get.tmp rfl) (Get.cint rfl)) ?_
  refine L.as rfl rfl rfl rfl rfl ?_
  refine L.nt ?_
  refine W.cond (Get.tmp rfl) (fun h1 => ?_) (fun h1 => ?_)
  · have ph1 := h1; try simp only [sbx] at ph1
    refine W.sr ?_
    refine L.p1 rfl rfl rfl (spec_fieldAddr (f := 2) (off' := 2) rfl Tryz.underlying150 rfl Tryz.sizeOf9 (Get.tmp rfl) rfl) ?_
    refine L.p1 rfl rfl rfl (spec_load1 (k := 0) rfl Tryz.isAgg9 (Get.tmp rfl) rfl rfl) ?_
    refine L.p1 rfl rfl rfl (spec_call rfl Tryz.call80 (isName_ok _) (.cons (Get.tmp rfl) .nil)) ?_
    refine L.mv rfl rfl rfl rfl rfl ?_
    refine L.op1 rfl rfl (GSpec.guard rfl rfl rfl fun hg => (spec_fieldAddr (f := 1) (off' := 1) rfl Tryz.underlying150 rfl Tryz.sizeOf3 (Get.tmp rfl) rfl)) ?_
    refine L.op1 rfl rfl (GSpec.guard rfl rfl rfl fun hg => (spec_load1 (k := 0) rfl Tryz.isAgg3 (Get.opt rfl hg) rfl rfl)) ?_
    refine L.op1 rfl rfl (GSpec.guard rfl rfl rfl fun hg => (spec_eql rfl (Get.opt rfl hg) (Get.cint rfl))) ?_
    refine L.p1 rfl rfl rfl (spec_and rfl (Get.tmp rfl) (fun hb => (Get.opt rfl hb))) ?_
    refine L.as rfl rfl rfl rfl rfl ?_
    refine L.nt ?_
    refine W.keep (.cons (t := 2) rfl .nil) .refl ?_
    refine W.ret ?_
    refine N.ret () rfl (.tmp (t := 2) (Get.tmp rfl) .nil) (res1 (eqB ?_)) .nil (fun _ _ h => h)
    have hx := of_decide_eq_true h1; rcases ht with q | q | q; (rw [q.2.1, q.2.2]; rfl); omega; omega
  · have ph1 := h1; try simp only [sbx] at ph1
    refine W.sr ?_
    refine L.p1 rfl rfl rfl (spec_eql rfl (Get.tmp rfl) (Get.cint rfl)) ?_
    refine L.as rfl rfl rfl rfl rfl ?_
    refine L.nt ?_
    refine W.cond (Get.tmp rfl) (fun h2 => ?_) (fun h2 => ?_)
    · have ph2 := h2; try simp only [sbx] at ph2
      refine W.sr ?_
      refine L.p1 rfl rfl rfl (spec_fieldAddr (f := 2) (off' := 2) rfl Tryz.underlying150 rfl Tryz.sizeOf9 (Get.tmp rfl) rfl) ?_
      refine L.p1 rfl rfl rfl (spec_load1 (k := 0) rfl Tryz.isAgg9 (Get.tmp rfl) rfl rfl) ?_
      refine L.p1 rfl rfl rfl (spec_call rfl Tryz.call101 (isKeyword_ok _) (.cons (Get.tmp rfl) .nil)) ?_
      refine L.mv rfl rfl rfl rfl rfl ?_
      refine L.op1 rfl rfl (GSpec.guard rfl rfl rfl fun hg => (spec_fieldAddr (f := 1) (off' := 1) rfl Tryz.underlying150 rfl Tryz.sizeOf3 (Get.tmp rfl) rfl)) ?_
      refine L.op1 rfl rfl (GSpec.guard rfl rfl rfl fun hg => (spec_load1 (k := 0) rfl Tryz.isAgg3 (Get.opt rfl hg) rfl rfl)) ?_
      refine L.op1 rfl rfl (GSpec.guard rfl rfl rfl fun hg => (spec_eql rfl (Get.opt rfl hg) (Get.cint rfl))) ?_
      refine L.p1 rfl rfl rfl (spec_and rfl (Get.tmp rfl) (fun hb => (Get.opt rfl hb))) ?_
      refine L.as rfl rfl rfl rfl rfl ?_
      refine L.nt ?_
      refine W.keep (.cons (t := 2) rfl .nil) .refl ?_
      refine W.ret ?_
      refine N.ret () rfl (.tmp (t := 2) (Get.tmp rfl) .nil) (res1 (eqB ?_)) .nil (fun _ _ h => h)
      have hx := of_decide_eq_true h2; rcases ht with q | q | q; omega; omega; omega
    · have ph2 := h2; try simp only [sbx] at ph2
      refine W.sr ?_
      refine L.p1 rfl rfl rfl (spec_eql rfl (Get.tmp rfl) (Get.cint rfl)) ?_
      refine L.as rfl rfl rfl rfl rfl ?_
      refine L.nt ?_
      refine W.keep (.cons (t := 1) rfl (.cons (t := 2) rfl (.cons (t := 4) rfl (.cons (t := 25) rfl .nil)))) .refl ?_
      refine W.cond (Get.tmp rfl) (fun h3 => ?_) (fun h3 => ?_)
      · have hk3 : 0 ≤ t.n ∧ t.n ≤ 9 ∧ t.text = digT t.n.toNat := by have h := of_decide_eq_true h3; rcases ht with q | q | q; (exact absurd q.1 (by omega)); exact ⟨q.2.1, q.2.2.1, q.2.2.2⟩; (exact absurd q.1 (by omega))
        refine W.seq ?_
        apply W.any 17 mixed (by kernel_rfl)
        · apply Head.one rfl rfl (GSpec.plain rfl (spec_fieldAddr (f := 1) (off' := 1) rfl Tryz.underlying150 rfl Tryz.sizeOf3 (Get.tmp rfl) rfl))
          apply Head.one rfl rfl (GSpec.plain rfl (spec_load1 (k := 0) rfl Tryz.isAgg3 (Get.tmp rfl) rfl rfl))
          apply Head.one rfl rfl (GSpec.plain rfl (spec_geq rfl (Get.tmp rfl) (Get.cint rfl)))
          apply Head.one rfl rfl (GSpec.plain rfl (spec_move rfl (Get.tmp rfl)))
          apply Head.one rfl rfl (GSpec.guard rfl rfl rfl fun hg => (spec_fieldAddr (f := 1) (off' := 1) rfl Tryz.underlying150 rfl Tryz.sizeOf3 (Get.tmp rfl) rfl))
          apply Head.one rfl rfl (GSpec.guard rfl rfl rfl fun hg => (spec_load1 (k := 0) rfl Tryz.isAgg3 (Get.opt rfl hg) rfl rfl))
          apply Head.one rfl rfl (GSpec.guard rfl rfl rfl fun hg => (spec_lss rfl (Get.opt rfl hg) (Get.cint rfl)))
          apply Head.one rfl rfl (GSpec.plain rfl (spec_and rfl (Get.tmp rfl) (fun hb => (Get.opt rfl hb))))
          apply Head.one rfl rfl (GSpec.plain rfl (spec_move rfl (Get.tmp rfl)))
          apply Head.one rfl rfl (GSpec.guard rfl rfl rfl fun hg => (spec_fieldAddr (f := 2) (off' := 2) rfl Tryz.underlying150 rfl Tryz.sizeOf9 (Get.tmp rfl) rfl))
          apply Head.one rfl rfl (GSpec.guard rfl rfl rfl fun hg => (spec_load1 (k := 0) rfl Tryz.isAgg9 (Get.opt rfl hg) rfl rfl))
          apply Head.one rfl rfl (GSpec.guard rfl rfl rfl fun hg => (spec_fieldAddr (f := 1) (off' := 1) rfl Tryz.underlying150 rfl Tryz.sizeOf3 (Get.tmp rfl) rfl))
          apply Head.one rfl rfl (GSpec.guard rfl rfl rfl fun hg => (spec_load1 (k := 0) rfl Tryz.isAgg3 (Get.opt rfl hg) rfl rfl))
          apply Head.one rfl rfl (GSpec.guard rfl rfl rfl fun hg => (spec_call rfl Tryz.call168 (decim_ok t.n hk3.1 hk3.2.1) (.cons (Get.opt rfl hg) .nil)))
          apply Head.one rfl rfl (GSpec.guard rfl rfl rfl fun hg => (spec_eqlS rfl (Get.opt rfl hg) (Get.opt rfl hg)))
          apply Head.one rfl rfl (GSpec.plain rfl (spec_and rfl (Get.tmp rfl) (fun hb => (Get.opt rfl hb))))
          apply Head.one rfl rfl (GSpec.plain rfl (spec_assign rfl (Get.tmp rfl)))
          exact Head.nil
        refine Fin.one ?_
        refine Fin.one ?_
        refine Fin.one ?_
        refine Fin.one ?_
        refine Fin.one ?_
        refine Fin.one ?_
        refine Fin.one ?_
        refine Fin.one ?_
        refine Fin.one ?_
        refine Fin.one ?_
        refine Fin.one ?_
        refine Fin.one ?_
        refine Fin.one ?_
        refine Fin.one ?_
        refine Fin.one ?_
        refine Fin.one ?_
        refine Fin.one ?_
        refine Fin.nil ?_
        refine L.nt ?_
        refine W.keep (.cons (t := 2) rfl .nil) .refl ?_
        refine W.ret ?_
        refine N.ret () rfl (.tmp (t := 2) (Get.tmp rfl) .nil) (res1 (eqB ?_)) .nil (fun _ _ h => h)
        rw [← hk3.2.2, decide_eq_true hk3.1, decide_eq_true (show t.n < 2147483648 by omega)]; simp
      · have ph3 := h3; try simp only [sbx] at ph3
        refine W.sr ?_
        refine L.p1 rfl rfl rfl (spec_eql rfl (Get.tmp rfl) (Get.cint rfl)) ?_
        refine L.as rfl rfl rfl rfl rfl ?_
        refine L.nt ?_
        refine W.cond (Get.tmp rfl) (fun h4 => ?_) (fun h4 => ?_)
        · have ph4 := h4; try simp only [sbx] at ph4
          refine W.sr ?_
          refine L.p1 rfl rfl rfl (spec_fieldAddr (f := 2) (off' := 2) rfl Tryz.underlying150 rfl Tryz.sizeOf9 (Get.tmp rfl) rfl) ?_
          refine L.p1 rfl rfl rfl (spec_load1 (k := 0) rfl Tryz.isAgg9 (Get.tmp rfl) rfl rfl) ?_
          refine L.p1 rfl rfl rfl (spec_call rfl Tryz.call192 (isMark_ok _) (.cons (Get.tmp rfl) .nil)) ?_
          refine L.mv rfl rfl rfl rfl rfl ?_
          refine L.op1 rfl rfl (GSpec.guard rfl rfl rfl fun hg => (spec_fieldAddr (f := 1) (off' := 1) rfl Tryz.underlying150 rfl Tryz.sizeOf3 (Get.tmp rfl) rfl)) ?_
          refine L.op1 rfl rfl (GSpec.guard rfl rfl rfl fun hg => (spec_load1 (k := 0) rfl Tryz.isAgg3 (Get.opt rfl hg) rfl rfl)) ?_
          refine L.op1 rfl rfl (GSpec.guard rfl rfl rfl fun hg => (spec_eql rfl (Get.opt rfl hg) (Get.cint rfl))) ?_
          refine L.p1 rfl rfl rfl (spec_and rfl (Get.tmp rfl) (fun hb => (Get.opt rfl hb))) ?_
          refine L.as rfl rfl rfl rfl rfl ?_
          refine L.nt ?_
          refine W.keep (.cons (t := 2) rfl .nil) .refl ?_
          refine W.ret ?_
          refine N.ret () rfl (.tmp (t := 2) (Get.tmp rfl) .nil) (res1 (eqB ?_)) .nil (fun _ _ h => h)
          have hx := of_decide_eq_true h4; rcases ht with q | q | q; omega; omega; (rw [q.2.1, q.2.2]; rfl)
        · have ph4 := h4; try simp only [sbx] at ph4
          refine W.skip ?_
          refine N.blockNormal ?_
          refine N.thenW ?_
          refine W.sr ?_
          refine L.p1 rfl rfl rfl (spec_assign rfl Get.cbool) ?_
          refine L.nt ?_
          refine W.keep (.cons (t := 2) rfl .nil) .refl ?_
          refine W.ret ?_
          refine N.ret () rfl (.tmp (t := 2) (Get.tmp rfl) .nil) (res1 (eqB ?_)) .nil (fun _ _ h => h)
          have a1 := of_decide_eq_false h1; have a2 := of_decide_eq_false h3; have a3 := of_decide_eq_false h4; rcases ht with q | q | q <;> exact absurd q.1 (by assumption)

theorem kind_ok (l : List Tk) (a : Nat) (hl : Toks l) (ha : a ≤ l.length) : CallT Tryz.prog 165 [Rp.at (rdR l a)] [] (.one (Rp.int .i64 (kindE l a))) := by
  refine W.enter (fn := Tryz.f165) (n := 45) Tryz.func165 rfl Tryz.ntmps165 rfl (fun w₀ C₀ => ?_)
  simp only [argS]
  have hl1 := hl.1
  refine W.sr ?_
  refine L.p1 rfl rfl rfl (spec_assign rfl (Get.cint rfl)) ?_
  refine L.nt ?_
  refine W.seq ?_
  refine W.seq ?_
  apply W.any 31 mixed (by kernel_rfl)
  · apply Head.one rfl rfl (GSpec.plain rfl (spec_move rfl (Get.tmp rfl)))
    apply Head.one rfl rfl (GSpec.plain rfl (spec_nilCheck rfl (Get.tmp rfl)))
    apply Head.one rfl rfl (GSpec.plain rfl (spec_fieldAddrP (f := 2) rfl Tryz.underlying181 rfl Tryz.sizeOf28 (Get.tmp rfl) rfl rfl))
    apply Head.one rfl rfl (GSpec.plain rfl (spec_loadP1 rfl Tryz.isAgg28 (Get.tmp rfl)))
    apply Head.one rfl rfl (GSpec.plain rfl (spec_neq rfl (Get.tmp rfl) (Get.cint rfl)))
    apply Head.one rfl rfl (GSpec.plain rfl (spec_move rfl (Get.tmp rfl)))
    apply Head.one rfl rfl (GSpec.guard rfl rfl rfl fun hg => (spec_move rfl (Get.tmp rfl)))
    apply Head.one rfl rfl (GSpec.guard rfl rfl rfl fun hg => (spec_nilCheck rfl (Get.opt rfl hg)))
    apply Head.one rfl rfl (GSpec.guard rfl rfl rfl fun hg => (spec_fieldAddrP (f := 1) rfl Tryz.underlying181 rfl Tryz.sizeOf3 (Get.opt rfl hg) rfl rfl))
    apply Head.one rfl rfl (GSpec.guard rfl rfl rfl fun hg => (spec_loadP1 rfl Tryz.isAgg3 (Get.opt rfl hg)))
    apply Head.one rfl rfl (GSpec.guard rfl rfl rfl fun hg => (spec_move rfl (Get.tmp rfl)))
    apply Head.one rfl rfl (GSpec.guard rfl rfl rfl fun hg => (spec_nilCheck rfl (Get.opt rfl hg)))
    apply Head.one rfl rfl (GSpec.guard rfl rfl rfl fun hg => (spec_fieldAddrP (f := 0) rfl Tryz.underlying181 rfl Tryz.sizeOf144 (Get.opt rfl hg) rfl rfl))
    apply Head.one rfl rfl (GSpec.guard rfl rfl rfl fun hg => (spec_loadP1 rfl Tryz.isAgg144 (Get.opt rfl hg)))
    apply Head.one rfl rfl (GSpec.guard rfl rfl rfl fun hg => (spec_len rfl Tryz.underlying144 (Get.opt rfl hg)))
    apply Head.one rfl rfl (GSpec.guard rfl rfl rfl fun hg => (spec_geq rfl (Get.opt rfl hg) (Get.opt rfl hg)))
    apply Head.one rfl rfl (GSpec.plain rfl (spec_or rfl (Get.tmp rfl) (fun hb => (Get.opt rfl hb))))
    apply Head.one rfl rfl (GSpec.plain rfl (spec_move rfl (Get.tmp rfl)))
    apply Head.one rfl rfl (GSpec.guard rfl rfl rfl fun hg => (spec_move rfl (Get.tmp rfl)))
    apply Head.one rfl rfl (GSpec.guard rfl rfl rfl fun hg => (spec_nilCheck rfl (Get.opt rfl hg)))
    apply Head.one rfl rfl (GSpec.guard rfl rfl rfl fun hg => (spec_fieldAddrP (f := 0) rfl Tryz.underlying181 rfl Tryz.sizeOf144 (Get.opt rfl hg) rfl rfl))
    apply Head.one rfl rfl (GSpec.guard rfl rfl rfl fun hg => (spec_loadP1 rfl Tryz.isAgg144 (Get.opt rfl hg)))
    apply Head.one rfl rfl (GSpec.guard rfl rfl rfl fun hg => (spec_move rfl (Get.tmp rfl)))
    apply Head.one rfl rfl (GSpec.guard rfl rfl rfl fun hg => (spec_nilCheck rfl (Get.opt rfl hg)))
    apply Head.one rfl rfl (GSpec.guard rfl rfl rfl fun hg => (spec_fieldAddrP (f := 1) rfl Tryz.underlying181 rfl Tryz.sizeOf3 (Get.opt rfl hg) rfl rfl))
    apply Head.one rfl rfl (GSpec.guard rfl rfl rfl fun hg => (spec_loadP1 rfl Tryz.isAgg3 (Get.opt rfl hg)))
    apply Head.one rfl rfl (GSpec.guard rfl rfl rfl fun hg => (spec_indexAddrD (E := eTk) rfl Tryz.underlying144 Tryz.sizeOf150 (fun _ => rfl) (Get.opt rfl hg) (Get.opt rfl hg) (by (have hq := hg; simp at hq; first | omega | (simp only [Int.toNat_natCast]; omega)))))
    apply Head.one rfl rfl (GSpec.guard rfl rfl rfl fun hg => (spec_loadPA rfl Tryz.isAgg150 Tryz.sizeOf150 (Get.opt rfl hg) rfl))
    apply Head.one rfl rfl (GSpec.guard rfl rfl rfl fun hg => (spec_call rfl Tryz.call179 (tvalid_ok _ (hl.2 a (by have hq := hg; simp at hq; omega))) (.cons (Get.opt rfl hg) .nil)))
    apply Head.one rfl rfl (GSpec.guard rfl rfl rfl fun hg => (spec_not rfl (Get.opt rfl hg)))
    apply Head.one rfl rfl (GSpec.plain rfl (spec_or rfl (Get.tmp rfl) (fun hb => (Get.opt rfl hb))))
    exact Head.nil
  refine Fin.one ?_
  refine Fin.one ?_
  refine Fin.one ?_
  refine Fin.one ?_
  refine Fin.one ?_
  refine Fin.one ?_
  refine Fin.one ?_
  refine Fin.one ?_
  refine Fin.one ?_
  refine Fin.one ?_
  refine Fin.one ?_
  refine Fin.one ?_
  refine Fin.one ?_
  refine Fin.one ?_
  refine Fin.one ?_
  refine Fin.one ?_
  refine Fin.one ?_
  refine Fin.one ?_
  refine Fin.one ?_
  refine Fin.one ?_
  refine Fin.one ?_
  refine Fin.one ?_
  refine Fin.one ?_
  refine Fin.one ?_
  refine Fin.one ?_
  refine Fin.one ?_
  refine Fin.one ?_
  refine Fin.one ?_
  refine Fin.one ?_
  refine Fin.one ?_
  refine Fin.one ?_
  refine Fin.nil ?_
  refine L.nt ?_
  refine W.keep (.cons (t := 0) rfl (.cons (t := 2) rfl (.cons (t := 33) rfl .nil))) .refl ?_
  refine W.cond (Get.tmp rfl) (fun h1 => ?_) (fun h1 => ?_)
  · have hge : ¬ a < l.length := by have h := h1; simp at h; omega
    refine W.sr ?_
    refine L.p1 rfl rfl rfl (spec_assign rfl (Get.cint rfl)) ?_
    refine L.nt ?_
    refine W.ret ?_
    refine N.ret () rfl (.tmp (t := 2) (Get.tmp rfl) .nil) (res1 (eqI ?_)) .nil (fun _ _ h => h)
    unfold kindE; rw [if_neg hge]
  · have hlt : a < l.length := by have h := h1; simp at h; omega
    refine W.skip ?_
    refine N.thenW ?_
    refine W.seq ?_
    apply W.any 12 mixed (by kernel_rfl)
    · apply Head.one rfl rfl (GSpec.plain rfl (spec_move rfl (Get.tmp rfl)))
      apply Head.one rfl rfl (GSpec.plain rfl (spec_nilCheck rfl (Get.tmp rfl)))
      apply Head.one rfl rfl (GSpec.plain rfl (spec_fieldAddrP (f := 0) rfl Tryz.underlying181 rfl Tryz.sizeOf144 (Get.tmp rfl) rfl rfl))
      apply Head.one rfl rfl (GSpec.plain rfl (spec_loadP1 rfl Tryz.isAgg144 (Get.tmp rfl)))
      apply Head.one rfl rfl (GSpec.plain rfl (spec_move rfl (Get.tmp rfl)))
      apply Head.one rfl rfl (GSpec.plain rfl (spec_nilCheck rfl (Get.tmp rfl)))
      apply Head.one rfl rfl (GSpec.plain rfl (spec_fieldAddrP (f := 1) rfl Tryz.underlying181 rfl Tryz.sizeOf3 (Get.tmp rfl) rfl rfl))
      apply Head.one rfl rfl (GSpec.plain rfl (spec_loadP1 rfl Tryz.isAgg3 (Get.tmp rfl)))
      apply Head.one rfl rfl (GSpec.plain rfl (spec_indexAddrD (E := eTk) rfl Tryz.underlying144 Tryz.sizeOf150 (fun _ => rfl) (Get.tmp rfl) (Get.tmp rfl) (by (first | omega | (simp only [Int.toNat_natCast]; omega)))))
      apply Head.one rfl rfl (GSpec.plain rfl (spec_fieldAddrP (f := 0) rfl Tryz.underlying150 rfl Tryz.sizeOf3 (Get.tmp rfl) rfl rfl))
      apply Head.one rfl rfl (GSpec.plain rfl (spec_loadP1 rfl Tryz.isAgg3 (Get.tmp rfl)))
      apply Head.one rfl rfl (GSpec.plain rfl (spec_assign rfl (Get.tmp rfl)))
      exact Head.nil
    refine Fin.one ?_
    refine Fin.one ?_
    refine Fin.one ?_
    refine Fin.one ?_
    refine Fin.one ?_
    refine Fin.one ?_
    refine Fin.one ?_
    refine Fin.one ?_
    refine Fin.one ?_
    refine Fin.one ?_
    refine Fin.one ?_
    refine Fin.one ?_
    refine Fin.nil ?_
    refine L.nt ?_
    refine W.keep (.cons (t := 2) rfl .nil) .refl ?_
    refine W.ret ?_
    refine N.ret () rfl (.tmp (t := 2) (Get.tmp rfl) .nil) (res1 (eqI ?_)) .nil (fun _ _ h => h)
    unfold kindE; rw [if_pos hlt]; rfl

theorem is_ok (l : List Tk) (a : Nat) (hl : Toks l) (ha : a ≤ l.length) (s : List UInt8) : CallT Tryz.prog 148 [Rp.at (rdR l a), Rp.str s] [] (.one (Rp.bool (isE l a s))) := by
  refine W.enter (fn := Tryz.f148) (n := 29) Tryz.func148 rfl Tryz.ntmps148 rfl (fun w₀ C₀ => ?_)
  simp only [argS]
  have hl1 := hl.1
  refine W.sr ?_
  refine L.p1 rfl rfl rfl (spec_assign rfl Get.cbool) ?_
  refine L.nt ?_
  refine W.sr ?_
  refine L.mv rfl rfl rfl rfl rfl ?_
  refine L.p1 rfl rfl rfl (spec_call rfl Tryz.call165 (kind_ok l a hl ha) (.cons (Get.tmp rfl) .nil)) ?_
  refine L.as rfl rfl rfl rfl rfl ?_
  refine L.nt ?_
  refine W.seq ?_
  apply W.any 22 mixed (by kernel_rfl)
  · apply Head.one rfl rfl (GSpec.plain rfl (spec_move rfl (Get.tmp rfl)))
    apply Head.one rfl rfl (GSpec.plain rfl (spec_eql rfl (Get.tmp rfl) (Get.cint rfl)))
    apply Head.one rfl rfl (GSpec.plain rfl (spec_move rfl (Get.tmp rfl)))
    apply Head.one rfl rfl (GSpec.guard rfl rfl rfl fun hg => (spec_move rfl (Get.tmp rfl)))
    apply Head.one rfl rfl (GSpec.guard rfl rfl rfl fun hg => (spec_eql rfl (Get.opt rfl hg) (Get.cint rfl)))
    apply Head.one rfl rfl (GSpec.plain rfl (spec_or rfl (Get.tmp rfl) (fun hb => (Get.opt rfl hb))))
    apply Head.one rfl rfl (GSpec.plain rfl (spec_move rfl (Get.tmp rfl)))
    apply Head.one rfl rfl (GSpec.guard rfl rfl rfl fun hg => (spec_move rfl (Get.tmp rfl)))
    apply Head.one rfl rfl (GSpec.guard rfl rfl rfl fun hg => (spec_nilCheck rfl (Get.opt rfl hg)))
    apply Head.one rfl rfl (GSpec.guard rfl rfl rfl fun hg => (spec_fieldAddrP (f := 0) rfl Tryz.underlying181 rfl Tryz.sizeOf144 (Get.opt rfl hg) rfl rfl))
    apply Head.one rfl rfl (GSpec.guard rfl rfl rfl fun hg => (spec_loadP1 rfl Tryz.isAgg144 (Get.opt rfl hg)))
    apply Head.one rfl rfl (GSpec.guard rfl rfl rfl fun hg => (spec_move rfl (Get.tmp rfl)))
    apply Head.one rfl rfl (GSpec.guard rfl rfl rfl fun hg => (spec_nilCheck rfl (Get.opt rfl hg)))
    apply Head.one rfl rfl (GSpec.guard rfl rfl rfl fun hg => (spec_fieldAddrP (f := 1) rfl Tryz.underlying181 rfl Tryz.sizeOf3 (Get.opt rfl hg) rfl rfl))
    apply Head.one rfl rfl (GSpec.guard rfl rfl rfl fun hg => (spec_loadP1 rfl Tryz.isAgg3 (Get.opt rfl hg)))
    apply Head.one rfl rfl (GSpec.guard rfl rfl rfl fun hg => (spec_indexAddrD (E := eTk) rfl Tryz.underlying144 Tryz.sizeOf150 (fun _ => rfl) (Get.opt rfl hg) (Get.opt rfl hg) (by (have hk := kind_lt (l := l) (a := a) (by have hq := hg; simp only [Bool.or_eq_true, decide_eq_true_eq] at hq; omega); first | omega | (simp only [Int.toNat_natCast]; omega)))))
    apply Head.one rfl rfl (GSpec.guard rfl rfl rfl fun hg => (spec_fieldAddrP (f := 2) rfl Tryz.underlying150 rfl Tryz.sizeOf9 (Get.opt rfl hg) rfl rfl))
    apply Head.one rfl rfl (GSpec.guard rfl rfl rfl fun hg => (spec_loadP1 rfl Tryz.isAgg9 (Get.opt rfl hg)))
    apply Head.one rfl rfl (GSpec.guard rfl rfl rfl fun hg => (spec_move rfl (Get.tmp rfl)))
    apply Head.one rfl rfl (GSpec.guard rfl rfl rfl fun hg => (spec_eqlS rfl (Get.opt rfl hg) (Get.opt rfl hg)))
    apply Head.one rfl rfl (GSpec.plain rfl (spec_and rfl (Get.tmp rfl) (fun hb => (Get.opt rfl hb))))
    apply Head.one rfl rfl (GSpec.plain rfl (spec_assign rfl (Get.tmp rfl)))
    exact Head.nil
  refine Fin.one ?_
  refine Fin.one ?_
  refine Fin.one ?_
  refine Fin.one ?_
  refine Fin.one ?_
  refine Fin.one ?_
  refine Fin.one ?_
  refine Fin.one ?_
  refine Fin.one ?_
  refine Fin.one ?_
  refine Fin.one ?_
  refine Fin.one ?_
  refine Fin.one ?_
  refine Fin.one ?_
  refine Fin.one ?_
  refine Fin.one ?_
  refine Fin.one ?_
  refine Fin.one ?_
  refine Fin.one ?_
  refine Fin.one ?_
  refine Fin.one ?_
  refine Fin.one ?_
  refine Fin.nil ?_
  refine L.nt ?_
  refine W.keep (.cons (t := 4) rfl .nil) .refl ?_
  refine W.ret ?_
  refine N.ret () rfl (.tmp (t := 4) (Get.tmp rfl) .nil) (res1 (eqB ?_)) .nil (fun _ _ h => h)
  rfl

theorem prefix_ok (op : Int) : CallT Tryz.prog 149 [Rp.int .i64 op] [] (.one (Rp.str (prefM op))) := by
  refine W.enter (fn := Tryz.f149) (n := 10) Tryz.func149 rfl Tryz.ntmps149 rfl (fun w₀ C₀ => ?_)
  simp only [argS]
  refine W.sr ?_
  refine L.p1 rfl rfl rfl (spec_assign rfl (Get.cstr (l := []) rfl rfl)) ?_
  refine L.nt ?_
  refine W.seq ?_
  refine W.sr ?_
  refine L.mv rfl rfl rfl rfl rfl ?_
  refine L.nt ?_
  refine W.block ?_
  refine W.sr ?_
  refine L.p1 rfl rfl rfl (spec_eql rfl (Get.tmp rfl) (Get.cint rfl)) ?_
  refine L.as rfl rfl rfl rfl rfl ?_
  refine L.nt ?_
  refine W.cond (Get.tmp rfl) (fun h1 => ?_) (fun h1 => ?_)
  · have ph1 := h1; try simp only [sbx] at ph1
    refine W.sr ?_
    refine L.p1 rfl rfl rfl (spec_assign rfl (Get.cstr (l := [33]) rfl rfl)) ?_
    refine L.nt ?_
    refine W.ret ?_
    refine N.ret () rfl (.tmp (t := 2) (Get.tmp rfl) .nil) (res1 (eqS ?_)) .nil (fun _ _ h => h)
    simp_all [prefM]
  · have ph1 := h1; try simp only [sbx] at ph1
    refine W.sr ?_
    refine L.p1 rfl rfl rfl (spec_eql rfl (Get.tmp rfl) (Get.cint rfl)) ?_
    refine L.as rfl rfl rfl rfl rfl ?_
    refine L.nt ?_
    refine W.cond (Get.tmp rfl) (fun h2 => ?_) (fun h2 => ?_)
    · have ph2 := h2; try simp only [sbx] at ph2
      refine W.sr ?_
      refine L.p1 rfl rfl rfl (spec_assign rfl (Get.cstr (l := [126]) rfl rfl)) ?_
      refine L.nt ?_
      refine W.keep (.cons (t := 2) rfl .nil) .refl ?_
      refine W.ret ?_
      refine N.ret () rfl (.tmp (t := 2) (Get.tmp rfl) .nil) (res1 (eqS ?_)) .nil (fun _ _ h => h)
      simp_all [prefM]
    · have ph2 := h2; try simp only [sbx] at ph2
      refine W.sr ?_
      refine L.p1 rfl rfl rfl (spec_eql rfl (Get.tmp rfl) (Get.cint rfl)) ?_
      refine L.as rfl rfl rfl rfl rfl ?_
      refine L.nt ?_
      refine W.keep (.cons (t := 2) rfl (.cons (t := 8) rfl .nil)) .refl ?_
      refine W.cond (Get.tmp rfl) (fun h3 => ?_) (fun h3 => ?_)
      · have ph3 := h3; try simp only [sbx] at ph3
        refine W.sr ?_
        refine L.p1 rfl rfl rfl (spec_assign rfl (Get.cstr (l := [45]) rfl rfl)) ?_
        refine L.nt ?_
        refine W.ret ?_
        refine N.ret () rfl (.tmp (t := 2) (Get.tmp rfl) .nil) (res1 (eqS ?_)) .nil (fun _ _ h => h)
        simp_all [prefM]
      · have ph3 := h3; try simp only [sbx] at ph3
        refine W.skip ?_
        refine N.blockNormal ?_
        refine N.thenW ?_
        refine W.sr ?_
        refine L.p1 rfl rfl rfl (spec_assign rfl (Get.cstr (l := []) rfl rfl)) ?_
        refine L.nt ?_
        refine W.ret ?_
        refine N.ret () rfl (.tmp (t := 2) (Get.tmp rfl) .nil) (res1 (eqS ?_)) .nil (fun _ _ h => h)
        simp_all [prefM]

theorem sign_ok (op : Int) : CallT Tryz.prog 170 [Rp.int .i64 op] [] (.one (Rp.tuple [Rp.str (signM op), Rp.int .i64 (signL op)])) := by
  refine W.enter (fn := Tryz.f170) (n := 33) Tryz.func170 rfl Tryz.ntmps170 rfl (fun w₀ C₀ => ?_)
  simp only [argS]
  refine W.sr ?_
  refine L.p1 rfl rfl rfl (spec_assign rfl (Get.cstr (l := []) rfl rfl)) ?_
  refine L.p1 rfl rfl rfl (spec_assign rfl (Get.cint rfl)) ?_
  refine L.nt ?_
  refine W.seq ?_
  refine W.sr ?_
  refine L.mv rfl rfl rfl rfl rfl ?_
  refine L.nt ?_
  refine W.block ?_
  refine W.sr ?_
  refine L.p1 rfl rfl rfl (spec_eql rfl (Get.tmp rfl) (Get.cint rfl)) ?_
  refine L.as rfl rfl rfl rfl rfl ?_
  refine L.nt ?_
  refine W.cond (Get.tmp rfl) (fun h1 => ?_) (fun h1 => ?_)
  · have ph1 := h1; try simp only [sbx] at ph1
    refine W.sr ?_
    refine L.p1 rfl rfl rfl (spec_assign rfl (Get.cstr (l := [124, 124]) rfl rfl)) ?_
    refine L.p1 rfl rfl rfl (spec_assign rfl (Get.cint rfl)) ?_
    refine L.nt ?_
    refine W.keep (.cons (t := 2) rfl (.cons (t := 3) rfl .nil)) .refl ?_
    refine W.ret ?_
    refine N.ret () rfl (.tmp (t := 2) (Get.tmp rfl) (.tmp (t := 3) (Get.tmp rfl) .nil)) (res2w (eqS ?_) (eqI ?_)) .nil (fun _ _ h => h)
    all_goals simp_all [signM, signL]
  · have ph1 := h1; try simp only [sbx] at ph1
    refine W.sr ?_
    refine L.p1 rfl rfl rfl (spec_eql rfl (Get.tmp rfl) (Get.cint rfl)) ?_
    refine L.as rfl rfl rfl rfl rfl ?_
    refine L.nt ?_
    refine W.keep (.cons (t := 2) rfl (.cons (t := 3) rfl (.cons (t := 4) rfl (.cons (t := 7) rfl .nil)))) .refl ?_
    refine W.cond (Get.tmp rfl) (fun h2 => ?_) (fun h2 => ?_)
    · have ph2 := h2; try simp only [sbx] at ph2
      refine W.sr ?_
      refine L.p1 rfl rfl rfl (spec_assign rfl (Get.cstr (l := [38, 38]) rfl rfl)) ?_
      refine L.p1 rfl rfl rfl (spec_assign rfl (Get.cint rfl)) ?_
      refine L.nt ?_
      refine W.ret ?_
      refine N.ret () rfl (.tmp (t := 2) (Get.tmp rfl) (.tmp (t := 3) (Get.tmp rfl) .nil)) (res2w (eqS ?_) (eqI ?_)) .nil (fun _ _ h => h)
      all_goals simp_all [signM, signL]
    · have ph2 := h2; try simp only [sbx] at ph2
      refine W.sr ?_
      refine L.p1 rfl rfl rfl (spec_eql rfl (Get.tmp rfl) (Get.cint rfl)) ?_
      refine L.as rfl rfl rfl rfl rfl ?_
      refine L.nt ?_
      refine W.cond (Get.tmp rfl) (fun h3 => ?_) (fun h3 => ?_)
      · have ph3 := h3; try simp only [sbx] at ph3
        refine W.sr ?_
        refine L.p1 rfl rfl rfl (spec_assign rfl (Get.cstr (l := [124]) rfl rfl)) ?_
        refine L.p1 rfl rfl rfl (spec_assign rfl (Get.cint rfl)) ?_
        refine L.nt ?_
        refine W.keep (.cons (t := 2) rfl (.cons (t := 3) rfl .nil)) .refl ?_
        refine W.ret ?_
        refine N.ret () rfl (.tmp (t := 2) (Get.tmp rfl) (.tmp (t := 3) (Get.tmp rfl) .nil)) (res2w (eqS ?_) (eqI ?_)) .nil (fun _ _ h => h)
        all_goals simp_all [signM, signL]
      · have ph3 := h3; try simp only [sbx] at ph3
        refine W.sr ?_
        refine L.p1 rfl rfl rfl (spec_eql rfl (Get.tmp rfl) (Get.cint rfl)) ?_
        refine L.as rfl rfl rfl rfl rfl ?_
        refine L.nt ?_
        refine W.cond (Get.tmp rfl) (fun h4 => ?_) (fun h4 => ?_)
        · have ph4 := h4; try simp only [sbx] at ph4
          refine W.sr ?_
          refine L.p1 rfl rfl rfl (spec_assign rfl (Get.cstr (l := [94]) rfl rfl)) ?_
          refine L.p1 rfl rfl rfl (spec_assign rfl (Get.cint rfl)) ?_
          refine L.nt ?_
          refine W.keep (.cons (t := 2) rfl (.cons (t := 3) rfl .nil)) .refl ?_
          refine W.ret ?_
          refine N.ret () rfl (.tmp (t := 2) (Get.tmp rfl) (.tmp (t := 3) (Get.tmp rfl) .nil)) (res2w (eqS ?_) (eqI ?_)) .nil (fun _ _ h => h)
          all_goals simp_all [signM, signL]
        · have ph4 := h4; try simp only [sbx] at ph4
          refine W.sr ?_
          refine L.p1 rfl rfl rfl (spec_eql rfl (Get.tmp rfl) (Get.cint rfl)) ?_
          refine L.as rfl rfl rfl rfl rfl ?_
          refine L.nt ?_
          refine W.keep (.cons (t := 2) rfl (.cons (t := 3) rfl (.cons (t := 4) rfl (.cons (t := 13) rfl .nil)))) .refl ?_
          refine W.cond (Get.tmp rfl) (fun h5 => ?_) (fun h5 => ?_)
          · have ph5 := h5; try simp only [sbx] at ph5
            refine W.sr ?_
            refine L.p1 rfl rfl rfl (spec_assign rfl (Get.cstr (l := [38]) rfl rfl)) ?_
            refine L.p1 rfl rfl rfl (spec_assign rfl (Get.cint rfl)) ?_
            refine L.nt ?_
            refine W.ret ?_
            refine N.ret () rfl (.tmp (t := 2) (Get.tmp rfl) (.tmp (t := 3) (Get.tmp rfl) .nil)) (res2w (eqS ?_) (eqI ?_)) .nil (fun _ _ h => h)
            all_goals simp_all [signM, signL]
          · have ph5 := h5; try simp only [sbx] at ph5
            refine W.sr ?_
            refine L.p1 rfl rfl rfl (spec_eql rfl (Get.tmp rfl) (Get.cint rfl)) ?_
            refine L.as rfl rfl rfl rfl rfl ?_
            refine L.nt ?_
            refine W.cond (Get.tmp rfl) (fun h6 => ?_) (fun h6 => ?_)
            · have ph6 := h6; try simp only [sbx] at ph6
              refine W.sr ?_
              refine L.p1 rfl rfl rfl (spec_assign rfl (Get.cstr (l := [61, 61]) rfl rfl)) ?_
              refine L.p1 rfl rfl rfl (spec_assign rfl (Get.cint rfl)) ?_
              refine L.nt ?_
              refine W.keep (.cons (t := 2) rfl (.cons (t := 3) rfl .nil)) .refl ?_
              refine W.ret ?_
              refine N.ret () rfl (.tmp (t := 2) (Get.tmp rfl) (.tmp (t := 3) (Get.tmp rfl) .nil)) (res2w (eqS ?_) (eqI ?_)) .nil (fun _ _ h => h)
              all_goals simp_all [signM, signL]
            · have ph6 := h6; try simp only [sbx] at ph6
              refine W.sr ?_
              refine L.p1 rfl rfl rfl (spec_eql rfl (Get.tmp rfl) (Get.cint rfl)) ?_
              refine L.as rfl rfl rfl rfl rfl ?_
              refine L.nt ?_
              refine W.cond (Get.tmp rfl) (fun h7 => ?_) (fun h7 => ?_)
              · have ph7 := h7; try simp only [sbx] at ph7
                refine W.sr ?_
                refine L.p1 rfl rfl rfl (spec_assign rfl (Get.cstr (l := [33, 61]) rfl rfl)) ?_
                refine L.p1 rfl rfl rfl (spec_assign rfl (Get.cint rfl)) ?_
                refine L.nt ?_
                refine W.keep (.cons (t := 2) rfl (.cons (t := 3) rfl .nil)) .refl ?_
                refine W.ret ?_
                refine N.ret () rfl (.tmp (t := 2) (Get.tmp rfl) (.tmp (t := 3) (Get.tmp rfl) .nil)) (res2w (eqS ?_) (eqI ?_)) .nil (fun _ _ h => h)
                all_goals simp_all [signM, signL]
              · have ph7 := h7; try simp only [sbx] at ph7
                refine W.sr ?_
                refine L.p1 rfl rfl rfl (spec_eql rfl (Get.tmp rfl) (Get.cint rfl)) ?_
                refine L.as rfl rfl rfl rfl rfl ?_
                refine L.nt ?_
                refine W.keep (.cons (t := 2) rfl (.cons (t := 3) rfl (.cons (t := 4) rfl (.cons (t := 19) rfl .nil)))) .refl ?_
                refine W.cond (Get.tmp rfl) (fun h8 => ?_) (fun h8 => ?_)
                · have ph8 := h8; try simp only [sbx] at ph8
                  refine W.sr ?_
                  refine L.p1 rfl rfl rfl (spec_assign rfl (Get.cstr (l := [60]) rfl rfl)) ?_
                  refine L.p1 rfl rfl rfl (spec_assign rfl (Get.cint rfl)) ?_
                  refine L.nt ?_
                  refine W.ret ?_
                  refine N.ret () rfl (.tmp (t := 2) (Get.tmp rfl) (.tmp (t := 3) (Get.tmp rfl) .nil)) (res2w (eqS ?_) (eqI ?_)) .nil (fun _ _ h => h)
                  all_goals simp_all [signM, signL]
                · have ph8 := h8; try simp only [sbx] at ph8
                  refine W.sr ?_
                  refine L.p1 rfl rfl rfl (spec_eql rfl (Get.tmp rfl) (Get.cint rfl)) ?_
                  refine L.as rfl rfl rfl rfl rfl ?_
                  refine L.nt ?_
                  refine W.cond (Get.tmp rfl) (fun h9 => ?_) (fun h9 => ?_)
                  · have ph9 := h9; try simp only [sbx] at ph9
                    refine W.sr ?_
                    refine L.p1 rfl rfl rfl (spec_assign rfl (Get.cstr (l := [60, 61]) rfl rfl)) ?_
                    refine L.p1 rfl rfl rfl (spec_assign rfl (Get.cint rfl)) ?_
                    refine L.nt ?_
                    refine W.keep (.cons (t := 2) rfl (.cons (t := 3) rfl .nil)) .refl ?_
                    refine W.ret ?_
                    refine N.ret () rfl (.tmp (t := 2) (Get.tmp rfl) (.tmp (t := 3) (Get.tmp rfl) .nil)) (res2w (eqS ?_) (eqI ?_)) .nil (fun _ _ h => h)
                    all_goals simp_all [signM, signL]
                  · have ph9 := h9; try simp only [sbx] at ph9
                    refine W.sr ?_
                    refine L.p1 rfl rfl rfl (spec_eql rfl (Get.tmp rfl) (Get.cint rfl)) ?_
                    refine L.as rfl rfl rfl rfl rfl ?_
                    refine L.nt ?_
                    refine W.cond (Get.tmp rfl) (fun h10 => ?_) (fun h10 => ?_)
                    · have ph10 := h10; try simp only [sbx] at ph10
                      refine W.sr ?_
                      refine L.p1 rfl rfl rfl (spec_assign rfl (Get.cstr (l := [60, 60]) rfl rfl)) ?_
                      refine L.p1 rfl rfl rfl (spec_assign rfl (Get.cint rfl)) ?_
                      refine L.nt ?_
                      refine W.keep (.cons (t := 2) rfl (.cons (t := 3) rfl .nil)) .refl ?_
                      refine W.ret ?_
                      refine N.ret () rfl (.tmp (t := 2) (Get.tmp rfl) (.tmp (t := 3) (Get.tmp rfl) .nil)) (res2w (eqS ?_) (eqI ?_)) .nil (fun _ _ h => h)
                      all_goals simp_all [signM, signL]
                    · have ph10 := h10; try simp only [sbx] at ph10
                      refine W.sr ?_
                      refine L.p1 rfl rfl rfl (spec_eql rfl (Get.tmp rfl) (Get.cint rfl)) ?_
                      refine L.as rfl rfl rfl rfl rfl ?_
                      refine L.nt ?_
                      refine W.keep (.cons (t := 2) rfl (.cons (t := 3) rfl (.cons (t := 4) rfl (.cons (t := 25) rfl .nil)))) .refl ?_
                      refine W.cond (Get.tmp rfl) (fun h11 => ?_) (fun h11 => ?_)
                      · have ph11 := h11; try simp only [sbx] at ph11
                        refine W.sr ?_
                        refine L.p1 rfl rfl rfl (spec_assign rfl (Get.cstr (l := [62, 62]) rfl rfl)) ?_
                        refine L.p1 rfl rfl rfl (spec_assign rfl (Get.cint rfl)) ?_
                        refine L.nt ?_
                        refine W.ret ?_
                        refine N.ret () rfl (.tmp (t := 2) (Get.tmp rfl) (.tmp (t := 3) (Get.tmp rfl) .nil)) (res2w (eqS ?_) (eqI ?_)) .nil (fun _ _ h => h)
                        all_goals simp_all [signM, signL]
                      · have ph11 := h11; try simp only [sbx] at ph11
                        refine W.sr ?_
                        refine L.p1 rfl rfl rfl (spec_eql rfl (Get.tmp rfl) (Get.cint rfl)) ?_
                        refine L.as rfl rfl rfl rfl rfl ?_
                        refine L.nt ?_
                        refine W.cond (Get.tmp rfl) (fun h12 => ?_) (fun h12 => ?_)
                        · have ph12 := h12; try simp only [sbx] at ph12
                          refine W.sr ?_
                          refine L.p1 rfl rfl rfl (spec_assign rfl (Get.cstr (l := [43]) rfl rfl)) ?_
                          refine L.p1 rfl rfl rfl (spec_assign rfl (Get.cint rfl)) ?_
                          refine L.nt ?_
                          refine W.keep (.cons (t := 2) rfl (.cons (t := 3) rfl .nil)) .refl ?_
                          refine W.ret ?_
                          refine N.ret () rfl (.tmp (t := 2) (Get.tmp rfl) (.tmp (t := 3) (Get.tmp rfl) .nil)) (res2w (eqS ?_) (eqI ?_)) .nil (fun _ _ h => h)
                          all_goals simp_all [signM, signL]
                        · have ph12 := h12; try simp only [sbx] at ph12
                          refine W.sr ?_
                          refine L.p1 rfl rfl rfl (spec_eql rfl (Get.tmp rfl) (Get.cint rfl)) ?_
                          refine L.as rfl rfl rfl rfl rfl ?_
                          refine L.nt ?_
                          refine W.cond (Get.tmp rfl) (fun h13 => ?_) (fun h13 => ?_)
                          · have ph13 := h13; try simp only [sbx] at ph13
                            refine W.sr ?_
                            refine L.p1 rfl rfl rfl (spec_assign rfl (Get.cstr (l := [45]) rfl rfl)) ?_
                            refine L.p1 rfl rfl rfl (spec_assign rfl (Get.cint rfl)) ?_
                            refine L.nt ?_
                            refine W.keep (.cons (t := 2) rfl (.cons (t := 3) rfl .nil)) .refl ?_
                            refine W.ret ?_
                            refine N.ret () rfl (.tmp (t := 2) (Get.tmp rfl) (.tmp (t := 3) (Get.tmp rfl) .nil)) (res2w (eqS ?_) (eqI ?_)) .nil (fun _ _ h => h)
                            all_goals simp_all [signM, signL]
                          · have ph13 := h13; try simp only [sbx] at ph13
                            refine W.sr ?_
                            refine L.p1 rfl rfl rfl (spec_eql rfl (Get.tmp rfl) (Get.cint rfl)) ?_
                            refine L.as rfl rfl rfl rfl rfl ?_
                            refine L.nt ?_
                            refine W.keep (.cons (t := 2) rfl (.cons (t := 3) rfl (.cons (t := 31) rfl .nil))) .refl ?_
                            refine W.cond (Get.tmp rfl) (fun h14 => ?_) (fun h14 => ?_)
                            · have ph14 := h14; try simp only [sbx] at ph14
                              refine W.sr ?_
                              refine L.p1 rfl rfl rfl (spec_assign rfl (Get.cstr (l := [42]) rfl rfl)) ?_
                              refine L.p1 rfl rfl rfl (spec_assign rfl (Get.cint rfl)) ?_
                              refine L.nt ?_
                              refine W.ret ?_
                              refine N.ret () rfl (.tmp (t := 2) (Get.tmp rfl) (.tmp (t := 3) (Get.tmp rfl) .nil)) (res2w (eqS ?_) (eqI ?_)) .nil (fun _ _ h => h)
                              all_goals simp_all [signM, signL]
                            · have ph14 := h14; try simp only [sbx] at ph14
                              refine W.skip ?_
                              refine N.blockNormal ?_
                              refine N.thenW ?_
                              refine W.sr ?_
                              refine L.p1 rfl rfl rfl (spec_assign rfl (Get.cstr (l := []) rfl rfl)) ?_
                              refine L.p1 rfl rfl rfl (spec_assign rfl (Get.cint rfl)) ?_
                              refine L.nt ?_
                              refine W.ret ?_
                              refine N.ret () rfl (.tmp (t := 2) (Get.tmp rfl) (.tmp (t := 3) (Get.tmp rfl) .nil)) (res2w (eqS ?_) (eqI ?_)) .nil (fun _ _ h => h)
                              all_goals simp_all [signM, signL]

theorem oper_ok (l : List Tk) (a : Nat) (hl : Toks l) (ha : a ≤ l.length) (place : Int) (h9 : place = 9 → isE l a [62] = false ∧ isE l a [62, 61] = false) : CallT Tryz.prog 152 [Rp.at (rdR l a), Rp.int .i64 place] [] (.one (Rp.tuple [Rp.int .i64 (operP l a place), Rp.bool false])) := by
  refine W.enter (fn := Tryz.f152) (n := 39) Tryz.func152 rfl Tryz.ntmps152 rfl (fun w₀ C₀ => ?_)
  simp only [argS]
  have hl1 := hl.1
  refine W.sr ?_
  refine L.p1 rfl rfl rfl (spec_assign rfl (Get.cint rfl)) ?_
  refine L.p1 rfl rfl rfl (spec_assign rfl Get.cbool) ?_
  refine L.nt ?_
  refine W.seq ?_
  refine W.sr ?_
  refine L.mv rfl rfl rfl rfl rfl ?_
  refine L.p1 rfl rfl rfl (spec_eql rfl (Get.tmp rfl) (Get.cint rfl)) ?_
  refine L.mv rfl rfl rfl rfl rfl ?_
  refine L.op1 rfl rfl (GSpec.guard rfl rfl rfl fun hg => (spec_move rfl (Get.tmp rfl))) ?_
  refine L.op1 rfl rfl (GSpec.guard rfl rfl rfl fun hg => (spec_call rfl Tryz.call148 (is_ok l a hl ha _) (.cons (Get.opt rfl hg) (.cons (Get.cstr (l := [62]) rfl rfl) .nil)))) ?_
  refine L.p1 rfl rfl rfl (spec_and rfl (Get.tmp rfl) (fun hb => (Get.opt rfl hb))) ?_
  refine L.nt ?_
  refine W.keep (.cons (t := 0) rfl (.cons (t := 1) rfl (.cons (t := 4) rfl (.cons (t := 5) rfl (.cons (t := 14) rfl .nil))))) .refl ?_
  refine W.cond (Get.tmp rfl) (fun h1 => ?_) (fun h1 => ?_)
  · exfalso; have h := h1; rw [Bool.and_eq_true, decide_eq_true_eq] at h; have := h9 h.1; rw [this.1] at h; exact absurd h.2 (by simp)
  · have ph1 := h1; try simp only [sbx] at ph1
    refine W.skip ?_
    refine N.thenW ?_
    refine W.seq ?_
    refine W.sr ?_
    refine L.mv rfl rfl rfl rfl rfl ?_
    refine L.p1 rfl rfl rfl (spec_eql rfl (Get.tmp rfl) (Get.cint rfl)) ?_
    refine L.mv rfl rfl rfl rfl rfl ?_
    refine L.op1 rfl rfl (GSpec.guard rfl rfl rfl fun hg => (spec_move rfl (Get.tmp rfl))) ?_
    refine L.op1 rfl rfl (GSpec.guard rfl rfl rfl fun hg => (spec_call rfl Tryz.call148 (is_ok l a hl ha _) (.cons (Get.opt rfl hg) (.cons (Get.cstr (l := [62, 61]) rfl rfl) .nil)))) ?_
    refine L.p1 rfl rfl rfl (spec_and rfl (Get.tmp rfl) (fun hb => (Get.opt rfl hb))) ?_
    refine L.nt ?_
    refine W.keep (.cons (t := 0) rfl (.cons (t := 1) rfl (.cons (t := 4) rfl (.cons (t := 5) rfl (.cons (t := 20) rfl .nil))))) .refl ?_
    refine W.cond (Get.tmp rfl) (fun h2 => ?_) (fun h2 => ?_)
    · exfalso; have h := h2; rw [Bool.and_eq_true, decide_eq_true_eq] at h; have := h9 h.1; rw [this.2] at h; exact absurd h.2 (by simp)
    · have ph2 := h2; try simp only [sbx] at ph2
      refine W.skip ?_
      refine N.thenW ?_
      refine W.seq ?_
      refine W.sr ?_
      refine L.p1 rfl rfl rfl (spec_assign rfl (Get.cint rfl)) ?_
      refine L.nt ?_
      refine W.block ?_
      refine W.loopK (σ := Nat) (.cons (t := 0) rfl (.cons (t := 1) rfl .nil)) (fun z => [(6, Rp.int .i64 ((z : Int) + 7))]) (fun z => []) (fun z => z ≤ 14 ∧ ∀ j : Nat, j < z → opB l a place j = false) (fun z => 14 - z) 0 ⟨Nat.zero_le _, fun j hj => by omega⟩ (.cons (t := 6) rfl .nil) .nil ?_
      intro i hI S' M' hS hM
      obtain ⟨hI1, hI2⟩ := hI
      try dsimp only at hS hM
      simp only [List.cons_append, List.nil_append] at hS hM
      subst hS hM
      try dsimp only
      refine W.seq ?_
      refine W.sr ?_
      refine L.mv rfl rfl rfl rfl rfl ?_
      refine L.p1 rfl rfl rfl (spec_leq rfl (Get.tmp rfl) (Get.cint rfl)) ?_
      refine L.nt ?_
      refine W.cond (Get.tmp rfl) (fun h3 => ?_) (fun h3 => ?_)
      · have ph3 := h3; try simp only [sbx] at ph3
        refine W.skip ?_
        refine N.thenW ?_
        refine W.seq ?_
        refine W.block ?_
        refine W.sr ?_
        refine L.mv rfl rfl rfl rfl rfl ?_
        refine L.p1 rfl rfl rfl (spec_call rfl Tryz.call170 (sign_ok _) (.cons (Get.tmp rfl) .nil)) ?_
        refine L.mv rfl rfl rfl rfl rfl ?_
        refine L.p1 rfl rfl rfl (spec_extract rfl (Get.tmp rfl) rfl) ?_
        refine L.p1 rfl rfl rfl (spec_extract rfl (Get.tmp rfl) rfl) ?_
        refine L.as rfl rfl rfl rfl rfl ?_
        refine L.as rfl rfl rfl rfl rfl ?_
        refine L.nt ?_
        refine W.sr ?_
        refine L.mv rfl rfl rfl rfl rfl ?_
        refine L.mv rfl rfl rfl rfl rfl ?_
        refine L.p1 rfl rfl rfl (spec_eql rfl (Get.tmp rfl) (Get.tmp rfl)) ?_
        refine L.mv rfl rfl rfl rfl rfl ?_
        refine L.op1 rfl rfl (GSpec.guard rfl rfl rfl fun hg => (spec_move rfl (Get.tmp rfl))) ?_
        refine L.op1 rfl rfl (GSpec.guard rfl rfl rfl fun hg => (spec_move rfl (Get.tmp rfl))) ?_
        refine L.op1 rfl rfl (GSpec.guard rfl rfl rfl fun hg => (spec_call rfl Tryz.call148 (is_ok l a hl ha _) (.cons (Get.opt rfl hg) (.cons (Get.opt rfl hg) .nil)))) ?_
        refine L.p1 rfl rfl rfl (spec_and rfl (Get.tmp rfl) (fun hb => (Get.opt rfl hb))) ?_
        refine L.nt ?_
        refine W.cond (Get.tmp rfl) (fun h4 => ?_) (fun h4 => ?_)
        · have ph4 := h4; try simp only [sbx] at ph4
          refine W.sr ?_
          refine L.mv rfl rfl rfl rfl rfl ?_
          refine L.as rfl rfl rfl rfl rfl ?_
          refine L.p1 rfl rfl rfl (spec_assign rfl Get.cbool) ?_
          refine L.nt ?_
          refine W.ret ?_
          refine N.ret () rfl (.tmp (t := 4) (Get.tmp rfl) (.tmp (t := 5) (Get.tmp rfl) .nil)) (res2w (eqI ?_) (eqB ?_)) .nil (fun _ _ h => h)
          all_goals first | rfl | exact (oper_yes (by omega) h4 hI2).symm
        · have ph4 := h4; try simp only [sbx] at ph4
          refine W.skip ?_
          refine N.blockNormal ?_
          refine N.thenW ?_
          refine W.region ?_
          refine L.mv rfl rfl rfl rfl rfl ?_
          first | refine L.op1 rfl rfl (GSpec.plain rfl (fit_i64 (by omega) (by omega) (spec_add rfl (Get.tmp rfl) (Get.cint rfl)))) ?_ | refine L.op1 rfl rfl (GSpec.plain rfl (spec_add rfl (Get.tmp rfl) (Get.cint rfl))) ?_
          refine L.as rfl rfl rfl rfl rfl ?_
          refine L.nil ?_
          refine N.roundK (i + 1) ?hI1 ?hmu1 ?hs1 ?hk1 ?hp1
          case hs1 => exact (.weak (t := 6) rfl (eqI (by omega)) .nil)
          case hk1 => exact (.cons (t := 0) rfl (.cons (t := 1) rfl .nil))
          case hp1 => exact .nil
          case hI1 => exact ⟨by omega, upto hI2 h4⟩
          case hmu1 => omega
      · have ph3 := h3; try simp only [sbx] at ph3
        refine W.exit ?_
        refine N.thenExit ?_
        refine N.thenExit ?_
        refine N.blockExit ?_
        refine N.thenW ?_
        refine W.sr ?_
        refine L.p1 rfl rfl rfl (spec_assign rfl (Get.cint rfl)) ?_
        refine L.p1 rfl rfl rfl (spec_assign rfl Get.cbool) ?_
        refine L.nt ?_
        refine W.ret ?_
        refine N.ret () rfl (.tmp (t := 4) (Get.tmp rfl) (.tmp (t := 5) (Get.tmp rfl) .nil)) (res2w (eqI ?_) (eqB ?_)) .nil (fun _ _ h => h)
        all_goals first | rfl | exact (oper_no fun j hj => hI2 j (by omega)).symm

end Go.Proofs.YthlfacmpjehjmaaGreatDoor
set_option linter.unusedSimpArgs false
set_option maxRecDepth 8000
set_option linter.unusedVariables false
namespace Go.Proofs.YthlfacmpjehjmaaGreatDoor
open Go.Sim
theorem need_ok (l : List Tk) (a : Nat) (hl : Toks l) (r : Nat) (s : List UInt8) (h : isE l a s = true) : CallT Tryz.prog 150 [Rp.ptr r 0, Rp.str s] [MF.box r 181 (rdR l a)] ((⟨Unit, fun _ => Rp.tuple [], fun _ => [MF.box r 181 (rdR l (a + 1))]⟩ : RA)) := by
  refine W.enter (fn := Tryz.f150) (n := 17) Tryz.func150 rfl Tryz.ntmps150 rfl (fun w₀ C₀ => ?_)
  simp only [argS]
  have hlt := is_lt h
  have hl1 := hl.1
  refine W.seq ?_
  refine W.sr ?_
  refine L.mv rfl rfl rfl rfl rfl ?_
  refine L.mv rfl rfl rfl rfl rfl ?_
  refine L.p1 rfl rfl rfl (spec_callB rfl Tryz.call148 (is_ok l a hl (by omega) s) (.cons (Get.tmp rfl) (.cons (Get.tmp rfl) .nil)) (.cons (.box 0 rfl (.cons .same (.cons .same (.cons .same .nil)))) (.cons .same .nil))) ?_
  refine L.p1 rfl rfl rfl (spec_not rfl (Get.tmp rfl)) ?_
  refine L.nt ?_
  refine W.cond (Get.tmp rfl) (fun h1 => ?_) (fun h1 => ?_)
  · exfalso; have hq := h1; rw [h] at hq; cases hq
  · have ph1 := h1; try simp only [sbx] at ph1
    refine W.skip ?_
    refine N.thenW ?_
    refine W.region ?_
    refine L.mv rfl rfl rfl rfl rfl ?_
    refine L.p1 rfl rfl rfl (spec_nilCheck rfl (Get.tmp rfl)) ?_
    refine L.p1 rfl rfl rfl (spec_fieldAddr (f := 1) (off' := 1) rfl Tryz.underlying181 rfl Tryz.sizeOf3 (Get.tmp rfl) rfl) ?_
    refine L.p1 rfl rfl rfl (spec_load1 (k := 0) rfl Tryz.isAgg3 (Get.tmp rfl) rfl rfl) ?_
    first | refine L.op1 rfl rfl (GSpec.plain rfl (fit_i64 (by (first | omega | (simp only [Int.toNat_natCast]; omega))) (by (first | omega | (simp only [Int.toNat_natCast]; omega))) (spec_add rfl (Get.tmp rfl) (Get.cint rfl)))) ?_ | refine L.op1 rfl rfl (GSpec.plain rfl (spec_add rfl (Get.tmp rfl) (Get.cint rfl))) ?_
    refine L.p1 rfl rfl rfl (spec_nilCheck rfl (Get.tmp rfl)) ?_
    refine L.p1 rfl rfl rfl (spec_fieldAddr (f := 1) (off' := 1) rfl Tryz.underlying181 rfl Tryz.sizeOf3 (Get.tmp rfl) rfl) ?_
    refine L.storeB (k := 0) rfl rfl rfl Tryz.sizeOf3 (Get.tmp rfl) (Get.tmp rfl) rfl rfl ?_
    refine L.nil ?_
    refine N.ret (X := ((⟨Unit, fun _ => Rp.tuple [], fun _ => [MF.box r 181 (rdR l (a + 1))]⟩ : RA))) () rfl .nil res0 (.cons 0 rfl .nil) (fun _ _ h => h)
    skip

theorem nameT_ok (l : List Tk) (a : Nat) (hl : Toks l) (r : Nat) (h : kindE l a = 1) : CallT Tryz.prog 167 [Rp.ptr r 0] [MF.box r 181 (rdR l a)] ((⟨Unit, fun _ => Rp.str (l.getD a default).text, fun _ => [MF.box r 181 (rdR l (a + 1))]⟩ : RA)) := by
  refine W.enter (fn := Tryz.f167) (n := 27) Tryz.func167 rfl Tryz.ntmps167 rfl (fun w₀ C₀ => ?_)
  simp only [argS]
  have hlt := kind_lt (l := l) (a := a) (by omega)
  have hl1 := hl.1
  refine W.sr ?_
  refine L.p1 rfl rfl rfl (spec_assign rfl (Get.cstr (l := []) rfl rfl)) ?_
  refine L.nt ?_
  refine W.keep (.cons (t := 0) rfl (.cons (t := 2) rfl .nil)) .refl ?_
  refine W.seq ?_
  refine W.sr ?_
  refine L.mv rfl rfl rfl rfl rfl ?_
  refine L.p1 rfl rfl rfl (spec_callB rfl Tryz.call165 (kind_ok l a hl (by omega)) (.cons (Get.tmp rfl) .nil) (.cons (.box 0 rfl (.cons .same (.cons .same (.cons .same .nil)))) .nil)) ?_
  refine L.p1 rfl rfl rfl (spec_neq rfl (Get.tmp rfl) (Get.cint rfl)) ?_
  refine L.nt ?_
  refine W.cond (Get.tmp rfl) (fun h1 => ?_) (fun h1 => ?_)
  · exfalso; have hq := h1; simp [h] at hq
  · have ph1 := h1; try simp only [sbx] at ph1
    refine W.skip ?_
    refine N.thenW ?_
    refine W.sr ?_
    refine L.mv rfl rfl rfl rfl rfl ?_
    refine L.p1 rfl rfl rfl (spec_nilCheck rfl (Get.tmp rfl)) ?_
    refine L.p1 rfl rfl rfl (spec_fieldAddr (f := 1) (off' := 1) rfl Tryz.underlying181 rfl Tryz.sizeOf3 (Get.tmp rfl) rfl) ?_
    refine L.p1 rfl rfl rfl (spec_load1 (k := 0) rfl Tryz.isAgg3 (Get.tmp rfl) rfl rfl) ?_
    first | refine L.op1 rfl rfl (GSpec.plain rfl (fit_i64 (by (first | omega | (simp only [Int.toNat_natCast]; omega))) (by (first | omega | (simp only [Int.toNat_natCast]; omega))) (spec_add rfl (Get.tmp rfl) (Get.cint rfl)))) ?_ | refine L.op1 rfl rfl (GSpec.plain rfl (spec_add rfl (Get.tmp rfl) (Get.cint rfl))) ?_
    refine L.p1 rfl rfl rfl (spec_nilCheck rfl (Get.tmp rfl)) ?_
    refine L.p1 rfl rfl rfl (spec_fieldAddr (f := 1) (off' := 1) rfl Tryz.underlying181 rfl Tryz.sizeOf3 (Get.tmp rfl) rfl) ?_
    refine L.storeB (k := 0) rfl rfl rfl Tryz.sizeOf3 (Get.tmp rfl) (Get.tmp rfl) rfl rfl ?_
    refine L.nt ?_
    refine W.keep (.cons (t := 0) rfl (.cons (t := 2) rfl .nil)) .refl ?_
    refine W.seq ?_
    apply W.any 13 mixed (by kernel_rfl)
    · apply Head.one rfl rfl (GSpec.plain rfl (spec_move rfl (Get.tmp rfl)))
      apply Head.one rfl rfl (GSpec.plain rfl (spec_nilCheck rfl (Get.tmp rfl)))
      apply Head.one rfl rfl (GSpec.plain rfl (spec_fieldAddr (f := 0) (off' := 0) rfl Tryz.underlying181 rfl Tryz.sizeOf144 (Get.tmp rfl) rfl))
      apply Head.one rfl rfl (GSpec.plain rfl (spec_load1 (k := 0) rfl Tryz.isAgg144 (Get.tmp rfl) rfl rfl))
      apply Head.one rfl rfl (GSpec.plain rfl (spec_move rfl (Get.tmp rfl)))
      apply Head.one rfl rfl (GSpec.plain rfl (spec_nilCheck rfl (Get.tmp rfl)))
      apply Head.one rfl rfl (GSpec.plain rfl (spec_fieldAddr (f := 1) (off' := 1) rfl Tryz.underlying181 rfl Tryz.sizeOf3 (Get.tmp rfl) rfl))
      apply Head.one rfl rfl (GSpec.plain rfl (spec_load1 (k := 0) rfl Tryz.isAgg3 (Get.tmp rfl) rfl rfl))
      first | apply Head.one rfl rfl (GSpec.plain rfl (fit_i64 (by (first | omega | (simp only [Int.toNat_natCast]; omega))) (by (first | omega | (simp only [Int.toNat_natCast]; omega))) (spec_sub rfl (Get.tmp rfl) (Get.cint rfl)))) | apply Head.one rfl rfl (GSpec.plain rfl (spec_sub rfl (Get.tmp rfl) (Get.cint rfl)))
      apply Head.one rfl rfl (GSpec.plain rfl (spec_indexAddrD (E := eTk) rfl Tryz.underlying144 Tryz.sizeOf150 (fun _ => rfl) (Get.tmp rfl) (Get.tmp rfl) (by (first | omega | (simp only [Int.toNat_natCast]; omega)))))
      apply Head.one rfl rfl (GSpec.plain rfl (spec_fieldAddrP (f := 2) rfl Tryz.underlying150 rfl Tryz.sizeOf9 (Get.tmp rfl) rfl rfl))
      apply Head.one rfl rfl (GSpec.plain rfl (spec_loadP1 rfl Tryz.isAgg9 (Get.tmp rfl)))
      apply Head.one rfl rfl (GSpec.plain rfl (spec_assign rfl (Get.tmp rfl)))
      exact Head.nil
    refine Fin.one ?_
    refine Fin.one ?_
    refine Fin.one ?_
    refine Fin.one ?_
    refine Fin.one ?_
    refine Fin.one ?_
    refine Fin.one ?_
    refine Fin.one ?_
    refine Fin.one ?_
    refine Fin.one ?_
    refine Fin.one ?_
    refine Fin.one ?_
    refine Fin.one ?_
    refine Fin.nil ?_
    refine L.nt ?_
    refine W.keep (.cons (t := 2) rfl .nil) .refl ?_
    refine W.ret ?_
    refine N.ret (X := ((⟨Unit, fun _ => Rp.str (l.getD a default).text, fun _ => [MF.box r 181 (rdR l (a + 1))]⟩ : RA))) () rfl (.tmp (t := 2) (Get.tmp rfl) .nil) (res1 (eqS ?_)) (.cons 0 rfl .nil) (fun _ _ h => h)
    show _ = _
    rw [show ((a : Int) + 1 - 1).toNat = a by omega]

theorem numT_ok (l : List Tk) (a : Nat) (hl : Toks l) (r : Nat) (h : kindE l a = 3) : CallT Tryz.prog 166 [Rp.ptr r 0] [MF.box r 181 (rdR l a)] ((⟨Unit, fun _ => Rp.int .i64 (l.getD a default).n, fun _ => [MF.box r 181 (rdR l (a + 1))]⟩ : RA)) := by
  refine W.enter (fn := Tryz.f166) (n := 33) Tryz.func166 rfl Tryz.ntmps166 rfl (fun w₀ C₀ => ?_)
  simp only [argS]
  have hlt := kind_lt (l := l) (a := a) (by omega)
  have hl1 := hl.1
  have htn := tk_n hl h
  refine W.sr ?_
  refine L.p1 rfl rfl rfl (spec_assign rfl (Get.cint rfl)) ?_
  refine L.nt ?_
  refine W.seq ?_
  refine W.sr ?_
  refine L.mv rfl rfl rfl rfl rfl ?_
  refine L.p1 rfl rfl rfl (spec_callB rfl Tryz.call165 (kind_ok l a hl (by omega)) (.cons (Get.tmp rfl) .nil) (.cons (.box 0 rfl (.cons .same (.cons .same (.cons .same .nil)))) .nil)) ?_
  refine L.p1 rfl rfl rfl (spec_neq rfl (Get.tmp rfl) (Get.cint rfl)) ?_
  refine L.nt ?_
  refine W.cond (Get.tmp rfl) (fun h1 => ?_) (fun h1 => ?_)
  · exfalso; have hq := h1; simp [h] at hq
  · have ph1 := h1; try simp only [sbx] at ph1
    refine W.skip ?_
    refine N.thenW ?_
    refine W.seq ?_
    apply W.any 12 mixed (by kernel_rfl)
    · apply Head.one rfl rfl (GSpec.plain rfl (spec_move rfl (Get.tmp rfl)))
      apply Head.one rfl rfl (GSpec.plain rfl (spec_nilCheck rfl (Get.tmp rfl)))
      apply Head.one rfl rfl (GSpec.plain rfl (spec_fieldAddr (f := 0) (off' := 0) rfl Tryz.underlying181 rfl Tryz.sizeOf144 (Get.tmp rfl) rfl))
      apply Head.one rfl rfl (GSpec.plain rfl (spec_load1 (k := 0) rfl Tryz.isAgg144 (Get.tmp rfl) rfl rfl))
      apply Head.one rfl rfl (GSpec.plain rfl (spec_move rfl (Get.tmp rfl)))
      apply Head.one rfl rfl (GSpec.plain rfl (spec_nilCheck rfl (Get.tmp rfl)))
      apply Head.one rfl rfl (GSpec.plain rfl (spec_fieldAddr (f := 1) (off' := 1) rfl Tryz.underlying181 rfl Tryz.sizeOf3 (Get.tmp rfl) rfl))
      apply Head.one rfl rfl (GSpec.plain rfl (spec_load1 (k := 0) rfl Tryz.isAgg3 (Get.tmp rfl) rfl rfl))
      apply Head.one rfl rfl (GSpec.plain rfl (spec_indexAddrD (E := eTk) rfl Tryz.underlying144 Tryz.sizeOf150 (fun _ => rfl) (Get.tmp rfl) (Get.tmp rfl) (by (first | omega | (simp only [Int.toNat_natCast]; omega)))))
      apply Head.one rfl rfl (GSpec.plain rfl (spec_fieldAddrP (f := 1) rfl Tryz.underlying150 rfl Tryz.sizeOf3 (Get.tmp rfl) rfl rfl))
      apply Head.one rfl rfl (GSpec.plain rfl (spec_loadP1 rfl Tryz.isAgg3 (Get.tmp rfl)))
      apply Head.one rfl rfl (GSpec.plain rfl (spec_assign rfl (Get.tmp rfl)))
      exact Head.nil
    refine Fin.one ?_
    refine Fin.one ?_
    refine Fin.one ?_
    refine Fin.one ?_
    refine Fin.one ?_
    refine Fin.one ?_
    refine Fin.one ?_
    refine Fin.one ?_
    refine Fin.one ?_
    refine Fin.one ?_
    refine Fin.one ?_
    refine Fin.one ?_
    refine Fin.nil ?_
    refine L.nt ?_
    refine W.keep (.cons (t := 0) rfl (.cons (t := 2) rfl (.cons (t := 3) rfl .nil))) .refl ?_
    refine W.seq ?_
    refine W.sr ?_
    refine L.mv rfl rfl rfl rfl rfl ?_
    refine L.p1 rfl rfl rfl (spec_gtr rfl (Get.tmp rfl) (Get.cint rfl)) ?_
    refine L.nt ?_
    refine W.cond (Get.tmp rfl) (fun h2 => ?_) (fun h2 => ?_)
    · exfalso; have hq := of_decide_eq_true h2; simp only [Int.toNat_natCast] at hq; omega
    · have ph2 := h2; try simp only [sbx] at ph2
      refine W.skip ?_
      refine N.thenW ?_
      refine W.sr ?_
      refine L.mv rfl rfl rfl rfl rfl ?_
      refine L.p1 rfl rfl rfl (spec_nilCheck rfl (Get.tmp rfl)) ?_
      refine L.p1 rfl rfl rfl (spec_fieldAddr (f := 1) (off' := 1) rfl Tryz.underlying181 rfl Tryz.sizeOf3 (Get.tmp rfl) rfl) ?_
      refine L.p1 rfl rfl rfl (spec_load1 (k := 0) rfl Tryz.isAgg3 (Get.tmp rfl) rfl rfl) ?_
      first | refine L.op1 rfl rfl (GSpec.plain rfl (fit_i64 (by (first | omega | (simp only [Int.toNat_natCast]; omega))) (by (first | omega | (simp only [Int.toNat_natCast]; omega))) (spec_add rfl (Get.tmp rfl) (Get.cint rfl)))) ?_ | refine L.op1 rfl rfl (GSpec.plain rfl (spec_add rfl (Get.tmp rfl) (Get.cint rfl))) ?_
      refine L.p1 rfl rfl rfl (spec_nilCheck rfl (Get.tmp rfl)) ?_
      refine L.p1 rfl rfl rfl (spec_fieldAddr (f := 1) (off' := 1) rfl Tryz.underlying181 rfl Tryz.sizeOf3 (Get.tmp rfl) rfl) ?_
      refine L.storeB (k := 0) rfl rfl rfl Tryz.sizeOf3 (Get.tmp rfl) (Get.tmp rfl) rfl rfl ?_
      refine L.nt ?_
      refine W.keep (.cons (t := 2) rfl (.cons (t := 3) rfl .nil)) .refl ?_
      refine W.sr ?_
      refine L.mv rfl rfl rfl rfl rfl ?_
      refine L.as rfl rfl rfl rfl rfl ?_
      refine L.nt ?_
      refine W.ret ?_
      refine N.ret (X := ((⟨Unit, fun _ => Rp.int .i64 (l.getD a default).n, fun _ => [MF.box r 181 (rdR l (a + 1))]⟩ : RA))) () rfl (.tmp (t := 2) (Get.tmp rfl) .nil) (res1 (eqI ?_)) (.cons 0 rfl .nil) (fun _ _ h => h)
      rfl

theorem prim_ok (l : List Tk) (a : Nat) (hl : Toks l) (r : Nat) (e : Ex) (b : Nat) (hp : primP l a = some (e, b)) : CallT Tryz.prog 147 [Rp.ptr r 0] [MF.box r 181 (rdR l a)] ((⟨Unit, fun _ => Rp.agg (eX e), fun _ => [MF.box r 181 (rdR l b)]⟩ : RA)) := by
  refine W.enter (fn := Tryz.f147) (n := 101) Tryz.func147 rfl Tryz.ntmps147 rfl (fun w₀ C₀ => ?_)
  simp only [argS]
  obtain ⟨hb, hlt, hc⟩ := prim_inv hp
  subst hb
  have hl1 := hl.1
  refine W.sr ?_
  refine L.box rfl rfl (GSpec.plain rfl (spec_alloc rfl ti66 z66)) (fun r2 => ?_)
  refine L.nt ?_
  refine W.seq ?_
  refine W.sr ?_
  refine L.mv rfl rfl rfl rfl rfl ?_
  refine L.p1 rfl rfl rfl (spec_callB rfl Tryz.call165 (kind_ok l a hl (by omega)) (.cons (Get.tmp rfl) .nil) (.cons (.box 1 rfl (.cons .same (.cons .same (.cons .same .nil)))) .nil)) ?_
  refine L.p1 rfl rfl rfl (spec_eql rfl (Get.tmp rfl) (Get.cint rfl)) ?_
  refine L.nt ?_
  refine W.cond (Get.tmp rfl) (fun h1 => ?_) (fun h1 => ?_)
  · have hk3 : kindE l a = 3 := of_decide_eq_true h1
    have he : e = numE (l.getD a default).n := by rcases hc with q | q; exact q.2; (exact absurd q.1 (by omega))
    refine W.sr ?_
    refine L.mv rfl rfl rfl rfl rfl ?_
    refine L.call rfl rfl rfl rfl Tryz.call166 (numT_ok l a hl r hk3) (.cons 1 rfl .refl) (.cons (Get.tmp rfl) .nil) (fun _u => ?_)
    try dsimp only
    refine L.as rfl rfl rfl rfl rfl ?_
    refine L.nt ?_
    refine W.keep (.cons (t := 0) rfl (.cons (t := 2) rfl (.cons (t := 3) rfl .nil))) .refl ?_
    refine W.sr ?_
    refine L.mv rfl rfl rfl rfl rfl ?_
    refine L.p1 rfl rfl rfl (spec_build (Rs := [_, _, Rp.str [], Rp.exs []]) rfl ti66 z66 Tryz.underlying66 pl66 (.cons (GetC.one (Get.cint rfl)) rfl rfl rfl (.cons (GetC.one (Get.tmp rfl)) rfl rfl rfl .nil))) ?_
    refine L.storeW (k := 1) rfl rfl rfl Tryz.sizeOf66 (Get.tmp rfl) (Get.tmp rfl) rfl rfl rfl ?_
    refine L.nt ?_
    refine W.ret ?_
    refine N.ret (X := ((⟨Unit, fun _ => Rp.agg (eX e), fun _ => [MF.box r 181 (rdR l (a + 1))]⟩ : RA))) () rfl (.cellA (k := 1) (Get.tmp (t := 2) rfl) rfl Tryz.isAgg66 Tryz.sizeOf66 rfl .nil) (res1 (eqA ?_)) (.cons 0 rfl .nil) (fun _ _ h => h)
    rw [he]; rfl
  · have hk3 : ¬ kindE l a = 3 := of_decide_eq_false h1
    replace hc := hc.resolve_left (fun q => hk3 q.1)
    obtain ⟨c1, c2, c3, c4, c5, c6, c7⟩ := hc
    refine W.skip ?_
    refine N.thenW ?_
    refine W.keep (.cons (t := 0) rfl (.cons (t := 2) rfl .nil)) .refl ?_
    refine W.seq ?_
    refine W.sr ?_
    refine L.mv rfl rfl rfl rfl rfl ?_
    refine L.p1 rfl rfl rfl (spec_callB rfl Tryz.call148 (is_ok l a hl (by omega) _) (.cons (Get.tmp rfl) (.cons (Get.cstr (l := [40]) rfl rfl) .nil)) (.cons (.box 1 rfl (.cons .same (.cons .same (.cons .same .nil)))) (.cons .same .nil))) ?_
    refine L.nt ?_
    refine W.cond (Get.tmp rfl) (fun h2 => ?_) (fun h2 => ?_)
    · exfalso; have hq := h2; rw [c2] at hq; cases hq
    · have ph2 := h2; try simp only [sbx] at ph2
      refine W.skip ?_
      refine N.thenW ?_
      refine W.sr ?_
      refine L.mv rfl rfl rfl rfl rfl ?_
      refine L.call rfl rfl rfl rfl Tryz.call167 (nameT_ok l a hl r c1) (.cons 1 rfl .refl) (.cons (Get.tmp rfl) .nil) (fun _u => ?_)
      try dsimp only
      refine L.as rfl rfl rfl rfl rfl ?_
      refine L.nt ?_
      refine W.seq ?_
      refine W.sr ?_
      refine L.mv rfl rfl rfl rfl rfl ?_
      refine L.p1 rfl rfl rfl (spec_eqlS rfl (Get.tmp rfl) (Get.cstr (l := [115, 117, 109]) rfl rfl)) ?_
      refine L.mv rfl rfl rfl rfl rfl ?_
      refine L.op1 rfl rfl (GSpec.guard rfl rfl rfl fun hg => (spec_move rfl (Get.tmp rfl))) ?_
      refine L.op1 rfl rfl (GSpec.guard rfl rfl rfl fun hg => (spec_eqlS rfl (Get.opt rfl hg) (Get.cstr (l := [111, 110, 101, 115]) rfl rfl))) ?_
      refine L.p1 rfl rfl rfl (spec_or rfl (Get.tmp rfl) (fun hb => (Get.opt rfl hb))) ?_
      refine L.mv rfl rfl rfl rfl rfl ?_
      refine L.op1 rfl rfl (GSpec.guard rfl rfl rfl fun hg => (spec_move rfl (Get.tmp rfl))) ?_
      refine L.op1 rfl rfl (GSpec.guard rfl rfl rfl fun hg => (spec_callB rfl Tryz.call148 (is_ok l (a + 1) hl (by omega) _) (.cons (Get.opt rfl hg) (.cons (Get.cstr (l := [40]) rfl rfl) .nil)) (.cons (.box 0 rfl (.cons .same (.cons .same (.cons .same .nil)))) (.cons .same .nil)))) ?_
      refine L.p1 rfl rfl rfl (spec_and rfl (Get.tmp rfl) (fun hb => (Get.opt rfl hb))) ?_
      refine L.nt ?_
      refine W.keep (.cons (t := 0) rfl (.cons (t := 2) rfl (.cons (t := 5) rfl (.cons (t := 42) rfl .nil)))) .refl ?_
      refine W.cond (Get.tmp rfl) (fun h3 => ?_) (fun h3 => ?_)
      · exfalso; have hq := h3; rw [Bool.and_eq_true, Bool.or_eq_true, beq_iff_eq, beq_iff_eq] at hq; rcases hq.1 with q | q; exact c3 q; exact c4 q
      · have ph3 := h3; try simp only [sbx] at ph3
        refine W.skip ?_
        refine N.thenW ?_
        refine W.seq ?_
        refine W.sr ?_
        refine L.mv rfl rfl rfl rfl rfl ?_
        refine L.p1 rfl rfl rfl (spec_callB rfl Tryz.call148 (is_ok l (a + 1) hl (by omega) _) (.cons (Get.tmp rfl) (.cons (Get.cstr (l := [91]) rfl rfl) .nil)) (.cons (.box 0 rfl (.cons .same (.cons .same (.cons .same .nil)))) (.cons .same .nil))) ?_
        refine L.nt ?_
        refine W.cond (Get.tmp rfl) (fun h4 => ?_) (fun h4 => ?_)
        · exfalso; have hq := h4; rw [c5] at hq; cases hq
        · have ph4 := h4; try simp only [sbx] at ph4
          refine W.skip ?_
          refine N.thenW ?_
          refine W.seq ?_
          refine W.sr ?_
          refine L.mv rfl rfl rfl rfl rfl ?_
          refine L.p1 rfl rfl rfl (spec_callB rfl Tryz.call148 (is_ok l (a + 1) hl (by omega) _) (.cons (Get.tmp rfl) (.cons (Get.cstr (l := [64]) rfl rfl) .nil)) (.cons (.box 0 rfl (.cons .same (.cons .same (.cons .same .nil)))) (.cons .same .nil))) ?_
          refine L.nt ?_
          refine W.cond (Get.tmp rfl) (fun h5 => ?_) (fun h5 => ?_)
          · exfalso; have hq := h5; rw [c6] at hq; cases hq
          · have ph5 := h5; try simp only [sbx] at ph5
            refine W.skip ?_
            refine N.thenW ?_
            refine W.keep (.cons (t := 2) rfl (.cons (t := 5) rfl .nil)) .refl ?_
            refine W.sr ?_
            refine L.mv rfl rfl rfl rfl rfl ?_
            refine L.p1 rfl rfl rfl (spec_build (Rs := [_, Rp.int .i64 0, _, Rp.exs []]) rfl ti66 z66 Tryz.underlying66 pl66 (.cons (GetC.one (Get.cint rfl)) rfl rfl rfl (.cons (GetC.one (Get.tmp rfl)) rfl rfl rfl .nil))) ?_
            refine L.storeW (k := 1) rfl rfl rfl Tryz.sizeOf66 (Get.tmp rfl) (Get.tmp rfl) rfl rfl rfl ?_
            refine L.nt ?_
            refine W.ret ?_
            refine N.ret (X := ((⟨Unit, fun _ => Rp.agg (eX e), fun _ => [MF.box r 181 (rdR l (a + 1))]⟩ : RA))) () rfl (.cellA (k := 1) (Get.tmp (t := 2) rfl) rfl Tryz.isAgg66 Tryz.sizeOf66 rfl .nil) (res1 (eqA ?_)) (.cons 0 rfl .nil) (fun _ _ h => h)
            rw [c7]; rfl

end Go.Proofs.YthlfacmpjehjmaaGreatDoor
