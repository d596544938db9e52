/- Lemmas for the claim, part 7: rules for walks, contracts of functions, the data they compute. No conditions. -/
import Derived.Test.YthlfacmpjehjmaaGreatDoorP3
import Derived.Test.YthlfacmpjehjmaaGreatDoorP6
import Derived.Test.YthlfacmpjehjmaaGreatDoorP1
import Derived.Test.YthlfacmpjehjmaaGreatDoorP2
set_option linter.unusedSimpArgs false
set_option maxRecDepth 8000
set_option linter.unusedVariables false
namespace Go.Proofs.YthlfacmpjehjmaaGreatDoor
open Go.Sim
theorem orderD_ok (d : Ds) (hd : DsOk d) : CallT Tryz.prog 66 [Rp.agg (eD d)] [] (.one (Rp.slice eI (orderE d))) := by
  refine W.enter (fn := Tryz.f66) (n := 42) Tryz.func66 rfl Tryz.ntmps66 rfl (fun w₀ C₀ => ?_)
  simp only [argS]
  have hsm := hd.sm
  have hnl := names_len d
  have hwl := widths_len d
  have hel := exprs_len d
  have hn48 := hd.n
  have ho := hd.o
  refine W.sr ?_
  refine L.box rfl rfl (GSpec.plain rfl (spec_box rfl (GetC.agg (Get.tmp rfl)))) (fun r1 => ?_)
  refine L.p1 rfl rfl rfl (spec_assign rfl (Get.cnil (E := eI))) ?_
  refine L.nt ?_
  refine W.sr ?_
  refine L.p1 rfl rfl rfl (spec_fieldAddr (f := 2) (off' := 2) rfl Tryz.underlying27 rfl Tryz.sizeOf23 (Get.tmp rfl) rfl) ?_
  refine L.p1 rfl rfl rfl (spec_load1 (k := 0) rfl Tryz.isAgg23 (Get.tmp rfl) rfl rfl) ?_
  refine L.p1 rfl rfl rfl (spec_len rfl Tryz.underlying23 (Get.tmp rfl)) ?_
  refine L.op rfl rfl (GSpec.plain rfl (spec_makeSlice (z₀ := false) (E := eB) rfl Tryz.underlying53 ti4 z4 (fun _ => rfl) (Get.tmp rfl) (Get.tmp rfl) (by (first | omega | (simp only [Int.toNat_natCast]; omega))) (by (first | omega | (simp only [Int.toNat_natCast]; omega))) (by (first | omega | (simp only [Int.toNat_natCast]; omega))))) (fun v9 => ?_)
  refine L.as rfl rfl rfl rfl rfl ?_
  refine L.nt ?_
  refine W.sr ?_
  refine L.p1 rfl rfl rfl (spec_assign rfl Get.cval) ?_
  refine L.nt ?_
  refine W.nil 3 1 eI ?_
  refine W.seq ?_
  refine W.sr ?_
  refine L.p1 rfl rfl rfl (spec_fieldAddr (f := 2) (off' := 2) rfl Tryz.underlying27 rfl Tryz.sizeOf23 (Get.tmp rfl) rfl) ?_
  refine L.p1 rfl rfl rfl (spec_load1 (k := 2) rfl Tryz.isAgg23 (Get.tmp rfl) rfl rfl) ?_
  refine L.p1 rfl rfl rfl (spec_len rfl Tryz.underlying23 (Get.tmp rfl)) ?_
  refine L.p1 rfl rfl rfl (spec_move rfl (Get.cint rfl)) ?_
  refine L.nt ?_
  refine W.keep (.cons (t := 1) rfl (.cons (t := 2) rfl (.cons (t := 3) rfl (.cons (t := 4) rfl (.cons (t := 12) rfl (.cons (t := 13) rfl .nil)))))) .refl ?_
  refine W.block ?_
  refine W.loopK (σ := Nat × Value) (.cons (t := 1) rfl (.cons (t := 2) rfl (.cons (t := 3) rfl (.cons (t := 12) rfl .nil)))) (fun z => [(13, Rp.int .i64 (z.1 : Nat)), (4, Rp.val z.2)]) (fun z => [MF.osl v9 4 1 eB (iterO d z.1).1, MF.osl z.2 3 1 eI (iterO d z.1).2]) (fun z => z.1 ≤ d.wires.length) (fun z => d.wires.length - z.1) (0, .slice none 0 0) (Nat.zero_le _) (.cons (t := 13) rfl (.cons (t := 4) rfl .nil)) (.cons 1 rfl (.cons 0 rfl (.cons 0 rfl .nil))) ?_
  intro ⟨n, vo⟩ hI S' M' hS hM
  try dsimp only at hS hM
  simp only [List.cons_append, List.nil_append] at hS hM
  subst hS hM
  try dsimp only
  try dsimp only at hI
  refine W.sr ?_
  refine L.p1 rfl rfl rfl (spec_lss rfl (Get.tmp rfl) (Get.tmp rfl)) ?_
  refine L.nt ?_
  refine W.seq ?_
  refine W.cond (Get.tmp rfl) (fun h1 => ?_) (fun h1 => ?_)
  · have ph1 := h1; try simp only [sbx] at ph1
    refine W.skip ?_
    refine N.thenW ?_
    have hil := iter_len d n
    refine W.seq ?_
    refine W.block ?_
    refine W.sr ?_
    refine L.p1 rfl rfl rfl (spec_assign rfl (Get.cint rfl)) ?_
    refine L.nt ?_
    refine W.block ?_
    refine W.loopK (σ := Nat) (.cons (t := 1) rfl (.cons (t := 2) rfl (.cons (t := 3) rfl (.cons (t := 12) rfl (.cons (t := 13) rfl (.cons (t := 14) rfl .nil)))))) (fun z => [(5, Rp.int .i64 (z : Nat)), (4, Rp.val vo)]) (fun z => []) (fun z => z ≤ d.wires.length ∧ ∀ j : Nat, j < z → candE d (iterO d n).1 j = false) (fun z => d.wires.length - z) 0 ⟨Nat.zero_le _, fun j hj => by omega⟩ (.cons (t := 5) rfl (.cons (t := 4) rfl .nil)) (.cons 0 rfl (.cons 0 rfl (.cons 0 rfl .nil))) ?_
    intro i hI S' M' hS hM
    obtain ⟨hI1, hI2⟩ := hI
    try dsimp only at hS hM
    simp only [List.cons_append, List.nil_append] at hS hM
    subst hS hM
    try dsimp only
    refine W.seq ?_
    refine W.sr ?_
    refine L.mv rfl rfl rfl rfl rfl ?_
    refine L.p1 rfl rfl rfl (spec_fieldAddr (f := 2) (off' := 2) rfl Tryz.underlying27 rfl Tryz.sizeOf23 (Get.tmp rfl) rfl) ?_
    refine L.p1 rfl rfl rfl (spec_load1 (k := 2) rfl Tryz.isAgg23 (Get.tmp rfl) rfl rfl) ?_
    refine L.p1 rfl rfl rfl (spec_len rfl Tryz.underlying23 (Get.tmp rfl)) ?_
    refine L.p1 rfl rfl rfl (spec_lss rfl (Get.tmp rfl) (Get.tmp rfl)) ?_
    refine L.nt ?_
    refine W.cond (Get.tmp rfl) (fun h2 => ?_) (fun h2 => ?_)
    · have ph2 := h2; try simp only [sbx] at ph2
      refine W.skip ?_
      refine N.thenW ?_
      refine W.seq ?_
      refine W.block ?_
      refine W.sr ?_
      refine L.mv rfl rfl rfl rfl rfl ?_
      refine L.mv rfl rfl rfl rfl rfl ?_
      refine L.p1 rfl rfl rfl (spec_indexAddrO (k := 0) (E := eB) rfl Tryz.underlying53 Tryz.sizeOf4 (Get.tmp rfl) (Get.tmp rfl) rfl (by (first | omega | (simp only [Int.toNat_natCast]; omega)))) ?_
      refine L.p1 rfl rfl rfl (spec_loadO1 (k := 0) (j := 0) (E := eB) rfl Tryz.isAgg4 (fun _ => rfl) (Get.tmp rfl) rfl rfl (getD_some (by (first | omega | (simp only [Int.toNat_natCast]; omega)))) rfl) ?_
      refine L.p1 rfl rfl rfl (spec_not rfl (Get.tmp rfl)) ?_
      refine L.mv rfl rfl rfl rfl rfl ?_
      refine L.op1 rfl rfl (GSpec.guard rfl rfl rfl fun hg => (spec_loadW (k := 2) rfl Tryz.isAgg27 Tryz.sizeOf27 (Get.tmp rfl) rfl rfl)) ?_
      refine L.op1 rfl rfl (GSpec.guard rfl rfl rfl fun hg => (spec_move rfl (Get.tmp rfl))) ?_
      refine L.op1 rfl rfl (GSpec.guard rfl rfl rfl fun hg => (spec_move rfl (Get.tmp rfl))) ?_
      refine L.op1 rfl rfl (GSpec.guard rfl rfl rfl fun hg => (spec_callB rfl Tryz.call86 (readyD_ok d hd i (iterO d n).1 (by omega) (by omega)) (.cons (Get.opt rfl hg) (.cons (Get.opt rfl hg) (.cons (Get.opt rfl hg) .nil))) (.cons .same (.cons .same (.cons (.slice 0 rfl (fun _ => rfl)) .nil))))) ?_
      refine L.p1 rfl rfl rfl (spec_and rfl (Get.tmp rfl) (fun hb => (Get.opt rfl hb))) ?_
      refine L.nt ?_
      refine W.cond (Get.tmp rfl) (fun h3 => ?_) (fun h3 => ?_)
      · have hcd : candE d (iterO d n).1 i = true := by have h := h3; simpa [candE] using h
        have hst : iterO d (n + 1) = ((iterO d n).1.set i true, (iterO d n).2 ++ [(i : Int)]) := by have hp := pick_yes (by omega) hcd hI2; rw [iterO, stepO, hp, if_pos (by omega)]; simp
        refine W.sr ?_
        refine L.mv rfl rfl rfl rfl rfl ?_
        refine L.mv rfl rfl rfl rfl rfl ?_
        refine L.p1 rfl rfl rfl (spec_indexAddrO (k := 0) (E := eB) rfl Tryz.underlying53 Tryz.sizeOf4 (Get.tmp rfl) (Get.tmp rfl) rfl (by (first | omega | (simp only [Int.toNat_natCast]; omega)))) ?_
        refine L.storeO1 (k := 0) (j := 0) (E := eB) rfl rfl rfl Tryz.sizeOf4 (fun _ => rfl) (Get.tmp rfl) Get.cbool rfl rfl (by decide) (getD_some (by (first | omega | (simp only [Int.toNat_natCast]; omega)))) rfl ?_
        refine L.nt ?_
        refine W.sr ?_
        refine L.mv rfl rfl rfl rfl rfl ?_
        refine L.mv rfl rfl rfl rfl rfl ?_
        refine L.p1 rfl rfl rfl (spec_buildSlice1 (y := ((i : Nat) : Int)) (E := eI) rfl Tryz.underlying92 ti3 z3 (by decide) (GetC.one (Get.tmp rfl)) (fun _ => rfl)) ?_
        refine L.append (k := 1) (E := eI) rfl rfl rfl rfl Tryz.underlying92 ti3 rfl (by decide) (fun _ => rfl) (Get.tmp rfl) (Get.tmp rfl) rfl (by (simp only [List.length_cons, List.length_nil]; omega)) (by (simp only [List.length_cons, List.length_nil]; omega)) (fun v39 => ?_)
        refine L.as rfl rfl rfl rfl rfl ?_
        refine L.nt ?_
        refine W.exit ?_
        refine N.blockMiss rfl ?_
        refine N.thenExit ?_
        refine N.thenExit ?_
        refine N.blockExit ?_
        refine N.blockNormal ?_
        refine N.thenW ?_
        refine W.region ?_
        first | refine L.op1 rfl rfl (GSpec.plain rfl (fit_i64 (by (first | omega | (simp only [Int.toNat_natCast]; omega))) (by (first | omega | (simp only [Int.toNat_natCast]; omega))) (spec_add rfl (Get.tmp rfl) (Get.cint rfl)))) ?_ | refine L.op1 rfl rfl (GSpec.plain rfl (spec_add rfl (Get.tmp rfl) (Get.cint rfl))) ?_
        refine L.mv rfl rfl rfl rfl rfl ?_
        refine L.nil ?_
        refine N.roundK (n + 1, v39) ?hI1 ?hmu1 ?hs1 ?hk1 ?hp1
        case hs1 => exact (.cons (t := 13) rfl (.cons (t := 4) rfl .nil))
        case hk1 => exact (.cons (t := 1) rfl (.cons (t := 2) rfl (.cons (t := 3) rfl (.cons (t := 12) rfl .nil))))
        case hp1 => dsimp only; rw [hst]; exact (.cons 0 rfl (.cons 0 rfl (.cons 0 rfl .nil)))
        case hI1 => dsimp only; omega
        case hmu1 => dsimp only; omega
      · have hcd : candE d (iterO d n).1 i = false := by have h := h3; simpa [candE] using h
        refine W.skip ?_
        refine N.blockNormal ?_
        refine N.thenW ?_
        refine W.region ?_
        refine L.mv rfl rfl rfl rfl rfl ?_
        first | refine L.op1 rfl rfl (GSpec.plain rfl (fit_i64 (by (first | omega | (simp only [Int.toNat_natCast]; omega))) (by (first | omega | (simp only [Int.toNat_natCast]; omega))) (spec_add rfl (Get.tmp rfl) (Get.cint rfl)))) ?_ | refine L.op1 rfl rfl (GSpec.plain rfl (spec_add rfl (Get.tmp rfl) (Get.cint rfl))) ?_
        refine L.as rfl rfl rfl rfl rfl ?_
        refine L.nil ?_
        refine N.roundK (i + 1) ?hI2 ?hmu2 ?hs2 ?hk2 ?hp2
        case hs2 => exact (.cons (t := 5) rfl (.cons (t := 4) rfl .nil))
        case hk2 => exact (.cons (t := 1) rfl (.cons (t := 2) rfl (.cons (t := 3) rfl (.cons (t := 12) rfl (.cons (t := 13) rfl (.cons (t := 14) rfl .nil))))))
        case hp2 => exact (.cons 0 rfl (.cons 0 rfl (.cons 0 rfl .nil)))
        case hI2 => exact ⟨by omega, upto hI2 hcd⟩
        case hmu2 => omega
    · have ph2 := h2; try simp only [sbx] at ph2
      refine W.exit ?_
      refine N.thenExit ?_
      refine N.thenExit ?_
      refine N.blockExit ?_
      refine N.blockNormal ?_
      refine N.thenW ?_
      refine W.region ?_
      first | refine L.op1 rfl rfl (GSpec.plain rfl (fit_i64 (by (first | omega | (simp only [Int.toNat_natCast]; omega))) (by (first | omega | (simp only [Int.toNat_natCast]; omega))) (spec_add rfl (Get.tmp rfl) (Get.cint rfl)))) ?_ | refine L.op1 rfl rfl (GSpec.plain rfl (spec_add rfl (Get.tmp rfl) (Get.cint rfl))) ?_
      refine L.mv rfl rfl rfl rfl rfl ?_
      refine L.nil ?_
      refine N.roundK (n + 1, vo) ?hI3 ?hmu3 ?hs3 ?hk3 ?hp3
      case hs3 => exact (.cons (t := 13) rfl (.cons (t := 4) rfl .nil))
      case hk3 => exact (.cons (t := 1) rfl (.cons (t := 2) rfl (.cons (t := 3) rfl (.cons (t := 12) rfl .nil))))
      case hp3 => dsimp only; rw [show iterO d (n + 1) = iterO d n by rw [iterO, stepO, pick_no fun j hj => hI2 j (by omega), if_neg (by omega)]]; exact (.cons 0 rfl (.cons 0 rfl (.cons 0 rfl .nil)))
      case hI3 => dsimp only; omega
      case hmu3 => dsimp only; omega
  · have ph1 := h1; try simp only [sbx] at ph1
    refine W.exit ?_
    refine N.thenExit ?_
    refine N.thenExit ?_
    refine N.blockExit ?_
    refine N.thenW ?_
    have hn : n = d.wires.length := by omega
    subst hn
    refine W.pub (t := 4) (k := 1) rfl rfl (fun _ => rfl) ?_
    refine W.keep (.cons (t := 2) rfl (.cons (t := 4) rfl .nil)) .refl ?_
    refine W.sr ?_
    refine L.mv rfl rfl rfl rfl rfl ?_
    refine L.as rfl rfl rfl rfl rfl ?_
    refine L.nt ?_
    refine W.ret ?_
    refine N.ret () rfl (.tmp (t := 2) (Get.tmp rfl) .nil) (res1 (eqSl ?_)) .nil (fun _ _ h => h)
    rfl

end Go.Proofs.YthlfacmpjehjmaaGreatDoor
set_option linter.unusedSimpArgs false
set_option maxRecDepth 8000
set_option linter.unusedVariables false
namespace Go.Proofs.YthlfacmpjehjmaaGreatDoor
open Go.Sim
theorem numberedD_ok (d : Ds) (hd : DsOk d) : CallT Tryz.prog 63 [Rp.agg (eD d)] [] (.one (Rp.int .i64 0)) := by
  refine W.enter (fn := Tryz.f63) (n := 57) Tryz.func63 rfl Tryz.ntmps63 rfl (fun w₀ C₀ => ?_)
  simp only [argS]
  have hsm := hd.sm
  have hnl := names_len d
  have hwl := widths_len d
  have hel := exprs_len d
  have hn48 := hd.n
  have ho := hd.o
  refine W.sr ?_
  refine L.box rfl rfl (GSpec.plain rfl (spec_box rfl (GetC.agg (Get.tmp rfl)))) (fun r1 => ?_)
  refine L.p1 rfl rfl rfl (spec_assign rfl (Get.cint rfl)) ?_
  refine L.nt ?_
  refine W.sr ?_
  refine L.p1 rfl rfl rfl (spec_loadW (k := 0) rfl Tryz.isAgg27 Tryz.sizeOf27 (Get.tmp rfl) rfl rfl) ?_
  refine L.p1 rfl rfl rfl (spec_call rfl Tryz.call81 (widthsD_ok _ hsm) (.cons (Get.tmp rfl) .nil)) ?_
  refine L.as rfl rfl rfl rfl rfl ?_
  refine L.nt ?_
  refine W.seq ?_
  refine W.sr ?_
  refine L.p1 rfl rfl rfl (spec_assign rfl (Get.cint rfl)) ?_
  refine L.nt ?_
  refine W.block ?_
  refine W.loopK (σ := Nat) (.cons (t := 1) rfl (.cons (t := 3) rfl .nil)) (fun z => [(4, Rp.int .i64 (z : Nat))]) (fun z => []) (fun z => z ≤ (widthsD d).length) (fun z => (widthsD d).length - z) 0 (Nat.zero_le _) (.cons (t := 4) rfl .nil) (.cons 0 rfl .nil) ?_
  intro i hI S' M' hS hM
  try dsimp only at hS hM
  simp only [List.cons_append, List.nil_append] at hS hM
  subst hS hM
  try dsimp only
  refine W.seq ?_
  refine W.sr ?_
  refine L.mv rfl rfl rfl rfl rfl ?_
  refine L.mv rfl rfl rfl rfl rfl ?_
  refine L.p1 rfl rfl rfl (spec_len rfl Tryz.underlying92 (Get.tmp rfl)) ?_
  refine L.p1 rfl rfl rfl (spec_lss rfl (Get.tmp rfl) (Get.tmp rfl)) ?_
  refine L.nt ?_
  refine W.cond (Get.tmp rfl) (fun h1 => ?_) (fun h1 => ?_)
  · have ph1 := h1; try simp only [sbx] at ph1
    refine W.skip ?_
    refine N.thenW ?_
    refine W.seq ?_
    refine W.block ?_
    refine W.sr ?_
    refine L.mv rfl rfl rfl rfl rfl ?_
    refine L.mv rfl rfl rfl rfl rfl ?_
    refine L.p1 rfl rfl rfl (spec_indexAddrD (E := eI) rfl Tryz.underlying92 Tryz.sizeOf3 (fun _ => rfl) (Get.tmp rfl) (Get.tmp rfl) (by (first | omega | (simp only [Int.toNat_natCast]; omega)))) ?_
    refine L.p1 rfl rfl rfl (spec_loadP1 rfl Tryz.isAgg3 (Get.tmp rfl)) ?_
    refine L.p1 rfl rfl rfl (spec_lss rfl (Get.tmp rfl) (Get.cint rfl)) ?_
    refine L.mv rfl rfl rfl rfl rfl ?_
    refine L.op1 rfl rfl (GSpec.guard rfl rfl rfl fun hg => (spec_move rfl (Get.tmp rfl))) ?_
    refine L.op1 rfl rfl (GSpec.guard rfl rfl rfl fun hg => (spec_move rfl (Get.tmp rfl))) ?_
    refine L.op1 rfl rfl (GSpec.guard rfl rfl rfl fun hg => (spec_indexAddrD (E := eI) rfl Tryz.underlying92 Tryz.sizeOf3 (fun _ => rfl) (Get.opt rfl hg) (Get.opt rfl hg) (by (first | omega | (simp only [sbx] at hg; omega))))) ?_
    refine L.op1 rfl rfl (GSpec.guard rfl rfl rfl fun hg => (spec_loadP1 rfl Tryz.isAgg3 (Get.opt rfl hg))) ?_
    refine L.op1 rfl rfl (GSpec.guard rfl rfl rfl fun hg => (spec_gtr rfl (Get.opt rfl hg) (Get.cint rfl))) ?_
    refine L.p1 rfl rfl rfl (spec_or rfl (Get.tmp rfl) (fun hb => (Get.opt rfl hb))) ?_
    refine L.nt ?_
    refine W.cond (Get.tmp rfl) (fun h2 => ?_) (fun h2 => ?_)
    · exfalso; have h := h2; have h2 := hd.wd i (by omega); simp only [Int.toNat_natCast] at h; simp at h h2; omega
    · have ph2 := h2; try simp only [sbx] at ph2
      refine W.skip ?_
      refine N.blockNormal ?_
      refine N.thenW ?_
      refine W.region ?_
      refine L.mv rfl rfl rfl rfl rfl ?_
      first | refine L.op1 rfl rfl (GSpec.plain rfl (fit_i64 (by (first | omega | (simp only [Int.toNat_natCast]; omega))) (by (first | omega | (simp only [Int.toNat_natCast]; omega))) (spec_add rfl (Get.tmp rfl) (Get.cint rfl)))) ?_ | refine L.op1 rfl rfl (GSpec.plain rfl (spec_add rfl (Get.tmp rfl) (Get.cint rfl))) ?_
      refine L.as rfl rfl rfl rfl rfl ?_
      refine L.nil ?_
      refine N.roundK (i + 1) ?hI1 ?hmu1 ?hs1 ?hk1 ?hp1
      case hs1 => exact (.cons (t := 4) rfl .nil)
      case hk1 => exact (.cons (t := 1) rfl (.cons (t := 3) rfl .nil))
      case hp1 => exact (.cons 0 rfl .nil)
      all_goals (first | rfl | trivial | omega | (simp_all; done))
  · have ph1 := h1; try simp only [sbx] at ph1
    refine W.exit ?_
    refine N.thenExit ?_
    refine N.thenExit ?_
    refine N.blockExit ?_
    refine N.thenW ?_
    refine W.keep (.cons (t := 1) rfl .nil) .refl ?_
    refine W.seq ?_
    refine W.sr ?_
    refine L.p1 rfl rfl rfl (spec_assign rfl (Get.cint rfl)) ?_
    refine L.nt ?_
    refine W.block ?_
    refine W.loopK (σ := Nat) (.cons (t := 1) rfl .nil) (fun z => [(5, Rp.int .i64 (z : Nat))]) (fun z => []) (fun z => z ≤ d.regs.length) (fun z => d.regs.length - z) 0 (Nat.zero_le _) (.cons (t := 5) rfl .nil) (.cons 0 rfl .nil) ?_
    intro i hI S' M' hS hM
    try dsimp only at hS hM
    simp only [List.cons_append, List.nil_append] at hS hM
    subst hS hM
    try dsimp only
    refine W.seq ?_
    refine W.sr ?_
    refine L.mv rfl rfl rfl rfl rfl ?_
    refine L.p1 rfl rfl rfl (spec_fieldAddr (f := 3) (off' := 3) rfl Tryz.underlying27 rfl Tryz.sizeOf24 (Get.tmp rfl) rfl) ?_
    refine L.p1 rfl rfl rfl (spec_load1 (k := 0) rfl Tryz.isAgg24 (Get.tmp rfl) rfl rfl) ?_
    refine L.p1 rfl rfl rfl (spec_len rfl Tryz.underlying24 (Get.tmp rfl)) ?_
    refine L.p1 rfl rfl rfl (spec_lss rfl (Get.tmp rfl) (Get.tmp rfl)) ?_
    refine L.nt ?_
    refine W.cond (Get.tmp rfl) (fun h3 => ?_) (fun h3 => ?_)
    · have ph3 := h3; try simp only [sbx] at ph3
      refine W.skip ?_
      refine N.thenW ?_
      have hri := hd.ini i (by omega)
      have hri2 := hri.2.1
      have hri3 := hri.2.2
      have hcv : IntKind.u64.wrap (d.regs.getD ((i : Nat) : Int).toNat default).width = (d.regs.getD i default).width := u64_wrap (n := (d.regs.getD i default).width) (by omega) (by omega)
      refine W.seq ?_
      refine W.block ?_
      refine W.seq ?_
      apply W.any 24 mixed (by kernel_rfl)
      · apply Head.one rfl rfl (GSpec.plain rfl (spec_fieldAddr (f := 3) (off' := 3) rfl Tryz.underlying27 rfl Tryz.sizeOf24 (Get.tmp rfl) rfl))
        apply Head.one rfl rfl (GSpec.plain rfl (spec_load1 (k := 0) rfl Tryz.isAgg24 (Get.tmp rfl) rfl rfl))
        apply Head.one rfl rfl (GSpec.plain rfl (spec_move rfl (Get.tmp rfl)))
        apply Head.one rfl rfl (GSpec.plain rfl (spec_indexAddrD (E := eRg) rfl Tryz.underlying24 Tryz.sizeOf81 (fun _ => rfl) (Get.tmp rfl) (Get.tmp rfl) (by (first | omega | (simp only [Int.toNat_natCast]; omega)))))
        apply Head.one rfl rfl (GSpec.plain rfl (spec_fieldAddrP (f := 2) rfl Tryz.underlying81 rfl Tryz.sizeOf3 (Get.tmp rfl) rfl rfl))
        apply Head.one rfl rfl (GSpec.plain rfl (spec_loadP1 rfl Tryz.isAgg3 (Get.tmp rfl)))
        apply Head.one rfl rfl (GSpec.plain rfl (spec_lss rfl (Get.tmp rfl) (Get.cint rfl)))
        apply Head.one rfl rfl (GSpec.plain rfl (spec_move rfl (Get.tmp rfl)))
        apply Head.one rfl rfl (GSpec.guard rfl rfl rfl fun hg => (spec_fieldAddr (f := 3) (off' := 3) rfl Tryz.underlying27 rfl Tryz.sizeOf24 (Get.tmp rfl) rfl))
        apply Head.one rfl rfl (GSpec.guard rfl rfl rfl fun hg => (spec_load1 (k := 0) rfl Tryz.isAgg24 (Get.opt rfl hg) rfl rfl))
        apply Head.one rfl rfl (GSpec.guard rfl rfl rfl fun hg => (spec_move rfl (Get.tmp rfl)))
        apply Head.one rfl rfl (GSpec.guard rfl rfl rfl fun hg => (spec_indexAddrD (E := eRg) rfl Tryz.underlying24 Tryz.sizeOf81 (fun _ => rfl) (Get.opt rfl hg) (Get.opt rfl hg) (by (first | omega | (simp only [sbx] at hg; omega)))))
        apply Head.one rfl rfl (GSpec.guard rfl rfl rfl fun hg => (spec_fieldAddrP (f := 2) rfl Tryz.underlying81 rfl Tryz.sizeOf3 (Get.opt rfl hg) rfl rfl))
        apply Head.one rfl rfl (GSpec.guard rfl rfl rfl fun hg => (spec_loadP1 rfl Tryz.isAgg3 (Get.opt rfl hg)))
        apply Head.one rfl rfl (GSpec.guard rfl rfl rfl fun hg => (spec_fieldAddr (f := 3) (off' := 3) rfl Tryz.underlying27 rfl Tryz.sizeOf24 (Get.tmp rfl) rfl))
        apply Head.one rfl rfl (GSpec.guard rfl rfl rfl fun hg => (spec_load1 (k := 0) rfl Tryz.isAgg24 (Get.opt rfl hg) rfl rfl))
        apply Head.one rfl rfl (GSpec.guard rfl rfl rfl fun hg => (spec_move rfl (Get.tmp rfl)))
        apply Head.one rfl rfl (GSpec.guard rfl rfl rfl fun hg => (spec_indexAddrD (E := eRg) rfl Tryz.underlying24 Tryz.sizeOf81 (fun _ => rfl) (Get.opt rfl hg) (Get.opt rfl hg) (by (first | omega | (simp only [sbx] at hg; omega)))))
        apply Head.one rfl rfl (GSpec.guard rfl rfl rfl fun hg => (spec_fieldAddrP (f := 1) rfl Tryz.underlying81 rfl Tryz.sizeOf3 (Get.opt rfl hg) rfl rfl))
        apply Head.one rfl rfl (GSpec.guard rfl rfl rfl fun hg => (spec_loadP1 rfl Tryz.isAgg3 (Get.opt rfl hg)))
        first | apply Head.one rfl rfl (GSpec.guard rfl rfl rfl fun hg => (fit_u64 (by (first | omega | (simp only [sbx] at hg; omega))) (by (first | omega | (simp only [sbx] at hg; omega))) (spec_conv rfl Tryz.underlying114 ⟨_, Tryz.underlying3⟩ (Get.opt rfl hg)))) | apply Head.one rfl rfl (GSpec.guard rfl rfl rfl fun hg => (spec_conv rfl Tryz.underlying114 ⟨_, Tryz.underlying3⟩ (Get.opt rfl hg)))
        apply Head.one rfl rfl (GSpec.guard rfl rfl rfl fun hg => (spec_shl rfl (Get.cint rfl) (Get.opt rfl hg) (by (first | omega | (simp only [sbx] at hg; omega)))))
        apply Head.one rfl rfl (GSpec.guard rfl rfl rfl fun hg => (spec_geq rfl (Get.opt rfl hg) (Get.opt rfl hg)))
        apply Head.one rfl rfl (GSpec.plain rfl (spec_or rfl (Get.tmp rfl) (fun hb => (Get.opt rfl hb))))
        exact Head.nil
      refine Fin.one ?_
      refine Fin.one ?_
      refine Fin.one ?_
      refine Fin.one ?_
      refine Fin.one ?_
      refine Fin.one ?_
      refine Fin.one ?_
      refine Fin.one ?_
      refine Fin.one ?_
      refine Fin.one ?_
      refine Fin.one ?_
      refine Fin.one ?_
      refine Fin.one ?_
      refine Fin.one ?_
      refine Fin.one ?_
      refine Fin.one ?_
      refine Fin.one ?_
      refine Fin.one ?_
      refine Fin.one ?_
      refine Fin.one ?_
      refine Fin.one ?_
      refine Fin.one ?_
      refine Fin.one ?_
      refine Fin.one ?_
      refine Fin.nil ?_
      refine L.nt ?_
      refine W.cond (Get.tmp rfl) (fun h4 => ?_) (fun h4 => ?_)
      · exfalso; have h := h4; simp only [Int.toNat_natCast] at h; have h3 := hri.1; have hp := shl_pos hri2 hri3; simp only [h3] at h; simp only [Bool.or_eq_true, decide_eq_true_eq] at h; omega
      · have ph4 := h4; try simp only [sbx] at ph4
        refine W.skip ?_
        refine N.blockNormal ?_
        refine N.thenW ?_
        refine W.region ?_
        refine L.mv rfl rfl rfl rfl rfl ?_
        first | refine L.op1 rfl rfl (GSpec.plain rfl (fit_i64 (by (first | omega | (simp only [Int.toNat_natCast]; omega))) (by (first | omega | (simp only [Int.toNat_natCast]; omega))) (spec_add rfl (Get.tmp rfl) (Get.cint rfl)))) ?_ | refine L.op1 rfl rfl (GSpec.plain rfl (spec_add rfl (Get.tmp rfl) (Get.cint rfl))) ?_
        refine L.as rfl rfl rfl rfl rfl ?_
        refine L.nil ?_
        refine N.roundK (i + 1) ?hI2 ?hmu2 ?hs2 ?hk2 ?hp2
        case hs2 => exact (.cons (t := 5) rfl .nil)
        case hk2 => exact (.cons (t := 1) rfl .nil)
        case hp2 => exact (.cons 0 rfl .nil)
        all_goals (first | rfl | trivial | omega | (simp_all; done))
    · have ph3 := h3; try simp only [sbx] at ph3
      refine W.exit ?_
      refine N.thenExit ?_
      refine N.thenExit ?_
      refine N.blockExit ?_
      refine N.thenW ?_
      refine W.keep .nil .refl ?_
      refine W.sr ?_
      refine L.p1 rfl rfl rfl (spec_assign rfl (Get.cint rfl)) ?_
      refine L.nt ?_
      refine W.ret ?_
      refine N.ret () rfl (.tmp (t := 2) (Get.tmp rfl) .nil) (res1 (eqI ?_)) .nil (fun _ _ h => h)
      rfl

end Go.Proofs.YthlfacmpjehjmaaGreatDoor
set_option linter.unusedSimpArgs false
set_option maxRecDepth 8000
set_option linter.unusedVariables false
namespace Go.Proofs.YthlfacmpjehjmaaGreatDoor
open Go.Sim
theorem writtenD_ok (d : Ds) (hd : DsOk d) : CallT Tryz.prog 64 [Rp.agg (eD d)] [] (.one (Rp.int .i64 0)) := by
  refine W.enter (fn := Tryz.f64) (n := 52) Tryz.func64 rfl Tryz.ntmps64 rfl (fun w₀ C₀ => ?_)
  simp only [argS]
  have hsm := hd.sm
  have hnl := names_len d
  have hwl := widths_len d
  have hel := exprs_len d
  have hn48 := hd.n
  have ho := hd.o
  refine W.sr ?_
  refine L.box rfl rfl (GSpec.plain rfl (spec_box rfl (GetC.agg (Get.tmp rfl)))) (fun r1 => ?_)
  refine L.p1 rfl rfl rfl (spec_assign rfl (Get.cint rfl)) ?_
  refine L.nt ?_
  refine W.sr ?_
  refine L.p1 rfl rfl rfl (spec_loadW (k := 0) rfl Tryz.isAgg27 Tryz.sizeOf27 (Get.tmp rfl) rfl rfl) ?_
  refine L.p1 rfl rfl rfl (spec_call rfl Tryz.call68 (namesD_ok _ hsm) (.cons (Get.tmp rfl) .nil)) ?_
  refine L.as rfl rfl rfl rfl rfl ?_
  refine L.nt ?_
  refine W.sr ?_
  refine L.p1 rfl rfl rfl (spec_loadW (k := 0) rfl Tryz.isAgg27 Tryz.sizeOf27 (Get.tmp rfl) rfl rfl) ?_
  refine L.p1 rfl rfl rfl (spec_call rfl Tryz.call82 (exprsD_ok _ hsm) (.cons (Get.tmp rfl) .nil)) ?_
  refine L.as rfl rfl rfl rfl rfl ?_
  refine L.nt ?_
  refine W.seq ?_
  refine W.sr ?_
  refine L.p1 rfl rfl rfl (spec_assign rfl (Get.cint rfl)) ?_
  refine L.nt ?_
  refine W.block ?_
  refine W.loopK (σ := Nat) (.cons (t := 3) rfl (.cons (t := 4) rfl .nil)) (fun z => [(5, Rp.int .i64 (z : Nat))]) (fun z => []) (fun z => z ≤ (exprsD d).length) (fun z => (exprsD d).length - z) 0 (Nat.zero_le _) (.cons (t := 5) rfl .nil) (.cons 0 rfl .nil) ?_
  intro i hI S' M' hS hM
  try dsimp only at hS hM
  simp only [List.cons_append, List.nil_append] at hS hM
  subst hS hM
  try dsimp only
  refine W.seq ?_
  refine W.sr ?_
  refine L.mv rfl rfl rfl rfl rfl ?_
  refine L.mv rfl rfl rfl rfl rfl ?_
  refine L.p1 rfl rfl rfl (spec_len rfl Tryz.underlying64 (Get.tmp rfl)) ?_
  refine L.p1 rfl rfl rfl (spec_lss rfl (Get.tmp rfl) (Get.tmp rfl)) ?_
  refine L.nt ?_
  refine W.cond (Get.tmp rfl) (fun h1 => ?_) (fun h1 => ?_)
  · have ph1 := h1; try simp only [sbx] at ph1
    refine W.skip ?_
    refine N.thenW ?_
    refine W.seq ?_
    refine W.block ?_
    refine W.sr ?_
    refine L.mv rfl rfl rfl rfl rfl ?_
    refine L.mv rfl rfl rfl rfl rfl ?_
    refine L.p1 rfl rfl rfl (spec_indexAddrD (E := eX) rfl Tryz.underlying64 Tryz.sizeOf66 (fun _ => rfl) (Get.tmp rfl) (Get.tmp rfl) (by omega)) ?_
    refine L.p1 rfl rfl rfl (spec_loadPA rfl Tryz.isAgg66 Tryz.sizeOf66 (Get.tmp rfl) rfl) ?_
    refine L.p1 rfl rfl rfl (spec_call rfl Tryz.call83 (xvalid_ok _ (hd.xs i (by omega))) (.cons (Get.tmp rfl) .nil)) ?_
    refine L.as rfl rfl rfl rfl rfl ?_
    refine L.nt ?_
    refine W.seq ?_
    refine W.sr ?_
    refine L.mv rfl rfl rfl rfl rfl ?_
    refine L.p1 rfl rfl rfl (spec_neq rfl (Get.tmp rfl) (Get.cint rfl)) ?_
    refine L.nt ?_
    refine W.cond (Get.tmp rfl) (fun h2 => ?_) (fun h2 => ?_)
    · exfalso; have h := h2; simp at h
    · have ph2 := h2; try simp only [sbx] at ph2
      refine W.skip ?_
      refine N.thenW ?_
      refine W.seq ?_
      refine W.sr ?_
      refine L.mv rfl rfl rfl rfl rfl ?_
      refine L.mv rfl rfl rfl rfl rfl ?_
      refine L.p1 rfl rfl rfl (spec_indexAddrD (E := eX) rfl Tryz.underlying64 Tryz.sizeOf66 (fun _ => rfl) (Get.tmp rfl) (Get.tmp rfl) (by omega)) ?_
      refine L.p1 rfl rfl rfl (spec_loadPA rfl Tryz.isAgg66 Tryz.sizeOf66 (Get.tmp rfl) rfl) ?_
      refine L.p1 rfl rfl rfl (spec_call rfl Tryz.call84 (xarrays_ok _ (hd.xs i (by omega))) (.cons (Get.tmp rfl) .nil)) ?_
      refine L.p1 rfl rfl rfl (spec_len rfl Tryz.underlying25 (Get.tmp rfl)) ?_
      refine L.p1 rfl rfl rfl (spec_gtr rfl (Get.tmp rfl) (Get.cint rfl)) ?_
      refine L.nt ?_
      refine W.cond (Get.tmp rfl) (fun h3 => ?_) (fun h3 => ?_)
      · exfalso; have h := h3; simp at h
      · have ph3 := h3; try simp only [sbx] at ph3
        refine W.skip ?_
        refine N.thenW ?_
        refine W.sr ?_
        refine L.mv rfl rfl rfl rfl rfl ?_
        refine L.mv rfl rfl rfl rfl rfl ?_
        refine L.p1 rfl rfl rfl (spec_indexAddrD (E := eX) rfl Tryz.underlying64 Tryz.sizeOf66 (fun _ => rfl) (Get.tmp rfl) (Get.tmp rfl) (by omega)) ?_
        refine L.p1 rfl rfl rfl (spec_loadPA rfl Tryz.isAgg66 Tryz.sizeOf66 (Get.tmp rfl) rfl) ?_
        refine L.p1 rfl rfl rfl (spec_call rfl Tryz.call85 (xnames_ok _ (hd.xs i (by omega))) (.cons (Get.tmp rfl) .nil)) ?_
        refine L.as rfl rfl rfl rfl rfl ?_
        refine L.nt ?_
        refine W.fact 7 rfl slice_fact fun hvl => ?_
        refine W.sr ?_
        refine L.p1 rfl rfl rfl (spec_assign rfl (Get.cint rfl)) ?_
        refine L.nt ?_
        refine W.block ?_
        refine W.loopK (σ := Nat) (.cons (t := 3) rfl (.cons (t := 4) rfl (.cons (t := 5) rfl (.cons (t := 6) rfl (.cons (t := 7) rfl (.cons (t := 13) rfl (.cons (t := 14) rfl (.cons (t := 15) rfl (.cons (t := 16) rfl (.cons (t := 19) rfl (.cons (t := 20) rfl (.cons (t := 21) rfl (.cons (t := 22) rfl (.cons (t := 23) rfl (.cons (t := 24) rfl (.cons (t := 25) rfl (.cons (t := 27) rfl (.cons (t := 28) rfl (.cons (t := 29) rfl (.cons (t := 30) rfl (.cons (t := 31) rfl (.cons (t := 32) rfl (.cons (t := 33) rfl (.cons (t := 34) rfl (.cons (t := 35) rfl (.cons (t := 36) rfl (.cons (t := 37) rfl (.cons (t := 38) rfl .nil)))))))))))))))))))))))))))) (fun z => [(8, Rp.int .i64 (z : Nat))]) (fun z => []) (fun z => z ≤ (seeE ((exprsD d).getD i default)).vs.length) (fun z => (seeE ((exprsD d).getD i default)).vs.length - z) 0 (Nat.zero_le _) (.cons (t := 8) rfl .nil) (.cons 0 rfl .nil) ?_
        intro j hI S' M' hS hM
        try dsimp only at hS hM
        simp only [List.cons_append, List.nil_append] at hS hM
        subst hS hM
        try dsimp only
        refine W.seq ?_
        refine W.sr ?_
        refine L.mv rfl rfl rfl rfl rfl ?_
        refine L.mv rfl rfl rfl rfl rfl ?_
        refine L.p1 rfl rfl rfl (spec_len rfl Tryz.underlying25 (Get.tmp rfl)) ?_
        refine L.p1 rfl rfl rfl (spec_lss rfl (Get.tmp rfl) (Get.tmp rfl)) ?_
        refine L.nt ?_
        refine W.cond (Get.tmp rfl) (fun h4 => ?_) (fun h4 => ?_)
        · have ph4 := h4; try simp only [sbx] at ph4
          refine W.skip ?_
          refine N.thenW ?_
          refine W.seq ?_
          refine W.block ?_
          refine W.sr ?_
          refine L.mv rfl rfl rfl rfl rfl ?_
          refine L.mv rfl rfl rfl rfl rfl ?_
          refine L.mv rfl rfl rfl rfl rfl ?_
          refine L.p1 rfl rfl rfl (spec_indexAddrD (E := eS) rfl Tryz.underlying25 Tryz.sizeOf9 (fun _ => rfl) (Get.tmp rfl) (Get.tmp rfl) (by omega)) ?_
          refine L.p1 rfl rfl rfl (spec_loadP1 rfl Tryz.isAgg9 (Get.tmp rfl)) ?_
          refine L.p1 rfl rfl rfl (spec_call rfl Tryz.call67 (index_ok _ _) (.cons (Get.tmp rfl) (.cons (Get.tmp rfl) .nil))) ?_
          refine L.p1 rfl rfl rfl (spec_lss rfl (Get.tmp rfl) (Get.cint rfl)) ?_
          refine L.nt ?_
          refine W.cond (Get.tmp rfl) (fun h5 => ?_) (fun h5 => ?_)
          · exfalso; have h := of_decide_eq_true h5; simp only [Int.toNat_natCast] at h; have := hd.vs i (by omega) j (by omega); omega
          · have ph5 := h5; try simp only [sbx] at ph5
            refine W.skip ?_
            refine N.blockNormal ?_
            refine N.thenW ?_
            refine W.region ?_
            refine L.mv rfl rfl rfl rfl rfl ?_
            first | refine L.op1 rfl rfl (GSpec.plain rfl (fit_i64 (by omega) (by omega) (spec_add rfl (Get.tmp rfl) (Get.cint rfl)))) ?_ | refine L.op1 rfl rfl (GSpec.plain rfl (spec_add rfl (Get.tmp rfl) (Get.cint rfl))) ?_
            refine L.as rfl rfl rfl rfl rfl ?_
            refine L.nil ?_
            refine N.roundK (j + 1) ?hI1 ?hmu1 ?hs1 ?hk1 ?hp1
            case hs1 => exact (.cons (t := 8) rfl .nil)
            case hk1 => exact (.cons (t := 3) rfl (.cons (t := 4) rfl (.cons (t := 5) rfl (.cons (t := 6) rfl (.cons (t := 7) rfl (.cons (t := 13) rfl (.cons (t := 14) rfl (.cons (t := 15) rfl (.cons (t := 16) rfl (.cons (t := 19) rfl (.cons (t := 20) rfl (.cons (t := 21) rfl (.cons (t := 22) rfl (.cons (t := 23) rfl (.cons (t := 24) rfl (.cons (t := 25) rfl (.cons (t := 27) rfl (.cons (t := 28) rfl (.cons (t := 29) rfl (.cons (t := 30) rfl (.cons (t := 31) rfl (.cons (t := 32) rfl (.cons (t := 33) rfl (.cons (t := 34) rfl (.cons (t := 35) rfl (.cons (t := 36) rfl (.cons (t := 37) rfl (.cons (t := 38) rfl .nil))))))))))))))))))))))))))))
            case hp1 => exact (.cons 0 rfl .nil)
            all_goals (first | rfl | trivial | omega | (simp_all; done))
        · have ph4 := h4; try simp only [sbx] at ph4
          refine W.exit ?_
          refine N.thenExit ?_
          refine N.thenExit ?_
          refine N.blockExit ?_
          refine N.blockNormal ?_
          refine N.thenW ?_
          refine W.region ?_
          refine L.mv rfl rfl rfl rfl rfl ?_
          first | refine L.op1 rfl rfl (GSpec.plain rfl (fit_i64 (by omega) (by omega) (spec_add rfl (Get.tmp rfl) (Get.cint rfl)))) ?_ | refine L.op1 rfl rfl (GSpec.plain rfl (spec_add rfl (Get.tmp rfl) (Get.cint rfl))) ?_
          refine L.as rfl rfl rfl rfl rfl ?_
          refine L.nil ?_
          refine N.roundK (i + 1) ?hI2 ?hmu2 ?hs2 ?hk2 ?hp2
          case hs2 => exact (.cons (t := 5) rfl .nil)
          case hk2 => exact (.cons (t := 3) rfl (.cons (t := 4) rfl .nil))
          case hp2 => exact (.cons 0 rfl .nil)
          all_goals (first | rfl | trivial | omega | (simp_all; done))
  · have ph1 := h1; try simp only [sbx] at ph1
    refine W.exit ?_
    refine N.thenExit ?_
    refine N.thenExit ?_
    refine N.blockExit ?_
    refine N.thenW ?_
    refine W.keep .nil .refl ?_
    refine W.sr ?_
    refine L.p1 rfl rfl rfl (spec_assign rfl (Get.cint rfl)) ?_
    refine L.nt ?_
    refine W.ret ?_
    refine N.ret () rfl (.tmp (t := 2) (Get.tmp rfl) .nil) (res1 (eqI ?_)) .nil (fun _ _ h => h)
    rfl

theorem shownD_ok (d : Ds) (hd : DsOk d) : CallT Tryz.prog 65 [Rp.agg (eD d)] [] (.one (Rp.int .i64 0)) := by
  refine W.enter (fn := Tryz.f65) (n := 36) Tryz.func65 rfl Tryz.ntmps65 rfl (fun w₀ C₀ => ?_)
  simp only [argS]
  have hsm := hd.sm
  have hnl := names_len d
  have hwl := widths_len d
  have hel := exprs_len d
  have hn48 := hd.n
  have ho := hd.o
  refine W.sr ?_
  refine L.box rfl rfl (GSpec.plain rfl (spec_box rfl (GetC.agg (Get.tmp rfl)))) (fun r1 => ?_)
  refine L.p1 rfl rfl rfl (spec_assign rfl (Get.cint rfl)) ?_
  refine L.nt ?_
  refine W.seq ?_
  apply W.any 7 mixed (by kernel_rfl)
  · apply Head.one rfl rfl (GSpec.plain rfl (spec_loadW (k := 0) rfl Tryz.isAgg27 Tryz.sizeOf27 (Get.tmp rfl) rfl rfl))
    apply Head.one rfl rfl (GSpec.plain rfl (spec_call rfl Tryz.call68 (namesD_ok _ hsm) (.cons (Get.tmp rfl) .nil)))
    apply Head.one rfl rfl (GSpec.plain rfl (spec_fieldAddr (f := 1) (off' := 1) rfl Tryz.underlying27 rfl Tryz.sizeOf22 (Get.tmp rfl) rfl))
    apply Head.one rfl rfl (GSpec.plain rfl (spec_load1 (k := 0) rfl Tryz.isAgg22 (Get.tmp rfl) rfl rfl))
    apply Head.one rfl rfl (GSpec.plain rfl (spec_len rfl Tryz.underlying22 (Get.tmp rfl)))
    apply Head.one rfl rfl (GSpec.plain rfl (spec_slice (E := eS) rfl Tryz.underlying25 Tryz.sizeOf9 (fun _ => rfl) (Get.tmp rfl) (.some (Get.tmp rfl) (by (first | omega | (simp only [Int.toNat_natCast]; omega)))) .none (by (first | omega | (simp only [Int.toNat_natCast]; omega)))))
    apply Head.one rfl rfl (GSpec.plain rfl (spec_assign rfl (Get.tmp rfl)))
    exact Head.nil
  refine Fin.one ?_
  refine Fin.one ?_
  refine Fin.one ?_
  refine Fin.one ?_
  refine Fin.one ?_
  refine Fin.one ?_
  refine Fin.one ?_
  refine Fin.nil ?_
  refine L.nt ?_
  rw [show List.take ((namesD d).length - ((d.inputs.length : Nat) : Int).toNat) (List.drop ((d.inputs.length : Nat) : Int).toNat (namesD d)) = (namesD d).drop d.inputs.length from List.take_of_length_le (by simp)]
  refine W.keep (.cons (t := 1) rfl (.cons (t := 2) rfl (.cons (t := 3) rfl .nil))) .refl ?_
  refine W.seq ?_
  refine W.sr ?_
  refine L.p1 rfl rfl rfl (spec_assign rfl (Get.cint rfl)) ?_
  refine L.nt ?_
  refine W.block ?_
  refine W.loopK (σ := Nat) (.cons (t := 1) rfl (.cons (t := 3) rfl .nil)) (fun z => [(4, Rp.int .i64 (z : Nat))]) (fun z => []) (fun z => z ≤ d.outputs.length) (fun z => d.outputs.length - z) 0 (Nat.zero_le _) (.cons (t := 4) rfl .nil) (.cons 0 rfl .nil) ?_
  intro i hI S' M' hS hM
  try dsimp only at hS hM
  simp only [List.cons_append, List.nil_append] at hS hM
  subst hS hM
  try dsimp only
  refine W.seq ?_
  refine W.sr ?_
  refine L.mv rfl rfl rfl rfl rfl ?_
  refine L.p1 rfl rfl rfl (spec_fieldAddr (f := 4) (off' := 4) rfl Tryz.underlying27 rfl Tryz.sizeOf25 (Get.tmp rfl) rfl) ?_
  refine L.p1 rfl rfl rfl (spec_load1 (k := 0) rfl Tryz.isAgg25 (Get.tmp rfl) rfl rfl) ?_
  refine L.p1 rfl rfl rfl (spec_len rfl Tryz.underlying25 (Get.tmp rfl)) ?_
  refine L.p1 rfl rfl rfl (spec_lss rfl (Get.tmp rfl) (Get.tmp rfl)) ?_
  refine L.nt ?_
  refine W.cond (Get.tmp rfl) (fun h1 => ?_) (fun h1 => ?_)
  · have ph1 := h1; try simp only [sbx] at ph1
    refine W.skip ?_
    refine N.thenW ?_
    refine W.seq ?_
    refine W.block ?_
    refine W.seq ?_
    refine W.sr ?_
    refine L.mv rfl rfl rfl rfl rfl ?_
    refine L.p1 rfl rfl rfl (spec_fieldAddr (f := 4) (off' := 4) rfl Tryz.underlying27 rfl Tryz.sizeOf25 (Get.tmp rfl) rfl) ?_
    refine L.p1 rfl rfl rfl (spec_load1 (k := 0) rfl Tryz.isAgg25 (Get.tmp rfl) rfl rfl) ?_
    refine L.mv rfl rfl rfl rfl rfl ?_
    refine L.p1 rfl rfl rfl (spec_indexAddrD (E := eS) rfl Tryz.underlying25 Tryz.sizeOf9 (fun _ => rfl) (Get.tmp rfl) (Get.tmp rfl) (by (first | omega | (simp only [Int.toNat_natCast]; omega)))) ?_
    refine L.p1 rfl rfl rfl (spec_loadP1 rfl Tryz.isAgg9 (Get.tmp rfl)) ?_
    refine L.p1 rfl rfl rfl (spec_call rfl Tryz.call67 (index_ok _ _) (.cons (Get.tmp rfl) (.cons (Get.tmp rfl) .nil))) ?_
    refine L.p1 rfl rfl rfl (spec_lss rfl (Get.tmp rfl) (Get.cint rfl)) ?_
    refine L.nt ?_
    refine W.cond (Get.tmp rfl) (fun h2 => ?_) (fun h2 => ?_)
    · exfalso; have h := of_decide_eq_true h2; simp only [Int.toNat_natCast] at h; have := hd.out1 i (by omega); omega
    · have ph2 := h2; try simp only [sbx] at ph2
      refine W.skip ?_
      refine N.thenW ?_
      refine W.seq ?_
      apply W.any 10 mixed (by kernel_rfl)
      · apply Head.one rfl rfl (GSpec.plain rfl (spec_fieldAddr (f := 4) (off' := 4) rfl Tryz.underlying27 rfl Tryz.sizeOf25 (Get.tmp rfl) rfl))
        apply Head.one rfl rfl (GSpec.plain rfl (spec_load1 (k := 0) rfl Tryz.isAgg25 (Get.tmp rfl) rfl rfl))
        apply Head.one rfl rfl (GSpec.plain rfl (spec_fieldAddr (f := 4) (off' := 4) rfl Tryz.underlying27 rfl Tryz.sizeOf25 (Get.tmp rfl) rfl))
        apply Head.one rfl rfl (GSpec.plain rfl (spec_load1 (k := 0) rfl Tryz.isAgg25 (Get.tmp rfl) rfl rfl))
        apply Head.one rfl rfl (GSpec.plain rfl (spec_move rfl (Get.tmp rfl)))
        apply Head.one rfl rfl (GSpec.plain rfl (spec_indexAddrD (E := eS) rfl Tryz.underlying25 Tryz.sizeOf9 (fun _ => rfl) (Get.tmp rfl) (Get.tmp rfl) (by (first | omega | (simp only [Int.toNat_natCast]; omega)))))
        apply Head.one rfl rfl (GSpec.plain rfl (spec_loadP1 rfl Tryz.isAgg9 (Get.tmp rfl)))
        apply Head.one rfl rfl (GSpec.plain rfl (spec_call rfl Tryz.call67 (index_ok _ _) (.cons (Get.tmp rfl) (.cons (Get.tmp rfl) .nil))))
        apply Head.one rfl rfl (GSpec.plain rfl (spec_move rfl (Get.tmp rfl)))
        apply Head.one rfl rfl (GSpec.plain rfl (spec_neq rfl (Get.tmp rfl) (Get.tmp rfl)))
        exact Head.nil
      refine Fin.one ?_
      refine Fin.one ?_
      refine Fin.one ?_
      refine Fin.one ?_
      refine Fin.one ?_
      refine Fin.one ?_
      refine Fin.one ?_
      refine Fin.one ?_
      refine Fin.one ?_
      refine Fin.one ?_
      refine Fin.nil ?_
      refine L.nt ?_
      refine W.cond (Get.tmp rfl) (fun h3 => ?_) (fun h3 => ?_)
      · exfalso; have h := h3; simp only [Bool.not_eq_true', decide_eq_false_iff_not] at h; exact h (hd.out2 i (by omega))
      · have ph3 := h3; try simp only [sbx] at ph3
        refine W.skip ?_
        refine N.blockNormal ?_
        refine N.thenW ?_
        refine W.region ?_
        refine L.mv rfl rfl rfl rfl rfl ?_
        first | refine L.op1 rfl rfl (GSpec.plain rfl (fit_i64 (by (first | omega | (simp only [Int.toNat_natCast]; omega))) (by (first | omega | (simp only [Int.toNat_natCast]; omega))) (spec_add rfl (Get.tmp rfl) (Get.cint rfl)))) ?_ | refine L.op1 rfl rfl (GSpec.plain rfl (spec_add rfl (Get.tmp rfl) (Get.cint rfl))) ?_
        refine L.as rfl rfl rfl rfl rfl ?_
        refine L.nil ?_
        refine N.roundK (i + 1) ?hI3 ?hmu3 ?hs3 ?hk3 ?hp3
        case hs3 => exact (.cons (t := 4) rfl .nil)
        case hk3 => exact (.cons (t := 1) rfl (.cons (t := 3) rfl .nil))
        case hp3 => exact (.cons 0 rfl .nil)
        all_goals (first | rfl | trivial | omega | (simp_all; done))
  · have ph1 := h1; try simp only [sbx] at ph1
    refine W.exit ?_
    refine N.thenExit ?_
    refine N.thenExit ?_
    refine N.blockExit ?_
    refine N.thenW ?_
    refine W.keep .nil .refl ?_
    refine W.sr ?_
    refine L.p1 rfl rfl rfl (spec_assign rfl (Get.cint rfl)) ?_
    refine L.nt ?_
    refine W.ret ?_
    refine N.ret () rfl (.tmp (t := 2) (Get.tmp rfl) .nil) (res1 (eqI ?_)) .nil (fun _ _ h => h)
    rfl

end Go.Proofs.YthlfacmpjehjmaaGreatDoor
set_option linter.unusedSimpArgs false
set_option maxRecDepth 8000
set_option linter.unusedVariables false
namespace Go.Proofs.YthlfacmpjehjmaaGreatDoor
open Go.Sim
theorem namedD_ok (d : Ds) (hd : DsOk d) : CallT Tryz.prog 62 [Rp.agg (eD d)] [] (.one (Rp.int .i64 0)) := by
  refine W.enter (fn := Tryz.f62) (n := 41) Tryz.func62 rfl Tryz.ntmps62 rfl (fun w₀ C₀ => ?_)
  simp only [argS]
  have hsm := hd.sm
  have hnl := names_len d
  have hwl := widths_len d
  have hel := exprs_len d
  have hn48 := hd.n
  have ho := hd.o
  refine W.sr ?_
  refine L.box rfl rfl (GSpec.plain rfl (spec_box rfl (GetC.agg (Get.tmp rfl)))) (fun r1 => ?_)
  refine L.p1 rfl rfl rfl (spec_assign rfl (Get.cint rfl)) ?_
  refine L.nt ?_
  refine W.sr ?_
  refine L.p1 rfl rfl rfl (spec_loadW (k := 0) rfl Tryz.isAgg27 Tryz.sizeOf27 (Get.tmp rfl) rfl rfl) ?_
  refine L.p1 rfl rfl rfl (spec_call rfl Tryz.call68 (namesD_ok _ hsm) (.cons (Get.tmp rfl) .nil)) ?_
  refine L.as rfl rfl rfl rfl rfl ?_
  refine L.nt ?_
  refine W.seq ?_
  refine W.sr ?_
  refine L.p1 rfl rfl rfl (spec_fieldAddr (f := 0) (off' := 0) rfl Tryz.underlying27 rfl Tryz.sizeOf9 (Get.tmp rfl) rfl) ?_
  refine L.p1 rfl rfl rfl (spec_load1 (k := 0) rfl Tryz.isAgg9 (Get.tmp rfl) rfl rfl) ?_
  refine L.p1 rfl rfl rfl (spec_call rfl Tryz.call80 (isName_ok _) (.cons (Get.tmp rfl) .nil)) ?_
  refine L.p1 rfl rfl rfl (spec_not rfl (Get.tmp rfl)) ?_
  refine L.nt ?_
  refine W.keep (.cons (t := 2) rfl (.cons (t := 3) rfl (.cons (t := 11) rfl .nil))) .refl ?_
  refine W.cond (Get.tmp rfl) (fun h1 => ?_) (fun h1 => ?_)
  · exfalso; have h := h1; rw [hd.nm] at h; simp at h
  · have ph1 := h1; try simp only [sbx] at ph1
    refine W.skip ?_
    refine N.thenW ?_
    refine W.seq ?_
    refine W.sr ?_
    refine L.p1 rfl rfl rfl (spec_assign rfl (Get.cint rfl)) ?_
    refine L.nt ?_
    refine W.block ?_
    refine W.loopK (σ := Nat) (.cons (t := 3) rfl .nil) (fun z => [(4, Rp.int .i64 (z : Nat))]) (fun z => []) (fun z => z ≤ (namesD d).length) (fun z => (namesD d).length - z) 0 (Nat.zero_le _) (.cons (t := 4) rfl .nil) (.cons 0 rfl .nil) ?_
    intro i hI S' M' hS hM
    try dsimp only at hS hM
    simp only [List.cons_append, List.nil_append] at hS hM
    subst hS hM
    try dsimp only
    refine W.seq ?_
    refine W.sr ?_
    refine L.mv rfl rfl rfl rfl rfl ?_
    refine L.mv rfl rfl rfl rfl rfl ?_
    refine L.p1 rfl rfl rfl (spec_len rfl Tryz.underlying25 (Get.tmp rfl)) ?_
    refine L.p1 rfl rfl rfl (spec_lss rfl (Get.tmp rfl) (Get.tmp rfl)) ?_
    refine L.nt ?_
    refine W.cond (Get.tmp rfl) (fun h2 => ?_) (fun h2 => ?_)
    · have ph2 := h2; try simp only [sbx] at ph2
      refine W.skip ?_
      refine N.thenW ?_
      refine W.seq ?_
      refine W.block ?_
      refine W.sr ?_
      refine L.mv rfl rfl rfl rfl rfl ?_
      refine L.mv rfl rfl rfl rfl rfl ?_
      refine L.p1 rfl rfl rfl (spec_indexAddrD (E := eS) rfl Tryz.underlying25 Tryz.sizeOf9 (fun _ => rfl) (Get.tmp rfl) (Get.tmp rfl) (by omega)) ?_
      refine L.p1 rfl rfl rfl (spec_loadP1 rfl Tryz.isAgg9 (Get.tmp rfl)) ?_
      refine L.p1 rfl rfl rfl (spec_call rfl Tryz.call80 (isName_ok _) (.cons (Get.tmp rfl) .nil)) ?_
      refine L.p1 rfl rfl rfl (spec_not rfl (Get.tmp rfl)) ?_
      refine L.nt ?_
      refine W.cond (Get.tmp rfl) (fun h3 => ?_) (fun h3 => ?_)
      · exfalso; have h := h3; simp only [Int.toNat_natCast] at h; rw [hd.nms i (by omega)] at h; simp at h
      · have ph3 := h3; try simp only [sbx] at ph3
        refine W.skip ?_
        refine N.blockNormal ?_
        refine N.thenW ?_
        refine W.region ?_
        refine L.mv rfl rfl rfl rfl rfl ?_
        first | refine L.op1 rfl rfl (GSpec.plain rfl (fit_i64 (by omega) (by omega) (spec_add rfl (Get.tmp rfl) (Get.cint rfl)))) ?_ | refine L.op1 rfl rfl (GSpec.plain rfl (spec_add rfl (Get.tmp rfl) (Get.cint rfl))) ?_
        refine L.as rfl rfl rfl rfl rfl ?_
        refine L.nil ?_
        refine N.roundK (i + 1) ?hI1 ?hmu1 ?hs1 ?hk1 ?hp1
        case hs1 => exact (.cons (t := 4) rfl .nil)
        case hk1 => exact (.cons (t := 3) rfl .nil)
        case hp1 => exact (.cons 0 rfl .nil)
        all_goals (first | rfl | trivial | omega | (simp_all; done))
    · have ph2 := h2; try simp only [sbx] at ph2
      refine W.exit ?_
      refine N.thenExit ?_
      refine N.thenExit ?_
      refine N.blockExit ?_
      refine N.thenW ?_
      refine W.seq ?_
      refine W.sr ?_
      refine L.mv rfl rfl rfl rfl rfl ?_
      refine L.p1 rfl rfl rfl (spec_len rfl Tryz.underlying25 (Get.tmp rfl)) ?_
      refine L.p1 rfl rfl rfl (spec_gtr rfl (Get.tmp rfl) (Get.cint rfl)) ?_
      refine L.nt ?_
      refine W.keep (.cons (t := 3) rfl (.cons (t := 26) rfl .nil)) .refl ?_
      refine W.cond (Get.tmp rfl) (fun h4 => ?_) (fun h4 => ?_)
      · exfalso; have h := of_decide_eq_true h4; omega
      · have ph4 := h4; try simp only [sbx] at ph4
        refine W.skip ?_
        refine N.thenW ?_
        refine W.seq ?_
        refine W.sr ?_
        refine L.p1 rfl rfl rfl (spec_assign rfl (Get.cint rfl)) ?_
        refine L.nt ?_
        refine W.block ?_
        refine W.loopK (σ := Nat) (.cons (t := 3) rfl .nil) (fun z => [(5, Rp.int .i64 (z : Nat))]) (fun z => []) (fun z => z ≤ (namesD d).length) (fun z => (namesD d).length - z) 0 (Nat.zero_le _) (.cons (t := 5) rfl .nil) (.cons 0 rfl .nil) ?_
        intro i hI S' M' hS hM
        try dsimp only at hS hM
        simp only [List.cons_append, List.nil_append] at hS hM
        subst hS hM
        try dsimp only
        refine W.seq ?_
        refine W.sr ?_
        refine L.mv rfl rfl rfl rfl rfl ?_
        refine L.mv rfl rfl rfl rfl rfl ?_
        refine L.p1 rfl rfl rfl (spec_len rfl Tryz.underlying25 (Get.tmp rfl)) ?_
        refine L.p1 rfl rfl rfl (spec_lss rfl (Get.tmp rfl) (Get.tmp rfl)) ?_
        refine L.nt ?_
        refine W.cond (Get.tmp rfl) (fun h5 => ?_) (fun h5 => ?_)
        · have ph5 := h5; try simp only [sbx] at ph5
          refine W.skip ?_
          refine N.thenW ?_
          refine W.seq ?_
          refine W.block ?_
          refine W.sr ?_
          refine L.mv rfl rfl rfl rfl rfl ?_
          refine L.mv rfl rfl rfl rfl rfl ?_
          refine L.mv rfl rfl rfl rfl rfl ?_
          refine L.p1 rfl rfl rfl (spec_indexAddrD (E := eS) rfl Tryz.underlying25 Tryz.sizeOf9 (fun _ => rfl) (Get.tmp rfl) (Get.tmp rfl) (by omega)) ?_
          refine L.p1 rfl rfl rfl (spec_loadP1 rfl Tryz.isAgg9 (Get.tmp rfl)) ?_
          refine L.p1 rfl rfl rfl (spec_call rfl Tryz.call67 (index_ok _ _) (.cons (Get.tmp rfl) (.cons (Get.tmp rfl) .nil))) ?_
          refine L.mv rfl rfl rfl rfl rfl ?_
          refine L.p1 rfl rfl rfl (spec_neq rfl (Get.tmp rfl) (Get.tmp rfl)) ?_
          refine L.nt ?_
          refine W.cond (Get.tmp rfl) (fun h6 => ?_) (fun h6 => ?_)
          · exfalso; have h := h6; simp only [Bool.not_eq_true', decide_eq_false_iff_not] at h; exact h (hd.ix i (by omega))
          · have ph6 := h6; try simp only [sbx] at ph6
            refine W.skip ?_
            refine N.blockNormal ?_
            refine N.thenW ?_
            refine W.region ?_
            refine L.mv rfl rfl rfl rfl rfl ?_
            first | refine L.op1 rfl rfl (GSpec.plain rfl (fit_i64 (by omega) (by omega) (spec_add rfl (Get.tmp rfl) (Get.cint rfl)))) ?_ | refine L.op1 rfl rfl (GSpec.plain rfl (spec_add rfl (Get.tmp rfl) (Get.cint rfl))) ?_
            refine L.as rfl rfl rfl rfl rfl ?_
            refine L.nil ?_
            refine N.roundK (i + 1) ?hI2 ?hmu2 ?hs2 ?hk2 ?hp2
            case hs2 => exact (.cons (t := 5) rfl .nil)
            case hk2 => exact (.cons (t := 3) rfl .nil)
            case hp2 => exact (.cons 0 rfl .nil)
            all_goals (first | rfl | trivial | omega | (simp_all; done))
        · have ph5 := h5; try simp only [sbx] at ph5
          refine W.exit ?_
          refine N.thenExit ?_
          refine N.thenExit ?_
          refine N.blockExit ?_
          refine N.thenW ?_
          refine W.keep .nil .refl ?_
          refine W.sr ?_
          refine L.p1 rfl rfl rfl (spec_assign rfl (Get.cint rfl)) ?_
          refine L.nt ?_
          refine W.ret ?_
          refine N.ret () rfl (.tmp (t := 2) (Get.tmp rfl) .nil) (res1 (eqI ?_)) .nil (fun _ _ h => h)
          rfl

end Go.Proofs.YthlfacmpjehjmaaGreatDoor
set_option linter.unusedSimpArgs false
set_option maxRecDepth 8000
set_option linter.unusedVariables false
namespace Go.Proofs.YthlfacmpjehjmaaGreatDoor
open Go.Sim
theorem validD_ok (d : Ds) (hv : DsV d) : CallT Tryz.prog 22 [Rp.agg (eD d)] [] (.one (Rp.int .i64 0)) := by
  refine W.enter (fn := Tryz.f22) (n := 31) Tryz.func22 rfl Tryz.ntmps22 rfl (fun w₀ C₀ => ?_)
  simp only [argS]
  have ho := hv.ord
  refine W.sr ?_
  refine L.box rfl rfl (GSpec.plain rfl (spec_box rfl (GetC.agg (Get.tmp rfl)))) (fun r1 => ?_)
  refine L.p1 rfl rfl rfl (spec_assign rfl (Get.cint rfl)) ?_
  refine L.nt ?_
  refine W.sr ?_
  refine L.p1 rfl rfl rfl (spec_loadW (k := 0) rfl Tryz.isAgg27 Tryz.sizeOf27 (Get.tmp rfl) rfl rfl) ?_
  refine L.p1 rfl rfl rfl (spec_call rfl Tryz.call62 (namedD_ok _ hv.ok) (.cons (Get.tmp rfl) .nil)) ?_
  refine L.as rfl rfl rfl rfl rfl ?_
  refine L.nt ?_
  refine W.seq ?_
  refine W.sr ?_
  refine L.mv rfl rfl rfl rfl rfl ?_
  refine L.p1 rfl rfl rfl (spec_neq rfl (Get.tmp rfl) (Get.cint rfl)) ?_
  refine L.nt ?_
  refine W.cond (Get.tmp rfl) (fun h1 => ?_) (fun h1 => ?_)
  · exfalso; have h := h1; simp at h
  · have ph1 := h1; try simp only [sbx] at ph1
    refine W.skip ?_
    refine N.thenW ?_
    refine W.sr ?_
    refine L.p1 rfl rfl rfl (spec_loadW (k := 0) rfl Tryz.isAgg27 Tryz.sizeOf27 (Get.tmp rfl) rfl rfl) ?_
    refine L.p1 rfl rfl rfl (spec_call rfl Tryz.call63 (numberedD_ok _ hv.ok) (.cons (Get.tmp rfl) .nil)) ?_
    refine L.as rfl rfl rfl rfl rfl ?_
    refine L.nt ?_
    refine W.keep (.cons (t := 1) rfl (.cons (t := 2) rfl (.cons (t := 3) rfl .nil))) .refl ?_
    refine W.seq ?_
    refine W.sr ?_
    refine L.mv rfl rfl rfl rfl rfl ?_
    refine L.p1 rfl rfl rfl (spec_neq rfl (Get.tmp rfl) (Get.cint rfl)) ?_
    refine L.nt ?_
    refine W.cond (Get.tmp rfl) (fun h2 => ?_) (fun h2 => ?_)
    · exfalso; have h := h2; simp at h
    · have ph2 := h2; try simp only [sbx] at ph2
      refine W.skip ?_
      refine N.thenW ?_
      refine W.sr ?_
      refine L.p1 rfl rfl rfl (spec_loadW (k := 0) rfl Tryz.isAgg27 Tryz.sizeOf27 (Get.tmp rfl) rfl rfl) ?_
      refine L.p1 rfl rfl rfl (spec_call rfl Tryz.call64 (writtenD_ok _ hv.ok) (.cons (Get.tmp rfl) .nil)) ?_
      refine L.as rfl rfl rfl rfl rfl ?_
      refine L.nt ?_
      refine W.seq ?_
      refine W.sr ?_
      refine L.mv rfl rfl rfl rfl rfl ?_
      refine L.p1 rfl rfl rfl (spec_neq rfl (Get.tmp rfl) (Get.cint rfl)) ?_
      refine L.nt ?_
      refine W.keep (.cons (t := 1) rfl (.cons (t := 2) rfl (.cons (t := 3) rfl (.cons (t := 17) rfl .nil)))) .refl ?_
      refine W.cond (Get.tmp rfl) (fun h3 => ?_) (fun h3 => ?_)
      · exfalso; have h := h3; simp at h
      · have ph3 := h3; try simp only [sbx] at ph3
        refine W.skip ?_
        refine N.thenW ?_
        refine W.sr ?_
        refine L.p1 rfl rfl rfl (spec_loadW (k := 0) rfl Tryz.isAgg27 Tryz.sizeOf27 (Get.tmp rfl) rfl rfl) ?_
        refine L.p1 rfl rfl rfl (spec_call rfl Tryz.call65 (shownD_ok _ hv.ok) (.cons (Get.tmp rfl) .nil)) ?_
        refine L.as rfl rfl rfl rfl rfl ?_
        refine L.nt ?_
        refine W.seq ?_
        refine W.sr ?_
        refine L.mv rfl rfl rfl rfl rfl ?_
        refine L.p1 rfl rfl rfl (spec_neq rfl (Get.tmp rfl) (Get.cint rfl)) ?_
        refine L.nt ?_
        refine W.cond (Get.tmp rfl) (fun h4 => ?_) (fun h4 => ?_)
        · exfalso; have h := h4; simp at h
        · have ph4 := h4; try simp only [sbx] at ph4
          refine W.skip ?_
          refine N.thenW ?_
          refine W.keep (.cons (t := 1) rfl (.cons (t := 2) rfl .nil)) .refl ?_
          refine W.seq ?_
          refine W.seq ?_
          apply W.any 7 mixed (by kernel_rfl)
          · apply Head.one rfl rfl (GSpec.plain rfl (spec_loadW (k := 0) rfl Tryz.isAgg27 Tryz.sizeOf27 (Get.tmp rfl) rfl rfl))
            apply Head.one rfl rfl (GSpec.plain rfl (spec_call rfl Tryz.call66 (orderD_ok _ hv.ok) (.cons (Get.tmp rfl) .nil)))
            apply Head.one rfl rfl (GSpec.plain rfl (spec_len rfl Tryz.underlying92 (Get.tmp rfl)))
            apply Head.one rfl rfl (GSpec.plain rfl (spec_fieldAddr (f := 2) (off' := 2) rfl Tryz.underlying27 rfl Tryz.sizeOf23 (Get.tmp rfl) rfl))
            apply Head.one rfl rfl (GSpec.plain rfl (spec_load1 (k := 0) rfl Tryz.isAgg23 (Get.tmp rfl) rfl rfl))
            apply Head.one rfl rfl (GSpec.plain rfl (spec_len rfl Tryz.underlying23 (Get.tmp rfl)))
            apply Head.one rfl rfl (GSpec.plain rfl (spec_lss rfl (Get.tmp rfl) (Get.tmp rfl)))
            exact Head.nil
          refine Fin.one ?_
          refine Fin.one ?_
          refine Fin.one ?_
          refine Fin.one ?_
          refine Fin.one ?_
          refine Fin.one ?_
          refine Fin.one ?_
          refine Fin.nil ?_
          refine L.nt ?_
          refine W.keep (.cons (t := 2) rfl (.cons (t := 30) rfl .nil)) .refl ?_
          refine W.cond (Get.tmp rfl) (fun h5 => ?_) (fun h5 => ?_)
          · exfalso; have h := of_decide_eq_true h5; omega
          · have ph5 := h5; try simp only [sbx] at ph5
            refine W.skip ?_
            refine N.thenW ?_
            refine W.sr ?_
            refine L.p1 rfl rfl rfl (spec_assign rfl (Get.cint rfl)) ?_
            refine L.nt ?_
            refine W.ret ?_
            refine N.ret () rfl (.tmp (t := 2) (Get.tmp rfl) .nil) (res1 (eqI ?_)) .nil (fun _ _ h => h)
            rfl

theorem orderV_ok (d : Ds) (hv : DsV d) : CallT Tryz.prog 136 [Rp.agg (eD d)] [] (.one (Rp.tuple [Rp.slice eI (orderE d), Rp.int .i64 0])) := by
  refine W.enter (fn := Tryz.f136) (n := 12) Tryz.func136 rfl Tryz.ntmps136 rfl (fun w₀ C₀ => ?_)
  simp only [argS]
  refine W.sr ?_
  refine L.box rfl rfl (GSpec.plain rfl (spec_box rfl (GetC.agg (Get.tmp rfl)))) (fun r1 => ?_)
  refine L.p1 rfl rfl rfl (spec_assign rfl (Get.cnil (E := eI))) ?_
  refine L.p1 rfl rfl rfl (spec_assign rfl (Get.cint rfl)) ?_
  refine L.nt ?_
  refine W.sr ?_
  refine L.p1 rfl rfl rfl (spec_loadW (k := 0) rfl Tryz.isAgg27 Tryz.sizeOf27 (Get.tmp rfl) rfl rfl) ?_
  refine L.p1 rfl rfl rfl (spec_call rfl Tryz.call22 (validD_ok _ hv) (.cons (Get.tmp rfl) .nil)) ?_
  refine L.as rfl rfl rfl rfl rfl ?_
  refine L.nt ?_
  refine W.seq ?_
  refine W.sr ?_
  refine L.mv rfl rfl rfl rfl rfl ?_
  refine L.p1 rfl rfl rfl (spec_neq rfl (Get.tmp rfl) (Get.cint rfl)) ?_
  refine L.nt ?_
  refine W.keep (.cons (t := 1) rfl (.cons (t := 2) rfl (.cons (t := 3) rfl (.cons (t := 4) rfl (.cons (t := 8) rfl .nil))))) .refl ?_
  refine W.cond (Get.tmp rfl) (fun h1 => ?_) (fun h1 => ?_)
  · exfalso; have h := h1; simp at h
  · have ph1 := h1; try simp only [sbx] at ph1
    refine W.skip ?_
    refine N.thenW ?_
    refine W.sr ?_
    refine L.p1 rfl rfl rfl (spec_loadW (k := 0) rfl Tryz.isAgg27 Tryz.sizeOf27 (Get.tmp rfl) rfl rfl) ?_
    refine L.p1 rfl rfl rfl (spec_call rfl Tryz.call66 (orderD_ok _ hv.ok) (.cons (Get.tmp rfl) .nil)) ?_
    refine L.as rfl rfl rfl rfl rfl ?_
    refine L.p1 rfl rfl rfl (spec_assign rfl (Get.cint rfl)) ?_
    refine L.nt ?_
    refine W.keep (.cons (t := 2) rfl (.cons (t := 3) rfl .nil)) .refl ?_
    refine W.ret ?_
    refine N.ret () rfl (.tmp (t := 2) (Get.tmp rfl) (.tmp (t := 3) (Get.tmp rfl) .nil)) (res2w (eqSl ?_) (eqI ?_)) .nil (fun _ _ h => h)
    all_goals rfl

end Go.Proofs.YthlfacmpjehjmaaGreatDoor
set_option linter.unusedSimpArgs false
set_option maxRecDepth 8000
set_option linter.unusedVariables false
namespace Go.Proofs.YthlfacmpjehjmaaGreatDoor
open Go.Sim
theorem state_ok (d : Ds) (st : List Int) (hd : DsOk d) (hs : StOk d st) : CallT Tryz.prog 117 [Rp.agg (eD d), Rp.slice eI st] [] (.one (Rp.bool true)) := by
  refine W.enter (fn := Tryz.f117) (n := 30) Tryz.func117 rfl Tryz.ntmps117 rfl (fun w₀ C₀ => ?_)
  simp only [argS]
  obtain ⟨hs1, hs2⟩ := hs
  have hn := hd.n
  refine W.sr ?_
  refine L.box rfl rfl (GSpec.plain rfl (spec_box rfl (GetC.agg (Get.tmp rfl)))) (fun r2 => ?_)
  refine L.p1 rfl rfl rfl (spec_assign rfl Get.cbool) ?_
  refine L.nt ?_
  refine W.seq ?_
  refine W.sr ?_
  refine L.mv rfl rfl rfl rfl rfl ?_
  refine L.p1 rfl rfl rfl (spec_len rfl Tryz.underlying92 (Get.tmp rfl)) ?_
  refine L.p1 rfl rfl rfl (spec_fieldAddr (f := 3) (off' := 3) rfl Tryz.underlying27 rfl Tryz.sizeOf24 (Get.tmp rfl) rfl) ?_
  refine L.p1 rfl rfl rfl (spec_load1 (k := 0) rfl Tryz.isAgg24 (Get.tmp rfl) rfl rfl) ?_
  refine L.p1 rfl rfl rfl (spec_len rfl Tryz.underlying24 (Get.tmp rfl)) ?_
  refine L.p1 rfl rfl rfl (spec_neq rfl (Get.tmp rfl) (Get.tmp rfl)) ?_
  refine L.nt ?_
  refine W.cond (Get.tmp rfl) (fun h1 => ?_) (fun h1 => ?_)
  · exfalso; have h := h1; rw [hs1] at h; simp at h
  · have ph1 := h1; try simp only [sbx] at ph1
    refine W.skip ?_
    refine N.thenW ?_
    refine W.seq ?_
    refine W.sr ?_
    refine L.p1 rfl rfl rfl (spec_assign rfl (Get.cint rfl)) ?_
    refine L.nt ?_
    refine W.block ?_
    refine W.loopK (σ := Nat) (.cons (t := 1) rfl (.cons (t := 2) rfl .nil)) (fun z => [(5, Rp.int .i64 (z : Nat))]) (fun z => []) (fun z => z ≤ st.length) (fun z => st.length - z) 0 (Nat.zero_le _) (.cons (t := 5) rfl .nil) (.cons 0 rfl .nil) ?_
    intro i hI S' M' hS hM
    try dsimp only at hS hM
    simp only [List.cons_append, List.nil_append] at hS hM
    subst hS hM
    try dsimp only
    refine W.seq ?_
    refine W.sr ?_
    refine L.mv rfl rfl rfl rfl rfl ?_
    refine L.mv rfl rfl rfl rfl rfl ?_
    refine L.p1 rfl rfl rfl (spec_len rfl Tryz.underlying92 (Get.tmp rfl)) ?_
    refine L.p1 rfl rfl rfl (spec_lss rfl (Get.tmp rfl) (Get.tmp rfl)) ?_
    refine L.nt ?_
    refine W.cond (Get.tmp rfl) (fun h2 => ?_) (fun h2 => ?_)
    · have ph2 := h2; try simp only [sbx] at ph2
      refine W.skip ?_
      refine N.thenW ?_
      refine W.seq ?_
      refine W.block ?_
      refine W.seq ?_
      apply W.any 12 mixed (by kernel_rfl)
      · apply Head.one rfl rfl (GSpec.plain rfl (spec_move rfl (Get.tmp rfl)))
        apply Head.one rfl rfl (GSpec.plain rfl (spec_move rfl (Get.tmp rfl)))
        apply Head.one rfl rfl (GSpec.plain rfl (spec_indexAddrD (E := eI) rfl Tryz.underlying92 Tryz.sizeOf3 (fun _ => rfl) (Get.tmp rfl) (Get.tmp rfl) (by (first | omega | (simp only [Int.toNat_natCast]; omega)))))
        apply Head.one rfl rfl (GSpec.plain rfl (spec_loadP1 rfl Tryz.isAgg3 (Get.tmp rfl)))
        apply Head.one rfl rfl (GSpec.plain rfl (spec_fieldAddr (f := 3) (off' := 3) rfl Tryz.underlying27 rfl Tryz.sizeOf24 (Get.tmp rfl) rfl))
        apply Head.one rfl rfl (GSpec.plain rfl (spec_load1 (k := 0) rfl Tryz.isAgg24 (Get.tmp rfl) rfl rfl))
        apply Head.one rfl rfl (GSpec.plain rfl (spec_move rfl (Get.tmp rfl)))
        apply Head.one rfl rfl (GSpec.plain rfl (spec_indexAddrD (E := eRg) rfl Tryz.underlying24 Tryz.sizeOf81 (fun _ => rfl) (Get.tmp rfl) (Get.tmp rfl) (by (first | omega | (simp only [Int.toNat_natCast]; omega)))))
        apply Head.one rfl rfl (GSpec.plain rfl (spec_fieldAddrP (f := 1) rfl Tryz.underlying81 rfl Tryz.sizeOf3 (Get.tmp rfl) rfl rfl))
        apply Head.one rfl rfl (GSpec.plain rfl (spec_loadP1 rfl Tryz.isAgg3 (Get.tmp rfl)))
        apply Head.one rfl rfl (GSpec.plain rfl (spec_call rfl Tryz.call134 (fits_ok _ _) (.cons (Get.tmp rfl) (.cons (Get.tmp rfl) .nil))))
        apply Head.one rfl rfl (GSpec.plain rfl (spec_not rfl (Get.tmp rfl)))
        exact Head.nil
      refine Fin.one ?_
      refine Fin.one ?_
      refine Fin.one ?_
      refine Fin.one ?_
      refine Fin.one ?_
      refine Fin.one ?_
      refine Fin.one ?_
      refine Fin.one ?_
      refine Fin.one ?_
      refine Fin.one ?_
      refine Fin.one ?_
      refine Fin.one ?_
      refine Fin.nil ?_
      refine L.nt ?_
      refine W.cond (Get.tmp rfl) (fun h3 => ?_) (fun h3 => ?_)
      · exfalso; have h := h3; have h2 := hs2 i (by omega); have h3 := (hd.ini i (by omega)).2; simp only [Int.toNat_natCast, Bool.not_eq_true', Bool.and_eq_false_iff, decide_eq_false_iff_not] at h; omega
      · have ph3 := h3; try simp only [sbx] at ph3
        refine W.skip ?_
        refine N.blockNormal ?_
        refine N.thenW ?_
        refine W.region ?_
        refine L.mv rfl rfl rfl rfl rfl ?_
        first | refine L.op1 rfl rfl (GSpec.plain rfl (fit_i64 (by (first | omega | (simp only [Int.toNat_natCast]; omega))) (by (first | omega | (simp only [Int.toNat_natCast]; omega))) (spec_add rfl (Get.tmp rfl) (Get.cint rfl)))) ?_ | refine L.op1 rfl rfl (GSpec.plain rfl (spec_add rfl (Get.tmp rfl) (Get.cint rfl))) ?_
        refine L.as rfl rfl rfl rfl rfl ?_
        refine L.nil ?_
        refine N.roundK (i + 1) ?hI1 ?hmu1 ?hs1 ?hk1 ?hp1
        case hs1 => exact (.cons (t := 5) rfl .nil)
        case hk1 => exact (.cons (t := 1) rfl (.cons (t := 2) rfl .nil))
        case hp1 => exact (.cons 0 rfl .nil)
        all_goals (first | rfl | trivial | omega | (simp_all; done))
    · have ph2 := h2; try simp only [sbx] at ph2
      refine W.exit ?_
      refine N.thenExit ?_
      refine N.thenExit ?_
      refine N.blockExit ?_
      refine N.thenW ?_
      refine W.keep .nil .refl ?_
      refine W.sr ?_
      refine L.p1 rfl rfl rfl (spec_assign rfl Get.cbool) ?_
      refine L.nt ?_
      refine W.ret ?_
      refine N.ret () rfl (.tmp (t := 4) (Get.tmp rfl) .nil) (res1 (eqB ?_)) .nil (fun _ _ h => h)
      rfl

end Go.Proofs.YthlfacmpjehjmaaGreatDoor
set_option linter.unusedSimpArgs false
set_option maxRecDepth 8000
set_option linter.unusedVariables false
namespace Go.Proofs.YthlfacmpjehjmaaGreatDoor
open Go.Sim
theorem reset_ok (d : Ds) (hv : DsV d) : CallT Tryz.prog 87 [Rp.agg (eD d)] [] (.one (Rp.tuple [Rp.slice eI (resetE d), Rp.int .i64 0])) := by
  refine W.enter (fn := Tryz.f87) (n := 29) Tryz.func87 rfl Tryz.ntmps87 rfl (fun w₀ C₀ => ?_)
  simp only [argS]
  have hn := hv.ok.n
  refine W.sr ?_
  refine L.box rfl rfl (GSpec.plain rfl (spec_box rfl (GetC.agg (Get.tmp rfl)))) (fun r1 => ?_)
  refine L.p1 rfl rfl rfl (spec_assign rfl (Get.cnil (E := eI))) ?_
  refine L.p1 rfl rfl rfl (spec_assign rfl (Get.cint rfl)) ?_
  refine L.nt ?_
  refine W.seq ?_
  refine W.sr ?_
  refine L.p1 rfl rfl rfl (spec_loadW (k := 0) rfl Tryz.isAgg27 Tryz.sizeOf27 (Get.tmp rfl) rfl rfl) ?_
  refine L.p1 rfl rfl rfl (spec_call rfl Tryz.call22 (validD_ok _ hv) (.cons (Get.tmp rfl) .nil)) ?_
  refine L.as rfl rfl rfl rfl rfl ?_
  refine L.nt ?_
  refine W.sr ?_
  refine L.mv rfl rfl rfl rfl rfl ?_
  refine L.p1 rfl rfl rfl (spec_neq rfl (Get.tmp rfl) (Get.cint rfl)) ?_
  refine L.nt ?_
  refine W.cond (Get.tmp rfl) (fun h1 => ?_) (fun h1 => ?_)
  · exfalso; have h := h1; simp at h
  · have ph1 := h1; try simp only [sbx] at ph1
    refine W.skip ?_
    refine N.thenW ?_
    refine W.sr ?_
    refine L.p1 rfl rfl rfl (spec_assign rfl Get.cval) ?_
    refine L.nt ?_
    refine W.nil 3 1 eI ?_
    refine W.seq ?_
    refine W.sr ?_
    refine L.p1 rfl rfl rfl (spec_assign rfl (Get.cint rfl)) ?_
    refine L.nt ?_
    refine W.block ?_
    refine W.loopK (σ := Nat × Value) (.cons (t := 1) rfl (.cons (t := 2) rfl (.cons (t := 3) rfl .nil))) (fun z => [(6, Rp.int .i64 (z.1 : Nat)), (5, Rp.val z.2)]) (fun z => [MF.osl z.2 3 1 eI ((d.regs.take z.1).map Rg.init)]) (fun z => z.1 ≤ d.regs.length) (fun z => d.regs.length - z.1) (0, .slice none 0 0) (Nat.zero_le _) (.cons (t := 6) rfl (.cons (t := 5) rfl .nil)) (.cons 0 rfl (.cons 0 rfl .nil)) ?_
    intro ⟨i, vo⟩ hI S' M' hS hM
    try dsimp only at hS hM
    simp only [List.cons_append, List.nil_append] at hS hM
    subst hS hM
    try dsimp only
    try dsimp only at hI
    refine W.seq ?_
    refine W.sr ?_
    refine L.mv rfl rfl rfl rfl rfl ?_
    refine L.p1 rfl rfl rfl (spec_fieldAddr (f := 3) (off' := 3) rfl Tryz.underlying27 rfl Tryz.sizeOf24 (Get.tmp rfl) rfl) ?_
    refine L.p1 rfl rfl rfl (spec_load1 (k := 1) rfl Tryz.isAgg24 (Get.tmp rfl) rfl rfl) ?_
    refine L.p1 rfl rfl rfl (spec_len rfl Tryz.underlying24 (Get.tmp rfl)) ?_
    refine L.p1 rfl rfl rfl (spec_lss rfl (Get.tmp rfl) (Get.tmp rfl)) ?_
    refine L.nt ?_
    refine W.cond (Get.tmp rfl) (fun h2 => ?_) (fun h2 => ?_)
    · have ph2 := h2; try simp only [sbx] at ph2
      refine W.skip ?_
      refine N.thenW ?_
      refine W.seq ?_
      refine W.block ?_
      refine W.region ?_
      refine L.mv rfl rfl rfl rfl rfl ?_
      refine L.p1 rfl rfl rfl (spec_fieldAddr (f := 3) (off' := 3) rfl Tryz.underlying27 rfl Tryz.sizeOf24 (Get.tmp rfl) rfl) ?_
      refine L.p1 rfl rfl rfl (spec_load1 (k := 1) rfl Tryz.isAgg24 (Get.tmp rfl) rfl rfl) ?_
      refine L.mv rfl rfl rfl rfl rfl ?_
      refine L.p1 rfl rfl rfl (spec_indexAddrD (E := eRg) rfl Tryz.underlying24 Tryz.sizeOf81 (fun _ => rfl) (Get.tmp rfl) (Get.tmp rfl) (by (first | omega | (simp only [Int.toNat_natCast]; omega)))) ?_
      refine L.p1 rfl rfl rfl (spec_fieldAddrP (f := 2) rfl Tryz.underlying81 rfl Tryz.sizeOf3 (Get.tmp rfl) rfl rfl) ?_
      refine L.p1 rfl rfl rfl (spec_loadP1 rfl Tryz.isAgg3 (Get.tmp rfl)) ?_
      refine L.p1 rfl rfl rfl (spec_buildSlice1 (y := (d.regs.getD i default).init) (E := eI) rfl Tryz.underlying92 ti3 z3 (by decide) (GetC.one (Get.tmp rfl)) (fun _ => rfl)) ?_
      refine L.append (k := 0) (E := eI) rfl rfl rfl rfl Tryz.underlying92 ti3 rfl (by decide) (fun _ => rfl) (Get.tmp rfl) (Get.tmp rfl) rfl (by (simp only [List.length_map, List.length_take, List.length_cons, List.length_nil]; omega)) (by (simp only [List.length_map, List.length_take, List.length_cons, List.length_nil]; omega)) (fun v27 => ?_)
      refine L.as rfl rfl rfl rfl rfl ?_
      refine L.nil ?_
      refine N.blockNormal ?_
      refine N.thenW ?_
      refine W.region ?_
      refine L.mv rfl rfl rfl rfl rfl ?_
      first | refine L.op1 rfl rfl (GSpec.plain rfl (fit_i64 (by (first | omega | (simp only [Int.toNat_natCast]; omega))) (by (first | omega | (simp only [Int.toNat_natCast]; omega))) (spec_add rfl (Get.tmp rfl) (Get.cint rfl)))) ?_ | refine L.op1 rfl rfl (GSpec.plain rfl (spec_add rfl (Get.tmp rfl) (Get.cint rfl))) ?_
      refine L.as rfl rfl rfl rfl rfl ?_
      refine L.nil ?_
      refine N.roundK (i + 1, v27) ?hI1 ?hmu1 ?hs1 ?hk1 ?hp1
      case hs1 => exact (.cons (t := 6) rfl (.cons (t := 5) rfl .nil))
      case hk1 => exact (.cons (t := 1) rfl (.cons (t := 2) rfl (.cons (t := 3) rfl .nil)))
      case hp1 => dsimp only; rw [take_succ (show i < d.regs.length by omega), List.map_append]; exact (.cons 0 rfl (.cons 0 rfl .nil))
      case hI1 => dsimp only; omega
      case hmu1 => dsimp only; omega
    · have ph2 := h2; try simp only [sbx] at ph2
      refine W.exit ?_
      refine N.thenExit ?_
      refine N.thenExit ?_
      refine N.blockExit ?_
      refine N.thenW ?_
      have hi : i = d.regs.length := by omega
      subst hi
      rw [List.take_length]
      refine W.pub (t := 5) (k := 0) rfl rfl (fun _ => rfl) ?_
      refine W.keep (.cons (t := 2) rfl (.cons (t := 3) rfl (.cons (t := 5) rfl .nil))) .refl ?_
      refine W.sr ?_
      refine L.mv rfl rfl rfl rfl rfl ?_
      refine L.as rfl rfl rfl rfl rfl ?_
      refine L.p1 rfl rfl rfl (spec_assign rfl (Get.cint rfl)) ?_
      refine L.nt ?_
      refine W.ret ?_
      refine N.ret () rfl (.tmp (t := 2) (Get.tmp rfl) (.tmp (t := 3) (Get.tmp rfl) .nil)) (res2w (eqSl ?_) (eqI ?_)) .nil (fun _ _ h => h)
      all_goals rfl

theorem input_ok (p : Pt) (l : List Sg) : CallT Tryz.prog 135 [Rp.agg (eP p), Rp.slice eSg l] [] (.one (Rp.int .i64 (inputE p l))) := by
  refine W.enter (fn := Tryz.f135) (n := 28) Tryz.func135 rfl Tryz.ntmps135 rfl (fun w₀ C₀ => ?_)
  simp only [argS]
  refine W.fact 1 rfl slice_fact fun hl => ?_
  refine W.sr ?_
  refine L.box rfl rfl (GSpec.plain rfl (spec_box rfl (GetC.agg (Get.tmp rfl)))) (fun r2 => ?_)
  refine L.p1 rfl rfl rfl (spec_assign rfl (Get.cint rfl)) ?_
  refine L.nt ?_
  refine W.seq ?_
  refine W.sr ?_
  refine L.p1 rfl rfl rfl (spec_assign rfl (Get.cint rfl)) ?_
  refine L.nt ?_
  refine W.block ?_
  refine W.loopK (σ := Nat) (.cons (t := 1) rfl (.cons (t := 2) rfl .nil)) (fun z => [(5, Rp.int .i64 (z : Nat))]) (fun z => []) (fun z => z ≤ l.length ∧ ∀ j : Nat, j < z → (l.getD j default).name ≠ p.name) (fun z => l.length - z) 0 ⟨Nat.zero_le _, fun j hj => by omega⟩ (.cons (t := 5) rfl .nil) (.cons 0 rfl .nil) ?_
  intro i hI S' M' hS hM
  obtain ⟨hI1, hI2⟩ := hI
  try dsimp only at hS hM
  simp only [List.cons_append, List.nil_append] at hS hM
  subst hS hM
  try dsimp only
  refine W.seq ?_
  refine W.sr ?_
  refine L.mv rfl rfl rfl rfl rfl ?_
  refine L.mv rfl rfl rfl rfl rfl ?_
  refine L.p1 rfl rfl rfl (spec_len rfl Tryz.underlying102 (Get.tmp rfl)) ?_
  refine L.p1 rfl rfl rfl (spec_lss rfl (Get.tmp rfl) (Get.tmp rfl)) ?_
  refine L.nt ?_
  refine W.cond (Get.tmp rfl) (fun h1 => ?_) (fun h1 => ?_)
  · have ph1 := h1; try simp only [sbx] at ph1
    refine W.skip ?_
    refine N.thenW ?_
    refine W.seq ?_
    refine W.block ?_
    refine W.seq ?_
    apply W.any 8 mixed (by kernel_rfl)
    · apply Head.one rfl rfl (GSpec.plain rfl (spec_move rfl (Get.tmp rfl)))
      apply Head.one rfl rfl (GSpec.plain rfl (spec_move rfl (Get.tmp rfl)))
      apply Head.one rfl rfl (GSpec.plain rfl (spec_indexAddrD (E := eSg) rfl Tryz.underlying102 Tryz.sizeOf101 (fun _ => rfl) (Get.tmp rfl) (Get.tmp rfl) (by omega)))
      apply Head.one rfl rfl (GSpec.plain rfl (spec_fieldAddrP (f := 0) rfl Tryz.underlying101 rfl Tryz.sizeOf9 (Get.tmp rfl) rfl rfl))
      apply Head.one rfl rfl (GSpec.plain rfl (spec_loadP1 rfl Tryz.isAgg9 (Get.tmp rfl)))
      apply Head.one rfl rfl (GSpec.plain rfl (spec_fieldAddr (f := 0) (off' := 0) rfl Tryz.underlying84 rfl Tryz.sizeOf9 (Get.tmp rfl) rfl))
      apply Head.one rfl rfl (GSpec.plain rfl (spec_load1 (k := 0) rfl Tryz.isAgg9 (Get.tmp rfl) rfl rfl))
      apply Head.one rfl rfl (GSpec.plain rfl (spec_eqlS rfl (Get.tmp rfl) (Get.tmp rfl)))
      exact Head.nil
    refine Fin.one ?_
    refine Fin.one ?_
    refine Fin.one ?_
    refine Fin.one ?_
    refine Fin.one ?_
    refine Fin.one ?_
    refine Fin.one ?_
    refine Fin.one ?_
    refine Fin.nil ?_
    refine L.nt ?_
    refine W.cond (Get.tmp rfl) (fun h2 => ?_) (fun h2 => ?_)
    · have ph2 := h2; try simp only [sbx] at ph2
      refine W.seq ?_
      apply W.any 9 mixed (by kernel_rfl)
      · apply Head.one rfl rfl (GSpec.plain rfl (spec_move rfl (Get.tmp rfl)))
        apply Head.one rfl rfl (GSpec.plain rfl (spec_move rfl (Get.tmp rfl)))
        apply Head.one rfl rfl (GSpec.plain rfl (spec_indexAddrD (E := eSg) rfl Tryz.underlying102 Tryz.sizeOf101 (fun _ => rfl) (Get.tmp rfl) (Get.tmp rfl) (by omega)))
        apply Head.one rfl rfl (GSpec.plain rfl (spec_fieldAddrP (f := 1) rfl Tryz.underlying101 rfl Tryz.sizeOf3 (Get.tmp rfl) rfl rfl))
        apply Head.one rfl rfl (GSpec.plain rfl (spec_loadP1 rfl Tryz.isAgg3 (Get.tmp rfl)))
        apply Head.one rfl rfl (GSpec.plain rfl (spec_fieldAddr (f := 1) (off' := 1) rfl Tryz.underlying84 rfl Tryz.sizeOf3 (Get.tmp rfl) rfl))
        apply Head.one rfl rfl (GSpec.plain rfl (spec_load1 (k := 0) rfl Tryz.isAgg3 (Get.tmp rfl) rfl rfl))
        apply Head.one rfl rfl (GSpec.plain rfl (spec_call rfl Tryz.call105 (cut_ok _ _) (.cons (Get.tmp rfl) (.cons (Get.tmp rfl) .nil))))
        apply Head.one rfl rfl (GSpec.plain rfl (spec_assign rfl (Get.tmp rfl)))
        exact Head.nil
      refine Fin.one ?_
      refine Fin.one ?_
      refine Fin.one ?_
      refine Fin.one ?_
      refine Fin.one ?_
      refine Fin.one ?_
      refine Fin.one ?_
      refine Fin.one ?_
      refine Fin.one ?_
      refine Fin.nil ?_
      refine L.nt ?_
      refine W.ret ?_
      refine N.ret () rfl (.tmp (t := 4) (Get.tmp rfl) .nil) (res1 (eqI ?_)) .nil (fun _ _ h => h)
      unfold inputE; rw [at_yes (by omega) (by simpa using h2) hI2, if_pos (by omega)]
    · have ph2 := h2; try simp only [sbx] at ph2
      refine W.skip ?_
      refine N.blockNormal ?_
      refine N.thenW ?_
      refine W.region ?_
      refine L.mv rfl rfl rfl rfl rfl ?_
      first | refine L.op1 rfl rfl (GSpec.plain rfl (fit_i64 (by omega) (by omega) (spec_add rfl (Get.tmp rfl) (Get.cint rfl)))) ?_ | refine L.op1 rfl rfl (GSpec.plain rfl (spec_add rfl (Get.tmp rfl) (Get.cint rfl))) ?_
      refine L.as rfl rfl rfl rfl rfl ?_
      refine L.nil ?_
      refine N.roundK (i + 1) ?hI2 ?hmu2 ?hs2 ?hk2 ?hp2
      case hs2 => exact (.cons (t := 5) rfl .nil)
      case hk2 => exact (.cons (t := 1) rfl (.cons (t := 2) rfl .nil))
      case hp2 => exact (.cons 0 rfl .nil)
      case hI2 => exact ⟨by omega, upto hI2 (by simpa using h2)⟩
      case hmu2 => omega
  · have ph1 := h1; try simp only [sbx] at ph1
    refine W.exit ?_
    refine N.thenExit ?_
    refine N.thenExit ?_
    refine N.blockExit ?_
    refine N.thenW ?_
    refine W.keep .nil .refl ?_
    refine W.sr ?_
    refine L.p1 rfl rfl rfl (spec_assign rfl (Get.cint rfl)) ?_
    refine L.nt ?_
    refine W.ret ?_
    refine N.ret () rfl (.tmp (t := 4) (Get.tmp rfl) .nil) (res1 (eqI ?_)) .nil (fun _ _ h => h)
    unfold inputE; rw [at_no fun j hj => hI2 j (by omega)]; rfl

theorem svalue_ok (l : List Sg) (s : List UInt8) : CallT Tryz.prog 119 [Rp.slice eSg l, Rp.str s] [] (.one (Rp.int .i64 (valueE l s))) := by
  refine W.enter (fn := Tryz.f119) (n := 24) Tryz.func119 rfl Tryz.ntmps119 rfl (fun w₀ C₀ => ?_)
  simp only [argS]
  refine W.fact 0 rfl slice_fact fun hl => ?_
  refine W.sr ?_
  refine L.p1 rfl rfl rfl (spec_assign rfl (Get.cint rfl)) ?_
  refine L.nt ?_
  refine W.seq ?_
  refine W.sr ?_
  refine L.p1 rfl rfl rfl (spec_assign rfl (Get.cint rfl)) ?_
  refine L.nt ?_
  refine W.block ?_
  refine W.loopK (σ := Nat) (.cons (t := 0) rfl (.cons (t := 1) rfl .nil)) (fun z => [(5, Rp.int .i64 (z : Nat))]) (fun z => []) (fun z => z ≤ l.length ∧ ∀ j : Nat, j < z → (l.getD j default).name ≠ s) (fun z => l.length - z) 0 ⟨Nat.zero_le _, fun j hj => by omega⟩ (.cons (t := 5) rfl .nil) .nil ?_
  intro i hI S' M' hS hM
  obtain ⟨hI1, hI2⟩ := hI
  try dsimp only at hS hM
  simp only [List.cons_append, List.nil_append] at hS hM
  subst hS hM
  try dsimp only
  refine W.seq ?_
  refine W.sr ?_
  refine L.mv rfl rfl rfl rfl rfl ?_
  refine L.mv rfl rfl rfl rfl rfl ?_
  refine L.p1 rfl rfl rfl (spec_len rfl Tryz.underlying102 (Get.tmp rfl)) ?_
  refine L.p1 rfl rfl rfl (spec_lss rfl (Get.tmp rfl) (Get.tmp rfl)) ?_
  refine L.nt ?_
  refine W.cond (Get.tmp rfl) (fun h1 => ?_) (fun h1 => ?_)
  · have ph1 := h1; try simp only [sbx] at ph1
    refine W.skip ?_
    refine N.thenW ?_
    refine W.seq ?_
    refine W.block ?_
    refine W.sr ?_
    refine L.mv rfl rfl rfl rfl rfl ?_
    refine L.mv rfl rfl rfl rfl rfl ?_
    refine L.p1 rfl rfl rfl (spec_indexAddrD (E := eSg) rfl Tryz.underlying102 Tryz.sizeOf101 (fun _ => rfl) (Get.tmp rfl) (Get.tmp rfl) (by omega)) ?_
    refine L.p1 rfl rfl rfl (spec_fieldAddrP (f := 0) rfl Tryz.underlying101 rfl Tryz.sizeOf9 (Get.tmp rfl) rfl rfl) ?_
    refine L.p1 rfl rfl rfl (spec_loadP1 rfl Tryz.isAgg9 (Get.tmp rfl)) ?_
    refine L.mv rfl rfl rfl rfl rfl ?_
    refine L.p1 rfl rfl rfl (spec_eqlS rfl (Get.tmp rfl) (Get.tmp rfl)) ?_
    refine L.nt ?_
    refine W.cond (Get.tmp rfl) (fun h2 => ?_) (fun h2 => ?_)
    · have ph2 := h2; try simp only [sbx] at ph2
      refine W.sr ?_
      refine L.mv rfl rfl rfl rfl rfl ?_
      refine L.mv rfl rfl rfl rfl rfl ?_
      refine L.p1 rfl rfl rfl (spec_indexAddrD (E := eSg) rfl Tryz.underlying102 Tryz.sizeOf101 (fun _ => rfl) (Get.tmp rfl) (Get.tmp rfl) (by omega)) ?_
      refine L.p1 rfl rfl rfl (spec_fieldAddrP (f := 1) rfl Tryz.underlying101 rfl Tryz.sizeOf3 (Get.tmp rfl) rfl rfl) ?_
      refine L.p1 rfl rfl rfl (spec_loadP1 rfl Tryz.isAgg3 (Get.tmp rfl)) ?_
      refine L.as rfl rfl rfl rfl rfl ?_
      refine L.nt ?_
      refine W.ret ?_
      refine N.ret () rfl (.tmp (t := 4) (Get.tmp rfl) .nil) (res1 (eqI ?_)) .nil (fun _ _ h => h)
      unfold valueE; rw [at_yes (by omega) (by simpa using h2) hI2, if_pos (by omega)]
    · have ph2 := h2; try simp only [sbx] at ph2
      refine W.skip ?_
      refine N.blockNormal ?_
      refine N.thenW ?_
      refine W.region ?_
      refine L.mv rfl rfl rfl rfl rfl ?_
      first | refine L.op1 rfl rfl (GSpec.plain rfl (fit_i64 (by omega) (by omega) (spec_add rfl (Get.tmp rfl) (Get.cint rfl)))) ?_ | refine L.op1 rfl rfl (GSpec.plain rfl (spec_add rfl (Get.tmp rfl) (Get.cint rfl))) ?_
      refine L.as rfl rfl rfl rfl rfl ?_
      refine L.nil ?_
      refine N.roundK (i + 1) ?hI3 ?hmu3 ?hs3 ?hk3 ?hp3
      case hs3 => exact (.cons (t := 5) rfl .nil)
      case hk3 => exact (.cons (t := 0) rfl (.cons (t := 1) rfl .nil))
      case hp3 => exact .nil
      case hI3 => exact ⟨by omega, upto hI2 (by simpa using h2)⟩
      case hmu3 => omega
  · have ph1 := h1; try simp only [sbx] at ph1
    refine W.exit ?_
    refine N.thenExit ?_
    refine N.thenExit ?_
    refine N.blockExit ?_
    refine N.thenW ?_
    refine W.keep .nil .refl ?_
    refine W.sr ?_
    refine L.p1 rfl rfl rfl (spec_assign rfl (Get.cint rfl)) ?_
    refine L.nt ?_
    refine W.ret ?_
    refine N.ret () rfl (.tmp (t := 4) (Get.tmp rfl) .nil) (res1 (eqI ?_)) .nil (fun _ _ h => h)
    unfold valueE; rw [at_no fun j hj => hI2 j (by omega)]; rfl

end Go.Proofs.YthlfacmpjehjmaaGreatDoor
set_option linter.unusedSimpArgs false
set_option maxRecDepth 8000
set_option linter.unusedVariables false
namespace Go.Proofs.YthlfacmpjehjmaaGreatDoor
open Go.Sim
theorem signals_ok (d : Ds) (st : List Int) (l : List Sg) (hq : DsQ d) (hst : StOk d st) : CallT Tryz.prog 118 [Rp.agg (eD d), Rp.slice eI st, Rp.slice eSg l] [] (.one (Rp.slice eSg (sigsE d st l))) := by
  refine W.enter (fn := Tryz.f118) (n := 92) Tryz.func118 rfl Tryz.ntmps118 rfl (fun w₀ C₀ => ?_)
  simp only [argS]
  have hn := hq.v.ok.n
  have hsl := hst.1
  have hv := hq.v
  have hol := ord_len hq
  refine W.sr ?_
  refine L.box rfl rfl (GSpec.plain rfl (spec_box rfl (GetC.agg (Get.tmp rfl)))) (fun r3 => ?_)
  refine L.p1 rfl rfl rfl (spec_assign rfl (Get.cnil (E := eSg))) ?_
  refine L.nt ?_
  refine W.sr ?_
  refine L.p1 rfl rfl rfl (spec_assign rfl Get.cval) ?_
  refine L.nt ?_
  refine W.nil 101 2 eSg ?_
  refine W.seq ?_
  refine W.sr ?_
  refine L.p1 rfl rfl rfl (spec_assign rfl (Get.cint rfl)) ?_
  refine L.nt ?_
  refine W.block ?_
  refine W.loopK (σ := Nat × Value) (.cons (t := 1) rfl (.cons (t := 2) rfl (.cons (t := 3) rfl (.cons (t := 6) rfl .nil)))) (fun z => [(8, Rp.int .i64 (z.1 : Nat)), (7, Rp.val z.2)]) (fun z => [MF.osl z.2 101 2 eSg ((d.inputs.take z.1).map (inS1 l))]) (fun z => z.1 ≤ d.inputs.length) (fun z => d.inputs.length - z.1) (0, (.slice none 0 0)) (Nat.zero_le _) (.cons (t := 8) rfl (.cons (t := 7) rfl .nil)) (.cons 0 rfl (.cons 0 rfl .nil)) ?_
  intro ⟨i, vi⟩ hI S' M' hS hM
  try dsimp only at hS hM
  simp only [List.cons_append, List.nil_append] at hS hM
  subst hS hM
  try dsimp only
  try dsimp only at hI
  refine W.seq ?_
  refine W.sr ?_
  refine L.mv rfl rfl rfl rfl rfl ?_
  refine L.p1 rfl rfl rfl (spec_fieldAddr (f := 1) (off' := 1) rfl Tryz.underlying27 rfl Tryz.sizeOf22 (Get.tmp rfl) rfl) ?_
  refine L.p1 rfl rfl rfl (spec_load1 (k := 1) rfl Tryz.isAgg22 (Get.tmp rfl) rfl rfl) ?_
  refine L.p1 rfl rfl rfl (spec_len rfl Tryz.underlying22 (Get.tmp rfl)) ?_
  refine L.p1 rfl rfl rfl (spec_lss rfl (Get.tmp rfl) (Get.tmp rfl)) ?_
  refine L.nt ?_
  refine W.cond (Get.tmp rfl) (fun h1 => ?_) (fun h1 => ?_)
  · have ph1 := h1; try simp only [sbx] at ph1
    refine W.skip ?_
    refine N.thenW ?_
    refine W.seq ?_
    refine W.block ?_
    apply W.any 16 mixed (by kernel_rfl)
    · apply Head.one rfl rfl (GSpec.plain rfl (spec_move rfl (Get.tmp rfl)))
      apply Head.one rfl rfl (GSpec.plain rfl (spec_fieldAddr (f := 1) (off' := 1) rfl Tryz.underlying27 rfl Tryz.sizeOf22 (Get.tmp rfl) rfl))
      apply Head.one rfl rfl (GSpec.plain rfl (spec_load1 (k := 1) rfl Tryz.isAgg22 (Get.tmp rfl) rfl rfl))
      apply Head.one rfl rfl (GSpec.plain rfl (spec_move rfl (Get.tmp rfl)))
      apply Head.one rfl rfl (GSpec.plain rfl (spec_indexAddrD (E := eP) rfl Tryz.underlying22 Tryz.sizeOf84 (fun _ => rfl) (Get.tmp rfl) (Get.tmp rfl) (by (first | omega | (simp only [Int.toNat_natCast]; omega)))))
      apply Head.one rfl rfl (GSpec.plain rfl (spec_fieldAddrP (f := 0) rfl Tryz.underlying84 rfl Tryz.sizeOf9 (Get.tmp rfl) rfl rfl))
      apply Head.one rfl rfl (GSpec.plain rfl (spec_loadP1 rfl Tryz.isAgg9 (Get.tmp rfl)))
      apply Head.one rfl rfl (GSpec.plain rfl (spec_fieldAddr (f := 1) (off' := 1) rfl Tryz.underlying27 rfl Tryz.sizeOf22 (Get.tmp rfl) rfl))
      apply Head.one rfl rfl (GSpec.plain rfl (spec_load1 (k := 1) rfl Tryz.isAgg22 (Get.tmp rfl) rfl rfl))
      apply Head.one rfl rfl (GSpec.plain rfl (spec_move rfl (Get.tmp rfl)))
      apply Head.one rfl rfl (GSpec.plain rfl (spec_indexAddrD (E := eP) rfl Tryz.underlying22 Tryz.sizeOf84 (fun _ => rfl) (Get.tmp rfl) (Get.tmp rfl) (by (first | omega | (simp only [Int.toNat_natCast]; omega)))))
      apply Head.one rfl rfl (GSpec.plain rfl (spec_loadPA rfl Tryz.isAgg84 Tryz.sizeOf84 (Get.tmp rfl) rfl))
      apply Head.one rfl rfl (GSpec.plain rfl (spec_move rfl (Get.tmp rfl)))
      apply Head.one rfl rfl (GSpec.plain rfl (spec_call rfl Tryz.call135 (input_ok _ _) (.cons (Get.tmp rfl) (.cons (Get.tmp rfl) .nil))))
      apply Head.one rfl rfl (GSpec.plain rfl (spec_build (Rs := [_, _]) rfl ti101 z101 Tryz.underlying101 pl101 (.cons (GetC.one (Get.tmp rfl)) rfl rfl rfl (.cons (GetC.one (Get.tmp rfl)) rfl rfl rfl .nil))))
      apply Head.one rfl rfl (GSpec.plain rfl (spec_buildSlice1 (y := inS1 l (d.inputs.getD i default)) (E := eSg) rfl Tryz.underlying102 ti101 z101 (by decide) (GetC.agg (Get.tmp rfl)) (fun _ => rfl)))
      exact Head.nil
    refine Fin.one ?_
    refine Fin.one ?_
    refine Fin.one ?_
    refine Fin.one ?_
    refine Fin.one ?_
    refine Fin.one ?_
    refine Fin.one ?_
    refine Fin.one ?_
    refine Fin.one ?_
    refine Fin.one ?_
    refine Fin.one ?_
    refine Fin.one ?_
    refine Fin.one ?_
    refine Fin.one ?_
    refine Fin.one ?_
    refine Fin.one ?_
    refine Fin.nil ?_
    refine L.append (k := 0) (E := eSg) rfl rfl rfl rfl Tryz.underlying102 ti101 rfl (by decide) (fun _ => rfl) (Get.tmp rfl) (Get.tmp rfl) rfl (by (simp only [List.length_append, List.length_map, List.length_take, List.length_range, List.length_cons, List.length_nil, inS, regS, sig_len, rows_len]; omega)) (by (simp only [List.length_append, List.length_map, List.length_take, List.length_range, List.length_cons, List.length_nil, inS, regS, sig_len, rows_len]; omega)) (fun v37 => ?_)
    refine L.as rfl rfl rfl rfl rfl ?_
    refine L.nil ?_
    refine N.blockNormal ?_
    refine N.thenW ?_
    refine W.region ?_
    refine L.mv rfl rfl rfl rfl rfl ?_
    first | refine L.op1 rfl rfl (GSpec.plain rfl (fit_i64 (by (first | omega | (simp only [Int.toNat_natCast]; omega))) (by (first | omega | (simp only [Int.toNat_natCast]; omega))) (spec_add rfl (Get.tmp rfl) (Get.cint rfl)))) ?_ | refine L.op1 rfl rfl (GSpec.plain rfl (spec_add rfl (Get.tmp rfl) (Get.cint rfl))) ?_
    refine L.as rfl rfl rfl rfl rfl ?_
    refine L.nil ?_
    refine N.roundK (i + 1, v37) ?hI1 ?hmu1 ?hs1 ?hk1 ?hp1
    case hs1 => exact (.cons (t := 8) rfl (.cons (t := 7) rfl .nil))
    case hk1 => exact (.cons (t := 1) rfl (.cons (t := 2) rfl (.cons (t := 3) rfl (.cons (t := 6) rfl .nil))))
    case hp1 => dsimp only; rw [take_succ (show i < d.inputs.length by omega), List.map_append]; exact (.cons 0 rfl (.cons 0 rfl .nil))
    case hI1 => dsimp only; omega
    case hmu1 => dsimp only; omega
  · have ph1 := h1; try simp only [sbx] at ph1
    refine W.exit ?_
    refine N.thenExit ?_
    refine N.thenExit ?_
    refine N.blockExit ?_
    refine N.thenW ?_
    have hi : i = d.inputs.length := by omega
    subst hi
    rw [List.take_length]
    refine W.keep (.cons (t := 1) rfl (.cons (t := 3) rfl (.cons (t := 6) rfl (.cons (t := 7) rfl .nil)))) .refl ?_
    refine W.seq ?_
    refine W.sr ?_
    refine L.p1 rfl rfl rfl (spec_assign rfl (Get.cint rfl)) ?_
    refine L.nt ?_
    refine W.block ?_
    refine W.loopK (σ := Nat × Value) (.cons (t := 1) rfl (.cons (t := 3) rfl (.cons (t := 6) rfl .nil))) (fun z => [(9, Rp.int .i64 (z.1 : Nat)), (7, Rp.val z.2)]) (fun z => [MF.osl z.2 101 2 eSg (inS d l ++ regS d st z.1)]) (fun z => z.1 ≤ d.regs.length) (fun z => d.regs.length - z.1) (0, vi) (Nat.zero_le _) (.cons (t := 9) rfl (.cons (t := 7) rfl .nil)) (by dsimp only; rw [show inS d l ++ regS d st 0 = inS d l from List.append_nil _]; exact (.cons 0 rfl (.cons 0 rfl .nil))) ?_
    intro ⟨j, vj⟩ hI S' M' hS hM
    try dsimp only at hS hM
    simp only [List.cons_append, List.nil_append] at hS hM
    subst hS hM
    try dsimp only
    try dsimp only at hI
    refine W.seq ?_
    refine W.sr ?_
    refine L.mv rfl rfl rfl rfl rfl ?_
    refine L.p1 rfl rfl rfl (spec_fieldAddr (f := 3) (off' := 3) rfl Tryz.underlying27 rfl Tryz.sizeOf24 (Get.tmp rfl) rfl) ?_
    refine L.p1 rfl rfl rfl (spec_load1 (k := 1) rfl Tryz.isAgg24 (Get.tmp rfl) rfl rfl) ?_
    refine L.p1 rfl rfl rfl (spec_len rfl Tryz.underlying24 (Get.tmp rfl)) ?_
    refine L.p1 rfl rfl rfl (spec_lss rfl (Get.tmp rfl) (Get.tmp rfl)) ?_
    refine L.nt ?_
    refine W.cond (Get.tmp rfl) (fun h2 => ?_) (fun h2 => ?_)
    · have ph2 := h2; try simp only [sbx] at ph2
      refine W.skip ?_
      refine N.thenW ?_
      refine W.seq ?_
      refine W.block ?_
      apply W.any 13 mixed (by kernel_rfl)
      · apply Head.one rfl rfl (GSpec.plain rfl (spec_move rfl (Get.tmp rfl)))
        apply Head.one rfl rfl (GSpec.plain rfl (spec_fieldAddr (f := 3) (off' := 3) rfl Tryz.underlying27 rfl Tryz.sizeOf24 (Get.tmp rfl) rfl))
        apply Head.one rfl rfl (GSpec.plain rfl (spec_load1 (k := 1) rfl Tryz.isAgg24 (Get.tmp rfl) rfl rfl))
        apply Head.one rfl rfl (GSpec.plain rfl (spec_move rfl (Get.tmp rfl)))
        apply Head.one rfl rfl (GSpec.plain rfl (spec_indexAddrD (E := eRg) rfl Tryz.underlying24 Tryz.sizeOf81 (fun _ => rfl) (Get.tmp rfl) (Get.tmp rfl) (by (first | omega | (simp only [Int.toNat_natCast]; omega)))))
        apply Head.one rfl rfl (GSpec.plain rfl (spec_fieldAddrP (f := 0) rfl Tryz.underlying81 rfl Tryz.sizeOf9 (Get.tmp rfl) rfl rfl))
        apply Head.one rfl rfl (GSpec.plain rfl (spec_loadP1 rfl Tryz.isAgg9 (Get.tmp rfl)))
        apply Head.one rfl rfl (GSpec.plain rfl (spec_move rfl (Get.tmp rfl)))
        apply Head.one rfl rfl (GSpec.plain rfl (spec_move rfl (Get.tmp rfl)))
        apply Head.one rfl rfl (GSpec.plain rfl (spec_indexAddrD (E := eI) rfl Tryz.underlying92 Tryz.sizeOf3 (fun _ => rfl) (Get.tmp rfl) (Get.tmp rfl) (by (first | omega | (simp only [Int.toNat_natCast]; omega)))))
        apply Head.one rfl rfl (GSpec.plain rfl (spec_loadP1 rfl Tryz.isAgg3 (Get.tmp rfl)))
        apply Head.one rfl rfl (GSpec.plain rfl (spec_build (Rs := [_, _]) rfl ti101 z101 Tryz.underlying101 pl101 (.cons (GetC.one (Get.tmp rfl)) rfl rfl rfl (.cons (GetC.one (Get.tmp rfl)) rfl rfl rfl .nil))))
        apply Head.one rfl rfl (GSpec.plain rfl (spec_buildSlice1 (y := (⟨(d.regs.getD j default).name, st.getD j default⟩ : Sg)) (E := eSg) rfl Tryz.underlying102 ti101 z101 (by decide) (GetC.agg (Get.tmp rfl)) (fun _ => rfl)))
        exact Head.nil
      refine Fin.one ?_
      refine Fin.one ?_
      refine Fin.one ?_
      refine Fin.one ?_
      refine Fin.one ?_
      refine Fin.one ?_
      refine Fin.one ?_
      refine Fin.one ?_
      refine Fin.one ?_
      refine Fin.one ?_
      refine Fin.one ?_
      refine Fin.one ?_
      refine Fin.one ?_
      refine Fin.nil ?_
      refine L.append (k := 0) (E := eSg) rfl rfl rfl rfl Tryz.underlying102 ti101 rfl (by decide) (fun _ => rfl) (Get.tmp rfl) (Get.tmp rfl) rfl (by (simp only [List.length_append, List.length_map, List.length_take, List.length_range, List.length_cons, List.length_nil, inS, regS, sig_len, rows_len]; omega)) (by (simp only [List.length_append, List.length_map, List.length_take, List.length_range, List.length_cons, List.length_nil, inS, regS, sig_len, rows_len]; omega)) (fun v58 => ?_)
      refine L.as rfl rfl rfl rfl rfl ?_
      refine L.nil ?_
      refine N.blockNormal ?_
      refine N.thenW ?_
      refine W.region ?_
      refine L.mv rfl rfl rfl rfl rfl ?_
      first | refine L.op1 rfl rfl (GSpec.plain rfl (fit_i64 (by (first | omega | (simp only [Int.toNat_natCast]; omega))) (by (first | omega | (simp only [Int.toNat_natCast]; omega))) (spec_add rfl (Get.tmp rfl) (Get.cint rfl)))) ?_ | refine L.op1 rfl rfl (GSpec.plain rfl (spec_add rfl (Get.tmp rfl) (Get.cint rfl))) ?_
      refine L.as rfl rfl rfl rfl rfl ?_
      refine L.nil ?_
      refine N.roundK (j + 1, v58) ?hI2 ?hmu2 ?hs2 ?hk2 ?hp2
      case hs2 => exact (.cons (t := 9) rfl (.cons (t := 7) rfl .nil))
      case hk2 => exact (.cons (t := 1) rfl (.cons (t := 3) rfl (.cons (t := 6) rfl .nil)))
      case hp2 => dsimp only; rw [reg_next, ← List.append_assoc]; exact (.cons 0 rfl (.cons 0 rfl .nil))
      case hI2 => dsimp only; omega
      case hmu2 => dsimp only; omega
    · have ph2 := h2; try simp only [sbx] at ph2
      refine W.exit ?_
      refine N.thenExit ?_
      refine N.thenExit ?_
      refine N.blockExit ?_
      refine N.thenW ?_
      have hj : j = d.regs.length := by omega
      subst hj
      refine W.keep (.cons (t := 3) rfl (.cons (t := 6) rfl (.cons (t := 7) rfl .nil))) .refl ?_
      refine W.sr ?_
      refine L.p1 rfl rfl rfl (spec_loadW (k := 1) rfl Tryz.isAgg27 Tryz.sizeOf27 (Get.tmp rfl) rfl rfl) ?_
      refine L.p1 rfl rfl rfl (spec_call rfl Tryz.call136 (orderV_ok _ hv) (.cons (Get.tmp rfl) .nil)) ?_
      refine L.mv rfl rfl rfl rfl rfl ?_
      refine L.p1 rfl rfl rfl (spec_extract rfl (Get.tmp rfl) rfl) ?_
      refine L.p1 rfl rfl rfl (spec_extract rfl (Get.tmp rfl) rfl) ?_
      refine L.as rfl rfl rfl rfl rfl ?_
      refine L.as rfl rfl rfl rfl rfl ?_
      refine L.nt ?_
      refine W.keep (.cons (t := 3) rfl (.cons (t := 6) rfl (.cons (t := 7) rfl (.cons (t := 10) rfl .nil)))) .refl ?_
      refine W.seq ?_
      refine W.sr ?_
      refine L.p1 rfl rfl rfl (spec_assign rfl (Get.cint rfl)) ?_
      refine L.nt ?_
      refine W.block ?_
      refine W.loopK (σ := Nat × Value) (.cons (t := 3) rfl (.cons (t := 6) rfl (.cons (t := 10) rfl .nil))) (fun z => [(12, Rp.int .i64 (z.1 : Nat)), (7, Rp.val z.2)]) (fun z => [MF.osl z.2 101 2 eSg (sigN d st l z.1)]) (fun z => z.1 ≤ d.wires.length) (fun z => d.wires.length - z.1) (0, vj) (Nat.zero_le _) (.cons (t := 12) rfl (.cons (t := 7) rfl .nil)) (.cons 0 rfl (.cons 0 rfl .nil)) ?_
      intro ⟨k, vk⟩ hI S' M' hS hM
      try dsimp only at hS hM
      simp only [List.cons_append, List.nil_append] at hS hM
      subst hS hM
      try dsimp only
      try dsimp only at hI
      refine W.seq ?_
      refine W.sr ?_
      refine L.mv rfl rfl rfl rfl rfl ?_
      refine L.mv rfl rfl rfl rfl rfl ?_
      refine L.p1 rfl rfl rfl (spec_len rfl Tryz.underlying92 (Get.tmp rfl)) ?_
      refine L.p1 rfl rfl rfl (spec_lss rfl (Get.tmp rfl) (Get.tmp rfl)) ?_
      refine L.nt ?_
      refine W.cond (Get.tmp rfl) (fun h3 => ?_) (fun h3 => ?_)
      · have ph3 := h3; try simp only [sbx] at ph3
        refine W.skip ?_
        refine N.thenW ?_
        have hoi : (orderE d).getD ((k : Nat) : Int).toNat default = (k : Int) := ord_at hq (by omega)
        have hol := ord_len hq
        refine W.seq ?_
        refine W.block ?_
        refine W.seq ?_
        apply W.any 9 mixed (by kernel_rfl)
        · apply Head.one rfl rfl (GSpec.plain rfl (spec_fieldAddr (f := 2) (off' := 2) rfl Tryz.underlying27 rfl Tryz.sizeOf23 (Get.tmp rfl) rfl))
          apply Head.one rfl rfl (GSpec.plain rfl (spec_load1 (k := 1) rfl Tryz.isAgg23 (Get.tmp rfl) rfl rfl))
          apply Head.one rfl rfl (GSpec.plain rfl (spec_move rfl (Get.tmp rfl)))
          apply Head.one rfl rfl (GSpec.plain rfl (spec_move rfl (Get.tmp rfl)))
          apply Head.one rfl rfl (GSpec.plain rfl (spec_indexAddrD (E := eI) rfl Tryz.underlying92 Tryz.sizeOf3 (fun _ => rfl) (Get.tmp rfl) (Get.tmp rfl) (by (first | omega | (simp only [Int.toNat_natCast]; omega)))))
          apply Head.one rfl rfl (GSpec.plain rfl (spec_loadP1 rfl Tryz.isAgg3 (Get.tmp rfl)))
          apply Head.one rfl rfl (GSpec.plain rfl (spec_indexAddrD (E := eWr) rfl Tryz.underlying23 Tryz.sizeOf77 (fun _ => rfl) (Get.tmp rfl) (Get.tmp rfl) (by (first | omega | (simp only [Int.toNat_natCast]; omega)))))
          apply Head.one rfl rfl (GSpec.plain rfl (spec_loadPA rfl Tryz.isAgg77 Tryz.sizeOf77 (Get.tmp rfl) rfl))
          apply Head.sink rfl rfl (GSpec.plain rfl (spec_alloc rfl ti77 z77))
          exact Head.nil
        refine Fin.one ?_
        refine Fin.one ?_
        refine Fin.one ?_
        refine Fin.one ?_
        refine Fin.one ?_
        refine Fin.one ?_
        refine Fin.one ?_
        refine Fin.one ?_
        refine Fin.sink (fun (r13 : Nat) => ?_)
        refine Fin.nil ?_
        refine L.storeW (k := 0) rfl rfl rfl Tryz.sizeOf77 (Get.tmp rfl) (Get.tmp rfl) rfl rfl rfl ?_
        refine L.nt ?_
        apply W.any 12 mixed (by kernel_rfl)
        · apply Head.one rfl rfl (GSpec.plain rfl (spec_move rfl (Get.tmp rfl)))
          apply Head.one rfl rfl (GSpec.plain rfl (spec_fieldAddr (f := 0) (off' := 0) rfl Tryz.underlying77 rfl Tryz.sizeOf9 (Get.tmp rfl) rfl))
          apply Head.one rfl rfl (GSpec.plain rfl (spec_load1 (k := 0) rfl Tryz.isAgg9 (Get.tmp rfl) rfl rfl))
          apply Head.one rfl rfl (GSpec.plain rfl (spec_fieldAddr (f := 2) (off' := 2) rfl Tryz.underlying77 rfl Tryz.sizeOf66 (Get.tmp rfl) rfl))
          apply Head.one rfl rfl (GSpec.plain rfl (spec_loadA (k := 0) rfl Tryz.isAgg66 Tryz.sizeOf66 (Get.tmp rfl) rfl rfl))
          apply Head.one rfl rfl (GSpec.plain rfl (spec_move rfl (Get.tmp rfl)))
          apply Head.one rfl rfl (GSpec.plain rfl (spec_callB rfl Tryz.call106 (xvalue_ok _ _ (wire_xo hq (by omega)) (wire_go hq st l (by omega))) (.cons (Get.tmp rfl) (.cons (Get.tmp rfl) .nil)) (.cons .same (.cons (.slice 1 rfl (fun _ => rfl)) .nil))))
          apply Head.one rfl rfl (GSpec.plain rfl (spec_fieldAddr (f := 1) (off' := 1) rfl Tryz.underlying77 rfl Tryz.sizeOf3 (Get.tmp rfl) rfl))
          apply Head.one rfl rfl (GSpec.plain rfl (spec_load1 (k := 0) rfl Tryz.isAgg3 (Get.tmp rfl) rfl rfl))
          apply Head.one rfl rfl (GSpec.plain rfl (spec_call rfl Tryz.call105 (cut_ok _ _) (.cons (Get.tmp rfl) (.cons (Get.tmp rfl) .nil))))
          apply Head.one rfl rfl (GSpec.plain rfl (spec_build (Rs := [_, _]) rfl ti101 z101 Tryz.underlying101 pl101 (.cons (GetC.one (Get.tmp rfl)) rfl rfl rfl (.cons (GetC.one (Get.tmp rfl)) rfl rfl rfl .nil))))
          apply Head.one rfl rfl (GSpec.plain rfl (spec_buildSlice1 (y := (⟨(d.wires.getD ((orderE d).getD k default).toNat default).name, cutE (valX (sigN d st l k) (d.wires.getD ((orderE d).getD k default).toNat default).expr) (d.wires.getD ((orderE d).getD k default).toNat default).width⟩ : Sg)) (E := eSg) rfl Tryz.underlying102 ti101 z101 (by decide) (GetC.agg (Get.tmp rfl)) (fun _ => rfl)))
          exact Head.nil
        refine Fin.one ?_
        refine Fin.one ?_
        refine Fin.one ?_
        refine Fin.one ?_
        refine Fin.one ?_
        refine Fin.one ?_
        refine Fin.one ?_
        refine Fin.one ?_
        refine Fin.one ?_
        refine Fin.one ?_
        refine Fin.one ?_
        refine Fin.one ?_
        refine Fin.nil ?_
        refine L.append (k := 1) (E := eSg) rfl rfl rfl rfl Tryz.underlying102 ti101 rfl (by decide) (fun _ => rfl) (Get.tmp rfl) (Get.tmp rfl) rfl (by (simp only [List.length_append, List.length_map, List.length_take, List.length_range, List.length_cons, List.length_nil, inS, regS, sig_len, rows_len]; omega)) (by (simp only [List.length_append, List.length_map, List.length_take, List.length_range, List.length_cons, List.length_nil, inS, regS, sig_len, rows_len]; omega)) (fun v90 => ?_)
        refine L.as rfl rfl rfl rfl rfl ?_
        refine L.nil ?_
        refine N.blockNormal ?_
        refine N.thenW ?_
        refine W.region ?_
        refine L.mv rfl rfl rfl rfl rfl ?_
        first | refine L.op1 rfl rfl (GSpec.plain rfl (fit_i64 (by (first | omega | (simp only [Int.toNat_natCast]; omega))) (by (first | omega | (simp only [Int.toNat_natCast]; omega))) (spec_add rfl (Get.tmp rfl) (Get.cint rfl)))) ?_ | refine L.op1 rfl rfl (GSpec.plain rfl (spec_add rfl (Get.tmp rfl) (Get.cint rfl))) ?_
        refine L.as rfl rfl rfl rfl rfl ?_
        refine L.nil ?_
        refine N.roundK (k + 1, v90) ?hI3 ?hmu3 ?hs3 ?hk3 ?hp3
        case hs3 => exact (.cons (t := 12) rfl (.cons (t := 7) rfl .nil))
        case hk3 => exact (.cons (t := 3) rfl (.cons (t := 6) rfl (.cons (t := 10) rfl .nil)))
        case hp3 => dsimp only; rw [sig_next hq st l (show k < d.wires.length by omega)]; exact (.cons 1 rfl (.cons 1 rfl .nil))
        case hI3 => dsimp only; omega
        case hmu3 => dsimp only; omega
      · have ph3 := h3; try simp only [sbx] at ph3
        refine W.exit ?_
        refine N.thenExit ?_
        refine N.thenExit ?_
        refine N.blockExit ?_
        refine N.thenW ?_
        have hk : k = d.wires.length := by omega
        subst hk
        rw [← sig_all hq]
        refine W.pub (t := 7) (k := 0) rfl rfl (fun _ => rfl) ?_
        refine W.keep (.cons (t := 6) rfl (.cons (t := 7) rfl .nil)) .refl ?_
        refine W.sr ?_
        refine L.mv rfl rfl rfl rfl rfl ?_
        refine L.as rfl rfl rfl rfl rfl ?_
        refine L.nt ?_
        refine W.ret ?_
        refine N.ret () rfl (.tmp (t := 6) (Get.tmp rfl) .nil) (res1 (eqSl ?_)) .nil (fun _ _ h => h)
        all_goals rfl

theorem settle_ok (d : Ds) (st : List Int) (l : List Sg) (hq : DsQ d) (hst : StOk d st) : CallT Tryz.prog 104 [Rp.agg (eD d), Rp.slice eI st, Rp.slice eSg l] [] (.one (Rp.tuple [Rp.slice eSg (settleE d st l), Rp.int .i64 0])) := by
  refine W.enter (fn := Tryz.f104) (n := 49) Tryz.func104 rfl Tryz.ntmps104 rfl (fun w₀ C₀ => ?_)
  simp only [argS]
  have hn := hq.v.ok.n
  have hv := hq.v
  have hsm := hq.v.ok.sm
  have hnl := names_len d
  refine W.sr ?_
  refine L.box rfl rfl (GSpec.plain rfl (spec_box rfl (GetC.agg (Get.tmp rfl)))) (fun r3 => ?_)
  refine L.p1 rfl rfl rfl (spec_assign rfl (Get.cnil (E := eSg))) ?_
  refine L.p1 rfl rfl rfl (spec_assign rfl (Get.cint rfl)) ?_
  refine L.nt ?_
  refine W.seq ?_
  refine W.sr ?_
  refine L.p1 rfl rfl rfl (spec_loadW (k := 0) rfl Tryz.isAgg27 Tryz.sizeOf27 (Get.tmp rfl) rfl rfl) ?_
  refine L.p1 rfl rfl rfl (spec_call rfl Tryz.call22 (validD_ok _ hv) (.cons (Get.tmp rfl) .nil)) ?_
  refine L.as rfl rfl rfl rfl rfl ?_
  refine L.nt ?_
  refine W.sr ?_
  refine L.mv rfl rfl rfl rfl rfl ?_
  refine L.p1 rfl rfl rfl (spec_neq rfl (Get.tmp rfl) (Get.cint rfl)) ?_
  refine L.nt ?_
  refine W.cond (Get.tmp rfl) (fun h1 => ?_) (fun h1 => ?_)
  · exfalso; have h := h1; simp at h
  · have ph1 := h1; try simp only [sbx] at ph1
    refine W.skip ?_
    refine N.thenW ?_
    refine W.keep (.cons (t := 1) rfl (.cons (t := 2) rfl (.cons (t := 3) rfl (.cons (t := 6) rfl (.cons (t := 7) rfl .nil))))) .refl ?_
    refine W.seq ?_
    refine W.sr ?_
    refine L.p1 rfl rfl rfl (spec_loadW (k := 0) rfl Tryz.isAgg27 Tryz.sizeOf27 (Get.tmp rfl) rfl rfl) ?_
    refine L.mv rfl rfl rfl rfl rfl ?_
    refine L.p1 rfl rfl rfl (spec_call rfl Tryz.call117 (state_ok _ _ hv.ok hst) (.cons (Get.tmp rfl) (.cons (Get.tmp rfl) .nil))) ?_
    refine L.p1 rfl rfl rfl (spec_not rfl (Get.tmp rfl)) ?_
    refine L.nt ?_
    refine W.cond (Get.tmp rfl) (fun h2 => ?_) (fun h2 => ?_)
    · exfalso; have h := h2; simp at h
    · have ph2 := h2; try simp only [sbx] at ph2
      refine W.skip ?_
      refine N.thenW ?_
      refine W.sr ?_
      refine L.p1 rfl rfl rfl (spec_loadW (k := 0) rfl Tryz.isAgg27 Tryz.sizeOf27 (Get.tmp rfl) rfl rfl) ?_
      refine L.mv rfl rfl rfl rfl rfl ?_
      refine L.mv rfl rfl rfl rfl rfl ?_
      refine L.p1 rfl rfl rfl (spec_call rfl Tryz.call118 (signals_ok _ _ _ hq hst) (.cons (Get.tmp rfl) (.cons (Get.tmp rfl) (.cons (Get.tmp rfl) .nil)))) ?_
      refine L.as rfl rfl rfl rfl rfl ?_
      refine L.nt ?_
      refine W.keep (.cons (t := 3) rfl (.cons (t := 6) rfl (.cons (t := 7) rfl (.cons (t := 9) rfl .nil)))) .refl ?_
      refine W.sr ?_
      refine L.p1 rfl rfl rfl (spec_loadW (k := 0) rfl Tryz.isAgg27 Tryz.sizeOf27 (Get.tmp rfl) rfl rfl) ?_
      refine L.p1 rfl rfl rfl (spec_call rfl Tryz.call68 (namesD_ok _ hsm) (.cons (Get.tmp rfl) .nil)) ?_
      refine L.as rfl rfl rfl rfl rfl ?_
      refine L.nt ?_
      refine W.sr ?_
      refine L.p1 rfl rfl rfl (spec_assign rfl Get.cval) ?_
      refine L.nt ?_
      refine W.nil 101 2 eSg ?_
      refine W.seq ?_
      refine W.sr ?_
      refine L.p1 rfl rfl rfl (spec_assign rfl (Get.cint rfl)) ?_
      refine L.nt ?_
      refine W.block ?_
      refine W.loopK (σ := Nat × Value) (.cons (t := 6) rfl (.cons (t := 7) rfl (.cons (t := 9) rfl (.cons (t := 10) rfl .nil)))) (fun z => [(12, Rp.int .i64 (z.1 : Nat)), (11, Rp.val z.2)]) (fun z => [MF.osl z.2 101 2 eSg (((namesD d).take z.1).map (setS1 d st l))]) (fun z => z.1 ≤ (namesD d).length) (fun z => (namesD d).length - z.1) (0, (.slice none 0 0)) (Nat.zero_le _) (.cons (t := 12) rfl (.cons (t := 11) rfl .nil)) (.cons 0 rfl (.cons 0 rfl .nil)) ?_
      intro ⟨i, vi⟩ hI S' M' hS hM
      try dsimp only at hS hM
      simp only [List.cons_append, List.nil_append] at hS hM
      subst hS hM
      try dsimp only
      try dsimp only at hI
      refine W.seq ?_
      refine W.sr ?_
      refine L.mv rfl rfl rfl rfl rfl ?_
      refine L.mv rfl rfl rfl rfl rfl ?_
      refine L.p1 rfl rfl rfl (spec_len rfl Tryz.underlying25 (Get.tmp rfl)) ?_
      refine L.p1 rfl rfl rfl (spec_lss rfl (Get.tmp rfl) (Get.tmp rfl)) ?_
      refine L.nt ?_
      refine W.cond (Get.tmp rfl) (fun h3 => ?_) (fun h3 => ?_)
      · have ph3 := h3; try simp only [sbx] at ph3
        refine W.skip ?_
        refine N.thenW ?_
        refine W.seq ?_
        refine W.block ?_
        apply W.any 13 mixed (by kernel_rfl)
        · apply Head.one rfl rfl (GSpec.plain rfl (spec_move rfl (Get.tmp rfl)))
          apply Head.one rfl rfl (GSpec.plain rfl (spec_move rfl (Get.tmp rfl)))
          apply Head.one rfl rfl (GSpec.plain rfl (spec_move rfl (Get.tmp rfl)))
          apply Head.one rfl rfl (GSpec.plain rfl (spec_indexAddrD (E := eS) rfl Tryz.underlying25 Tryz.sizeOf9 (fun _ => rfl) (Get.tmp rfl) (Get.tmp rfl) (by (first | omega | (simp only [Int.toNat_natCast]; omega)))))
          apply Head.one rfl rfl (GSpec.plain rfl (spec_loadP1 rfl Tryz.isAgg9 (Get.tmp rfl)))
          apply Head.one rfl rfl (GSpec.plain rfl (spec_move rfl (Get.tmp rfl)))
          apply Head.one rfl rfl (GSpec.plain rfl (spec_move rfl (Get.tmp rfl)))
          apply Head.one rfl rfl (GSpec.plain rfl (spec_move rfl (Get.tmp rfl)))
          apply Head.one rfl rfl (GSpec.plain rfl (spec_indexAddrD (E := eS) rfl Tryz.underlying25 Tryz.sizeOf9 (fun _ => rfl) (Get.tmp rfl) (Get.tmp rfl) (by (first | omega | (simp only [Int.toNat_natCast]; omega)))))
          apply Head.one rfl rfl (GSpec.plain rfl (spec_loadP1 rfl Tryz.isAgg9 (Get.tmp rfl)))
          apply Head.one rfl rfl (GSpec.plain rfl (spec_call rfl Tryz.call119 (svalue_ok _ _) (.cons (Get.tmp rfl) (.cons (Get.tmp rfl) .nil))))
          apply Head.one rfl rfl (GSpec.plain rfl (spec_build (Rs := [_, _]) rfl ti101 z101 Tryz.underlying101 pl101 (.cons (GetC.one (Get.tmp rfl)) rfl rfl rfl (.cons (GetC.one (Get.tmp rfl)) rfl rfl rfl .nil))))
          apply Head.one rfl rfl (GSpec.plain rfl (spec_buildSlice1 (y := setS1 d st l ((namesD d).getD i default)) (E := eSg) rfl Tryz.underlying102 ti101 z101 (by decide) (GetC.agg (Get.tmp rfl)) (fun _ => rfl)))
          exact Head.nil
        refine Fin.one ?_
        refine Fin.one ?_
        refine Fin.one ?_
        refine Fin.one ?_
        refine Fin.one ?_
        refine Fin.one ?_
        refine Fin.one ?_
        refine Fin.one ?_
        refine Fin.one ?_
        refine Fin.one ?_
        refine Fin.one ?_
        refine Fin.one ?_
        refine Fin.one ?_
        refine Fin.nil ?_
        refine L.append (k := 0) (E := eSg) rfl rfl rfl rfl Tryz.underlying102 ti101 rfl (by decide) (fun _ => rfl) (Get.tmp rfl) (Get.tmp rfl) rfl (by (simp only [List.length_append, List.length_map, List.length_take, List.length_range, List.length_cons, List.length_nil, inS, regS, sig_len, rows_len]; omega)) (by (simp only [List.length_append, List.length_map, List.length_take, List.length_range, List.length_cons, List.length_nil, inS, regS, sig_len, rows_len]; omega)) (fun v47 => ?_)
        refine L.as rfl rfl rfl rfl rfl ?_
        refine L.nil ?_
        refine N.blockNormal ?_
        refine N.thenW ?_
        refine W.region ?_
        refine L.mv rfl rfl rfl rfl rfl ?_
        first | refine L.op1 rfl rfl (GSpec.plain rfl (fit_i64 (by (first | omega | (simp only [Int.toNat_natCast]; omega))) (by (first | omega | (simp only [Int.toNat_natCast]; omega))) (spec_add rfl (Get.tmp rfl) (Get.cint rfl)))) ?_ | refine L.op1 rfl rfl (GSpec.plain rfl (spec_add rfl (Get.tmp rfl) (Get.cint rfl))) ?_
        refine L.as rfl rfl rfl rfl rfl ?_
        refine L.nil ?_
        refine N.roundK (i + 1, v47) ?hI4 ?hmu4 ?hs4 ?hk4 ?hp4
        case hs4 => exact (.cons (t := 12) rfl (.cons (t := 11) rfl .nil))
        case hk4 => exact (.cons (t := 6) rfl (.cons (t := 7) rfl (.cons (t := 9) rfl (.cons (t := 10) rfl .nil))))
        case hp4 => dsimp only; rw [take_succ (show i < (namesD d).length by omega), List.map_append]; exact (.cons 0 rfl (.cons 0 rfl .nil))
        case hI4 => dsimp only; omega
        case hmu4 => dsimp only; omega
      · have ph3 := h3; try simp only [sbx] at ph3
        refine W.exit ?_
        refine N.thenExit ?_
        refine N.thenExit ?_
        refine N.blockExit ?_
        refine N.thenW ?_
        have hi : i = (namesD d).length := by omega
        subst hi
        rw [List.take_length]
        refine W.pub (t := 11) (k := 0) rfl rfl (fun _ => rfl) ?_
        refine W.keep (.cons (t := 6) rfl (.cons (t := 7) rfl (.cons (t := 11) rfl .nil))) .refl ?_
        refine W.sr ?_
        refine L.mv rfl rfl rfl rfl rfl ?_
        refine L.as rfl rfl rfl rfl rfl ?_
        refine L.p1 rfl rfl rfl (spec_assign rfl (Get.cint rfl)) ?_
        refine L.nt ?_
        refine W.ret ?_
        refine N.ret () rfl (.tmp (t := 6) (Get.tmp rfl) (.tmp (t := 7) (Get.tmp rfl) .nil)) (res2w (eqSl ?_) (eqI ?_)) .nil (fun _ _ h => h)
        all_goals rfl

theorem stepD_ok (d : Ds) (st : List Int) (l : List Sg) (hq : DsQ d) (hst : StOk d st) : CallT Tryz.prog 88 [Rp.agg (eD d), Rp.slice eI st, Rp.slice eSg l] [] (.one (Rp.tuple [Rp.slice eI (stepE d st l), Rp.slice eSg (settleE d st l), Rp.int .i64 0])) := by
  refine W.enter (fn := Tryz.f88) (n := 50) Tryz.func88 rfl Tryz.ntmps88 rfl (fun w₀ C₀ => ?_)
  simp only [argS]
  have hn := hq.v.ok.n
  refine W.sr ?_
  refine L.box rfl rfl (GSpec.plain rfl (spec_box rfl (GetC.agg (Get.tmp rfl)))) (fun r3 => ?_)
  refine L.p1 rfl rfl rfl (spec_assign rfl (Get.cnil (E := eI))) ?_
  refine L.p1 rfl rfl rfl (spec_assign rfl (Get.cnil (E := eSg))) ?_
  refine L.p1 rfl rfl rfl (spec_assign rfl (Get.cint rfl)) ?_
  refine L.nt ?_
  refine W.sr ?_
  refine L.p1 rfl rfl rfl (spec_loadW (k := 0) rfl Tryz.isAgg27 Tryz.sizeOf27 (Get.tmp rfl) rfl rfl) ?_
  refine L.mv rfl rfl rfl rfl rfl ?_
  refine L.mv rfl rfl rfl rfl rfl ?_
  refine L.p1 rfl rfl rfl (spec_call rfl Tryz.call104 (settle_ok _ _ _ hq hst) (.cons (Get.tmp rfl) (.cons (Get.tmp rfl) (.cons (Get.tmp rfl) .nil)))) ?_
  refine L.mv rfl rfl rfl rfl rfl ?_
  refine L.p1 rfl rfl rfl (spec_extract rfl (Get.tmp rfl) rfl) ?_
  refine L.p1 rfl rfl rfl (spec_extract rfl (Get.tmp rfl) rfl) ?_
  refine L.as rfl rfl rfl rfl rfl ?_
  refine L.as rfl rfl rfl rfl rfl ?_
  refine L.nt ?_
  refine W.keep (.cons (t := 3) rfl (.cons (t := 6) rfl (.cons (t := 7) rfl (.cons (t := 8) rfl (.cons (t := 9) rfl (.cons (t := 10) rfl .nil)))))) .refl ?_
  refine W.seq ?_
  refine W.sr ?_
  refine L.mv rfl rfl rfl rfl rfl ?_
  refine L.p1 rfl rfl rfl (spec_neq rfl (Get.tmp rfl) (Get.cint rfl)) ?_
  refine L.nt ?_
  refine W.cond (Get.tmp rfl) (fun h1 => ?_) (fun h1 => ?_)
  · exfalso; have h := h1; simp at h
  · have ph1 := h1; try simp only [sbx] at ph1
    refine W.skip ?_
    refine N.thenW ?_
    refine W.sr ?_
    refine L.p1 rfl rfl rfl (spec_assign rfl Get.cval) ?_
    refine L.nt ?_
    refine W.nil 3 1 eI ?_
    refine W.seq ?_
    refine W.sr ?_
    refine L.p1 rfl rfl rfl (spec_assign rfl (Get.cint rfl)) ?_
    refine L.nt ?_
    refine W.block ?_
    refine W.loopK (σ := Nat × Value) (.cons (t := 3) rfl (.cons (t := 6) rfl (.cons (t := 7) rfl (.cons (t := 8) rfl (.cons (t := 9) rfl .nil))))) (fun z => [(12, Rp.int .i64 (z.1 : Nat)), (11, Rp.val z.2)]) (fun z => [MF.osl z.2 3 1 eI ((d.regs.take z.1).map (stepS1 d st l))]) (fun z => z.1 ≤ d.regs.length) (fun z => d.regs.length - z.1) (0, (.slice none 0 0)) (Nat.zero_le _) (.cons (t := 12) rfl (.cons (t := 11) rfl .nil)) (.cons 0 rfl (.cons 0 rfl .nil)) ?_
    intro ⟨i, vi⟩ hI S' M' hS hM
    try dsimp only at hS hM
    simp only [List.cons_append, List.nil_append] at hS hM
    subst hS hM
    try dsimp only
    try dsimp only at hI
    refine W.seq ?_
    refine W.sr ?_
    refine L.mv rfl rfl rfl rfl rfl ?_
    refine L.p1 rfl rfl rfl (spec_fieldAddr (f := 3) (off' := 3) rfl Tryz.underlying27 rfl Tryz.sizeOf24 (Get.tmp rfl) rfl) ?_
    refine L.p1 rfl rfl rfl (spec_load1 (k := 1) rfl Tryz.isAgg24 (Get.tmp rfl) rfl rfl) ?_
    refine L.p1 rfl rfl rfl (spec_len rfl Tryz.underlying24 (Get.tmp rfl)) ?_
    refine L.p1 rfl rfl rfl (spec_lss rfl (Get.tmp rfl) (Get.tmp rfl)) ?_
    refine L.nt ?_
    refine W.cond (Get.tmp rfl) (fun h2 => ?_) (fun h2 => ?_)
    · have ph2 := h2; try simp only [sbx] at ph2
      refine W.skip ?_
      refine N.thenW ?_
      refine W.seq ?_
      refine W.block ?_
      apply W.any 17 mixed (by kernel_rfl)
      · apply Head.one rfl rfl (GSpec.plain rfl (spec_move rfl (Get.tmp rfl)))
        apply Head.one rfl rfl (GSpec.plain rfl (spec_fieldAddr (f := 3) (off' := 3) rfl Tryz.underlying27 rfl Tryz.sizeOf24 (Get.tmp rfl) rfl))
        apply Head.one rfl rfl (GSpec.plain rfl (spec_load1 (k := 1) rfl Tryz.isAgg24 (Get.tmp rfl) rfl rfl))
        apply Head.one rfl rfl (GSpec.plain rfl (spec_move rfl (Get.tmp rfl)))
        apply Head.one rfl rfl (GSpec.plain rfl (spec_indexAddrD (E := eRg) rfl Tryz.underlying24 Tryz.sizeOf81 (fun _ => rfl) (Get.tmp rfl) (Get.tmp rfl) (by (first | omega | (simp only [Int.toNat_natCast]; omega)))))
        apply Head.one rfl rfl (GSpec.plain rfl (spec_fieldAddrP (f := 3) rfl Tryz.underlying81 rfl Tryz.sizeOf66 (Get.tmp rfl) rfl rfl))
        apply Head.one rfl rfl (GSpec.plain rfl (spec_loadPA rfl Tryz.isAgg66 Tryz.sizeOf66 (Get.tmp rfl) rfl))
        apply Head.one rfl rfl (GSpec.plain rfl (spec_move rfl (Get.tmp rfl)))
        apply Head.one rfl rfl (GSpec.plain rfl (spec_call rfl Tryz.call106 (xvalue_ok _ _ (reg_x hq.v.ok (by omega)) (reg_gx hq st l (by omega))) (.cons (Get.tmp rfl) (.cons (Get.tmp rfl) .nil))))
        apply Head.one rfl rfl (GSpec.plain rfl (spec_fieldAddr (f := 3) (off' := 3) rfl Tryz.underlying27 rfl Tryz.sizeOf24 (Get.tmp rfl) rfl))
        apply Head.one rfl rfl (GSpec.plain rfl (spec_load1 (k := 1) rfl Tryz.isAgg24 (Get.tmp rfl) rfl rfl))
        apply Head.one rfl rfl (GSpec.plain rfl (spec_move rfl (Get.tmp rfl)))
        apply Head.one rfl rfl (GSpec.plain rfl (spec_indexAddrD (E := eRg) rfl Tryz.underlying24 Tryz.sizeOf81 (fun _ => rfl) (Get.tmp rfl) (Get.tmp rfl) (by (first | omega | (simp only [Int.toNat_natCast]; omega)))))
        apply Head.one rfl rfl (GSpec.plain rfl (spec_fieldAddrP (f := 1) rfl Tryz.underlying81 rfl Tryz.sizeOf3 (Get.tmp rfl) rfl rfl))
        apply Head.one rfl rfl (GSpec.plain rfl (spec_loadP1 rfl Tryz.isAgg3 (Get.tmp rfl)))
        apply Head.one rfl rfl (GSpec.plain rfl (spec_call rfl Tryz.call105 (cut_ok _ _) (.cons (Get.tmp rfl) (.cons (Get.tmp rfl) .nil))))
        apply Head.one rfl rfl (GSpec.plain rfl (spec_buildSlice1 (y := stepS1 d st l (d.regs.getD i default)) (E := eI) rfl Tryz.underlying92 ti3 z3 (by decide) (GetC.one (Get.tmp rfl)) (fun _ => rfl)))
        exact Head.nil
      refine Fin.one ?_
      refine Fin.one ?_
      refine Fin.one ?_
      refine Fin.one ?_
      refine Fin.one ?_
      refine Fin.one ?_
      refine Fin.one ?_
      refine Fin.one ?_
      refine Fin.one ?_
      refine Fin.one ?_
      refine Fin.one ?_
      refine Fin.one ?_
      refine Fin.one ?_
      refine Fin.one ?_
      refine Fin.one ?_
      refine Fin.one ?_
      refine Fin.one ?_
      refine Fin.nil ?_
      refine L.append (k := 0) (E := eI) rfl rfl rfl rfl Tryz.underlying92 ti3 rfl (by decide) (fun _ => rfl) (Get.tmp rfl) (Get.tmp rfl) rfl (by (simp only [List.length_append, List.length_map, List.length_take, List.length_range, List.length_cons, List.length_nil, inS, regS, sig_len, rows_len]; omega)) (by (simp only [List.length_append, List.length_map, List.length_take, List.length_range, List.length_cons, List.length_nil, inS, regS, sig_len, rows_len]; omega)) (fun v47 => ?_)
      refine L.as rfl rfl rfl rfl rfl ?_
      refine L.nil ?_
      refine N.blockNormal ?_
      refine N.thenW ?_
      refine W.region ?_
      refine L.mv rfl rfl rfl rfl rfl ?_
      first | refine L.op1 rfl rfl (GSpec.plain rfl (fit_i64 (by (first | omega | (simp only [Int.toNat_natCast]; omega))) (by (first | omega | (simp only [Int.toNat_natCast]; omega))) (spec_add rfl (Get.tmp rfl) (Get.cint rfl)))) ?_ | refine L.op1 rfl rfl (GSpec.plain rfl (spec_add rfl (Get.tmp rfl) (Get.cint rfl))) ?_
      refine L.as rfl rfl rfl rfl rfl ?_
      refine L.nil ?_
      refine N.roundK (i + 1, v47) ?hI5 ?hmu5 ?hs5 ?hk5 ?hp5
      case hs5 => exact (.cons (t := 12) rfl (.cons (t := 11) rfl .nil))
      case hk5 => exact (.cons (t := 3) rfl (.cons (t := 6) rfl (.cons (t := 7) rfl (.cons (t := 8) rfl (.cons (t := 9) rfl .nil)))))
      case hp5 => dsimp only; rw [take_succ (show i < d.regs.length by omega), List.map_append]; exact (.cons 0 rfl (.cons 0 rfl .nil))
      case hI5 => dsimp only; omega
      case hmu5 => dsimp only; omega
    · have ph2 := h2; try simp only [sbx] at ph2
      refine W.exit ?_
      refine N.thenExit ?_
      refine N.thenExit ?_
      refine N.blockExit ?_
      refine N.thenW ?_
      have hi : i = d.regs.length := by omega
      subst hi
      rw [List.take_length]
      refine W.pub (t := 11) (k := 0) rfl rfl (fun _ => rfl) ?_
      refine W.keep (.cons (t := 6) rfl (.cons (t := 7) rfl (.cons (t := 8) rfl (.cons (t := 9) rfl (.cons (t := 11) rfl .nil))))) .refl ?_
      refine W.sr ?_
      refine L.mv rfl rfl rfl rfl rfl ?_
      refine L.mv rfl rfl rfl rfl rfl ?_
      refine L.as rfl rfl rfl rfl rfl ?_
      refine L.as rfl rfl rfl rfl rfl ?_
      refine L.p1 rfl rfl rfl (spec_assign rfl (Get.cint rfl)) ?_
      refine L.nt ?_
      refine W.keep (.cons (t := 6) rfl (.cons (t := 7) rfl (.cons (t := 8) rfl .nil))) .refl ?_
      refine W.ret ?_
      refine N.ret () rfl (.tmp (t := 6) (Get.tmp rfl) (.tmp (t := 7) (Get.tmp rfl) (.tmp (t := 8) (Get.tmp rfl) .nil))) (res3w (eqSl ?_) (eqSl ?_) (eqI ?_)) .nil (fun _ _ h => h)
      all_goals rfl

theorem rrun_ok (d : Ds) (rows : List (List Sg)) (hq : DsQ d) (hrl : rows.length ≤ 60) : CallT Tryz.prog 72 [Rp.agg (eD d), Rp.slice eSS rows] [] (.one (Rp.tuple [Rp.agg (eWv (waveE d rows)), Rp.int .i64 0])) := by
  refine W.enter (fn := Tryz.f72) (n := 74) Tryz.func72 rfl Tryz.ntmps72 rfl (fun w₀ C₀ => ?_)
  simp only [argS]
  have hn := hq.v.ok.n
  have hv := hq.v
  have hsm := hq.v.ok.sm
  have hnl := names_len d
  refine W.sr ?_
  refine L.box rfl rfl (GSpec.plain rfl (spec_box rfl (GetC.agg (Get.tmp rfl)))) (fun r2 => ?_)
  refine L.box rfl rfl (GSpec.plain rfl (spec_alloc rfl ti45 z45)) (fun r4 => ?_)
  refine L.p1 rfl rfl rfl (spec_assign rfl (Get.cint rfl)) ?_
  refine L.nt ?_
  refine W.sr ?_
  refine L.p1 rfl rfl rfl (spec_loadW (k := 1) rfl Tryz.isAgg27 Tryz.sizeOf27 (Get.tmp rfl) rfl rfl) ?_
  refine L.p1 rfl rfl rfl (spec_call rfl Tryz.call87 (reset_ok _ hv) (.cons (Get.tmp rfl) .nil)) ?_
  refine L.mv rfl rfl rfl rfl rfl ?_
  refine L.p1 rfl rfl rfl (spec_extract rfl (Get.tmp rfl) rfl) ?_
  refine L.p1 rfl rfl rfl (spec_extract rfl (Get.tmp rfl) rfl) ?_
  refine L.as rfl rfl rfl rfl rfl ?_
  refine L.as rfl rfl rfl rfl rfl ?_
  refine L.nt ?_
  refine W.keep (.cons (t := 1) rfl (.cons (t := 2) rfl (.cons (t := 4) rfl (.cons (t := 5) rfl (.cons (t := 6) rfl (.cons (t := 7) rfl .nil)))))) .refl ?_
  refine W.seq ?_
  refine W.sr ?_
  refine L.mv rfl rfl rfl rfl rfl ?_
  refine L.p1 rfl rfl rfl (spec_neq rfl (Get.tmp rfl) (Get.cint rfl)) ?_
  refine L.nt ?_
  refine W.cond (Get.tmp rfl) (fun h1 => ?_) (fun h1 => ?_)
  · exfalso; have h := h1; simp at h
  · have ph1 := h1; try simp only [sbx] at ph1
    refine W.skip ?_
    refine N.thenW ?_
    refine W.seq ?_
    refine W.sr ?_
    refine L.mv rfl rfl rfl rfl rfl ?_
    refine L.p1 rfl rfl rfl (spec_len rfl Tryz.underlying98 (Get.tmp rfl)) ?_
    refine L.p1 rfl rfl rfl (spec_gtr rfl (Get.tmp rfl) (Get.cint rfl)) ?_
    refine L.nt ?_
    refine W.cond (Get.tmp rfl) (fun h2 => ?_) (fun h2 => ?_)
    · exfalso; have h := of_decide_eq_true h2; omega
    · have ph2 := h2; try simp only [sbx] at ph2
      refine W.skip ?_
      refine N.thenW ?_
      refine W.keep (.cons (t := 1) rfl (.cons (t := 2) rfl (.cons (t := 4) rfl (.cons (t := 5) rfl (.cons (t := 6) rfl .nil))))) .refl ?_
      refine W.sr ?_
      refine L.p1 rfl rfl rfl (spec_loadW (k := 1) rfl Tryz.isAgg27 Tryz.sizeOf27 (Get.tmp rfl) rfl rfl) ?_
      refine L.p1 rfl rfl rfl (spec_call rfl Tryz.call68 (namesD_ok _ hsm) (.cons (Get.tmp rfl) .nil)) ?_
      refine L.p1 rfl rfl rfl (spec_build (Rs := [_, Rp.val (.slice none 0 0)]) rfl ti45 z45v Tryz.underlying45 pl45 (.cons (GetC.one (Get.tmp rfl)) rfl rfl rfl .nil)) ?_
      refine L.box rfl rfl (GSpec.plain rfl (spec_alloc rfl ti45 z45)) (fun r8 => ?_)
      refine L.storeW (k := 0) rfl rfl rfl Tryz.sizeOf45 (Get.tmp rfl) (Get.tmp rfl) rfl rfl rfl ?_
      refine L.nt ?_
      refine W.nil 92 1 eII ?_
      refine W.seq ?_
      refine W.sr ?_
      refine L.p1 rfl rfl rfl (spec_assign rfl (Get.cint rfl)) ?_
      refine L.nt ?_
      refine W.block ?_
      refine W.loopK (σ := Nat × Value) (.cons (t := 1) rfl (.cons (t := 2) rfl (.cons (t := 4) rfl (.cons (t := 8) rfl .nil)))) (fun z => [(9, Rp.int .i64 (z.1 : Nat)), (6, Rp.slice eI (stN d rows z.1))]) (fun z => [MF.box r8 45 [Rp.slice eS (namesD d), Rp.val z.2], MF.osl z.2 92 1 eII (rowsN d rows z.1)]) (fun z => z.1 ≤ rows.length) (fun z => rows.length - z.1) (0, .slice none 0 0) (Nat.zero_le _) (.cons (t := 9) rfl (.cons (t := 6) rfl .nil)) (.cons 1 rfl (.cons 0 rfl (.cons 0 rfl (.cons 0 rfl .nil)))) ?_
      intro ⟨i, vo⟩ hI S' M' hS hM
      try dsimp only at hS hM
      simp only [List.cons_append, List.nil_append] at hS hM
      subst hS hM
      try dsimp only
      try dsimp only at hI
      refine W.seq ?_
      refine W.sr ?_
      refine L.mv rfl rfl rfl rfl rfl ?_
      refine L.mv rfl rfl rfl rfl rfl ?_
      refine L.p1 rfl rfl rfl (spec_len rfl Tryz.underlying98 (Get.tmp rfl)) ?_
      refine L.p1 rfl rfl rfl (spec_lss rfl (Get.tmp rfl) (Get.tmp rfl)) ?_
      refine L.nt ?_
      refine W.cond (Get.tmp rfl) (fun h3 => ?_) (fun h3 => ?_)
      · have ph3 := h3; try simp only [sbx] at ph3
        refine W.skip ?_
        refine N.thenW ?_
        refine W.seq ?_
        refine W.block ?_
        refine W.seq ?_
        apply W.any 14 mixed (by kernel_rfl)
        · apply Head.one rfl rfl (GSpec.plain rfl (spec_loadW (k := 3) rfl Tryz.isAgg27 Tryz.sizeOf27 (Get.tmp rfl) rfl rfl))
          apply Head.one rfl rfl (GSpec.plain rfl (spec_move rfl (Get.tmp rfl)))
          apply Head.one rfl rfl (GSpec.plain rfl (spec_move rfl (Get.tmp rfl)))
          apply Head.one rfl rfl (GSpec.plain rfl (spec_move rfl (Get.tmp rfl)))
          apply Head.one rfl rfl (GSpec.plain rfl (spec_indexAddrD (E := eSS) rfl Tryz.underlying98 Tryz.sizeOf102 (fun _ => rfl) (Get.tmp rfl) (Get.tmp rfl) (by (first | omega | (simp only [Int.toNat_natCast]; omega)))))
          apply Head.one rfl rfl (GSpec.plain rfl (spec_loadP1 rfl Tryz.isAgg102 (Get.tmp rfl)))
          apply Head.one rfl rfl (GSpec.plain rfl (spec_call rfl Tryz.call88 (stepD_ok d (stN d rows i) (rows.getD i default) hq (st_ok hv rows i)) (.cons (Get.tmp rfl) (.cons (Get.tmp rfl) (.cons (Get.tmp rfl) .nil)))))
          apply Head.one rfl rfl (GSpec.plain rfl (spec_move rfl (Get.tmp rfl)))
          apply Head.one rfl rfl (GSpec.plain rfl (spec_extract rfl (Get.tmp rfl) rfl))
          apply Head.one rfl rfl (GSpec.plain rfl (spec_extract rfl (Get.tmp rfl) rfl))
          apply Head.one rfl rfl (GSpec.plain rfl (spec_extract rfl (Get.tmp rfl) rfl))
          apply Head.one rfl rfl (GSpec.plain rfl (spec_assign rfl (Get.tmp rfl)))
          apply Head.one rfl rfl (GSpec.plain rfl (spec_assign rfl (Get.tmp rfl)))
          apply Head.one rfl rfl (GSpec.plain rfl (spec_assign rfl (Get.tmp rfl)))
          exact Head.nil
        refine Fin.one ?_
        refine Fin.one ?_
        refine Fin.one ?_
        refine Fin.one ?_
        refine Fin.one ?_
        refine Fin.one ?_
        refine Fin.one ?_
        refine Fin.one ?_
        refine Fin.one ?_
        refine Fin.one ?_
        refine Fin.one ?_
        refine Fin.one ?_
        refine Fin.one ?_
        refine Fin.one ?_
        refine Fin.nil ?_
        refine L.nt ?_
        refine W.seq ?_
        refine W.sr ?_
        refine L.mv rfl rfl rfl rfl rfl ?_
        refine L.p1 rfl rfl rfl (spec_neq rfl (Get.tmp rfl) (Get.cint rfl)) ?_
        refine L.nt ?_
        refine W.cond (Get.tmp rfl) (fun h4 => ?_) (fun h4 => ?_)
        · exfalso; have h := h4; simp at h
        · have ph4 := h4; try simp only [sbx] at ph4
          refine W.skip ?_
          refine N.thenW ?_
          refine W.sr ?_
          refine L.mv rfl rfl rfl rfl rfl ?_
          refine L.as rfl rfl rfl rfl rfl ?_
          refine L.nt ?_
          refine W.sr ?_
          refine L.p1 rfl rfl rfl (spec_assign rfl Get.cval) ?_
          refine L.nt ?_
          refine W.nil 3 1 eI ?_
          refine W.seq ?_
          refine W.sr ?_
          refine L.p1 rfl rfl rfl (spec_assign rfl (Get.cint rfl)) ?_
          refine L.nt ?_
          refine W.block ?_
          refine W.loopK (σ := Nat × Value) (.cons (t := 1) rfl (.cons (t := 2) rfl (.cons (t := 4) rfl (.cons (t := 6) rfl (.cons (t := 8) rfl (.cons (t := 9) rfl (.cons (t := 10) rfl (.cons (t := 11) rfl (.cons (t := 12) rfl (.cons (t := 31) rfl (.cons (t := 32) rfl (.cons (t := 33) rfl (.cons (t := 34) rfl (.cons (t := 37) rfl (.cons (t := 38) rfl (.cons (t := 39) rfl (.cons (t := 40) rfl (.cons (t := 41) rfl (.cons (t := 42) rfl (.cons (t := 43) rfl (.cons (t := 44) rfl (.cons (t := 45) rfl (.cons (t := 46) rfl (.cons (t := 47) rfl (.cons (t := 48) rfl (.cons (t := 49) rfl (.cons (t := 52) rfl .nil))))))))))))))))))))))))))) (fun z => [(14, Rp.int .i64 (z.1 : Nat)), (13, Rp.val z.2)]) (fun z => [MF.osl z.2 3 1 eI (((settleE d (stN d rows i) (rows.getD i default)).take z.1).map Sg.val)]) (fun z => z.1 ≤ (settleE d (stN d rows i) (rows.getD i default)).length) (fun z => (settleE d (stN d rows i) (rows.getD i default)).length - z.1) (0, (.slice none 0 0)) (Nat.zero_le _) (.cons (t := 14) rfl (.cons (t := 13) rfl .nil)) (.cons 0 rfl (.cons 0 rfl (.cons 0 rfl (.cons 0 rfl (.cons 0 rfl .nil))))) ?_
          intro ⟨j, vj⟩ hI S' M' hS hM
          try dsimp only at hS hM
          simp only [List.cons_append, List.nil_append] at hS hM
          subst hS hM
          try dsimp only
          try dsimp only at hI
          have hsl := settle_len d (stN d rows i) (rows.getD i default)
          refine W.seq ?_
          refine W.sr ?_
          refine L.mv rfl rfl rfl rfl rfl ?_
          refine L.mv rfl rfl rfl rfl rfl ?_
          refine L.p1 rfl rfl rfl (spec_len rfl Tryz.underlying102 (Get.tmp rfl)) ?_
          refine L.p1 rfl rfl rfl (spec_lss rfl (Get.tmp rfl) (Get.tmp rfl)) ?_
          refine L.nt ?_
          refine W.cond (Get.tmp rfl) (fun h5 => ?_) (fun h5 => ?_)
          · have ph5 := h5; try simp only [sbx] at ph5
            refine W.skip ?_
            refine N.thenW ?_
            refine W.seq ?_
            refine W.block ?_
            refine W.region ?_
            refine L.mv rfl rfl rfl rfl rfl ?_
            refine L.mv rfl rfl rfl rfl rfl ?_
            refine L.mv rfl rfl rfl rfl rfl ?_
            refine L.p1 rfl rfl rfl (spec_indexAddrD (E := eSg) rfl Tryz.underlying102 Tryz.sizeOf101 (fun _ => rfl) (Get.tmp rfl) (Get.tmp rfl) (by (first | omega | (simp only [Int.toNat_natCast]; omega)))) ?_
            refine L.p1 rfl rfl rfl (spec_fieldAddrP (f := 1) rfl Tryz.underlying101 rfl Tryz.sizeOf3 (Get.tmp rfl) rfl rfl) ?_
            refine L.p1 rfl rfl rfl (spec_loadP1 rfl Tryz.isAgg3 (Get.tmp rfl)) ?_
            refine L.p1 rfl rfl rfl (spec_buildSlice1 (y := Sg.val ((settleE d (stN d rows i) (rows.getD i default)).getD j default)) (E := eI) rfl Tryz.underlying92 ti3 z3 (by decide) (GetC.one (Get.tmp rfl)) (fun _ => rfl)) ?_
            refine L.append (k := 0) (E := eI) rfl rfl rfl rfl Tryz.underlying92 ti3 rfl (by decide) (fun _ => rfl) (Get.tmp rfl) (Get.tmp rfl) rfl (by (simp only [List.length_append, List.length_map, List.length_take, List.length_range, List.length_cons, List.length_nil, inS, regS, sig_len, rows_len]; omega)) (by (simp only [List.length_append, List.length_map, List.length_take, List.length_range, List.length_cons, List.length_nil, inS, regS, sig_len, rows_len]; omega)) (fun v66 => ?_)
            refine L.as rfl rfl rfl rfl rfl ?_
            refine L.nil ?_
            refine N.blockNormal ?_
            refine N.thenW ?_
            refine W.region ?_
            refine L.mv rfl rfl rfl rfl rfl ?_
            first | refine L.op1 rfl rfl (GSpec.plain rfl (fit_i64 (by (first | omega | (simp only [Int.toNat_natCast]; omega))) (by (first | omega | (simp only [Int.toNat_natCast]; omega))) (spec_add rfl (Get.tmp rfl) (Get.cint rfl)))) ?_ | refine L.op1 rfl rfl (GSpec.plain rfl (spec_add rfl (Get.tmp rfl) (Get.cint rfl))) ?_
            refine L.as rfl rfl rfl rfl rfl ?_
            refine L.nil ?_
            refine N.roundK (j + 1, v66) ?hI6 ?hmu6 ?hs6 ?hk6 ?hp6
            case hs6 => exact (.cons (t := 14) rfl (.cons (t := 13) rfl .nil))
            case hk6 => exact (.cons (t := 1) rfl (.cons (t := 2) rfl (.cons (t := 4) rfl (.cons (t := 6) rfl (.cons (t := 8) rfl (.cons (t := 9) rfl (.cons (t := 10) rfl (.cons (t := 11) rfl (.cons (t := 12) rfl (.cons (t := 31) rfl (.cons (t := 32) rfl (.cons (t := 33) rfl (.cons (t := 34) rfl (.cons (t := 37) rfl (.cons (t := 38) rfl (.cons (t := 39) rfl (.cons (t := 40) rfl (.cons (t := 41) rfl (.cons (t := 42) rfl (.cons (t := 43) rfl (.cons (t := 44) rfl (.cons (t := 45) rfl (.cons (t := 46) rfl (.cons (t := 47) rfl (.cons (t := 48) rfl (.cons (t := 49) rfl (.cons (t := 52) rfl .nil)))))))))))))))))))))))))))
            case hp6 => dsimp only; rw [take_succ (show j < (settleE d (stN d rows i) (rows.getD i default)).length by omega), List.map_append]; exact (.cons 0 rfl (.cons 0 rfl (.cons 0 rfl (.cons 0 rfl (.cons 0 rfl .nil)))))
            case hI6 => dsimp only; omega
            case hmu6 => dsimp only; omega
          · have ph5 := h5; try simp only [sbx] at ph5
            refine W.exit ?_
            refine N.thenExit ?_
            refine N.thenExit ?_
            refine N.blockExit ?_
            refine N.thenW ?_
            have hj : j = (settleE d (stN d rows i) (rows.getD i default)).length := by omega
            subst hj
            rw [List.take_length]
            refine W.pub (t := 13) (k := 0) rfl rfl (fun _ => rfl) ?_
            refine W.region ?_
            refine L.p1 rfl rfl rfl (spec_fieldAddr (f := 1) (off' := 1) rfl Tryz.underlying45 rfl Tryz.sizeOf43 (Get.tmp rfl) rfl) ?_
            refine L.p1 rfl rfl rfl (spec_load1 (k := 0) rfl Tryz.isAgg43 (Get.tmp rfl) rfl rfl) ?_
            refine L.mv rfl rfl rfl rfl rfl ?_
            refine L.p1 rfl rfl rfl (spec_buildSlice1 (y := rowN d rows i) (E := eII) rfl Tryz.underlying43 ti92 z92 (by decide) (GetC.one (Get.tmp rfl)) (fun _ => rfl)) ?_
            refine L.append (k := 1) (E := eII) rfl rfl rfl rfl Tryz.underlying43 ti92 rfl (by decide) (fun _ => rfl) (Get.tmp rfl) (Get.tmp rfl) rfl (by (simp only [List.length_append, List.length_map, List.length_take, List.length_range, List.length_cons, List.length_nil, inS, regS, sig_len, rows_len]; omega)) (by (simp only [List.length_append, List.length_map, List.length_take, List.length_range, List.length_cons, List.length_nil, inS, regS, sig_len, rows_len]; omega)) (fun v71 => ?_)
            refine L.p1 rfl rfl rfl (spec_fieldAddr (f := 1) (off' := 1) rfl Tryz.underlying45 rfl Tryz.sizeOf43 (Get.tmp rfl) rfl) ?_
            refine L.factM 1 rfl osl_one fun hq => ?_
            haveI := One.val hq
            refine L.storeB (k := 0) (R := Rp.val v71) rfl rfl rfl Tryz.sizeOf43 (Get.tmp rfl) (Get.tmp rfl) rfl rfl ?_
            refine L.nil ?_
            refine N.blockNormal ?_
            refine N.thenW ?_
            refine W.region ?_
            refine L.mv rfl rfl rfl rfl rfl ?_
            first | refine L.op1 rfl rfl (GSpec.plain rfl (fit_i64 (by (first | omega | (simp only [Int.toNat_natCast]; omega))) (by (first | omega | (simp only [Int.toNat_natCast]; omega))) (spec_add rfl (Get.tmp rfl) (Get.cint rfl)))) ?_ | refine L.op1 rfl rfl (GSpec.plain rfl (spec_add rfl (Get.tmp rfl) (Get.cint rfl))) ?_
            refine L.as rfl rfl rfl rfl rfl ?_
            refine L.nil ?_
            refine N.roundK (i + 1, v71) ?hI7 ?hmu7 ?hs7 ?hk7 ?hp7
            case hs7 => exact (.cons (t := 9) rfl (.cons (t := 6) rfl .nil))
            case hk7 => exact (.cons (t := 1) rfl (.cons (t := 2) rfl (.cons (t := 4) rfl (.cons (t := 8) rfl .nil))))
            case hp7 => dsimp only; rw [rows_next]; exact (.cons 0 rfl (.cons 0 rfl (.cons 0 rfl (.cons 0 rfl .nil))))
            case hI7 => dsimp only; omega
            case hmu7 => dsimp only; omega
      · have ph3 := h3; try simp only [sbx] at ph3
        refine W.exit ?_
        refine N.thenExit ?_
        refine N.thenExit ?_
        refine N.blockExit ?_
        refine N.thenW ?_
        have hi : i = rows.length := by omega
        subst hi
        refine W.pubBox (off := 1) 1 0 rfl rfl rfl (fun _ => rfl) ?_
        refine W.keep (.cons (t := 4) rfl (.cons (t := 8) rfl .nil)) .refl ?_
        refine W.sr ?_
        refine L.p1 rfl rfl rfl (spec_loadW (k := 0) rfl Tryz.isAgg45 Tryz.sizeOf45 (Get.tmp rfl) rfl rfl) ?_
        refine L.storeW (k := 1) rfl rfl rfl Tryz.sizeOf45 (Get.tmp rfl) (Get.tmp rfl) rfl rfl rfl ?_
        refine L.p1 rfl rfl rfl (spec_assign rfl (Get.cint rfl)) ?_
        refine L.nt ?_
        refine W.ret ?_
        refine N.ret () rfl (.cellA (k := 1) (Get.tmp (t := 4) rfl) rfl Tryz.isAgg45 Tryz.sizeOf45 rfl (.tmp (t := 5) (Get.tmp rfl) .nil)) (res2w (eqA ?_) (eqI ?_)) .nil (fun _ _ h => h)
        all_goals rfl

end Go.Proofs.YthlfacmpjehjmaaGreatDoor
/- Tables of numbers in package variables: a ghost fact, and reading an entry. -/
set_option linter.unusedSimpArgs false
set_option linter.unusedVariables false
namespace Go.Sim
theorem byte_ix (b : UInt8) : 0 ≤ ((b.toNat : Nat) : Int) ∧ ((b.toNat : Nat) : Int) < ((256 : Nat) : Int) := by
  have := UInt8.toNat_lt b; omega
section
variable {P : Program} {M : List MF} {o : Oper} {σ : Nat → Option Rp}
theorem spec_xor64 {T : TypeId} {x : Operand} {n : Int} (h : o.op = .unOp .xor T x) (hx : Get σ x (Rp.int .i64 n)) : Spec P σ M o (.one (Rp.int .i64 (bitsOf .xor .i64 (-1) n))) :=
  Spec.of_run fun a w C hs _ => ⟨.int .i64 (bitsOf .xor .i64 (-1) n), by
    have := (hx a w C hs).1
    simp [execOp, h, this, Op.unary, Op.intBits, bitsOf, IntKind.signed], rfl, in_wrap _ _⟩
theorem spec_indexAddrG {T e n g k : Nat} {io : Operand} {kk ke : IntKind} {i : Int} {zs : List Int} (h : o.op = .indexAddr T (.global g) io) (hu : P.underlying T = some (.array n e)) (hn : ∀ w, (sizeOf e).run P w = .ok 1 w)
    (hk : M[k]? = some (MF.glob g (zs.map (Rp.int ke)))) (hi : Get σ io (Rp.int kk i)) (hr : 0 ≤ i ∧ i < n) (hl : n ≤ zs.length) : Spec P σ M o (.one (Rp.at [Rp.int ke (zs.getD i.toNat 0)])) :=
  Spec.of_run fun a w C hs hm => by
    obtain ⟨ad, hv, hrow⟩ := get_glob (a := a) hk hm
    have hil : i.toNat < zs.length := by omega
    refine ⟨.pointer (some (ad.add (i.toNat * 1))), by simp [execOp, h, hv, get_int hi hs, Instr.indexAt, asIntOf, run_underlying hu, hn, hr.1, hr.2, Instr.sureAddr], _, rfl, ?_⟩
    have h2 := rowAt_sub (i.toNat * 1) 1 (by simp; omega) hrow
    have e : ((zs.map (Rp.int ke)).drop (i.toNat * 1)).take 1 = [Rp.int ke (zs.getD i.toNat 0)] := by
      rw [Nat.mul_one, List.drop_eq_getElem_cons (by simpa using hil)]
      simp [List.getD, hil]
    rwa [e] at h2
theorem spec_indexAA {α : Type} [Inhabited α] {T e n sz : Nat} {x ix : Operand} {E : α → List Rp} {xs : List α} {k : IntKind} {i : Int} (h : o.op = .index T x ix) (hu : P.underlying T = some (.array n e)) (hs : ∀ w, (sizeOf e).run P w = .ok sz w) (ha : ∀ w, (isAgg e).run P w = .ok true w)
    (hE : ∀ x, (E x).length = sz) (hx : Get σ x (Rp.agg (xs.flatMap E))) (hi : Get σ ix (Rp.int k i)) (hr : 0 ≤ i ∧ i < n) (hl : n ≤ xs.length) : Spec P σ M o (.one (Rp.agg (E (xs.getD i.toNat default)))) :=
  Spec.of_run fun a w C hsl _ => by
    obtain ⟨cs, hv, hcs⟩ := hx a w C hsl
    have hy : xs[i.toNat]? = some (xs.getD i.toNat default) := getD_some ⟨hr.1, by omega⟩
    have h2 := hcs.sub (i.toNat * sz) sz
    rw [flatMap_one hE xs hy] at h2
    exact ⟨.agg ((cs.drop (i.toNat * sz)).take sz).toArray, by
      simp [execOp, h, hv, Instr.index, get_int hi hsl, asIntOf, run_underlying hu, hr.1, hr.2, hs, part, ha, asAgg], _, rfl, h2⟩
end
theorem tab_row {k : IntKind} (W : World) (C : Nat → Prop) : ∀ (zs : List Int), (∀ z ∈ zs, InR k z) → AllR (zs.map (Rp.int k)) W C (zs.map fun z => Value.int k z)
  | [], _ => ⟨trivial, fun v hv => by cases hv⟩
  | z :: r, h => by
    have h2 := tab_row W C r fun x hx => h x (List.mem_cons_of_mem _ hx)
    refine ⟨⟨⟨rfl, h z List.mem_cons_self⟩, h2.1⟩, fun v hv => ?_⟩
    rcases List.mem_cons.1 hv with rfl | hv
    · rfl
    · exact h2.2 v hv
theorem glob_tab {P : Program} {W : World} {n : String} {g : Nat} {k : IntKind} {zs : List Int} (hg : P.globalNamed n = some g) (ht : Lib.TabIs P W n k zs) (hz : ∀ z ∈ zs, InR k z) : (MF.glob g (zs.map (Rp.int k))).p W (old W) := by
  unfold Lib.TabIs World.var? at ht
  rw [hg, Option.bind_some] at ht
  split at ht
  · rename_i cs' T fr hh
    cases ht
    refine ⟨rfl, (Array.getElem?_eq_some_iff.1 hh).1, _, T, fr, hh, ?_⟩
    show AllR (zs.map (Rp.int k)) W (old W) (((zs.map fun z => Value.int k z).drop 0).take (zs.map (Rp.int k)).length)
    rw [List.drop_zero, List.take_of_length_le (by simp)]
    exact tab_row W (old W) zs hz
  · cases ht
/-! Arrays of two numbers: equality. -/
section
variable {P : Program} {M : List MF} {o : Oper} {σ : Nat → Option Rp}
end
end Go.Sim
set_option linter.unusedSimpArgs false
set_option maxRecDepth 8000
set_option linter.unusedVariables false
namespace Go.Proofs.YthlfacmpjehjmaaGreatDoor
open Go.Sim
theorem smallT_ok (m : Nat) (h : m ≤ 9) : CallT Tryz.prog 124 [Rp.int .i64 (m : Int)] [] (.one (Rp.str (digT m))) := by
  refine W.enter (fn := Tryz.f124) (n := 15) Tryz.func124 rfl Tryz.ntmps124 rfl (fun w₀ C₀ => ?_)
  simp only [argS]
  refine W.sr ?_
  refine L.p1 rfl rfl rfl (spec_assign rfl (Get.cstr (l := []) rfl rfl)) ?_
  refine L.nt ?_
  refine W.seq ?_
  refine W.sr ?_
  refine L.mv rfl rfl rfl rfl rfl ?_
  refine L.p1 rfl rfl rfl (spec_lss rfl (Get.tmp rfl) (Get.cint rfl)) ?_
  refine L.nt ?_
  refine W.cond (Get.tmp rfl) (fun h1 => ?_) (fun h1 => ?_)
  · have ph1 := h1; try simp only [sbx] at ph1
    refine W.sr ?_
    refine L.mv rfl rfl rfl rfl rfl ?_
    refine L.mv rfl rfl rfl rfl rfl ?_
    first | refine L.op1 rfl rfl (GSpec.plain rfl (fit_i64 (by (first | omega | (simp only [List.length_cons, List.length_nil]; omega))) (by (first | omega | (simp only [List.length_cons, List.length_nil]; omega))) (spec_add rfl (Get.tmp rfl) (Get.cint rfl)))) ?_ | refine L.op1 rfl rfl (GSpec.plain rfl (spec_add rfl (Get.tmp rfl) (Get.cint rfl))) ?_
    refine L.p1 rfl rfl rfl (spec_sliceS rfl Tryz.underlying9 (Get.cstr (l := [48, 49, 50, 51, 52, 53, 54, 55, 56, 57, 97, 98, 99, 100, 101, 102, 103, 104, 105, 106, 107, 108, 109, 110, 111, 112, 113, 114, 115, 116, 117, 118, 119, 120, 121, 122]) rfl rfl) (.some (Get.tmp rfl) (by (first | omega | (simp only [List.length_cons, List.length_nil]; omega)))) (.some (Get.tmp rfl) (by (first | omega | (simp only [List.length_cons, List.length_nil]; omega)))) (by (first | omega | (simp only [List.length_cons, List.length_nil]; omega)))) ?_
    refine L.as rfl rfl rfl rfl rfl ?_
    refine L.nt ?_
    refine W.keep (.cons (t := 0) rfl (.cons (t := 2) rfl .nil)) .refl ?_
    refine W.ret ?_
    refine N.ret () rfl (.tmp (t := 2) (Get.tmp rfl) .nil) (res1 (eqS ?_)) .nil (fun _ _ h => h)
    exact small_dig h
  · exfalso; have h := of_decide_eq_false h1; omega

theorem fmtInt_ok (m : Nat) (h : m ≤ 9) : CallT Tryz.prog 108 [Rp.int .i64 (m : Int), Rp.int .i64 10] [] (.one (Rp.str (digT m))) := by
  refine W.enter (fn := Tryz.f108) (n := 54) Tryz.func108 rfl Tryz.ntmps108 rfl (fun w₀ C₀ => ?_)
  simp only [argS]
  refine W.sr ?_
  refine L.p1 rfl rfl rfl (spec_assign rfl (Get.cstr (l := []) rfl rfl)) ?_
  refine L.nt ?_
  refine W.seq ?_
  refine W.sr ?_
  refine L.mv rfl rfl rfl rfl rfl ?_
  refine L.p1 rfl rfl rfl (spec_eql rfl (Get.tmp rfl) (Get.cint rfl)) ?_
  refine L.nt ?_
  refine W.cond (Get.tmp rfl) (fun h1 => ?_) (fun h1 => ?_)
  · have ph1 := h1; try simp only [sbx] at ph1
    refine W.seq ?_
    refine W.sr ?_
    refine L.mv rfl rfl rfl rfl rfl ?_
    refine L.p1 rfl rfl rfl (spec_leq rfl (Get.cint rfl) (Get.tmp rfl)) ?_
    refine L.mv rfl rfl rfl rfl rfl ?_
    refine L.op1 rfl rfl (GSpec.guard rfl rfl rfl fun hg => (spec_move rfl (Get.tmp rfl))) ?_
    refine L.op1 rfl rfl (GSpec.guard rfl rfl rfl fun hg => (spec_lss rfl (Get.opt rfl hg) (Get.cint rfl))) ?_
    refine L.p1 rfl rfl rfl (spec_and rfl (Get.tmp rfl) (fun hb => (Get.opt rfl hb))) ?_
    refine L.nt ?_
    refine W.keep (.cons (t := 0) rfl (.cons (t := 1) rfl (.cons (t := 4) rfl (.cons (t := 17) rfl .nil)))) .refl ?_
    refine W.cond (Get.tmp rfl) (fun h2 => ?_) (fun h2 => ?_)
    · have ph2 := h2; try simp only [sbx] at ph2
      refine W.sr ?_
      refine L.mv rfl rfl rfl rfl rfl ?_
      refine L.p1 rfl rfl rfl (spec_call rfl Tryz.call124 (smallT_ok _ (by omega)) (.cons (Get.tmp rfl) .nil)) ?_
      refine L.as rfl rfl rfl rfl rfl ?_
      refine L.nt ?_
      refine W.ret ?_
      refine N.ret () rfl (.tmp (t := 4) (Get.tmp rfl) .nil) (res1 (eqS ?_)) .nil (fun _ _ h => h)
      rfl
    · exfalso; have h := h2; rw [decide_eq_true (show (0 : Int) ≤ (m : Int) by omega), decide_eq_true (show (m : Int) < 100 by omega)] at h; cases h
  · exfalso; have h := of_decide_eq_false h1; omega

theorem itoa2_ok (m : Nat) (h : m ≤ 9) : CallT Tryz.prog 97 [Rp.int .i64 (m : Int)] [] (.one (Rp.str (digT m))) := by
  refine W.enter (fn := Tryz.f97) (n := 5) Tryz.func97 rfl Tryz.ntmps97 rfl (fun w₀ C₀ => ?_)
  simp only [argS]
  refine W.sr ?_
  refine L.p1 rfl rfl rfl (spec_assign rfl (Get.cstr (l := []) rfl rfl)) ?_
  refine L.nt ?_
  refine W.sr ?_
  refine L.mv rfl rfl rfl rfl rfl ?_
  refine L.p1 rfl rfl rfl (spec_call rfl Tryz.call108 (fmtInt_ok _ (by omega)) (.cons (Get.tmp rfl) (.cons (Get.cint rfl) .nil))) ?_
  refine L.as rfl rfl rfl rfl rfl ?_
  refine L.nt ?_
  refine W.keep (.cons (t := 2) rfl .nil) .refl ?_
  refine W.ret ?_
  refine N.ret () rfl (.tmp (t := 2) (Get.tmp rfl) .nil) (res1 (eqS ?_)) .nil (fun _ _ h => h)
  rfl

theorem itoa_ok (m : Nat) (h : m ≤ 9) : CallT Tryz.prog 76 [Rp.int .i64 (m : Int)] [] (.one (Rp.str (digT m))) := by
  refine W.enter (fn := Tryz.f76) (n := 5) Tryz.func76 rfl Tryz.ntmps76 rfl (fun w₀ C₀ => ?_)
  simp only [argS]
  refine W.sr ?_
  refine L.p1 rfl rfl rfl (spec_assign rfl (Get.cstr (l := []) rfl rfl)) ?_
  refine L.nt ?_
  refine W.sr ?_
  refine L.mv rfl rfl rfl rfl rfl ?_
  refine L.p1 rfl rfl rfl (spec_call rfl Tryz.call97 (itoa2_ok _ (by omega)) (.cons (Get.tmp rfl) .nil)) ?_
  refine L.as rfl rfl rfl rfl rfl ?_
  refine L.nt ?_
  refine W.ret ?_
  refine N.ret () rfl (.tmp (t := 2) (Get.tmp rfl) .nil) (res1 (eqS ?_)) .nil (fun _ _ h => h)
  rfl

theorem indexed_ok (s : List UInt8) (i : Int) (h0 : 0 ≤ i) (h1 : i ≤ 9) (hs : s.length ≤ 10) : CallT Tryz.prog 43 [Rp.str s, Rp.int .i64 i] [] (.one (Rp.str (ixN s i.toNat))) := by
  refine W.enter (fn := Tryz.f43) (n := 9) Tryz.func43 rfl Tryz.ntmps43 rfl (fun w₀ C₀ => ?_)
  simp only [argS]
  obtain ⟨m, rfl⟩ : ∃ m : Nat, i = (m : Int) := ⟨i.toNat, by omega⟩
  refine W.sr ?_
  refine L.p1 rfl rfl rfl (spec_assign rfl (Get.cstr (l := []) rfl rfl)) ?_
  refine L.nt ?_
  refine W.sr ?_
  refine L.mv rfl rfl rfl rfl rfl ?_
  refine L.mv rfl rfl rfl rfl rfl ?_
  refine L.p1 rfl rfl rfl (spec_call rfl Tryz.call76 (itoa_ok _ (by omega)) (.cons (Get.tmp rfl) .nil)) ?_
  refine L.p1 rfl rfl rfl (spec_addS rfl (Get.tmp rfl) (Get.tmp rfl) (by (first | omega | (simp only [digT, List.length_cons, List.length_nil]; omega)))) ?_
  refine L.as rfl rfl rfl rfl rfl ?_
  refine L.nt ?_
  refine W.keep (.cons (t := 4) rfl .nil) .refl ?_
  refine W.ret ?_
  refine N.ret () rfl (.tmp (t := 4) (Get.tmp rfl) .nil) (res1 (eqS ?_)) .nil (fun _ _ h => h)
  rfl

theorem ref_ok (s : List UInt8) : CallT Tryz.prog 35 [Rp.str s] [] (.one (Rp.agg (eX (refE s)))) := by
  refine W.enter (fn := Tryz.f35) (n := 5) Tryz.func35 rfl Tryz.ntmps35 rfl (fun w₀ C₀ => ?_)
  simp only [argS]
  refine W.sr ?_
  refine L.box rfl rfl (GSpec.plain rfl (spec_alloc rfl ti66 z66)) (fun r2 => ?_)
  refine L.nt ?_
  refine W.sr ?_
  refine L.mv rfl rfl rfl rfl rfl ?_
  refine L.p1 rfl rfl rfl (spec_build (Rs := [_, Rp.int .i64 0, _, Rp.exs []]) rfl ti66 z66 Tryz.underlying66 pl66 (.cons (GetC.one (Get.cint rfl)) rfl rfl rfl (.cons (GetC.one (Get.tmp rfl)) rfl rfl rfl .nil))) ?_
  refine L.storeW (k := 0) rfl rfl rfl Tryz.sizeOf66 (Get.tmp rfl) (Get.tmp rfl) rfl rfl rfl ?_
  refine L.nt ?_
  refine W.ret ?_
  refine N.ret () rfl (.cellA (k := 0) (Get.tmp (t := 2) rfl) rfl Tryz.isAgg66 Tryz.sizeOf66 rfl .nil) (res1 (eqA ?_)) .nil (fun _ _ h => h)
  rfl

theorem num_ok (n : Int) : CallT Tryz.prog 36 [Rp.int .i64 n] [] (.one (Rp.agg (eX (numE n)))) := by
  refine W.enter (fn := Tryz.f36) (n := 5) Tryz.func36 rfl Tryz.ntmps36 rfl (fun w₀ C₀ => ?_)
  simp only [argS]
  refine W.sr ?_
  refine L.box rfl rfl (GSpec.plain rfl (spec_alloc rfl ti66 z66)) (fun r2 => ?_)
  refine L.nt ?_
  refine W.sr ?_
  refine L.mv rfl rfl rfl rfl rfl ?_
  refine L.p1 rfl rfl rfl (spec_build (Rs := [_, _, Rp.str [], Rp.exs []]) rfl ti66 z66 Tryz.underlying66 pl66 (.cons (GetC.one (Get.cint rfl)) rfl rfl rfl (.cons (GetC.one (Get.tmp rfl)) rfl rfl rfl .nil))) ?_
  refine L.storeW (k := 0) rfl rfl rfl Tryz.sizeOf66 (Get.tmp rfl) (Get.tmp rfl) rfl rfl rfl ?_
  refine L.nt ?_
  refine W.keep (.cons (t := 2) rfl .nil) .refl ?_
  refine W.ret ?_
  refine N.ret () rfl (.cellA (k := 0) (Get.tmp (t := 2) rfl) rfl Tryz.isAgg66 Tryz.sizeOf66 rfl .nil) (res1 (eqA ?_)) .nil (fun _ _ h => h)
  rfl

theorem clone_ok (l : List Ex) (hl : l.length ≤ 100) : CallT Tryz.prog 79 [Rp.slice eX l] [] (.one (Rp.slice eX l)) := by
  refine W.enter (fn := Tryz.f79) (n := 8) Tryz.func79 rfl Tryz.ntmps79 rfl (fun w₀ C₀ => ?_)
  simp only [argS]
  refine W.sr ?_
  refine L.p1 rfl rfl rfl (spec_assign rfl (Get.cnil (E := eX))) ?_
  refine L.nt ?_
  refine W.seq ?_
  refine W.sr ?_
  refine L.mv rfl rfl rfl rfl rfl ?_
  refine L.op rfl rfl (GSpec.plain rfl (spec_eqlNil rfl Tryz.underlying64 (Get.tmp rfl))) (fun bn4 => ?_)
  refine L.nt ?_
  refine W.cond (Get.tmp rfl) (fun h1 => ?_) (fun h1 => ?_)
  · have ph1 := h1; try simp only [sbx] at ph1
    refine W.sr ?_
    refine L.p1 rfl rfl rfl (spec_assign rfl (Get.cnil (E := eX))) ?_
    refine L.nt ?_
    refine W.ret ?_
    refine N.ret () rfl (.tmp (t := 2) (Get.tmp rfl) .nil) (res1 (eqSl ?_)) .nil (fun _ _ h => h)
    exact (bn4.2 h1).symm
  · have ph1 := h1; try simp only [sbx] at ph1
    refine W.skip ?_
    refine N.thenW ?_
    refine W.sr ?_
    refine L.op rfl rfl (GSpec.plain rfl (spec_buildSlice0 (E := eX) rfl Tryz.underlying64 Tryz.sizeOf66)) (fun v5 => ?_)
    refine L.mv rfl rfl rfl rfl rfl ?_
    refine L.append (k := 0) (E := eX) rfl rfl rfl rfl Tryz.underlying64 ti66 rfl (by decide) (fun _ => rfl) (Get.tmp rfl) (Get.tmp rfl) rfl (by (first | omega | (simp; omega))) (by (first | omega | (simp; omega))) (fun v7 => ?_)
    refine L.pub (t := 7) (k := 0) rfl rfl (fun _ => rfl) ?_
    refine L.as rfl rfl rfl rfl rfl ?_
    refine L.nt ?_
    refine W.keep (.cons (t := 2) rfl .nil) .refl ?_
    refine W.ret ?_
    refine N.ret () rfl (.tmp (t := 2) (Get.tmp rfl) .nil) (res1 (eqSl ?_)) .nil (fun _ _ h => h)
    first | rfl | simp

theorem node_ok (op : Int) (l : List Ex) (hl : l.length ≤ 100) : CallT Tryz.prog 60 [Rp.int .i64 op, Rp.slice eX l] [] (.one (Rp.agg (eX (nodeE op l)))) := by
  refine W.enter (fn := Tryz.f60) (n := 9) Tryz.func60 rfl Tryz.ntmps60 rfl (fun w₀ C₀ => ?_)
  simp only [argS]
  refine W.sr ?_
  refine L.box rfl rfl (GSpec.plain rfl (spec_alloc rfl ti66 z66)) (fun r4 => ?_)
  refine L.nt ?_
  refine W.sr ?_
  refine L.mv rfl rfl rfl rfl rfl ?_
  refine L.mv rfl rfl rfl rfl rfl ?_
  refine L.p1 rfl rfl rfl (spec_call rfl Tryz.call79 (clone_ok _ (by first | decide | omega | (simp; done))) (.cons (Get.tmp rfl) .nil)) ?_
  refine L.p1 rfl rfl rfl (spec_build (Rs := [_, Rp.int .i64 0, Rp.str [], _]) rfl ti66 z66 Tryz.underlying66 pl66 (.cons (GetC.one (Get.tmp rfl)) rfl rfl rfl (.cons (GetC.one (Get.eq (exs_eq _).symm (Get.tmp rfl))) rfl rfl rfl .nil))) ?_
  refine L.storeW (k := 0) rfl rfl rfl Tryz.sizeOf66 (Get.tmp rfl) (Get.tmp rfl) rfl rfl rfl ?_
  refine L.nt ?_
  refine W.ret ?_
  refine N.ret () rfl (.cellA (k := 0) (Get.tmp (t := 4) rfl) rfl Tryz.isAgg66 Tryz.sizeOf66 rfl .nil) (res1 (eqA ?_)) .nil (fun _ _ h => h)
  rfl

theorem not_ok (a : Ex) : CallT Tryz.prog 57 [Rp.agg (eX a)] [] (.one (Rp.agg (eX (notE a)))) := by
  refine W.enter (fn := Tryz.f57) (n := 6) Tryz.func57 rfl Tryz.ntmps57 rfl (fun w₀ C₀ => ?_)
  simp only [argS]
  refine W.sr ?_
  refine L.box rfl rfl (GSpec.plain rfl (spec_box rfl (GetC.agg (Get.tmp rfl)))) (fun r1 => ?_)
  refine L.box rfl rfl (GSpec.plain rfl (spec_alloc rfl ti66 z66)) (fun r2 => ?_)
  refine L.nt ?_
  refine W.keep (.cons (t := 1) rfl (.cons (t := 2) rfl .nil)) .refl ?_
  refine W.sr ?_
  refine L.p1 rfl rfl rfl (spec_loadW (k := 1) rfl Tryz.isAgg66 Tryz.sizeOf66 (Get.tmp rfl) rfl rfl) ?_
  refine L.p1 rfl rfl rfl (spec_buildSlice1 (E := eX) rfl Tryz.underlying64 ti66 z66 (by decide) (GetC.agg (Get.tmp rfl)) (fun _ => rfl)) ?_
  refine L.p1 rfl rfl rfl (spec_call rfl Tryz.call60 (node_ok _ _ (by first | decide | omega | (simp; done))) (.cons (Get.cint rfl) (.cons (Get.tmp rfl) .nil))) ?_
  refine L.storeW (k := 0) rfl rfl rfl Tryz.sizeOf66 (Get.tmp rfl) (Get.tmp rfl) rfl rfl rfl ?_
  refine L.nt ?_
  refine W.ret ?_
  refine N.ret () rfl (.cellA (k := 0) (Get.tmp (t := 2) rfl) rfl Tryz.isAgg66 Tryz.sizeOf66 rfl .nil) (res1 (eqA ?_)) .nil (fun _ _ h => h)
  rfl

theorem both_ok (a b : Ex) : CallT Tryz.prog 45 [Rp.agg (eX a), Rp.agg (eX b)] [] (.one (Rp.agg (eX (bothE a b)))) := by
  refine W.enter (fn := Tryz.f45) (n := 9) Tryz.func45 rfl Tryz.ntmps45 rfl (fun w₀ C₀ => ?_)
  simp only [argS]
  refine W.sr ?_
  refine L.box rfl rfl (GSpec.plain rfl (spec_box rfl (GetC.agg (Get.tmp rfl)))) (fun r2 => ?_)
  refine L.box rfl rfl (GSpec.plain rfl (spec_box rfl (GetC.agg (Get.tmp rfl)))) (fun r3 => ?_)
  refine L.box rfl rfl (GSpec.plain rfl (spec_alloc rfl ti66 z66)) (fun r4 => ?_)
  refine L.nt ?_
  refine W.sr ?_
  refine L.p1 rfl rfl rfl (spec_loadW (k := 2) rfl Tryz.isAgg66 Tryz.sizeOf66 (Get.tmp rfl) rfl rfl) ?_
  refine L.p1 rfl rfl rfl (spec_loadW (k := 1) rfl Tryz.isAgg66 Tryz.sizeOf66 (Get.tmp rfl) rfl rfl) ?_
  refine L.p1 rfl rfl rfl (spec_buildSliceN (xs := [a, b]) (E := eX) rfl Tryz.underlying64 ti66 z66 (by first | decide | simp) rfl (.cons (GetC.agg (Get.tmp rfl)) rfl rfl rfl (.cons (GetC.agg (Get.tmp rfl)) rfl rfl rfl .nil)) rfl rfl) ?_
  refine L.p1 rfl rfl rfl (spec_call rfl Tryz.call60 (node_ok _ _ (by first | decide | omega | (simp; done))) (.cons (Get.cint rfl) (.cons (Get.tmp rfl) .nil))) ?_
  refine L.storeW (k := 0) rfl rfl rfl Tryz.sizeOf66 (Get.tmp rfl) (Get.tmp rfl) rfl rfl rfl ?_
  refine L.nt ?_
  refine W.keep (.cons (t := 4) rfl .nil) .refl ?_
  refine W.ret ?_
  refine N.ret () rfl (.cellA (k := 0) (Get.tmp (t := 4) rfl) rfl Tryz.isAgg66 Tryz.sizeOf66 rfl .nil) (res1 (eqA ?_)) .nil (fun _ _ h => h)
  rfl

theorem either_ok (a b : Ex) : CallT Tryz.prog 56 [Rp.agg (eX a), Rp.agg (eX b)] [] (.one (Rp.agg (eX (eitherE a b)))) := by
  refine W.enter (fn := Tryz.f56) (n := 9) Tryz.func56 rfl Tryz.ntmps56 rfl (fun w₀ C₀ => ?_)
  simp only [argS]
  refine W.sr ?_
  refine L.box rfl rfl (GSpec.plain rfl (spec_box rfl (GetC.agg (Get.tmp rfl)))) (fun r2 => ?_)
  refine L.box rfl rfl (GSpec.plain rfl (spec_box rfl (GetC.agg (Get.tmp rfl)))) (fun r3 => ?_)
  refine L.box rfl rfl (GSpec.plain rfl (spec_alloc rfl ti66 z66)) (fun r4 => ?_)
  refine L.nt ?_
  refine W.sr ?_
  refine L.p1 rfl rfl rfl (spec_loadW (k := 2) rfl Tryz.isAgg66 Tryz.sizeOf66 (Get.tmp rfl) rfl rfl) ?_
  refine L.p1 rfl rfl rfl (spec_loadW (k := 1) rfl Tryz.isAgg66 Tryz.sizeOf66 (Get.tmp rfl) rfl rfl) ?_
  refine L.p1 rfl rfl rfl (spec_buildSliceN (xs := [a, b]) (E := eX) rfl Tryz.underlying64 ti66 z66 (by first | decide | simp) rfl (.cons (GetC.agg (Get.tmp rfl)) rfl rfl rfl (.cons (GetC.agg (Get.tmp rfl)) rfl rfl rfl .nil)) rfl rfl) ?_
  refine L.p1 rfl rfl rfl (spec_call rfl Tryz.call60 (node_ok _ _ (by first | decide | omega | (simp; done))) (.cons (Get.cint rfl) (.cons (Get.tmp rfl) .nil))) ?_
  refine L.storeW (k := 0) rfl rfl rfl Tryz.sizeOf66 (Get.tmp rfl) (Get.tmp rfl) rfl rfl rfl ?_
  refine L.nt ?_
  refine W.keep (.cons (t := 4) rfl .nil) .refl ?_
  refine W.ret ?_
  refine N.ret () rfl (.cellA (k := 0) (Get.tmp (t := 4) rfl) rfl Tryz.isAgg66 Tryz.sizeOf66 rfl .nil) (res1 (eqA ?_)) .nil (fun _ _ h => h)
  rfl

theorem plus_ok (a b : Ex) : CallT Tryz.prog 41 [Rp.agg (eX a), Rp.agg (eX b)] [] (.one (Rp.agg (eX (plusE a b)))) := by
  refine W.enter (fn := Tryz.f41) (n := 9) Tryz.func41 rfl Tryz.ntmps41 rfl (fun w₀ C₀ => ?_)
  simp only [argS]
  refine W.sr ?_
  refine L.box rfl rfl (GSpec.plain rfl (spec_box rfl (GetC.agg (Get.tmp rfl)))) (fun r2 => ?_)
  refine L.box rfl rfl (GSpec.plain rfl (spec_box rfl (GetC.agg (Get.tmp rfl)))) (fun r3 => ?_)
  refine L.box rfl rfl (GSpec.plain rfl (spec_alloc rfl ti66 z66)) (fun r4 => ?_)
  refine L.nt ?_
  refine W.sr ?_
  refine L.p1 rfl rfl rfl (spec_loadW (k := 2) rfl Tryz.isAgg66 Tryz.sizeOf66 (Get.tmp rfl) rfl rfl) ?_
  refine L.p1 rfl rfl rfl (spec_loadW (k := 1) rfl Tryz.isAgg66 Tryz.sizeOf66 (Get.tmp rfl) rfl rfl) ?_
  refine L.p1 rfl rfl rfl (spec_buildSliceN (xs := [a, b]) (E := eX) rfl Tryz.underlying64 ti66 z66 (by first | decide | simp) rfl (.cons (GetC.agg (Get.tmp rfl)) rfl rfl rfl (.cons (GetC.agg (Get.tmp rfl)) rfl rfl rfl .nil)) rfl rfl) ?_
  refine L.p1 rfl rfl rfl (spec_call rfl Tryz.call60 (node_ok _ _ (by first | decide | omega | (simp; done))) (.cons (Get.cint rfl) (.cons (Get.tmp rfl) .nil))) ?_
  refine L.storeW (k := 0) rfl rfl rfl Tryz.sizeOf66 (Get.tmp rfl) (Get.tmp rfl) rfl rfl rfl ?_
  refine L.nt ?_
  refine W.keep (.cons (t := 4) rfl .nil) .refl ?_
  refine W.ret ?_
  refine N.ret () rfl (.cellA (k := 0) (Get.tmp (t := 4) rfl) rfl Tryz.isAgg66 Tryz.sizeOf66 rfl .nil) (res1 (eqA ?_)) .nil (fun _ _ h => h)
  rfl

theorem minus_ok (a b : Ex) : CallT Tryz.prog 39 [Rp.agg (eX a), Rp.agg (eX b)] [] (.one (Rp.agg (eX (minusE a b)))) := by
  refine W.enter (fn := Tryz.f39) (n := 9) Tryz.func39 rfl Tryz.ntmps39 rfl (fun w₀ C₀ => ?_)
  simp only [argS]
  refine W.sr ?_
  refine L.box rfl rfl (GSpec.plain rfl (spec_box rfl (GetC.agg (Get.tmp rfl)))) (fun r2 => ?_)
  refine L.box rfl rfl (GSpec.plain rfl (spec_box rfl (GetC.agg (Get.tmp rfl)))) (fun r3 => ?_)
  refine L.box rfl rfl (GSpec.plain rfl (spec_alloc rfl ti66 z66)) (fun r4 => ?_)
  refine L.nt ?_
  refine W.sr ?_
  refine L.p1 rfl rfl rfl (spec_loadW (k := 2) rfl Tryz.isAgg66 Tryz.sizeOf66 (Get.tmp rfl) rfl rfl) ?_
  refine L.p1 rfl rfl rfl (spec_loadW (k := 1) rfl Tryz.isAgg66 Tryz.sizeOf66 (Get.tmp rfl) rfl rfl) ?_
  refine L.p1 rfl rfl rfl (spec_buildSliceN (xs := [a, b]) (E := eX) rfl Tryz.underlying64 ti66 z66 (by first | decide | simp) rfl (.cons (GetC.agg (Get.tmp rfl)) rfl rfl rfl (.cons (GetC.agg (Get.tmp rfl)) rfl rfl rfl .nil)) rfl rfl) ?_
  refine L.p1 rfl rfl rfl (spec_call rfl Tryz.call60 (node_ok _ _ (by first | decide | omega | (simp; done))) (.cons (Get.cint rfl) (.cons (Get.tmp rfl) .nil))) ?_
  refine L.storeW (k := 0) rfl rfl rfl Tryz.sizeOf66 (Get.tmp rfl) (Get.tmp rfl) rfl rfl rfl ?_
  refine L.nt ?_
  refine W.keep (.cons (t := 4) rfl .nil) .refl ?_
  refine W.ret ?_
  refine N.ret () rfl (.cellA (k := 0) (Get.tmp (t := 4) rfl) rfl Tryz.isAgg66 Tryz.sizeOf66 rfl .nil) (res1 (eqA ?_)) .nil (fun _ _ h => h)
  rfl

theorem less_ok (a b : Ex) : CallT Tryz.prog 34 [Rp.agg (eX a), Rp.agg (eX b)] [] (.one (Rp.agg (eX (lessE a b)))) := by
  refine W.enter (fn := Tryz.f34) (n := 9) Tryz.func34 rfl Tryz.ntmps34 rfl (fun w₀ C₀ => ?_)
  simp only [argS]
  refine W.sr ?_
  refine L.box rfl rfl (GSpec.plain rfl (spec_box rfl (GetC.agg (Get.tmp rfl)))) (fun r2 => ?_)
  refine L.box rfl rfl (GSpec.plain rfl (spec_box rfl (GetC.agg (Get.tmp rfl)))) (fun r3 => ?_)
  refine L.box rfl rfl (GSpec.plain rfl (spec_alloc rfl ti66 z66)) (fun r4 => ?_)
  refine L.nt ?_
  refine W.sr ?_
  refine L.p1 rfl rfl rfl (spec_loadW (k := 2) rfl Tryz.isAgg66 Tryz.sizeOf66 (Get.tmp rfl) rfl rfl) ?_
  refine L.p1 rfl rfl rfl (spec_loadW (k := 1) rfl Tryz.isAgg66 Tryz.sizeOf66 (Get.tmp rfl) rfl rfl) ?_
  refine L.p1 rfl rfl rfl (spec_buildSliceN (xs := [a, b]) (E := eX) rfl Tryz.underlying64 ti66 z66 (by first | decide | simp) rfl (.cons (GetC.agg (Get.tmp rfl)) rfl rfl rfl (.cons (GetC.agg (Get.tmp rfl)) rfl rfl rfl .nil)) rfl rfl) ?_
  refine L.p1 rfl rfl rfl (spec_call rfl Tryz.call60 (node_ok _ _ (by first | decide | omega | (simp; done))) (.cons (Get.cint rfl) (.cons (Get.tmp rfl) .nil))) ?_
  refine L.storeW (k := 0) rfl rfl rfl Tryz.sizeOf66 (Get.tmp rfl) (Get.tmp rfl) rfl rfl rfl ?_
  refine L.nt ?_
  refine W.keep (.cons (t := 4) rfl .nil) .refl ?_
  refine W.ret ?_
  refine N.ret () rfl (.cellA (k := 0) (Get.tmp (t := 4) rfl) rfl Tryz.isAgg66 Tryz.sizeOf66 rfl .nil) (res1 (eqA ?_)) .nil (fun _ _ h => h)
  rfl

theorem equal_ok (a : Ex) (n : Int) : CallT Tryz.prog 46 [Rp.agg (eX a), Rp.int .i64 n] [] (.one (Rp.agg (eX (equalE a n)))) := by
  refine W.enter (fn := Tryz.f46) (n := 10) Tryz.func46 rfl Tryz.ntmps46 rfl (fun w₀ C₀ => ?_)
  simp only [argS]
  refine W.sr ?_
  refine L.box rfl rfl (GSpec.plain rfl (spec_box rfl (GetC.agg (Get.tmp rfl)))) (fun r2 => ?_)
  refine L.box rfl rfl (GSpec.plain rfl (spec_alloc rfl ti66 z66)) (fun r4 => ?_)
  refine L.nt ?_
  refine W.seq ?_
  apply W.any 5 mixed (by kernel_rfl)
  · apply Head.one rfl rfl (GSpec.plain rfl (spec_loadW (k := 1) rfl Tryz.isAgg66 Tryz.sizeOf66 (Get.tmp rfl) rfl rfl))
    apply Head.one rfl rfl (GSpec.plain rfl (spec_move rfl (Get.tmp rfl)))
    apply Head.one rfl rfl (GSpec.plain rfl (spec_call rfl Tryz.call36 (num_ok _) (.cons (Get.tmp rfl) .nil)))
    apply Head.one rfl rfl (GSpec.plain rfl (spec_buildSliceN (xs := [a, numE n]) (E := eX) rfl Tryz.underlying64 ti66 z66 (by first | decide | simp) rfl (.cons (GetC.agg (Get.tmp rfl)) rfl rfl rfl (.cons (GetC.agg (Get.tmp rfl)) rfl rfl rfl .nil)) rfl rfl))
    apply Head.one rfl rfl (GSpec.plain rfl (spec_call rfl Tryz.call60 (node_ok _ _ (by first | decide | omega | (simp; done))) (.cons (Get.cint rfl) (.cons (Get.tmp rfl) .nil))))
    exact Head.nil
  refine Fin.one ?_
  refine Fin.one ?_
  refine Fin.one ?_
  refine Fin.one ?_
  refine Fin.one ?_
  refine Fin.nil ?_
  refine L.storeW (k := 0) rfl rfl rfl Tryz.sizeOf66 (Get.tmp rfl) (Get.tmp rfl) rfl rfl rfl ?_
  refine L.nt ?_
  refine W.keep (.cons (t := 4) rfl .nil) .refl ?_
  refine W.ret ?_
  refine N.ret () rfl (.cellA (k := 0) (Get.tmp (t := 4) rfl) rfl Tryz.isAgg66 Tryz.sizeOf66 rfl .nil) (res1 (eqA ?_)) .nil (fun _ _ h => h)
  rfl

theorem when_ok (c a b : Ex) : CallT Tryz.prog 44 [Rp.agg (eX c), Rp.agg (eX a), Rp.agg (eX b)] [] (.one (Rp.agg (eX (whenE c a b)))) := by
  refine W.enter (fn := Tryz.f44) (n := 12) Tryz.func44 rfl Tryz.ntmps44 rfl (fun w₀ C₀ => ?_)
  simp only [argS]
  refine W.sr ?_
  refine L.box rfl rfl (GSpec.plain rfl (spec_box rfl (GetC.agg (Get.tmp rfl)))) (fun r3 => ?_)
  refine L.box rfl rfl (GSpec.plain rfl (spec_box rfl (GetC.agg (Get.tmp rfl)))) (fun r4 => ?_)
  refine L.box rfl rfl (GSpec.plain rfl (spec_box rfl (GetC.agg (Get.tmp rfl)))) (fun r5 => ?_)
  refine L.box rfl rfl (GSpec.plain rfl (spec_alloc rfl ti66 z66)) (fun r6 => ?_)
  refine L.nt ?_
  refine W.sr ?_
  refine L.p1 rfl rfl rfl (spec_loadW (k := 3) rfl Tryz.isAgg66 Tryz.sizeOf66 (Get.tmp rfl) rfl rfl) ?_
  refine L.p1 rfl rfl rfl (spec_loadW (k := 2) rfl Tryz.isAgg66 Tryz.sizeOf66 (Get.tmp rfl) rfl rfl) ?_
  refine L.p1 rfl rfl rfl (spec_loadW (k := 1) rfl Tryz.isAgg66 Tryz.sizeOf66 (Get.tmp rfl) rfl rfl) ?_
  refine L.p1 rfl rfl rfl (spec_buildSliceN (xs := [c, a, b]) (E := eX) rfl Tryz.underlying64 ti66 z66 (by first | decide | simp) rfl (.cons (GetC.agg (Get.tmp rfl)) rfl rfl rfl (.cons (GetC.agg (Get.tmp rfl)) rfl rfl rfl (.cons (GetC.agg (Get.tmp rfl)) rfl rfl rfl .nil))) rfl rfl) ?_
  refine L.p1 rfl rfl rfl (spec_call rfl Tryz.call60 (node_ok _ _ (by first | decide | omega | (simp; done))) (.cons (Get.cint rfl) (.cons (Get.tmp rfl) .nil))) ?_
  refine L.storeW (k := 0) rfl rfl rfl Tryz.sizeOf66 (Get.tmp rfl) (Get.tmp rfl) rfl rfl rfl ?_
  refine L.nt ?_
  refine W.keep (.cons (t := 6) rfl .nil) .refl ?_
  refine W.ret ?_
  refine N.ret () rfl (.cellA (k := 0) (Get.tmp (t := 6) rfl) rfl Tryz.isAgg66 Tryz.sizeOf66 rfl .nil) (res1 (eqA ?_)) .nil (fun _ _ h => h)
  rfl

theorem within_ok (n : Int) : CallT Tryz.prog 31 [Rp.int .i64 n] [] (.one (Rp.bool (decide (1 ≤ n) && decide (n ≤ 8)))) := by
  refine W.enter (fn := Tryz.f31) (n := 9) Tryz.func31 rfl Tryz.ntmps31 rfl (fun w₀ C₀ => ?_)
  simp only [argS]
  refine W.sr ?_
  refine L.p1 rfl rfl rfl (spec_assign rfl Get.cbool) ?_
  refine L.nt ?_
  refine W.sr ?_
  refine L.mv rfl rfl rfl rfl rfl ?_
  refine L.p1 rfl rfl rfl (spec_geq rfl (Get.tmp rfl) (Get.cint rfl)) ?_
  refine L.mv rfl rfl rfl rfl rfl ?_
  refine L.op1 rfl rfl (GSpec.guard rfl rfl rfl fun hg => (spec_move rfl (Get.tmp rfl))) ?_
  refine L.op1 rfl rfl (GSpec.guard rfl rfl rfl fun hg => (spec_leq rfl (Get.opt rfl hg) (Get.cint rfl))) ?_
  refine L.p1 rfl rfl rfl (spec_and rfl (Get.tmp rfl) (fun hb => (Get.opt rfl hb))) ?_
  refine L.as rfl rfl rfl rfl rfl ?_
  refine L.nt ?_
  refine W.keep (.cons (t := 2) rfl .nil) .refl ?_
  refine W.ret ?_
  refine N.ret () rfl (.tmp (t := 2) (Get.tmp rfl) .nil) (res1 (eqB ?_)) .nil (fun _ _ h => h)
  rfl

end Go.Proofs.YthlfacmpjehjmaaGreatDoor
