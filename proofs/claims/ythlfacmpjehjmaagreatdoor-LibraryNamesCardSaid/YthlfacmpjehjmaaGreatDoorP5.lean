/- Lemmas for the claim, part 5: rules for walks, contracts of functions, the data they compute. No conditions. -/
import Derived.Test.YthlfacmpjehjmaaGreatDoorP4
import Derived.Test.YthlfacmpjehjmaaGreatDoorP1
import Derived.Test.YthlfacmpjehjmaaGreatDoorP3
set_option linter.unusedSimpArgs false
set_option maxRecDepth 8000
set_option linter.unusedVariables false
namespace Go.Proofs.YthlfacmpjehjmaaGreatDoor
open Go.Sim
theorem expr_ok (l : List Tk) (hl : Toks l) : ∀ (f : Nat), ∀ (place : Int) (r a : Nat) (e : Ex) (b : Nat), 1 ≤ place → place ≤ 13 → a ≤ l.length → exprP l f place a = some (e, b) → CallT Tryz.prog 131 [Rp.ptr r 0, Rp.int .i64 place] [MF.box r 181 (rdR l a)] (⟨Unit, fun _ => Rp.agg (eX e), fun _ => [MF.box r 181 (rdR l b)]⟩ : RA) := by
  intro f
  refine Nat.rec (motive := fun f => ∀ (place : Int) (r a : Nat) (e : Ex) (b : Nat), 1 ≤ place → place ≤ 13 → a ≤ l.length → exprP l f place a = some (e, b) → CallT Tryz.prog 131 [Rp.ptr r 0, Rp.int .i64 place] [MF.box r 181 (rdR l a)] (⟨Unit, fun _ => Rp.agg (eX e), fun _ => [MF.box r 181 (rdR l b)]⟩ : RA)) (fun _ _ _ _ _ _ _ _ h => by rw [exprP] at h; cases h) (fun f ih place r a e b hp1 hp13 ha h => ?_) f
  have hl1 := hl.1
  refine W.enter (fn := Tryz.f131) (n := 140) Tryz.func131 rfl Tryz.ntmps131 rfl (fun w₀ C₀ => ?_)
  simp only [argS]
  refine W.sr ?_
  refine L.box rfl rfl (GSpec.plain rfl (spec_alloc rfl ti66 z66)) (fun r4 => ?_)
  refine L.nt ?_
  refine W.seq ?_
  refine W.sr ?_
  refine L.mv rfl rfl rfl rfl rfl ?_
  refine L.p1 rfl rfl rfl (spec_eql rfl (Get.tmp rfl) (Get.cint rfl)) ?_
  refine L.nt ?_
  refine W.cond (Get.tmp rfl) (fun h1 => ?_) (fun h1 => ?_)
  · exfalso; have hq := of_decide_eq_true h1; omega
  · have ph1 := h1; try simp only [sbx] at ph1
    refine W.skip ?_
    refine N.thenW ?_
    refine W.seq ?_
    refine W.sr ?_
    refine L.mv rfl rfl rfl rfl rfl ?_
    refine L.p1 rfl rfl rfl (spec_eql rfl (Get.tmp rfl) (Get.cint rfl)) ?_
    refine L.nt ?_
    refine W.cond (Get.tmp rfl) (fun h2 => ?_) (fun h2 => ?_)
    · have hp : place = 13 := of_decide_eq_true h2
      subst hp
      have hi := inv13 h
      refine W.seq ?_
      refine W.sr ?_
      refine L.p1 rfl rfl rfl (spec_assign rfl (Get.cint rfl)) ?_
      refine L.nt ?_
      refine W.block ?_
      refine W.loopK (σ := Nat) (.cons (t := 0) rfl (.cons (t := 1) rfl (.cons (t := 4) rfl .nil))) (fun z => [(5, Rp.int .i64 ((z : Int) + 4))]) (fun z => []) (fun z => z ≤ 3 ∧ ∀ j : Nat, j < z → isE l a (prefM ((j : Int) + 4)) = false) (fun z => 3 - z) 0 ⟨Nat.zero_le _, fun j hj => by omega⟩ (.cons (t := 5) rfl .nil) (.cons 0 rfl (.cons 0 rfl .nil)) ?_
      intro i hI S' M' hS hM
      obtain ⟨hI1, hI2⟩ := hI
      try dsimp only at hS hM
      simp only [List.cons_append, List.nil_append] at hS hM
      subst hS hM
      try dsimp only
      refine W.seq ?_
      refine W.sr ?_
      refine L.mv rfl rfl rfl rfl rfl ?_
      refine L.p1 rfl rfl rfl (spec_leq rfl (Get.tmp rfl) (Get.cint rfl)) ?_
      refine L.nt ?_
      refine W.cond (Get.tmp rfl) (fun h3 => ?_) (fun h3 => ?_)
      · have ph3 := h3; try simp only [sbx] at ph3
        refine W.skip ?_
        refine N.thenW ?_
        refine W.seq ?_
        refine W.block ?_
        refine W.sr ?_
        refine L.mv rfl rfl rfl rfl rfl ?_
        refine L.mv rfl rfl rfl rfl rfl ?_
        refine L.p1 rfl rfl rfl (spec_call rfl Tryz.call149 (prefix_ok _) (.cons (Get.tmp rfl) .nil)) ?_
        refine L.p1 rfl rfl rfl (spec_callB rfl Tryz.call148 (is_ok l a hl ha _) (.cons (Get.tmp rfl) (.cons (Get.tmp rfl) .nil)) (.cons (.box 1 rfl (.cons .same (.cons .same (.cons .same .nil)))) (.cons .same .nil))) ?_
        refine L.nt ?_
        refine W.cond (Get.tmp rfl) (fun h4 => ?_) (fun h4 => ?_)
        · have hz : i = 0 := by rcases (show i = 0 ∨ i = 1 ∨ i = 2 by omega) with q | q | q; exact q; (exfalso; subst q; have hq := h4; have h0 : isE l a [33] = false := hI2 0 (by omega); rcases hi with ⟨w, _⟩ | ⟨_, w, _⟩; (rw [h0] at w; cases w); (exact absurd (hq.symm.trans w) (by simp))); (exfalso; subst q; have hq := h4; have h0 : isE l a [33] = false := hI2 0 (by omega); rcases hi with ⟨w, _⟩ | ⟨_, _, w, _⟩; (rw [h0] at w; cases w); (exact absurd (hq.symm.trans w) (by simp)))
          subst hz
          have h33 : isE l a [33] = true := h4
          have hlt := is_lt h33
          replace hi := hi.resolve_right (fun q => by rw [h33] at q; exact absurd q.1 (by simp))
          obtain ⟨_, x, hx, he⟩ := hi
          refine W.sr ?_
          refine L.mv rfl rfl rfl rfl rfl ?_
          refine L.p1 rfl rfl rfl (spec_nilCheck rfl (Get.tmp rfl)) ?_
          refine L.p1 rfl rfl rfl (spec_fieldAddr (f := 1) (off' := 1) rfl Tryz.underlying181 rfl Tryz.sizeOf3 (Get.tmp rfl) rfl) ?_
          refine L.p1 rfl rfl rfl (spec_load1 (k := 1) rfl Tryz.isAgg3 (Get.tmp rfl) rfl rfl) ?_
          first | refine L.op1 rfl rfl (GSpec.plain rfl (fit_i64 (by (first | omega | (simp only [Int.toNat_natCast]; omega))) (by (first | omega | (simp only [Int.toNat_natCast]; omega))) (spec_add rfl (Get.tmp rfl) (Get.cint rfl)))) ?_ | refine L.op1 rfl rfl (GSpec.plain rfl (spec_add rfl (Get.tmp rfl) (Get.cint rfl))) ?_
          refine L.p1 rfl rfl rfl (spec_nilCheck rfl (Get.tmp rfl)) ?_
          refine L.p1 rfl rfl rfl (spec_fieldAddr (f := 1) (off' := 1) rfl Tryz.underlying181 rfl Tryz.sizeOf3 (Get.tmp rfl) rfl) ?_
          refine L.storeB (k := 1) rfl rfl rfl Tryz.sizeOf3 (Get.tmp rfl) (Get.tmp rfl) rfl rfl ?_
          refine L.nt ?_
          refine W.sr ?_
          refine L.mv rfl rfl rfl rfl rfl ?_
          refine L.call rfl rfl rfl rfl Tryz.call131 (ih 13 r (a + 1) x b (by omega) (by omega) (by omega) hx) (.cons 1 rfl .refl) (.cons (Get.tmp rfl) (.cons (Get.cint rfl) .nil)) (fun _u => ?_)
          try dsimp only
          refine L.box rfl rfl (GSpec.plain rfl (spec_alloc rfl ti66 z66)) (fun r6 => ?_)
          refine L.storeW (k := 0) rfl rfl rfl Tryz.sizeOf66 (Get.tmp rfl) (Get.tmp rfl) rfl rfl rfl ?_
          refine L.nt ?_
          refine W.sr ?_
          refine L.mv rfl rfl rfl rfl rfl ?_
          refine L.p1 rfl rfl rfl (spec_loadW (k := 0) rfl Tryz.isAgg66 Tryz.sizeOf66 (Get.tmp rfl) rfl rfl) ?_
          refine L.p1 rfl rfl rfl (spec_buildSlice1 (y := x) (E := eX) rfl Tryz.underlying64 ti66 z66 (by decide) (GetC.agg (Get.tmp rfl)) (fun _ => rfl)) ?_
          refine L.p1 rfl rfl rfl (spec_build (Rs := [_, Rp.int .i64 0, Rp.str [], _]) rfl ti66 z66 Tryz.underlying66 pl66 (.cons (GetC.one (Get.tmp rfl)) rfl rfl rfl (.cons (GetC.one (Get.eq (exs_eq _).symm (Get.tmp rfl))) rfl rfl rfl .nil))) ?_
          refine L.storeW (k := 2) rfl rfl rfl Tryz.sizeOf66 (Get.tmp rfl) (Get.tmp rfl) rfl rfl rfl ?_
          refine L.nt ?_
          refine W.ret ?_
          refine N.ret (X := ((⟨Unit, fun _ => Rp.agg (eX e), fun _ => [MF.box r 181 (rdR l b)]⟩ : RA))) () rfl (.cellA (k := 2) (Get.tmp (t := 4) rfl) rfl Tryz.isAgg66 Tryz.sizeOf66 rfl .nil) (res1 (eqA ?_)) (.cons 1 rfl .nil) (fun _ _ h => h)
          rw [he]; rfl
        · have ph4 := h4; try simp only [sbx] at ph4
          refine W.skip ?_
          refine N.blockNormal ?_
          refine N.thenW ?_
          refine W.region ?_
          refine L.mv rfl rfl rfl rfl rfl ?_
          first | refine L.op1 rfl rfl (GSpec.plain rfl (fit_i64 (by (first | omega | (simp only [Int.toNat_natCast]; omega))) (by (first | omega | (simp only [Int.toNat_natCast]; omega))) (spec_add rfl (Get.tmp rfl) (Get.cint rfl)))) ?_ | refine L.op1 rfl rfl (GSpec.plain rfl (spec_add rfl (Get.tmp rfl) (Get.cint rfl))) ?_
          refine L.as rfl rfl rfl rfl rfl ?_
          refine L.nil ?_
          refine N.roundK (i + 1) ?hI1 ?hmu1 ?hs1 ?hk1 ?hp1
          case hs1 => exact (.weak (t := 5) rfl (eqI (by omega)) .nil)
          case hk1 => exact (.cons (t := 0) rfl (.cons (t := 1) rfl (.cons (t := 4) rfl .nil)))
          case hp1 => exact (.cons 0 rfl (.cons 0 rfl .nil))
          case hI1 => exact ⟨by omega, upto hI2 h4⟩
          case hmu1 => omega
      · have ph3 := h3; try simp only [sbx] at ph3
        refine W.exit ?_
        refine N.thenExit ?_
        refine N.thenExit ?_
        refine N.blockExit ?_
        refine N.thenW ?_
        have hpr : primP l a = some (e, b) := by have h0 : isE l a [33] = false := hI2 0 (by omega); rcases hi with w | w; (rw [h0] at w; exact absurd w.1 (by simp)); exact w.2.2.2
        refine W.sr ?_
        refine L.mv rfl rfl rfl rfl rfl ?_
        refine L.call rfl rfl rfl rfl Tryz.call147 (prim_ok l a hl r e b hpr) (.cons 1 rfl .refl) (.cons (Get.tmp rfl) .nil) (fun _u => ?_)
        try dsimp only
        refine L.storeW (k := 1) rfl rfl rfl Tryz.sizeOf66 (Get.tmp rfl) (Get.tmp rfl) rfl rfl rfl ?_
        refine L.nt ?_
        refine W.ret ?_
        refine N.ret (X := ((⟨Unit, fun _ => Rp.agg (eX e), fun _ => [MF.box r 181 (rdR l b)]⟩ : RA))) () rfl (.cellA (k := 1) (Get.tmp (t := 4) rfl) rfl Tryz.isAgg66 Tryz.sizeOf66 rfl .nil) (res1 (eqA ?_)) (.cons 0 rfl .nil) (fun _ _ h => h)
        rfl
    · have hp : place ≠ 13 := of_decide_eq_false h2
      obtain ⟨x, c, hx, hr⟩ := invN hp h
      have hcl := expr_le f _ _ _ _ hx ha
      refine W.skip ?_
      refine N.thenW ?_
      refine W.sr ?_
      refine L.mv rfl rfl rfl rfl rfl ?_
      refine L.mv rfl rfl rfl rfl rfl ?_
      first | refine L.op1 rfl rfl (GSpec.plain rfl (fit_i64 (by (first | omega | (simp only [Int.toNat_natCast]; omega))) (by (first | omega | (simp only [Int.toNat_natCast]; omega))) (spec_add rfl (Get.tmp rfl) (Get.cint rfl)))) ?_ | refine L.op1 rfl rfl (GSpec.plain rfl (spec_add rfl (Get.tmp rfl) (Get.cint rfl))) ?_
      refine L.call rfl rfl rfl rfl Tryz.call131 (ih (place + 1) r a x c (by omega) (by omega) ha hx) (.cons 1 rfl .refl) (.cons (Get.tmp rfl) (.cons (Get.tmp rfl) .nil)) (fun _u => ?_)
      try dsimp only
      refine L.box rfl rfl (GSpec.plain rfl (spec_alloc rfl ti66 z66)) (fun r7 => ?_)
      refine L.storeW (k := 0) rfl rfl rfl Tryz.sizeOf66 (Get.tmp rfl) (Get.tmp rfl) rfl rfl rfl ?_
      refine L.nt ?_
      refine W.keep (.cons (t := 0) rfl (.cons (t := 1) rfl (.cons (t := 4) rfl (.cons (t := 7) rfl .nil)))) .refl ?_
      refine W.seq ?_
      refine W.sr ?_
      refine L.mv rfl rfl rfl rfl rfl ?_
      refine L.p1 rfl rfl rfl (spec_eql rfl (Get.tmp rfl) (Get.cint rfl)) ?_
      refine L.mv rfl rfl rfl rfl rfl ?_
      refine L.op1 rfl rfl (GSpec.guard rfl rfl rfl fun hg => (spec_move rfl (Get.tmp rfl))) ?_
      refine L.op1 rfl rfl (GSpec.guard rfl rfl rfl fun hg => (spec_callB rfl Tryz.call148 (is_ok l c hl hcl _) (.cons (Get.opt rfl hg) (.cons (Get.cstr (l := [63]) rfl rfl) .nil)) (.cons (.box 1 rfl (.cons .same (.cons .same (.cons .same .nil)))) (.cons .same .nil)))) ?_
      refine L.p1 rfl rfl rfl (spec_and rfl (Get.tmp rfl) (fun hb => (Get.opt rfl hb))) ?_
      refine L.nt ?_
      refine W.cond (Get.tmp rfl) (fun h5 => ?_) (fun h5 => ?_)
      · have hq : place = 1 ∧ isE l c [63] = true := by have w := h5; rw [Bool.and_eq_true, decide_eq_true_eq] at w; exact w
        have hlt := is_lt hq.2
        obtain ⟨y, d, z, hy, hd, hz, he⟩ : ∃ y d z, exprP l f 1 (c + 1) = some (y, d) ∧ isE l d [58] = true ∧ exprP l f 1 (d + 1) = some (z, b) ∧ e = whenE x y z := by rcases hr with q | q | q | q; (rw [hq.2] at q; exact absurd q.2.1 (by simp)); exact q.2.2; (exact absurd q.1 (by omega)); (exact absurd hq.1 q.1)
        have hdl := is_lt hd
        refine W.sr ?_
        refine L.mv rfl rfl rfl rfl rfl ?_
        refine L.p1 rfl rfl rfl (spec_nilCheck rfl (Get.tmp rfl)) ?_
        refine L.p1 rfl rfl rfl (spec_fieldAddr (f := 1) (off' := 1) rfl Tryz.underlying181 rfl Tryz.sizeOf3 (Get.tmp rfl) rfl) ?_
        refine L.p1 rfl rfl rfl (spec_load1 (k := 1) rfl Tryz.isAgg3 (Get.tmp rfl) rfl rfl) ?_
        first | refine L.op1 rfl rfl (GSpec.plain rfl (fit_i64 (by (first | omega | (simp only [Int.toNat_natCast]; omega))) (by (first | omega | (simp only [Int.toNat_natCast]; omega))) (spec_add rfl (Get.tmp rfl) (Get.cint rfl)))) ?_ | refine L.op1 rfl rfl (GSpec.plain rfl (spec_add rfl (Get.tmp rfl) (Get.cint rfl))) ?_
        refine L.p1 rfl rfl rfl (spec_nilCheck rfl (Get.tmp rfl)) ?_
        refine L.p1 rfl rfl rfl (spec_fieldAddr (f := 1) (off' := 1) rfl Tryz.underlying181 rfl Tryz.sizeOf3 (Get.tmp rfl) rfl) ?_
        refine L.storeB (k := 1) rfl rfl rfl Tryz.sizeOf3 (Get.tmp rfl) (Get.tmp rfl) rfl rfl ?_
        refine L.nt ?_
        refine W.keep (.cons (t := 0) rfl (.cons (t := 1) rfl (.cons (t := 4) rfl (.cons (t := 7) rfl .nil)))) .refl ?_
        refine W.sr ?_
        refine L.mv rfl rfl rfl rfl rfl ?_
        refine L.call rfl rfl rfl rfl Tryz.call131 (ih 1 r (c + 1) y d (by omega) (by omega) (by omega) hy) (.cons 1 rfl .refl) (.cons (Get.tmp rfl) (.cons (Get.cint rfl) .nil)) (fun _u => ?_)
        try dsimp only
        refine L.box rfl rfl (GSpec.plain rfl (spec_alloc rfl ti66 z66)) (fun r8 => ?_)
        refine L.storeW (k := 0) rfl rfl rfl Tryz.sizeOf66 (Get.tmp rfl) (Get.tmp rfl) rfl rfl rfl ?_
        refine L.nt ?_
        refine W.sr ?_
        refine L.mv rfl rfl rfl rfl rfl ?_
        refine L.call rfl rfl rfl rfl Tryz.call150 (need_ok l d hl r _ hd) (.cons 1 rfl .refl) (.cons (Get.tmp rfl) (.cons (Get.cstr (l := [58]) rfl rfl) .nil)) (fun _u => ?_)
        try dsimp only
        refine L.nt ?_
        refine W.sr ?_
        refine L.mv rfl rfl rfl rfl rfl ?_
        refine L.call rfl rfl rfl rfl Tryz.call131 (ih 1 r (d + 1) z b (by omega) (by omega) (by omega) hz) (.cons 0 rfl .refl) (.cons (Get.tmp rfl) (.cons (Get.cint rfl) .nil)) (fun _u => ?_)
        try dsimp only
        refine L.box rfl rfl (GSpec.plain rfl (spec_alloc rfl ti66 z66)) (fun r9 => ?_)
        refine L.storeW (k := 0) rfl rfl rfl Tryz.sizeOf66 (Get.tmp rfl) (Get.tmp rfl) rfl rfl rfl ?_
        refine L.nt ?_
        refine W.keep (.cons (t := 0) rfl (.cons (t := 1) rfl (.cons (t := 4) rfl (.cons (t := 7) rfl (.cons (t := 8) rfl (.cons (t := 9) rfl .nil)))))) .refl ?_
        refine W.sr ?_
        refine L.p1 rfl rfl rfl (spec_loadW (k := 3) rfl Tryz.isAgg66 Tryz.sizeOf66 (Get.tmp rfl) rfl rfl) ?_
        refine L.p1 rfl rfl rfl (spec_loadW (k := 2) rfl Tryz.isAgg66 Tryz.sizeOf66 (Get.tmp rfl) rfl rfl) ?_
        refine L.p1 rfl rfl rfl (spec_loadW (k := 0) rfl Tryz.isAgg66 Tryz.sizeOf66 (Get.tmp rfl) rfl rfl) ?_
        refine L.p1 rfl rfl rfl (spec_buildSliceN (xs := [x, y, z]) (E := eX) rfl Tryz.underlying64 ti66 z66 (by first | decide | simp) rfl (.cons (GetC.agg (Get.tmp rfl)) rfl rfl rfl (.cons (GetC.agg (Get.tmp rfl)) rfl rfl rfl (.cons (GetC.agg (Get.tmp rfl)) rfl rfl rfl .nil))) rfl rfl) ?_
        refine L.p1 rfl rfl rfl (spec_build (Rs := [_, Rp.int .i64 0, Rp.str [], _]) rfl ti66 z66 Tryz.underlying66 pl66 (.cons (GetC.one (Get.cint rfl)) rfl rfl rfl (.cons (GetC.one (Get.eq (exs_eq _).symm (Get.tmp rfl))) rfl rfl rfl .nil))) ?_
        refine L.storeW (k := 4) rfl rfl rfl Tryz.sizeOf66 (Get.tmp rfl) (Get.tmp rfl) rfl rfl rfl ?_
        refine L.nt ?_
        refine W.keep (.cons (t := 0) rfl (.cons (t := 1) rfl (.cons (t := 4) rfl (.cons (t := 7) rfl .nil)))) .refl ?_
        refine W.ret ?_
        refine N.ret (X := ((⟨Unit, fun _ => Rp.agg (eX e), fun _ => [MF.box r 181 (rdR l b)]⟩ : RA))) () rfl (.cellA (k := 4) (Get.tmp (t := 4) rfl) rfl Tryz.isAgg66 Tryz.sizeOf66 rfl .nil) (res1 (eqA ?_)) (.cons 1 rfl .nil) (fun _ _ h => h)
        rw [he]; rfl
      · have h52 := h5
        refine W.skip ?_
        refine N.thenW ?_
        refine W.keep (.cons (t := 0) rfl (.cons (t := 1) rfl (.cons (t := 4) rfl (.cons (t := 7) rfl .nil)))) .refl ?_
        refine W.seq ?_
        refine W.sr ?_
        refine L.mv rfl rfl rfl rfl rfl ?_
        refine L.p1 rfl rfl rfl (spec_eql rfl (Get.tmp rfl) (Get.cint rfl)) ?_
        refine L.mv rfl rfl rfl rfl rfl ?_
        refine L.op1 rfl rfl (GSpec.guard rfl rfl rfl fun hg => (spec_move rfl (Get.tmp rfl))) ?_
        refine L.op1 rfl rfl (GSpec.guard rfl rfl rfl fun hg => (spec_callB rfl Tryz.call148 (is_ok l c hl hcl _) (.cons (Get.opt rfl hg) (.cons (Get.cstr (l := [61, 62]) rfl rfl) .nil)) (.cons (.box 1 rfl (.cons .same (.cons .same (.cons .same .nil)))) (.cons .same .nil)))) ?_
        refine L.p1 rfl rfl rfl (spec_and rfl (Get.tmp rfl) (fun hb => (Get.opt rfl hb))) ?_
        refine L.nt ?_
        refine W.cond (Get.tmp rfl) (fun h6 => ?_) (fun h6 => ?_)
        · exfalso; have hq := h6; rw [Bool.and_eq_true, decide_eq_true_eq] at hq; rcases hr with q | q | q | q; (exact absurd q.1 (by omega)); (exact absurd q.1 (by omega)); (rw [q.2.1] at hq; exact absurd hq.2 (by simp)); exact q.2.1 hq.1
        · have hent : c ≤ l.length ∧ ((place ≤ 2 ∧ x = e ∧ c = b) ∨ (2 < place ∧ loopP (exprP l f (place + 1)) l place 20 x c = some (e, b))) := by refine ⟨hcl, ?_⟩; rcases hr with q | q | q | q; (exact .inl ⟨by omega, q.2.2.1.symm, q.2.2.2.symm⟩); (exfalso; have w := h52; rw [decide_eq_true q.1, q.2.1] at w; cases w); (exact .inl ⟨by omega, q.2.2.1.symm, q.2.2.2.symm⟩); (exact .inr ⟨by omega, q.2.2⟩)
          refine W.skip ?_
          refine N.thenW ?_
          refine W.keep (.cons (t := 0) rfl (.cons (t := 1) rfl (.cons (t := 4) rfl (.cons (t := 7) rfl .nil)))) .refl ?_
          refine W.seq ?_
          refine W.block ?_
          refine W.loopK (σ := Nat × Ex × Nat) (.cons (t := 0) rfl (.cons (t := 1) rfl (.cons (t := 4) rfl (.cons (t := 7) rfl .nil)))) (fun z => []) (fun z => [MF.box r7 66 (eX z.2.1), MF.box r 181 (rdR l z.2.2)]) (fun z => (z.2.2 ≤ l.length ∧ ((place ≤ 2 ∧ z.2.1 = e ∧ z.2.2 = b) ∨ (2 < place ∧ loopP (exprP l f (place + 1)) l place z.1 z.2.1 z.2.2 = some (e, b))))) (fun z => z.1) (20, x, c) hent .nil (.cons 0 rfl (.cons 0 rfl (.cons 0 rfl .nil))) ?_
          intro ⟨g, x2, a2⟩ hI S' M' hS hM
          try dsimp only at hS hM
          simp only [List.cons_append, List.nil_append] at hS hM
          subst hS hM
          try dsimp only
          try dsimp only at hI
          refine W.seq ?_
          refine W.sr ?_
          refine L.mv rfl rfl rfl rfl rfl ?_
          refine L.p1 rfl rfl rfl (spec_gtr rfl (Get.tmp rfl) (Get.cint rfl)) ?_
          refine L.nt ?_
          refine W.cond (Get.tmp rfl) (fun h7 => ?_) (fun h7 => ?_)
          · have hp2 : 2 < place := by have w := of_decide_eq_true h7; omega
            obtain ⟨q, hq, h9, hlo⟩ := loop_inv (show loopP (exprP l f (place + 1)) l place g x2 a2 = some (e, b) by rcases hI.2 with w | w; (exact absurd w.1 (by omega)); exact w.2)
            have ha2 := hI.1
            refine W.skip ?_
            refine N.thenW ?_
            refine W.block ?_
            refine W.seq ?_
            refine W.sr ?_
            refine L.mv rfl rfl rfl rfl rfl ?_
            refine L.p1 rfl rfl rfl (spec_eql rfl (Get.tmp rfl) (Get.cint rfl)) ?_
            refine L.mv rfl rfl rfl rfl rfl ?_
            refine L.op1 rfl rfl (GSpec.guard rfl rfl rfl fun hg => (spec_move rfl (Get.tmp rfl))) ?_
            refine L.op1 rfl rfl (GSpec.guard rfl rfl rfl fun hg => (spec_callB rfl Tryz.call148 (is_ok l a2 hl ha2 _) (.cons (Get.opt rfl hg) (.cons (Get.cstr (l := [105, 110, 115, 105, 100, 101]) rfl rfl) .nil)) (.cons (.box 1 rfl (.cons .same (.cons .same (.cons .same .nil)))) (.cons .same .nil)))) ?_
            refine L.p1 rfl rfl rfl (spec_and rfl (Get.tmp rfl) (fun hb => (Get.opt rfl hb))) ?_
            refine L.nt ?_
            refine W.cond (Get.tmp rfl) (fun h8 => ?_) (fun h8 => ?_)
            · exfalso; have hq := h8; rw [Bool.and_eq_true, decide_eq_true_eq] at hq; have := (h9 hq.1).1; rw [this] at hq; exact absurd hq.2 (by simp)
            · have ph8 := h8; try simp only [sbx] at ph8
              refine W.skip ?_
              refine N.thenW ?_
              refine W.sr ?_
              refine L.mv rfl rfl rfl rfl rfl ?_
              refine L.mv rfl rfl rfl rfl rfl ?_
              refine L.p1 rfl rfl rfl (spec_callB rfl Tryz.call152 (oper_ok l a2 hl ha2 place (fun w => (h9 w).2)) (.cons (Get.tmp rfl) (.cons (Get.tmp rfl) .nil)) (.cons (.box 1 rfl (.cons .same (.cons .same (.cons .same .nil)))) (.cons .same .nil))) ?_
              refine L.mv rfl rfl rfl rfl rfl ?_
              refine L.p1 rfl rfl rfl (spec_extract rfl (Get.tmp rfl) rfl) ?_
              refine L.p1 rfl rfl rfl (spec_extract rfl (Get.tmp rfl) rfl) ?_
              refine L.as rfl rfl rfl rfl rfl ?_
              refine L.as rfl rfl rfl rfl rfl ?_
              refine L.nt ?_
              refine W.seq ?_
              refine W.sr ?_
              refine L.mv rfl rfl rfl rfl rfl ?_
              refine L.p1 rfl rfl rfl (spec_eql rfl (Get.tmp rfl) (Get.cint rfl)) ?_
              refine L.nt ?_
              refine W.cond (Get.tmp rfl) (fun h9 => ?_) (fun h9 => ?_)
              · have h0 : operP l a2 place = 0 := of_decide_eq_true h9
                have hxe : x2 = e ∧ a2 = b := by rcases hlo with w | w; exact ⟨w.2.1.symm, w.2.2.symm⟩; (exact absurd h0 w.1)
                obtain ⟨hxe1, hxe2⟩ := hxe
                rw [hxe2]
                refine W.sr ?_
                refine L.p1 rfl rfl rfl (spec_loadW (k := 0) rfl Tryz.isAgg66 Tryz.sizeOf66 (Get.tmp rfl) rfl rfl) ?_
                refine L.storeW (k := 2) rfl rfl rfl Tryz.sizeOf66 (Get.tmp rfl) (Get.tmp rfl) rfl rfl rfl ?_
                refine L.nt ?_
                refine W.ret ?_
                refine N.ret (X := ((⟨Unit, fun _ => Rp.agg (eX e), fun _ => [MF.box r 181 (rdR l b)]⟩ : RA))) () rfl (.cellA (k := 2) (Get.tmp (t := 4) rfl) rfl Tryz.isAgg66 Tryz.sizeOf66 rfl .nil) (res1 (eqA ?_)) (.cons 1 rfl .nil) (fun _ _ h => h)
                rw [hxe1]
              · have h0 : operP l a2 place ≠ 0 := of_decide_eq_false h9
                have holt := oper_lt h0
                obtain ⟨y, c2, hy, hly⟩ : ∃ y c2, exprP l f (place + 1) (a2 + 1) = some (y, c2) ∧ loopP (exprP l f (place + 1)) l place q (nodeE (operP l a2 place) [x2, y]) c2 = some (e, b) := by rcases hlo with w | w; (exact absurd w.1 h0); exact w.2
                have hcl2 := expr_le f _ _ _ _ hy (by omega)
                refine W.skip ?_
                refine N.thenW ?_
                refine W.sr ?_
                refine L.mv rfl rfl rfl rfl rfl ?_
                refine L.p1 rfl rfl rfl (spec_nilCheck rfl (Get.tmp rfl)) ?_
                refine L.p1 rfl rfl rfl (spec_fieldAddr (f := 1) (off' := 1) rfl Tryz.underlying181 rfl Tryz.sizeOf3 (Get.tmp rfl) rfl) ?_
                refine L.p1 rfl rfl rfl (spec_load1 (k := 1) rfl Tryz.isAgg3 (Get.tmp rfl) rfl rfl) ?_
                first | refine L.op1 rfl rfl (GSpec.plain rfl (fit_i64 (by (first | omega | (simp only [Int.toNat_natCast]; omega))) (by (first | omega | (simp only [Int.toNat_natCast]; omega))) (spec_add rfl (Get.tmp rfl) (Get.cint rfl)))) ?_ | refine L.op1 rfl rfl (GSpec.plain rfl (spec_add rfl (Get.tmp rfl) (Get.cint rfl))) ?_
                refine L.p1 rfl rfl rfl (spec_nilCheck rfl (Get.tmp rfl)) ?_
                refine L.p1 rfl rfl rfl (spec_fieldAddr (f := 1) (off' := 1) rfl Tryz.underlying181 rfl Tryz.sizeOf3 (Get.tmp rfl) rfl) ?_
                refine L.storeB (k := 1) rfl rfl rfl Tryz.sizeOf3 (Get.tmp rfl) (Get.tmp rfl) rfl rfl ?_
                refine L.nt ?_
                refine W.sr ?_
                refine L.mv rfl rfl rfl rfl rfl ?_
                refine L.mv rfl rfl rfl rfl rfl ?_
                first | refine L.op1 rfl rfl (GSpec.plain rfl (fit_i64 (by (first | omega | (simp only [Int.toNat_natCast]; omega))) (by (first | omega | (simp only [Int.toNat_natCast]; omega))) (spec_add rfl (Get.tmp rfl) (Get.cint rfl)))) ?_ | refine L.op1 rfl rfl (GSpec.plain rfl (spec_add rfl (Get.tmp rfl) (Get.cint rfl))) ?_
                refine L.call rfl rfl rfl rfl Tryz.call131 (ih (place + 1) r (a2 + 1) y c2 (by omega) (by omega) (by omega) hy) (.cons 1 rfl .refl) (.cons (Get.tmp rfl) (.cons (Get.tmp rfl) .nil)) (fun _u => ?_)
                try dsimp only
                refine L.box rfl rfl (GSpec.plain rfl (spec_alloc rfl ti66 z66)) (fun r13 => ?_)
                refine L.storeW (k := 0) rfl rfl rfl Tryz.sizeOf66 (Get.tmp rfl) (Get.tmp rfl) rfl rfl rfl ?_
                refine L.nt ?_
                refine W.sr ?_
                refine L.mv rfl rfl rfl rfl rfl ?_
                refine L.nt ?_
                refine W.cond (Get.tmp rfl) (fun h10 => ?_) (fun h10 => ?_)
                · exfalso; cases h10
                · have ph10 := h10; try simp only [sbx] at ph10
                  refine W.region ?_
                  refine L.mv rfl rfl rfl rfl rfl ?_
                  refine L.p1 rfl rfl rfl (spec_loadW (k := 2) rfl Tryz.isAgg66 Tryz.sizeOf66 (Get.tmp rfl) rfl rfl) ?_
                  refine L.p1 rfl rfl rfl (spec_loadW (k := 0) rfl Tryz.isAgg66 Tryz.sizeOf66 (Get.tmp rfl) rfl rfl) ?_
                  refine L.p1 rfl rfl rfl (spec_buildSliceN (xs := [x2, y]) (E := eX) rfl Tryz.underlying64 ti66 z66 (by first | decide | simp) rfl (.cons (GetC.agg (Get.tmp rfl)) rfl rfl rfl (.cons (GetC.agg (Get.tmp rfl)) rfl rfl rfl .nil)) rfl rfl) ?_
                  refine L.p1 rfl rfl rfl (spec_build (Rs := [_, Rp.int .i64 0, Rp.str [], _]) rfl ti66 z66 Tryz.underlying66 pl66 (.cons (GetC.one (Get.tmp rfl)) rfl rfl rfl (.cons (GetC.one (Get.eq (exs_eq _).symm (Get.tmp rfl))) rfl rfl rfl .nil))) ?_
                  refine L.storeW (k := 2) rfl rfl rfl Tryz.sizeOf66 (Get.tmp rfl) (Get.tmp rfl) rfl rfl rfl ?_
                  refine L.nil ?_
                  refine N.blockNormal ?_
                  refine N.roundK (q, nodeE (operP l a2 place) [x2, y], c2) ?hI2 ?hmu2 ?hs2 ?hk2 ?hp2
                  case hs2 => exact .nil
                  case hk2 => exact (.cons (t := 0) rfl (.cons (t := 1) rfl (.cons (t := 4) rfl (.cons (t := 7) rfl .nil))))
                  case hp2 => exact (.cons 2 rfl (.cons 1 rfl (.cons 1 rfl .nil)))
                  case hI2 => exact ⟨hcl2, .inr ⟨hp2, hly⟩⟩
                  case hmu2 => dsimp only; omega
          · have hp2 : place ≤ 2 := by have w := of_decide_eq_false h7; omega
            have hxe : x2 = e ∧ a2 = b := by rcases hI.2 with w | w; exact w.2; (exact absurd w.1 (by omega))
            obtain ⟨hxe1, hxe2⟩ := hxe
            rw [hxe2]
            refine W.exit ?_
            refine N.thenExit ?_
            refine N.thenExit ?_
            refine N.blockExit ?_
            refine N.thenW ?_
            refine W.sr ?_
            refine L.p1 rfl rfl rfl (spec_loadW (k := 0) rfl Tryz.isAgg66 Tryz.sizeOf66 (Get.tmp rfl) rfl rfl) ?_
            refine L.storeW (k := 2) rfl rfl rfl Tryz.sizeOf66 (Get.tmp rfl) (Get.tmp rfl) rfl rfl rfl ?_
            refine L.nt ?_
            refine W.keep (.cons (t := 4) rfl .nil) .refl ?_
            refine W.ret ?_
            refine N.ret (X := ((⟨Unit, fun _ => Rp.agg (eX e), fun _ => [MF.box r 181 (rdR l b)]⟩ : RA))) () rfl (.cellA (k := 2) (Get.tmp (t := 4) rfl) rfl Tryz.isAgg66 Tryz.sizeOf66 rfl .nil) (res1 (eqA ?_)) (.cons 1 rfl .nil) (fun _ _ h => h)
            rw [hxe1]

end Go.Proofs.YthlfacmpjehjmaaGreatDoor
set_option linter.unusedSimpArgs false
set_option maxRecDepth 8000
set_option linter.unusedVariables false
namespace Go.Proofs.YthlfacmpjehjmaaGreatDoor
open Go.Sim
theorem arity_ok (op : Int) (n : Nat) (ha : ArOk op n) : CallT Tryz.prog 154 [Rp.int .i64 op] [] (.one (Rp.int .i64 (n : Int))) := by
  refine W.enter (fn := Tryz.f154) (n := 40) Tryz.func154 rfl Tryz.ntmps154 rfl (fun w₀ C₀ => ?_)
  simp only [argS]
  refine W.sr ?_
  refine L.p1 rfl rfl rfl (spec_assign rfl (Get.cint rfl)) ?_
  refine L.nt ?_
  refine W.seq ?_
  refine W.sr ?_
  refine L.mv rfl rfl rfl rfl rfl ?_
  refine L.nt ?_
  refine W.block ?_
  refine W.cut (σ := Unit) (fun z => [(3, Rp.int .i64 op), (0, Rp.int .i64 op), (4, Rp.bool (decide (op = 1) || decide (op = 2) || decide (op = 24)))]) (fun z => []) ?_ ?_
  · refine W.seq ?_
    refine W.region ?_
    refine L.p1 rfl rfl rfl (spec_eql rfl (Get.tmp rfl) (Get.cint rfl)) ?_
    refine L.as rfl rfl rfl rfl rfl ?_
    refine L.nt ?_
    refine W.cond (Get.tmp rfl) (fun h1 => ?_) (fun h1 => ?_)
    · have ph1 := h1; try simp only [sbx] at ph1
      refine W.skip ?_
      refine N.mid () ?hs1 ?hp1
      case hs1 => exact (.cons (t := 3) rfl (.cons (t := 0) rfl (.weak (t := 4) rfl (eqB (by simp_all)) .nil)))
      case hp1 => exact .nil
    · have ph1 := h1; try simp only [sbx] at ph1
      refine W.sr ?_
      refine L.p1 rfl rfl rfl (spec_eql rfl (Get.tmp rfl) (Get.cint rfl)) ?_
      refine L.as rfl rfl rfl rfl rfl ?_
      refine L.nt ?_
      refine W.cond (Get.tmp rfl) (fun h2 => ?_) (fun h2 => ?_)
      · have ph2 := h2; try simp only [sbx] at ph2
        refine W.skip ?_
        refine N.mid () ?hs2 ?hp2
        case hs2 => exact (.cons (t := 3) rfl (.cons (t := 0) rfl (.weak (t := 4) rfl (eqB (by simp_all)) .nil)))
        case hp2 => exact .nil
      · have ph2 := h2; try simp only [sbx] at ph2
        refine W.region ?_
        refine L.p1 rfl rfl rfl (spec_eql rfl (Get.tmp rfl) (Get.cint rfl)) ?_
        refine L.as rfl rfl rfl rfl rfl ?_
        refine L.nil ?_
        refine N.mid () ?hs3 ?hp3
        case hs3 => exact (.cons (t := 3) rfl (.cons (t := 0) rfl (.weak (t := 4) rfl (eqB (by simp_all)) .nil)))
        case hp3 => exact .nil
  intro _
  try dsimp only
  refine W.cond (Get.tmp rfl) (fun h3 => ?_) (fun h3 => ?_)
  · have ph3 := h3; try simp only [sbx] at ph3
    refine W.sr ?_
    refine L.p1 rfl rfl rfl (spec_assign rfl (Get.cint rfl)) ?_
    refine L.nt ?_
    refine W.ret ?_
    refine N.ret () rfl (.tmp (t := 2) (Get.tmp rfl) .nil) (res1 (eqI ?_)) .nil (fun _ _ h => h)
    unfold ArOk OpOk BinOp at ha; simp_all <;> omega
  · have ph3 := h3; try simp only [sbx] at ph3
    refine W.cut (σ := Unit) (fun z => [(3, Rp.int .i64 op), (0, Rp.int .i64 op), (8, Rp.bool (decide (op = 3) || decide (op = 4) || decide (op = 5) || decide (op = 6) || decide (op = 25)))]) (fun z => []) ?_ ?_
    · refine W.seq ?_
      refine W.region ?_
      refine L.p1 rfl rfl rfl (spec_eql rfl (Get.tmp rfl) (Get.cint rfl)) ?_
      refine L.as rfl rfl rfl rfl rfl ?_
      refine L.nt ?_
      refine W.cond (Get.tmp rfl) (fun h4 => ?_) (fun h4 => ?_)
      · have ph4 := h4; try simp only [sbx] at ph4
        refine W.skip ?_
        refine N.mid () ?hs4 ?hp4
        case hs4 => exact (.cons (t := 3) rfl (.cons (t := 0) rfl (.weak (t := 8) rfl (eqB (by simp_all)) .nil)))
        case hp4 => exact .nil
      · have ph4 := h4; try simp only [sbx] at ph4
        refine W.sr ?_
        refine L.p1 rfl rfl rfl (spec_eql rfl (Get.tmp rfl) (Get.cint rfl)) ?_
        refine L.as rfl rfl rfl rfl rfl ?_
        refine L.nt ?_
        refine W.cond (Get.tmp rfl) (fun h5 => ?_) (fun h5 => ?_)
        · have ph5 := h5; try simp only [sbx] at ph5
          refine W.skip ?_
          refine N.mid () ?hs5 ?hp5
          case hs5 => exact (.cons (t := 3) rfl (.cons (t := 0) rfl (.weak (t := 8) rfl (eqB (by simp_all)) .nil)))
          case hp5 => exact .nil
        · have ph5 := h5; try simp only [sbx] at ph5
          refine W.sr ?_
          refine L.p1 rfl rfl rfl (spec_eql rfl (Get.tmp rfl) (Get.cint rfl)) ?_
          refine L.as rfl rfl rfl rfl rfl ?_
          refine L.nt ?_
          refine W.keep (.cons (t := 0) rfl (.cons (t := 3) rfl (.cons (t := 8) rfl .nil))) .refl ?_
          refine W.cond (Get.tmp rfl) (fun h6 => ?_) (fun h6 => ?_)
          · have ph6 := h6; try simp only [sbx] at ph6
            refine W.skip ?_
            refine N.mid () ?hs6 ?hp6
            case hs6 => exact (.cons (t := 3) rfl (.cons (t := 0) rfl (.weak (t := 8) rfl (eqB (by simp_all)) .nil)))
            case hp6 => exact .nil
          · have ph6 := h6; try simp only [sbx] at ph6
            refine W.sr ?_
            refine L.p1 rfl rfl rfl (spec_eql rfl (Get.tmp rfl) (Get.cint rfl)) ?_
            refine L.as rfl rfl rfl rfl rfl ?_
            refine L.nt ?_
            refine W.cond (Get.tmp rfl) (fun h7 => ?_) (fun h7 => ?_)
            · have ph7 := h7; try simp only [sbx] at ph7
              refine W.skip ?_
              refine N.mid () ?hs7 ?hp7
              case hs7 => exact (.cons (t := 3) rfl (.cons (t := 0) rfl (.weak (t := 8) rfl (eqB (by simp_all)) .nil)))
              case hp7 => exact .nil
            · have ph7 := h7; try simp only [sbx] at ph7
              refine W.region ?_
              refine L.p1 rfl rfl rfl (spec_eql rfl (Get.tmp rfl) (Get.cint rfl)) ?_
              refine L.as rfl rfl rfl rfl rfl ?_
              refine L.nil ?_
              refine N.mid () ?hs8 ?hp8
              case hs8 => exact (.cons (t := 3) rfl (.cons (t := 0) rfl (.weak (t := 8) rfl (eqB (by simp_all)) .nil)))
              case hp8 => exact .nil
    intro _
    try dsimp only
    refine W.cond (Get.tmp rfl) (fun h8 => ?_) (fun h8 => ?_)
    · have ph8 := h8; try simp only [sbx] at ph8
      refine W.sr ?_
      refine L.p1 rfl rfl rfl (spec_assign rfl (Get.cint rfl)) ?_
      refine L.nt ?_
      refine W.ret ?_
      refine N.ret () rfl (.tmp (t := 2) (Get.tmp rfl) .nil) (res1 (eqI ?_)) .nil (fun _ _ h => h)
      unfold ArOk OpOk BinOp at ha; simp_all <;> omega
    · have ph8 := h8; try simp only [sbx] at ph8
      refine W.cut (σ := Unit) (fun z => [(3, Rp.int .i64 op), (0, Rp.int .i64 op), (14, Rp.bool (decide (op = 7) || decide (op = 8) || decide (op = 9) || decide (op = 10) || decide (op = 11) || decide (op = 12) || decide (op = 13) || decide (op = 14) || decide (op = 15) || decide (op = 16) || decide (op = 17) || decide (op = 18) || decide (op = 19) || decide (op = 20) || decide (op = 21)))]) (fun z => []) ?_ ?_
      · refine W.seq ?_
        refine W.region ?_
        refine L.p1 rfl rfl rfl (spec_eql rfl (Get.tmp rfl) (Get.cint rfl)) ?_
        refine L.as rfl rfl rfl rfl rfl ?_
        refine L.nt ?_
        refine W.cond (Get.tmp rfl) (fun h9 => ?_) (fun h9 => ?_)
        · have ph9 := h9; try simp only [sbx] at ph9
          refine W.skip ?_
          refine N.mid () ?hs9 ?hp9
          case hs9 => exact (.cons (t := 3) rfl (.cons (t := 0) rfl (.weak (t := 14) rfl (eqB (by simp_all)) .nil)))
          case hp9 => exact .nil
        · have ph9 := h9; try simp only [sbx] at ph9
          refine W.sr ?_
          refine L.p1 rfl rfl rfl (spec_eql rfl (Get.tmp rfl) (Get.cint rfl)) ?_
          refine L.as rfl rfl rfl rfl rfl ?_
          refine L.nt ?_
          refine W.cond (Get.tmp rfl) (fun h10 => ?_) (fun h10 => ?_)
          · have ph10 := h10; try simp only [sbx] at ph10
            refine W.skip ?_
            refine N.mid () ?hs10 ?hp10
            case hs10 => exact (.cons (t := 3) rfl (.cons (t := 0) rfl (.weak (t := 14) rfl (eqB (by simp_all)) .nil)))
            case hp10 => exact .nil
          · have ph10 := h10; try simp only [sbx] at ph10
            refine W.sr ?_
            refine L.p1 rfl rfl rfl (spec_eql rfl (Get.tmp rfl) (Get.cint rfl)) ?_
            refine L.as rfl rfl rfl rfl rfl ?_
            refine L.nt ?_
            refine W.keep (.cons (t := 0) rfl (.cons (t := 3) rfl (.cons (t := 14) rfl .nil))) .refl ?_
            refine W.cond (Get.tmp rfl) (fun h11 => ?_) (fun h11 => ?_)
            · have ph11 := h11; try simp only [sbx] at ph11
              refine W.skip ?_
              refine N.mid () ?hs11 ?hp11
              case hs11 => exact (.cons (t := 3) rfl (.cons (t := 0) rfl (.weak (t := 14) rfl (eqB (by simp_all)) .nil)))
              case hp11 => exact .nil
            · have ph11 := h11; try simp only [sbx] at ph11
              refine W.sr ?_
              refine L.p1 rfl rfl rfl (spec_eql rfl (Get.tmp rfl) (Get.cint rfl)) ?_
              refine L.as rfl rfl rfl rfl rfl ?_
              refine L.nt ?_
              refine W.cond (Get.tmp rfl) (fun h12 => ?_) (fun h12 => ?_)
              · have ph12 := h12; try simp only [sbx] at ph12
                refine W.skip ?_
                refine N.mid () ?hs12 ?hp12
                case hs12 => exact (.cons (t := 3) rfl (.cons (t := 0) rfl (.weak (t := 14) rfl (eqB (by simp_all)) .nil)))
                case hp12 => exact .nil
              · have ph12 := h12; try simp only [sbx] at ph12
                refine W.sr ?_
                refine L.p1 rfl rfl rfl (spec_eql rfl (Get.tmp rfl) (Get.cint rfl)) ?_
                refine L.as rfl rfl rfl rfl rfl ?_
                refine L.nt ?_
                refine W.cond (Get.tmp rfl) (fun h13 => ?_) (fun h13 => ?_)
                · have ph13 := h13; try simp only [sbx] at ph13
                  refine W.skip ?_
                  refine N.mid () ?hs13 ?hp13
                  case hs13 => exact (.cons (t := 3) rfl (.cons (t := 0) rfl (.weak (t := 14) rfl (eqB (by simp_all)) .nil)))
                  case hp13 => exact .nil
                · have ph13 := h13; try simp only [sbx] at ph13
                  refine W.sr ?_
                  refine L.p1 rfl rfl rfl (spec_eql rfl (Get.tmp rfl) (Get.cint rfl)) ?_
                  refine L.as rfl rfl rfl rfl rfl ?_
                  refine L.nt ?_
                  refine W.keep (.cons (t := 0) rfl (.cons (t := 3) rfl (.cons (t := 14) rfl .nil))) .refl ?_
                  refine W.cond (Get.tmp rfl) (fun h14 => ?_) (fun h14 => ?_)
                  · have ph14 := h14; try simp only [sbx] at ph14
                    refine W.skip ?_
                    refine N.mid () ?hs14 ?hp14
                    case hs14 => exact (.cons (t := 3) rfl (.cons (t := 0) rfl (.weak (t := 14) rfl (eqB (by simp_all)) .nil)))
                    case hp14 => exact .nil
                  · have ph14 := h14; try simp only [sbx] at ph14
                    refine W.sr ?_
                    refine L.p1 rfl rfl rfl (spec_eql rfl (Get.tmp rfl) (Get.cint rfl)) ?_
                    refine L.as rfl rfl rfl rfl rfl ?_
                    refine L.nt ?_
                    refine W.cond (Get.tmp rfl) (fun h15 => ?_) (fun h15 => ?_)
                    · have ph15 := h15; try simp only [sbx] at ph15
                      refine W.skip ?_
                      refine N.mid () ?hs15 ?hp15
                      case hs15 => exact (.cons (t := 3) rfl (.cons (t := 0) rfl (.weak (t := 14) rfl (eqB (by simp_all)) .nil)))
                      case hp15 => exact .nil
                    · have ph15 := h15; try simp only [sbx] at ph15
                      refine W.sr ?_
                      refine L.p1 rfl rfl rfl (spec_eql rfl (Get.tmp rfl) (Get.cint rfl)) ?_
                      refine L.as rfl rfl rfl rfl rfl ?_
                      refine L.nt ?_
                      refine W.cond (Get.tmp rfl) (fun h16 => ?_) (fun h16 => ?_)
                      · have ph16 := h16; try simp only [sbx] at ph16
                        refine W.skip ?_
                        refine N.mid () ?hs16 ?hp16
                        case hs16 => exact (.cons (t := 3) rfl (.cons (t := 0) rfl (.weak (t := 14) rfl (eqB (by simp_all)) .nil)))
                        case hp16 => exact .nil
                      · have ph16 := h16; try simp only [sbx] at ph16
                        refine W.sr ?_
                        refine L.p1 rfl rfl rfl (spec_eql rfl (Get.tmp rfl) (Get.cint rfl)) ?_
                        refine L.as rfl rfl rfl rfl rfl ?_
                        refine L.nt ?_
                        refine W.keep (.cons (t := 0) rfl (.cons (t := 3) rfl (.cons (t := 14) rfl .nil))) .refl ?_
                        refine W.cond (Get.tmp rfl) (fun h17 => ?_) (fun h17 => ?_)
                        · have ph17 := h17; try simp only [sbx] at ph17
                          refine W.skip ?_
                          refine N.mid () ?hs17 ?hp17
                          case hs17 => exact (.cons (t := 3) rfl (.cons (t := 0) rfl (.weak (t := 14) rfl (eqB (by simp_all)) .nil)))
                          case hp17 => exact .nil
                        · have ph17 := h17; try simp only [sbx] at ph17
                          refine W.sr ?_
                          refine L.p1 rfl rfl rfl (spec_eql rfl (Get.tmp rfl) (Get.cint rfl)) ?_
                          refine L.as rfl rfl rfl rfl rfl ?_
                          refine L.nt ?_
                          refine W.cond (Get.tmp rfl) (fun h18 => ?_) (fun h18 => ?_)
                          · have ph18 := h18; try simp only [sbx] at ph18
                            refine W.skip ?_
                            refine N.mid () ?hs18 ?hp18
                            case hs18 => exact (.cons (t := 3) rfl (.cons (t := 0) rfl (.weak (t := 14) rfl (eqB (by simp_all)) .nil)))
                            case hp18 => exact .nil
                          · have ph18 := h18; try simp only [sbx] at ph18
                            refine W.sr ?_
                            refine L.p1 rfl rfl rfl (spec_eql rfl (Get.tmp rfl) (Get.cint rfl)) ?_
                            refine L.as rfl rfl rfl rfl rfl ?_
                            refine L.nt ?_
                            refine W.cond (Get.tmp rfl) (fun h19 => ?_) (fun h19 => ?_)
                            · have ph19 := h19; try simp only [sbx] at ph19
                              refine W.skip ?_
                              refine N.mid () ?hs19 ?hp19
                              case hs19 => exact (.cons (t := 3) rfl (.cons (t := 0) rfl (.weak (t := 14) rfl (eqB (by simp_all)) .nil)))
                              case hp19 => exact .nil
                            · have ph19 := h19; try simp only [sbx] at ph19
                              refine W.sr ?_
                              refine L.p1 rfl rfl rfl (spec_eql rfl (Get.tmp rfl) (Get.cint rfl)) ?_
                              refine L.as rfl rfl rfl rfl rfl ?_
                              refine L.nt ?_
                              refine W.keep (.cons (t := 0) rfl (.cons (t := 3) rfl (.cons (t := 14) rfl .nil))) .refl ?_
                              refine W.cond (Get.tmp rfl) (fun h20 => ?_) (fun h20 => ?_)
                              · have ph20 := h20; try simp only [sbx] at ph20
                                refine W.skip ?_
                                refine N.mid () ?hs20 ?hp20
                                case hs20 => exact (.cons (t := 3) rfl (.cons (t := 0) rfl (.weak (t := 14) rfl (eqB (by simp_all)) .nil)))
                                case hp20 => exact .nil
                              · have ph20 := h20; try simp only [sbx] at ph20
                                refine W.sr ?_
                                refine L.p1 rfl rfl rfl (spec_eql rfl (Get.tmp rfl) (Get.cint rfl)) ?_
                                refine L.as rfl rfl rfl rfl rfl ?_
                                refine L.nt ?_
                                refine W.cond (Get.tmp rfl) (fun h21 => ?_) (fun h21 => ?_)
                                · have ph21 := h21; try simp only [sbx] at ph21
                                  refine W.skip ?_
                                  refine N.mid () ?hs21 ?hp21
                                  case hs21 => exact (.cons (t := 3) rfl (.cons (t := 0) rfl (.weak (t := 14) rfl (eqB (by simp_all)) .nil)))
                                  case hp21 => exact .nil
                                · have ph21 := h21; try simp only [sbx] at ph21
                                  refine W.sr ?_
                                  refine L.p1 rfl rfl rfl (spec_eql rfl (Get.tmp rfl) (Get.cint rfl)) ?_
                                  refine L.as rfl rfl rfl rfl rfl ?_
                                  refine L.nt ?_
                                  refine W.cond (Get.tmp rfl) (fun h22 => ?_) (fun h22 => ?_)
                                  · have ph22 := h22; try simp only [sbx] at ph22
                                    refine W.skip ?_
                                    refine N.mid () ?hs22 ?hp22
                                    case hs22 => exact (.cons (t := 3) rfl (.cons (t := 0) rfl (.weak (t := 14) rfl (eqB (by simp_all)) .nil)))
                                    case hp22 => exact .nil
                                  · have ph22 := h22; try simp only [sbx] at ph22
                                    refine W.region ?_
                                    refine L.p1 rfl rfl rfl (spec_eql rfl (Get.tmp rfl) (Get.cint rfl)) ?_
                                    refine L.as rfl rfl rfl rfl rfl ?_
                                    refine L.nil ?_
                                    refine N.mid () ?hs23 ?hp23
                                    case hs23 => exact (.cons (t := 3) rfl (.cons (t := 0) rfl (.weak (t := 14) rfl (eqB (by simp_all)) .nil)))
                                    case hp23 => exact .nil
      intro _
      try dsimp only
      refine W.cond (Get.tmp rfl) (fun h23 => ?_) (fun h23 => ?_)
      · have ph23 := h23; try simp only [sbx] at ph23
        refine W.sr ?_
        refine L.p1 rfl rfl rfl (spec_assign rfl (Get.cint rfl)) ?_
        refine L.nt ?_
        refine W.ret ?_
        refine N.ret () rfl (.tmp (t := 2) (Get.tmp rfl) .nil) (res1 (eqI ?_)) .nil (fun _ _ h => h)
        unfold ArOk OpOk BinOp at ha; simp_all <;> omega
      · have ph23 := h23; try simp only [sbx] at ph23
        refine W.sr ?_
        refine L.p1 rfl rfl rfl (spec_eql rfl (Get.tmp rfl) (Get.cint rfl)) ?_
        refine L.as rfl rfl rfl rfl rfl ?_
        refine L.nt ?_
        refine W.cond (Get.tmp rfl) (fun h24 => ?_) (fun h24 => ?_)
        · have ph24 := h24; try simp only [sbx] at ph24
          refine W.sr ?_
          refine L.p1 rfl rfl rfl (spec_assign rfl (Get.cint rfl)) ?_
          refine L.nt ?_
          refine W.ret ?_
          refine N.ret () rfl (.tmp (t := 2) (Get.tmp rfl) .nil) (res1 (eqI ?_)) .nil (fun _ _ h => h)
          unfold ArOk OpOk BinOp at ha; simp_all <;> omega
        · have ph24 := h24; try simp only [sbx] at ph24
          refine W.sr ?_
          refine L.p1 rfl rfl rfl (spec_eql rfl (Get.tmp rfl) (Get.cint rfl)) ?_
          refine L.as rfl rfl rfl rfl rfl ?_
          refine L.nt ?_
          refine W.cond (Get.tmp rfl) (fun h25 => ?_) (fun h25 => ?_)
          · have ph25 := h25; try simp only [sbx] at ph25
            refine W.sr ?_
            refine L.p1 rfl rfl rfl (spec_assign rfl (Get.cint rfl)) ?_
            refine L.nt ?_
            refine W.keep (.cons (t := 0) rfl (.cons (t := 2) rfl .nil)) .refl ?_
            refine W.ret ?_
            refine N.ret () rfl (.tmp (t := 2) (Get.tmp rfl) .nil) (res1 (eqI ?_)) .nil (fun _ _ h => h)
            unfold ArOk OpOk BinOp at ha; simp_all <;> omega
          · have ph25 := h25; try simp only [sbx] at ph25
            refine W.skip ?_
            refine N.blockNormal ?_
            refine N.thenW ?_
            refine W.keep (.cons (t := 0) rfl .nil) .refl ?_
            refine W.seq ?_
            refine W.sr ?_
            refine L.mv rfl rfl rfl rfl rfl ?_
            refine L.p1 rfl rfl rfl (spec_lss rfl (Get.tmp rfl) (Get.cint rfl)) ?_
            refine L.mv rfl rfl rfl rfl rfl ?_
            refine L.op1 rfl rfl (GSpec.guard rfl rfl rfl fun hg => (spec_move rfl (Get.tmp rfl))) ?_
            refine L.op1 rfl rfl (GSpec.guard rfl rfl rfl fun hg => (spec_gtr rfl (Get.opt rfl hg) (Get.cint rfl))) ?_
            refine L.p1 rfl rfl rfl (spec_or rfl (Get.tmp rfl) (fun hb => (Get.opt rfl hb))) ?_
            refine L.nt ?_
            refine W.keep (.cons (t := 39) rfl .nil) .refl ?_
            refine W.cond (Get.tmp rfl) (fun h26 => ?_) (fun h26 => ?_)
            · have ph26 := h26; try simp only [sbx] at ph26
              refine W.sr ?_
              refine L.p1 rfl rfl rfl (spec_assign rfl (Get.cint rfl)) ?_
              refine L.nt ?_
              refine W.ret ?_
              refine N.ret () rfl (.tmp (t := 2) (Get.tmp rfl) .nil) (res1 (eqI ?_)) .nil (fun _ _ h => h)
              unfold ArOk OpOk BinOp at ha; simp_all <;> omega
            · have ph26 := h26; try simp only [sbx] at ph26
              refine W.skip ?_
              refine N.thenW ?_
              refine W.sr ?_
              refine L.p1 rfl rfl rfl (spec_assign rfl (Get.cint rfl)) ?_
              refine L.nt ?_
              refine W.ret ?_
              refine N.ret () rfl (.tmp (t := 2) (Get.tmp rfl) .nil) (res1 (eqI ?_)) .nil (fun _ _ h => h)
              unfold ArOk OpOk BinOp at ha; simp_all <;> omega

end Go.Proofs.YthlfacmpjehjmaaGreatDoor
set_option linter.unusedSimpArgs false
set_option maxRecDepth 8000
set_option linter.unusedVariables false
namespace Go.Proofs.YthlfacmpjehjmaaGreatDoor
open Go.Sim
theorem wrap_ok (n : Int) : CallT Tryz.prog 120 [Rp.int .i64 n] [] (.one (Rp.int .i64 (wrapE n))) := by
  refine W.enter (fn := Tryz.f120) (n := 11) Tryz.func120 rfl Tryz.ntmps120 rfl (fun w₀ C₀ => ?_)
  simp only [argS]
  refine W.fact 0 rfl int_fact fun hn => ?_
  simp only [InR] at hn
  have hw := tmod_wrap n
  have hb := tmod_bd n
  refine W.sr ?_
  refine L.p1 rfl rfl rfl (spec_assign rfl (Get.cint rfl)) ?_
  refine L.nt ?_
  refine W.sr ?_
  refine L.mv rfl rfl rfl rfl rfl ?_
  first | refine L.op1 rfl rfl (GSpec.plain rfl (spec_remP rfl (Get.tmp rfl) (Get.cint rfl) (by omega) (by omega))) ?_ | refine L.op1 rfl rfl (GSpec.plain rfl (spec_rem rfl (Get.tmp rfl) (Get.cint rfl) (by omega))) ?_
  refine L.as rfl rfl rfl rfl rfl ?_
  refine L.nt ?_
  refine W.seq ?_
  refine W.sr ?_
  refine L.mv rfl rfl rfl rfl rfl ?_
  refine L.p1 rfl rfl rfl (spec_lss rfl (Get.tmp rfl) (Get.cint rfl)) ?_
  refine L.nt ?_
  refine W.cond (Get.tmp rfl) (fun h1 => ?_) (fun h1 => ?_)
  · have ph1 := h1; try simp only [sbx] at ph1
    refine W.region ?_
    refine L.mv rfl rfl rfl rfl rfl ?_
    first | refine L.op1 rfl rfl (GSpec.plain rfl (fit_i64 (by omega) (by omega) (spec_add rfl (Get.tmp rfl) (Get.cint rfl)))) ?_ | refine L.op1 rfl rfl (GSpec.plain rfl (spec_add rfl (Get.tmp rfl) (Get.cint rfl))) ?_
    first | refine L.op1 rfl rfl (GSpec.plain rfl (fit_i64 (by omega) (by omega) (spec_add rfl (Get.tmp rfl) (Get.cint rfl)))) ?_ | refine L.op1 rfl rfl (GSpec.plain rfl (spec_add rfl (Get.tmp rfl) (Get.cint rfl))) ?_
    refine L.as rfl rfl rfl rfl rfl ?_
    refine L.nt ?_
    refine W.keep (.cons (t := 0) rfl (.cons (t := 2) rfl .nil)) .refl ?_
    refine W.sr ?_
    refine L.mv rfl rfl rfl rfl rfl ?_
    refine L.as rfl rfl rfl rfl rfl ?_
    refine L.nt ?_
    refine W.ret ?_
    refine N.ret () rfl (.tmp (t := 2) (Get.tmp rfl) .nil) (res1 (eqI ?_)) .nil (fun _ _ h => h)
    rw [hw, if_pos (by simpa using h1)]
  · have ph1 := h1; try simp only [sbx] at ph1
    refine W.skip ?_
    refine N.thenW ?_
    refine W.sr ?_
    refine L.mv rfl rfl rfl rfl rfl ?_
    refine L.as rfl rfl rfl rfl rfl ?_
    refine L.nt ?_
    refine W.keep (.cons (t := 2) rfl .nil) .refl ?_
    refine W.ret ?_
    refine N.ret () rfl (.tmp (t := 2) (Get.tmp rfl) .nil) (res1 (eqI ?_)) .nil (fun _ _ h => h)
    rw [hw, if_neg (by simpa using h1)]

theorem power_ok (n : Int) (h0 : 0 ≤ n) (h1 : n ≤ 16) : CallT Tryz.prog 89 [Rp.int .i64 n] [] (.one (Rp.int .i64 (powE n))) := by
  refine W.enter (fn := Tryz.f89) (n := 13) Tryz.func89 rfl Tryz.ntmps89 rfl (fun w₀ C₀ => ?_)
  simp only [argS]
  refine W.sr ?_
  refine L.p1 rfl rfl rfl (spec_assign rfl (Get.cint rfl)) ?_
  refine L.nt ?_
  refine W.sr ?_
  refine L.p1 rfl rfl rfl (spec_assign rfl (Get.cint rfl)) ?_
  refine L.nt ?_
  refine W.seq ?_
  refine W.sr ?_
  refine L.p1 rfl rfl rfl (spec_assign rfl (Get.cint rfl)) ?_
  refine L.nt ?_
  refine W.block ?_
  refine W.loopK (σ := Nat) (.cons (t := 0) rfl (.cons (t := 2) rfl .nil)) (fun z => [(4, Rp.int .i64 (z : Nat)), (3, Rp.int .i64 (powE (z : Nat)))]) (fun z => []) (fun z => (z : Int) ≤ n) (fun z => n.toNat - z) 0 (by omega) (.cons (t := 4) rfl (.cons (t := 3) rfl .nil)) .nil ?_
  intro i hI S' M' hS hM
  try dsimp only at hS hM
  simp only [List.cons_append, List.nil_append] at hS hM
  subst hS hM
  try dsimp only
  refine W.seq ?_
  refine W.sr ?_
  refine L.mv rfl rfl rfl rfl rfl ?_
  refine L.mv rfl rfl rfl rfl rfl ?_
  refine L.p1 rfl rfl rfl (spec_lss rfl (Get.tmp rfl) (Get.tmp rfl)) ?_
  refine L.nt ?_
  refine W.cond (Get.tmp rfl) (fun h1 => ?_) (fun h1 => ?_)
  · have hlt := of_decide_eq_true h1
    have hpw := pow_le (w := (i : Int)) (by omega)
    refine W.skip ?_
    refine N.thenW ?_
    refine W.seq ?_
    refine W.block ?_
    refine W.region ?_
    refine L.mv rfl rfl rfl rfl rfl ?_
    first | refine L.op1 rfl rfl (GSpec.plain rfl (fit_i64 (by omega) (by omega) (spec_mul rfl (Get.cint rfl) (Get.tmp rfl)))) ?_ | refine L.op1 rfl rfl (GSpec.plain rfl (spec_mul rfl (Get.cint rfl) (Get.tmp rfl))) ?_
    refine L.as rfl rfl rfl rfl rfl ?_
    refine L.nil ?_
    refine N.blockNormal ?_
    refine N.thenW ?_
    refine W.region ?_
    refine L.mv rfl rfl rfl rfl rfl ?_
    first | refine L.op1 rfl rfl (GSpec.plain rfl (fit_i64 (by omega) (by omega) (spec_add rfl (Get.tmp rfl) (Get.cint rfl)))) ?_ | refine L.op1 rfl rfl (GSpec.plain rfl (spec_add rfl (Get.tmp rfl) (Get.cint rfl))) ?_
    refine L.as rfl rfl rfl rfl rfl ?_
    refine L.nil ?_
    refine N.roundK (i + 1) ?hI1 ?hmu1 ?hs1 ?hk1 ?hp1
    case hs1 => exact (.cons (t := 4) rfl (.weak (t := 3) rfl (eqI (by rw [pow_next]; rfl)) .nil))
    case hk1 => exact (.cons (t := 0) rfl (.cons (t := 2) rfl .nil))
    case hp1 => exact .nil
    all_goals (first | rfl | trivial | omega | (simp_all; done))
  · have hlt := of_decide_eq_false h1
    refine W.exit ?_
    refine N.thenExit ?_
    refine N.thenExit ?_
    refine N.blockExit ?_
    refine N.thenW ?_
    refine W.sr ?_
    refine L.mv rfl rfl rfl rfl rfl ?_
    refine L.as rfl rfl rfl rfl rfl ?_
    refine L.nt ?_
    refine W.keep (.cons (t := 2) rfl .nil) .refl ?_
    refine W.ret ?_
    refine N.ret () rfl (.tmp (t := 2) (Get.tmp rfl) .nil) (res1 (eqI ?_)) .nil (fun _ _ h => h)
    rw [show (i : Int) = n by omega]

theorem mask_ok (w : Int) : CallT Tryz.prog 73 [Rp.int .i64 w] [] (.one (Rp.int .i64 (maskE w))) := by
  refine W.enter (fn := Tryz.f73) (n := 12) Tryz.func73 rfl Tryz.ntmps73 rfl (fun w₀ C₀ => ?_)
  simp only [argS]
  refine W.sr ?_
  refine L.p1 rfl rfl rfl (spec_assign rfl (Get.cint rfl)) ?_
  refine L.nt ?_
  refine W.seq ?_
  refine W.sr ?_
  refine L.mv rfl rfl rfl rfl rfl ?_
  refine L.p1 rfl rfl rfl (spec_lss rfl (Get.tmp rfl) (Get.cint rfl)) ?_
  refine L.mv rfl rfl rfl rfl rfl ?_
  refine L.op1 rfl rfl (GSpec.guard rfl rfl rfl fun hg => (spec_move rfl (Get.tmp rfl))) ?_
  refine L.op1 rfl rfl (GSpec.guard rfl rfl rfl fun hg => (spec_gtr rfl (Get.opt rfl hg) (Get.cint rfl))) ?_
  refine L.p1 rfl rfl rfl (spec_or rfl (Get.tmp rfl) (fun hb => (Get.opt rfl hb))) ?_
  refine L.nt ?_
  refine W.cond (Get.tmp rfl) (fun h1 => ?_) (fun h1 => ?_)
  · have hm : w < 0 ∨ 16 < w := by have h := h1; simpa using h
    refine W.sr ?_
    refine L.p1 rfl rfl rfl (spec_assign rfl (Get.cint rfl)) ?_
    refine L.nt ?_
    refine W.keep (.cons (t := 0) rfl (.cons (t := 2) rfl .nil)) .refl ?_
    refine W.ret ?_
    refine N.ret () rfl (.tmp (t := 2) (Get.tmp rfl) .nil) (res1 (eqI ?_)) .nil (fun _ _ h => h)
    unfold maskE; rw [if_pos hm]
  · have hm : ¬ (w < 0 ∨ 16 < w) := by have h := h1; simp at h; omega
    have hpw := pow_le (w := w) (by omega)
    refine W.skip ?_
    refine N.thenW ?_
    refine W.keep (.cons (t := 0) rfl (.cons (t := 2) rfl .nil)) .refl ?_
    refine W.sr ?_
    refine L.mv rfl rfl rfl rfl rfl ?_
    refine L.p1 rfl rfl rfl (spec_call rfl Tryz.call89 (power_ok _ (by omega) (by omega)) (.cons (Get.tmp rfl) .nil)) ?_
    first | refine L.op1 rfl rfl (GSpec.plain rfl (fit_i64 (by omega) (by omega) (spec_sub rfl (Get.tmp rfl) (Get.cint rfl)))) ?_ | refine L.op1 rfl rfl (GSpec.plain rfl (spec_sub rfl (Get.tmp rfl) (Get.cint rfl))) ?_
    refine L.as rfl rfl rfl rfl rfl ?_
    refine L.nt ?_
    refine W.ret ?_
    refine N.ret () rfl (.tmp (t := 2) (Get.tmp rfl) .nil) (res1 (eqI ?_)) .nil (fun _ _ h => h)
    unfold maskE; rw [if_neg hm]

theorem add_ok (a b : Int) : CallT Tryz.prog 175 [Rp.int .i64 a, Rp.int .i64 b] [] (.one (Rp.int .i64 (addE a b))) := by
  refine W.enter (fn := Tryz.f175) (n := 11) Tryz.func175 rfl Tryz.ntmps175 rfl (fun w₀ C₀ => ?_)
  simp only [argS]
  have h1 := wrap_lo a
  have h2 := wrap_hi a
  have h3 := wrap_lo b
  have h4 := wrap_hi b
  refine W.sr ?_
  refine L.p1 rfl rfl rfl (spec_assign rfl (Get.cint rfl)) ?_
  refine L.nt ?_
  refine W.sr ?_
  refine L.mv rfl rfl rfl rfl rfl ?_
  refine L.p1 rfl rfl rfl (spec_call rfl Tryz.call120 (wrap_ok _) (.cons (Get.tmp rfl) .nil)) ?_
  refine L.mv rfl rfl rfl rfl rfl ?_
  refine L.p1 rfl rfl rfl (spec_call rfl Tryz.call120 (wrap_ok _) (.cons (Get.tmp rfl) .nil)) ?_
  first | refine L.op1 rfl rfl (GSpec.plain rfl (fit_i64 (by omega) (by omega) (spec_add rfl (Get.tmp rfl) (Get.tmp rfl)))) ?_ | refine L.op1 rfl rfl (GSpec.plain rfl (spec_add rfl (Get.tmp rfl) (Get.tmp rfl))) ?_
  refine L.p1 rfl rfl rfl (spec_call rfl Tryz.call120 (wrap_ok _) (.cons (Get.tmp rfl) .nil)) ?_
  refine L.as rfl rfl rfl rfl rfl ?_
  refine L.nt ?_
  refine W.keep (.cons (t := 4) rfl .nil) .refl ?_
  refine W.ret ?_
  refine N.ret () rfl (.tmp (t := 4) (Get.tmp rfl) .nil) (res1 (eqI ?_)) .nil (fun _ _ h => h)
  rfl

theorem sub_ok (a b : Int) : CallT Tryz.prog 185 [Rp.int .i64 a, Rp.int .i64 b] [] (.one (Rp.int .i64 (subE a b))) := by
  refine W.enter (fn := Tryz.f185) (n := 11) Tryz.func185 rfl Tryz.ntmps185 rfl (fun w₀ C₀ => ?_)
  simp only [argS]
  have h1 := wrap_lo a
  have h2 := wrap_hi a
  have h3 := wrap_lo b
  have h4 := wrap_hi b
  refine W.sr ?_
  refine L.p1 rfl rfl rfl (spec_assign rfl (Get.cint rfl)) ?_
  refine L.nt ?_
  refine W.sr ?_
  refine L.mv rfl rfl rfl rfl rfl ?_
  refine L.p1 rfl rfl rfl (spec_call rfl Tryz.call120 (wrap_ok _) (.cons (Get.tmp rfl) .nil)) ?_
  refine L.mv rfl rfl rfl rfl rfl ?_
  refine L.p1 rfl rfl rfl (spec_call rfl Tryz.call120 (wrap_ok _) (.cons (Get.tmp rfl) .nil)) ?_
  first | refine L.op1 rfl rfl (GSpec.plain rfl (fit_i64 (by omega) (by omega) (spec_sub rfl (Get.tmp rfl) (Get.tmp rfl)))) ?_ | refine L.op1 rfl rfl (GSpec.plain rfl (spec_sub rfl (Get.tmp rfl) (Get.tmp rfl))) ?_
  refine L.p1 rfl rfl rfl (spec_call rfl Tryz.call120 (wrap_ok _) (.cons (Get.tmp rfl) .nil)) ?_
  refine L.as rfl rfl rfl rfl rfl ?_
  refine L.nt ?_
  refine W.keep (.cons (t := 4) rfl .nil) .refl ?_
  refine W.ret ?_
  refine N.ret () rfl (.tmp (t := 4) (Get.tmp rfl) .nil) (res1 (eqI ?_)) .nil (fun _ _ h => h)
  rfl

theorem cut_ok (n w : Int) : CallT Tryz.prog 105 [Rp.int .i64 n, Rp.int .i64 w] [] (.one (Rp.int .i64 (cutE n w))) := by
  refine W.enter (fn := Tryz.f105) (n := 11) Tryz.func105 rfl Tryz.ntmps105 rfl (fun w₀ C₀ => ?_)
  simp only [argS]
  have h1 := wrap_lo n
  have h2 := wrap_hi n
  have h3 := mask_le w
  refine W.sr ?_
  refine L.p1 rfl rfl rfl (spec_assign rfl (Get.cint rfl)) ?_
  refine L.nt ?_
  refine W.sr ?_
  refine L.mv rfl rfl rfl rfl rfl ?_
  refine L.p1 rfl rfl rfl (spec_call rfl Tryz.call120 (wrap_ok _) (.cons (Get.tmp rfl) .nil)) ?_
  refine L.mv rfl rfl rfl rfl rfl ?_
  refine L.p1 rfl rfl rfl (spec_call rfl Tryz.call73 (mask_ok _) (.cons (Get.tmp rfl) .nil)) ?_
  first | refine L.op1 rfl rfl (GSpec.plain rfl (fit_i64 (by omega) (by omega) (spec_add rfl (Get.tmp rfl) (Get.cint rfl)))) ?_ | refine L.op1 rfl rfl (GSpec.plain rfl (spec_add rfl (Get.tmp rfl) (Get.cint rfl))) ?_
  first | refine L.op1 rfl rfl (GSpec.plain rfl (spec_remP rfl (Get.tmp rfl) (Get.tmp rfl) (by omega) (by omega))) ?_ | refine L.op1 rfl rfl (GSpec.plain rfl (spec_rem rfl (Get.tmp rfl) (Get.tmp rfl) (by omega))) ?_
  refine L.as rfl rfl rfl rfl rfl ?_
  refine L.nt ?_
  refine W.keep (.cons (t := 4) rfl .nil) .refl ?_
  refine W.ret ?_
  refine N.ret () rfl (.tmp (t := 4) (Get.tmp rfl) .nil) (res1 (eqI ?_)) .nil (fun _ _ h => h)
  rfl

theorem fits_ok (a w : Int) : CallT Tryz.prog 134 [Rp.int .i64 a, Rp.int .i64 w] [] (.one (Rp.bool (decide (1 ≤ w) && decide (w ≤ 16) && decide (0 ≤ a) && decide (a ≤ maskE w)))) := by
  refine W.enter (fn := Tryz.f134) (n := 21) Tryz.func134 rfl Tryz.ntmps134 rfl (fun w₀ C₀ => ?_)
  simp only [argS]
  refine W.sr ?_
  refine L.p1 rfl rfl rfl (spec_assign rfl Get.cbool) ?_
  refine L.nt ?_
  refine W.sr ?_
  refine L.mv rfl rfl rfl rfl rfl ?_
  refine L.p1 rfl rfl rfl (spec_geq rfl (Get.tmp rfl) (Get.cint rfl)) ?_
  refine L.mv rfl rfl rfl rfl rfl ?_
  refine L.op1 rfl rfl (GSpec.guard rfl rfl rfl fun hg => (spec_move rfl (Get.tmp rfl))) ?_
  refine L.op1 rfl rfl (GSpec.guard rfl rfl rfl fun hg => (spec_leq rfl (Get.opt rfl hg) (Get.cint rfl))) ?_
  refine L.p1 rfl rfl rfl (spec_and rfl (Get.tmp rfl) (fun hb => (Get.opt rfl hb))) ?_
  refine L.mv rfl rfl rfl rfl rfl ?_
  refine L.op1 rfl rfl (GSpec.guard rfl rfl rfl fun hg => (spec_move rfl (Get.tmp rfl))) ?_
  refine L.op1 rfl rfl (GSpec.guard rfl rfl rfl fun hg => (spec_geq rfl (Get.opt rfl hg) (Get.cint rfl))) ?_
  refine L.p1 rfl rfl rfl (spec_and rfl (Get.tmp rfl) (fun hb => (Get.opt rfl hb))) ?_
  refine L.mv rfl rfl rfl rfl rfl ?_
  refine L.op1 rfl rfl (GSpec.guard rfl rfl rfl fun hg => (spec_move rfl (Get.tmp rfl))) ?_
  refine L.op1 rfl rfl (GSpec.guard rfl rfl rfl fun hg => (spec_move rfl (Get.tmp rfl))) ?_
  refine L.op1 rfl rfl (GSpec.guard rfl rfl rfl fun hg => (spec_call rfl Tryz.call73 (mask_ok _) (.cons (Get.opt rfl hg) .nil))) ?_
  refine L.op1 rfl rfl (GSpec.guard rfl rfl rfl fun hg => (spec_leq rfl (Get.opt rfl hg) (Get.opt rfl hg))) ?_
  refine L.p1 rfl rfl rfl (spec_and rfl (Get.tmp rfl) (fun hb => (Get.opt rfl hb))) ?_
  refine L.as rfl rfl rfl rfl rfl ?_
  refine L.nt ?_
  refine W.keep (.cons (t := 4) rfl .nil) .refl ?_
  refine W.ret ?_
  refine N.ret () rfl (.tmp (t := 4) (Get.tmp rfl) .nil) (res1 (eqB ?_)) .nil (fun _ _ h => h)
  rfl

theorem truth_ok (b : Bool) : CallT Tryz.prog 181 [Rp.bool b] [] (.one (Rp.int .i64 (truthE b))) := by
  refine W.enter (fn := Tryz.f181) (n := 4) Tryz.func181 rfl Tryz.ntmps181 rfl (fun w₀ C₀ => ?_)
  simp only [argS]
  refine W.sr ?_
  refine L.p1 rfl rfl rfl (spec_assign rfl (Get.cint rfl)) ?_
  refine L.nt ?_
  refine W.seq ?_
  refine W.sr ?_
  refine L.mv rfl rfl rfl rfl rfl ?_
  refine L.nt ?_
  refine W.cond (Get.tmp rfl) (fun h1 => ?_) (fun h1 => ?_)
  · have ph1 := h1; try simp only [sbx] at ph1
    refine W.sr ?_
    refine L.p1 rfl rfl rfl (spec_assign rfl (Get.cint rfl)) ?_
    refine L.nt ?_
    refine W.ret ?_
    refine N.ret () rfl (.tmp (t := 2) (Get.tmp rfl) .nil) (res1 (eqI ?_)) .nil (fun _ _ h => h)
    rw [h1]; rfl
  · have ph1 := h1; try simp only [sbx] at ph1
    refine W.skip ?_
    refine N.thenW ?_
    refine W.sr ?_
    refine L.p1 rfl rfl rfl (spec_assign rfl (Get.cint rfl)) ?_
    refine L.nt ?_
    refine W.ret ?_
    refine N.ret () rfl (.tmp (t := 2) (Get.tmp rfl) .nil) (res1 (eqI ?_)) .nil (fun _ _ h => h)
    rw [h1]; rfl

theorem unary_ok (op a : Int) (ho : op = 4) : CallT Tryz.prog 176 [Rp.int .i64 op, Rp.int .i64 a] [] (.one (Rp.int .i64 (truthE (decide (a = 0))))) := by
  refine W.enter (fn := Tryz.f176) (n := 21) Tryz.func176 rfl Tryz.ntmps176 rfl (fun w₀ C₀ => ?_)
  simp only [argS]
  refine W.sr ?_
  refine L.p1 rfl rfl rfl (spec_assign rfl (Get.cint rfl)) ?_
  refine L.nt ?_
  refine W.seq ?_
  refine W.sr ?_
  refine L.mv rfl rfl rfl rfl rfl ?_
  refine L.nt ?_
  refine W.block ?_
  refine W.sr ?_
  refine L.p1 rfl rfl rfl (spec_eql rfl (Get.tmp rfl) (Get.cint rfl)) ?_
  refine L.as rfl rfl rfl rfl rfl ?_
  refine L.nt ?_
  refine W.cond (Get.tmp rfl) (fun h1 => ?_) (fun h1 => ?_)
  · have ph1 := h1; try simp only [sbx] at ph1
    refine W.sr ?_
    refine L.mv rfl rfl rfl rfl rfl ?_
    refine L.p1 rfl rfl rfl (spec_eql rfl (Get.tmp rfl) (Get.cint rfl)) ?_
    refine L.p1 rfl rfl rfl (spec_call rfl Tryz.call181 (truth_ok _) (.cons (Get.tmp rfl) .nil)) ?_
    refine L.as rfl rfl rfl rfl rfl ?_
    refine L.nt ?_
    refine W.keep (.cons (t := 1) rfl (.cons (t := 4) rfl .nil)) .refl ?_
    refine W.ret ?_
    refine N.ret () rfl (.tmp (t := 4) (Get.tmp rfl) .nil) (res1 (eqI ?_)) .nil (fun _ _ h => h)
    rfl
  · exfalso; have h := of_decide_eq_false h1; exact h ho

end Go.Proofs.YthlfacmpjehjmaaGreatDoor
set_option linter.unusedSimpArgs false
set_option maxRecDepth 8000
set_option linter.unusedVariables false
namespace Go.Proofs.YthlfacmpjehjmaaGreatDoor
open Go.Sim
theorem binary_ok (op a b : Int) (ho : BinOp op) : CallT Tryz.prog 177 [Rp.int .i64 op, Rp.int .i64 a, Rp.int .i64 b] [] (.one (Rp.int .i64 (binE op a b))) := by
  refine W.enter (fn := Tryz.f177) (n := 97) Tryz.func177 rfl Tryz.ntmps177 rfl (fun w₀ C₀ => ?_)
  simp only [argS]
  refine W.sr ?_
  refine L.p1 rfl rfl rfl (spec_assign rfl (Get.cint rfl)) ?_
  refine L.nt ?_
  refine W.seq ?_
  refine W.sr ?_
  refine L.mv rfl rfl rfl rfl rfl ?_
  refine L.nt ?_
  refine W.block ?_
  refine W.sr ?_
  refine L.p1 rfl rfl rfl (spec_eql rfl (Get.tmp rfl) (Get.cint rfl)) ?_
  refine L.as rfl rfl rfl rfl rfl ?_
  refine L.nt ?_
  refine W.cond (Get.tmp rfl) (fun h1 => ?_) (fun h1 => ?_)
  · have ph1 := h1; try simp only [sbx] at ph1
    refine W.sr ?_
    refine L.mv rfl rfl rfl rfl rfl ?_
    refine L.mv rfl rfl rfl rfl rfl ?_
    refine L.p1 rfl rfl rfl (spec_call rfl Tryz.call175 (add_ok _ _) (.cons (Get.tmp rfl) (.cons (Get.tmp rfl) .nil))) ?_
    refine L.as rfl rfl rfl rfl rfl ?_
    refine L.nt ?_
    refine W.ret ?_
    refine N.ret () rfl (.tmp (t := 6) (Get.tmp rfl) .nil) (res1 (eqI ?_)) .nil (fun _ _ h => h)
    simp_all [binE]
  · have ph1 := h1; try simp only [sbx] at ph1
    refine W.sr ?_
    refine L.p1 rfl rfl rfl (spec_eql rfl (Get.tmp rfl) (Get.cint rfl)) ?_
    refine L.as rfl rfl rfl rfl rfl ?_
    refine L.nt ?_
    refine W.cond (Get.tmp rfl) (fun h2 => ?_) (fun h2 => ?_)
    · have ph2 := h2; try simp only [sbx] at ph2
      refine W.sr ?_
      refine L.mv rfl rfl rfl rfl rfl ?_
      refine L.mv rfl rfl rfl rfl rfl ?_
      refine L.p1 rfl rfl rfl (spec_call rfl Tryz.call185 (sub_ok _ _) (.cons (Get.tmp rfl) (.cons (Get.tmp rfl) .nil))) ?_
      refine L.as rfl rfl rfl rfl rfl ?_
      refine L.nt ?_
      refine W.keep (.cons (t := 1) rfl (.cons (t := 2) rfl (.cons (t := 6) rfl .nil))) .refl ?_
      refine W.ret ?_
      refine N.ret () rfl (.tmp (t := 6) (Get.tmp rfl) .nil) (res1 (eqI ?_)) .nil (fun _ _ h => h)
      simp_all [binE]
    · have ph2 := h2; try simp only [sbx] at ph2
      refine W.sr ?_
      refine L.p1 rfl rfl rfl (spec_eql rfl (Get.tmp rfl) (Get.cint rfl)) ?_
      refine L.as rfl rfl rfl rfl rfl ?_
      refine L.nt ?_
      refine W.cond (Get.tmp rfl) (fun h3 => ?_) (fun h3 => ?_)
      · exfalso; have h := of_decide_eq_true h3; unfold BinOp at ho; omega
      · have ph3 := h3; try simp only [sbx] at ph3
        refine W.sr ?_
        refine L.p1 rfl rfl rfl (spec_eql rfl (Get.tmp rfl) (Get.cint rfl)) ?_
        refine L.as rfl rfl rfl rfl rfl ?_
        refine L.nt ?_
        refine W.cond (Get.tmp rfl) (fun h4 => ?_) (fun h4 => ?_)
        · exfalso; have h := of_decide_eq_true h4; unfold BinOp at ho; omega
        · have ph4 := h4; try simp only [sbx] at ph4
          refine W.sr ?_
          refine L.p1 rfl rfl rfl (spec_eql rfl (Get.tmp rfl) (Get.cint rfl)) ?_
          refine L.as rfl rfl rfl rfl rfl ?_
          refine L.nt ?_
          refine W.keep (.cons (t := 1) rfl (.cons (t := 2) rfl (.cons (t := 6) rfl (.cons (t := 7) rfl (.cons (t := 28) rfl .nil))))) .refl ?_
          refine W.cond (Get.tmp rfl) (fun h5 => ?_) (fun h5 => ?_)
          · exfalso; have h := of_decide_eq_true h5; unfold BinOp at ho; omega
          · have ph5 := h5; try simp only [sbx] at ph5
            refine W.sr ?_
            refine L.p1 rfl rfl rfl (spec_eql rfl (Get.tmp rfl) (Get.cint rfl)) ?_
            refine L.as rfl rfl rfl rfl rfl ?_
            refine L.nt ?_
            refine W.cond (Get.tmp rfl) (fun h6 => ?_) (fun h6 => ?_)
            · exfalso; have h := of_decide_eq_true h6; unfold BinOp at ho; omega
            · have ph6 := h6; try simp only [sbx] at ph6
              refine W.sr ?_
              refine L.p1 rfl rfl rfl (spec_eql rfl (Get.tmp rfl) (Get.cint rfl)) ?_
              refine L.as rfl rfl rfl rfl rfl ?_
              refine L.nt ?_
              refine W.cond (Get.tmp rfl) (fun h7 => ?_) (fun h7 => ?_)
              · exfalso; have h := of_decide_eq_true h7; unfold BinOp at ho; omega
              · have ph7 := h7; try simp only [sbx] at ph7
                refine W.sr ?_
                refine L.p1 rfl rfl rfl (spec_eql rfl (Get.tmp rfl) (Get.cint rfl)) ?_
                refine L.as rfl rfl rfl rfl rfl ?_
                refine L.nt ?_
                refine W.keep (.cons (t := 1) rfl (.cons (t := 2) rfl (.cons (t := 6) rfl (.cons (t := 7) rfl (.cons (t := 43) rfl .nil))))) .refl ?_
                refine W.cond (Get.tmp rfl) (fun h8 => ?_) (fun h8 => ?_)
                · exfalso; have h := of_decide_eq_true h8; unfold BinOp at ho; omega
                · have ph8 := h8; try simp only [sbx] at ph8
                  refine W.sr ?_
                  refine L.p1 rfl rfl rfl (spec_eql rfl (Get.tmp rfl) (Get.cint rfl)) ?_
                  refine L.as rfl rfl rfl rfl rfl ?_
                  refine L.nt ?_
                  refine W.cond (Get.tmp rfl) (fun h9 => ?_) (fun h9 => ?_)
                  · have ph9 := h9; try simp only [sbx] at ph9
                    refine W.sr ?_
                    refine L.mv rfl rfl rfl rfl rfl ?_
                    refine L.mv rfl rfl rfl rfl rfl ?_
                    refine L.p1 rfl rfl rfl (spec_eql rfl (Get.tmp rfl) (Get.tmp rfl)) ?_
                    refine L.p1 rfl rfl rfl (spec_call rfl Tryz.call181 (truth_ok _) (.cons (Get.tmp rfl) .nil)) ?_
                    refine L.as rfl rfl rfl rfl rfl ?_
                    refine L.nt ?_
                    refine W.keep (.cons (t := 1) rfl (.cons (t := 2) rfl (.cons (t := 6) rfl .nil))) .refl ?_
                    refine W.ret ?_
                    refine N.ret () rfl (.tmp (t := 6) (Get.tmp rfl) .nil) (res1 (eqI ?_)) .nil (fun _ _ h => h)
                    simp_all [binE]
                  · have ph9 := h9; try simp only [sbx] at ph9
                    refine W.sr ?_
                    refine L.p1 rfl rfl rfl (spec_eql rfl (Get.tmp rfl) (Get.cint rfl)) ?_
                    refine L.as rfl rfl rfl rfl rfl ?_
                    refine L.nt ?_
                    refine W.cond (Get.tmp rfl) (fun h10 => ?_) (fun h10 => ?_)
                    · have ph10 := h10; try simp only [sbx] at ph10
                      refine W.sr ?_
                      refine L.mv rfl rfl rfl rfl rfl ?_
                      refine L.mv rfl rfl rfl rfl rfl ?_
                      refine L.p1 rfl rfl rfl (spec_neq rfl (Get.tmp rfl) (Get.tmp rfl)) ?_
                      refine L.p1 rfl rfl rfl (spec_call rfl Tryz.call181 (truth_ok _) (.cons (Get.tmp rfl) .nil)) ?_
                      refine L.as rfl rfl rfl rfl rfl ?_
                      refine L.nt ?_
                      refine W.keep (.cons (t := 1) rfl (.cons (t := 2) rfl (.cons (t := 6) rfl .nil))) .refl ?_
                      refine W.ret ?_
                      refine N.ret () rfl (.tmp (t := 6) (Get.tmp rfl) .nil) (res1 (eqI ?_)) .nil (fun _ _ h => h)
                      simp_all [binE]
                    · have ph10 := h10; try simp only [sbx] at ph10
                      refine W.sr ?_
                      refine L.p1 rfl rfl rfl (spec_eql rfl (Get.tmp rfl) (Get.cint rfl)) ?_
                      refine L.as rfl rfl rfl rfl rfl ?_
                      refine L.nt ?_
                      refine W.keep (.cons (t := 1) rfl (.cons (t := 2) rfl (.cons (t := 6) rfl (.cons (t := 7) rfl (.cons (t := 60) rfl .nil))))) .refl ?_
                      refine W.cond (Get.tmp rfl) (fun h11 => ?_) (fun h11 => ?_)
                      · have ph11 := h11; try simp only [sbx] at ph11
                        refine W.sr ?_
                        refine L.mv rfl rfl rfl rfl rfl ?_
                        refine L.mv rfl rfl rfl rfl rfl ?_
                        refine L.p1 rfl rfl rfl (spec_lss rfl (Get.tmp rfl) (Get.tmp rfl)) ?_
                        refine L.p1 rfl rfl rfl (spec_call rfl Tryz.call181 (truth_ok _) (.cons (Get.tmp rfl) .nil)) ?_
                        refine L.as rfl rfl rfl rfl rfl ?_
                        refine L.nt ?_
                        refine W.keep (.cons (t := 1) rfl (.cons (t := 2) rfl (.cons (t := 6) rfl .nil))) .refl ?_
                        refine W.ret ?_
                        refine N.ret () rfl (.tmp (t := 6) (Get.tmp rfl) .nil) (res1 (eqI ?_)) .nil (fun _ _ h => h)
                        simp_all [binE]
                      · have ph11 := h11; try simp only [sbx] at ph11
                        refine W.sr ?_
                        refine L.p1 rfl rfl rfl (spec_eql rfl (Get.tmp rfl) (Get.cint rfl)) ?_
                        refine L.as rfl rfl rfl rfl rfl ?_
                        refine L.nt ?_
                        refine W.cond (Get.tmp rfl) (fun h12 => ?_) (fun h12 => ?_)
                        · exfalso; have h := of_decide_eq_true h12; unfold BinOp at ho; omega
                        · have ph12 := h12; try simp only [sbx] at ph12
                          refine W.sr ?_
                          refine L.p1 rfl rfl rfl (spec_eql rfl (Get.tmp rfl) (Get.cint rfl)) ?_
                          refine L.as rfl rfl rfl rfl rfl ?_
                          refine L.nt ?_
                          refine W.cond (Get.tmp rfl) (fun h13 => ?_) (fun h13 => ?_)
                          · have ph13 := h13; try simp only [sbx] at ph13
                            refine W.sr ?_
                            refine L.mv rfl rfl rfl rfl rfl ?_
                            refine L.p1 rfl rfl rfl (spec_neq rfl (Get.tmp rfl) (Get.cint rfl)) ?_
                            refine L.mv rfl rfl rfl rfl rfl ?_
                            refine L.op1 rfl rfl (GSpec.guard rfl rfl rfl fun hg => (spec_move rfl (Get.tmp rfl))) ?_
                            refine L.op1 rfl rfl (GSpec.guard rfl rfl rfl fun hg => (spec_neq rfl (Get.opt rfl hg) (Get.cint rfl))) ?_
                            refine L.p1 rfl rfl rfl (spec_and rfl (Get.tmp rfl) (fun hb => (Get.opt rfl hb))) ?_
                            refine L.p1 rfl rfl rfl (spec_call rfl Tryz.call181 (truth_ok _) (.cons (Get.tmp rfl) .nil)) ?_
                            refine L.as rfl rfl rfl rfl rfl ?_
                            refine L.nt ?_
                            refine W.keep (.cons (t := 1) rfl (.cons (t := 2) rfl (.cons (t := 6) rfl .nil))) .refl ?_
                            refine W.ret ?_
                            refine N.ret () rfl (.tmp (t := 6) (Get.tmp rfl) .nil) (res1 (eqI ?_)) .nil (fun _ _ h => h)
                            simp_all [binE]
                          · have ph13 := h13; try simp only [sbx] at ph13
                            refine W.sr ?_
                            refine L.p1 rfl rfl rfl (spec_eql rfl (Get.tmp rfl) (Get.cint rfl)) ?_
                            refine L.as rfl rfl rfl rfl rfl ?_
                            refine L.nt ?_
                            refine W.keep (.cons (t := 1) rfl (.cons (t := 2) rfl (.cons (t := 6) rfl (.cons (t := 81) rfl .nil)))) .refl ?_
                            refine W.cond (Get.tmp rfl) (fun h14 => ?_) (fun h14 => ?_)
                            · have ph14 := h14; try simp only [sbx] at ph14
                              refine W.sr ?_
                              refine L.mv rfl rfl rfl rfl rfl ?_
                              refine L.p1 rfl rfl rfl (spec_neq rfl (Get.tmp rfl) (Get.cint rfl)) ?_
                              refine L.mv rfl rfl rfl rfl rfl ?_
                              refine L.op1 rfl rfl (GSpec.guard rfl rfl rfl fun hg => (spec_move rfl (Get.tmp rfl))) ?_
                              refine L.op1 rfl rfl (GSpec.guard rfl rfl rfl fun hg => (spec_neq rfl (Get.opt rfl hg) (Get.cint rfl))) ?_
                              refine L.p1 rfl rfl rfl (spec_or rfl (Get.tmp rfl) (fun hb => (Get.opt rfl hb))) ?_
                              refine L.p1 rfl rfl rfl (spec_call rfl Tryz.call181 (truth_ok _) (.cons (Get.tmp rfl) .nil)) ?_
                              refine L.as rfl rfl rfl rfl rfl ?_
                              refine L.nt ?_
                              refine W.keep (.cons (t := 1) rfl (.cons (t := 2) rfl (.cons (t := 6) rfl .nil))) .refl ?_
                              refine W.ret ?_
                              refine N.ret () rfl (.tmp (t := 6) (Get.tmp rfl) .nil) (res1 (eqI ?_)) .nil (fun _ _ h => h)
                              simp_all [binE]
                            · exfalso; have h := of_decide_eq_false h14; unfold BinOp at ho; simp_all <;> omega

theorem operate_ok (op : Int) (l : List Int) (ho : OpOk op l.length) : CallT Tryz.prog 158 [Rp.int .i64 op, Rp.slice eI l] [] (.one (Rp.int .i64 (operE op l))) := by
  refine W.enter (fn := Tryz.f158) (n := 62) Tryz.func158 rfl Tryz.ntmps158 rfl (fun w₀ C₀ => ?_)
  simp only [argS]
  have ho2 := ho
  unfold OpOk at ho2
  refine W.sr ?_
  refine L.p1 rfl rfl rfl (spec_assign rfl (Get.cint rfl)) ?_
  refine L.nt ?_
  refine W.seq ?_
  refine W.sr ?_
  refine L.mv rfl rfl rfl rfl rfl ?_
  refine L.p1 rfl rfl rfl (spec_eql rfl (Get.tmp rfl) (Get.cint rfl)) ?_
  refine L.nt ?_
  refine W.cond (Get.tmp rfl) (fun h1 => ?_) (fun h1 => ?_)
  · have h22 := of_decide_eq_true h1
    have hll : l.length = 3 := by unfold BinOp at ho2; omega
    refine W.seq ?_
    refine W.sr ?_
    refine L.mv rfl rfl rfl rfl rfl ?_
    refine L.p1 rfl rfl rfl (spec_indexAddrD (E := eI) rfl Tryz.underlying92 Tryz.sizeOf3 (fun _ => rfl) (Get.tmp rfl) (Get.cint rfl) (by (first | omega | (simp only [Int.toNat_natCast]; omega)))) ?_
    refine L.p1 rfl rfl rfl (spec_loadP1 rfl Tryz.isAgg3 (Get.tmp rfl)) ?_
    refine L.p1 rfl rfl rfl (spec_neq rfl (Get.tmp rfl) (Get.cint rfl)) ?_
    refine L.nt ?_
    refine W.keep (.cons (t := 0) rfl (.cons (t := 1) rfl (.cons (t := 4) rfl (.cons (t := 11) rfl .nil)))) .refl ?_
    refine W.cond (Get.tmp rfl) (fun h2 => ?_) (fun h2 => ?_)
    · have ph2 := h2; try simp only [sbx] at ph2
      refine W.sr ?_
      refine L.mv rfl rfl rfl rfl rfl ?_
      refine L.p1 rfl rfl rfl (spec_indexAddrD (E := eI) rfl Tryz.underlying92 Tryz.sizeOf3 (fun _ => rfl) (Get.tmp rfl) (Get.cint rfl) (by (first | omega | (simp only [Int.toNat_natCast]; omega)))) ?_
      refine L.p1 rfl rfl rfl (spec_loadP1 rfl Tryz.isAgg3 (Get.tmp rfl)) ?_
      refine L.as rfl rfl rfl rfl rfl ?_
      refine L.nt ?_
      refine W.ret ?_
      refine N.ret () rfl (.tmp (t := 4) (Get.tmp rfl) .nil) (res1 (eqI ?_)) .nil (fun _ _ h => h)
      unfold operE; rw [if_pos h22, if_pos (by simpa using h2)]; rfl
    · have ph2 := h2; try simp only [sbx] at ph2
      refine W.skip ?_
      refine N.thenW ?_
      refine W.sr ?_
      refine L.mv rfl rfl rfl rfl rfl ?_
      refine L.p1 rfl rfl rfl (spec_indexAddrD (E := eI) rfl Tryz.underlying92 Tryz.sizeOf3 (fun _ => rfl) (Get.tmp rfl) (Get.cint rfl) (by (first | omega | (simp only [Int.toNat_natCast]; omega)))) ?_
      refine L.p1 rfl rfl rfl (spec_loadP1 rfl Tryz.isAgg3 (Get.tmp rfl)) ?_
      refine L.as rfl rfl rfl rfl rfl ?_
      refine L.nt ?_
      refine W.ret ?_
      refine N.ret () rfl (.tmp (t := 4) (Get.tmp rfl) .nil) (res1 (eqI ?_)) .nil (fun _ _ h => h)
      unfold operE; rw [if_pos h22, if_neg (by simpa using h2)]; rfl
  · have h22 := of_decide_eq_false h1
    refine W.skip ?_
    refine N.thenW ?_
    refine W.seq ?_
    refine W.sr ?_
    refine L.mv rfl rfl rfl rfl rfl ?_
    refine L.p1 rfl rfl rfl (spec_eql rfl (Get.tmp rfl) (Get.cint rfl)) ?_
    refine L.nt ?_
    refine W.cond (Get.tmp rfl) (fun h3 => ?_) (fun h3 => ?_)
    · exfalso; have h := of_decide_eq_true h3; unfold OpOk BinOp at ho; omega
    · have ph3 := h3; try simp only [sbx] at ph3
      refine W.skip ?_
      refine N.thenW ?_
      refine W.keep (.cons (t := 0) rfl (.cons (t := 1) rfl (.cons (t := 4) rfl .nil))) .refl ?_
      refine W.seq ?_
      refine W.sr ?_
      refine L.mv rfl rfl rfl rfl rfl ?_
      refine L.p1 rfl rfl rfl (spec_len rfl Tryz.underlying92 (Get.tmp rfl)) ?_
      refine L.p1 rfl rfl rfl (spec_eql rfl (Get.tmp rfl) (Get.cint rfl)) ?_
      refine L.nt ?_
      refine W.cond (Get.tmp rfl) (fun h4 => ?_) (fun h4 => ?_)
      · have hl1 := of_decide_eq_true h4
        have ho4 : op = 4 := by omega
        refine W.sr ?_
        refine L.mv rfl rfl rfl rfl rfl ?_
        refine L.mv rfl rfl rfl rfl rfl ?_
        refine L.p1 rfl rfl rfl (spec_indexAddrD (E := eI) rfl Tryz.underlying92 Tryz.sizeOf3 (fun _ => rfl) (Get.tmp rfl) (Get.cint rfl) (by (first | omega | (simp only [Int.toNat_natCast]; omega)))) ?_
        refine L.p1 rfl rfl rfl (spec_loadP1 rfl Tryz.isAgg3 (Get.tmp rfl)) ?_
        refine L.p1 rfl rfl rfl (spec_call rfl Tryz.call176 (unary_ok _ _ (by assumption)) (.cons (Get.tmp rfl) (.cons (Get.tmp rfl) .nil))) ?_
        refine L.as rfl rfl rfl rfl rfl ?_
        refine L.nt ?_
        refine W.keep (.cons (t := 0) rfl (.cons (t := 1) rfl (.cons (t := 4) rfl .nil))) .refl ?_
        refine W.ret ?_
        refine N.ret () rfl (.tmp (t := 4) (Get.tmp rfl) .nil) (res1 (eqI ?_)) .nil (fun _ _ h => h)
        unfold operE; rw [if_neg h22, if_pos ho4]; rfl
      · have hl1 := of_decide_eq_false h4
        have hob : BinOp op ∧ l.length = 2 := by rcases ho2 with q | q | q; (omega); (omega); exact q
        have hob1 := hob.1
        have hob2 := hob.2
        refine W.skip ?_
        refine N.thenW ?_
        refine W.seq ?_
        apply W.any 9 mixed (by kernel_rfl)
        · apply Head.one rfl rfl (GSpec.plain rfl (spec_move rfl (Get.tmp rfl)))
          apply Head.one rfl rfl (GSpec.plain rfl (spec_move rfl (Get.tmp rfl)))
          apply Head.one rfl rfl (GSpec.plain rfl (spec_indexAddrD (E := eI) rfl Tryz.underlying92 Tryz.sizeOf3 (fun _ => rfl) (Get.tmp rfl) (Get.cint rfl) (by (first | omega | (simp only [Int.toNat_natCast]; omega)))))
          apply Head.one rfl rfl (GSpec.plain rfl (spec_loadP1 rfl Tryz.isAgg3 (Get.tmp rfl)))
          apply Head.one rfl rfl (GSpec.plain rfl (spec_move rfl (Get.tmp rfl)))
          apply Head.one rfl rfl (GSpec.plain rfl (spec_indexAddrD (E := eI) rfl Tryz.underlying92 Tryz.sizeOf3 (fun _ => rfl) (Get.tmp rfl) (Get.cint rfl) (by (first | omega | (simp only [Int.toNat_natCast]; omega)))))
          apply Head.one rfl rfl (GSpec.plain rfl (spec_loadP1 rfl Tryz.isAgg3 (Get.tmp rfl)))
          apply Head.one rfl rfl (GSpec.plain rfl (spec_call rfl Tryz.call177 (binary_ok _ _ _ (by assumption)) (.cons (Get.tmp rfl) (.cons (Get.tmp rfl) (.cons (Get.tmp rfl) .nil)))))
          apply Head.one rfl rfl (GSpec.plain rfl (spec_assign rfl (Get.tmp rfl)))
          exact Head.nil
        refine Fin.one ?_
        refine Fin.one ?_
        refine Fin.one ?_
        refine Fin.one ?_
        refine Fin.one ?_
        refine Fin.one ?_
        refine Fin.one ?_
        refine Fin.one ?_
        refine Fin.one ?_
        refine Fin.nil ?_
        refine L.nt ?_
        refine W.keep (.cons (t := 4) rfl .nil) .refl ?_
        refine W.ret ?_
        refine N.ret () rfl (.tmp (t := 4) (Get.tmp rfl) .nil) (res1 (eqI ?_)) .nil (fun _ _ h => h)
        unfold operE; rw [if_neg h22, if_neg (by unfold BinOp at hob1; omega)]; rfl

theorem named_ok (op : Int) : CallT Tryz.prog 153 [Rp.int .i64 op] [] (.one (Rp.bool (decide (op = 2) || decide (op = 3) || decide (op = 24)))) := by
  refine W.enter (fn := Tryz.f153) (n := 13) Tryz.func153 rfl Tryz.ntmps153 rfl (fun w₀ C₀ => ?_)
  simp only [argS]
  refine W.sr ?_
  refine L.p1 rfl rfl rfl (spec_assign rfl Get.cbool) ?_
  refine L.nt ?_
  refine W.sr ?_
  refine L.mv rfl rfl rfl rfl rfl ?_
  refine L.p1 rfl rfl rfl (spec_eql rfl (Get.tmp rfl) (Get.cint rfl)) ?_
  refine L.mv rfl rfl rfl rfl rfl ?_
  refine L.op1 rfl rfl (GSpec.guard rfl rfl rfl fun hg => (spec_move rfl (Get.tmp rfl))) ?_
  refine L.op1 rfl rfl (GSpec.guard rfl rfl rfl fun hg => (spec_eql rfl (Get.opt rfl hg) (Get.cint rfl))) ?_
  refine L.p1 rfl rfl rfl (spec_or rfl (Get.tmp rfl) (fun hb => (Get.opt rfl hb))) ?_
  refine L.mv rfl rfl rfl rfl rfl ?_
  refine L.op1 rfl rfl (GSpec.guard rfl rfl rfl fun hg => (spec_move rfl (Get.tmp rfl))) ?_
  refine L.op1 rfl rfl (GSpec.guard rfl rfl rfl fun hg => (spec_eql rfl (Get.opt rfl hg) (Get.cint rfl))) ?_
  refine L.p1 rfl rfl rfl (spec_or rfl (Get.tmp rfl) (fun hb => (Get.opt rfl hb))) ?_
  refine L.as rfl rfl rfl rfl rfl ?_
  refine L.nt ?_
  refine W.keep (.cons (t := 2) rfl .nil) .refl ?_
  refine W.ret ?_
  refine N.ret () rfl (.tmp (t := 2) (Get.tmp rfl) .nil) (res1 (eqB ?_)) .nil (fun _ _ h => h)
  rfl

theorem asks_ok (op : Int) : CallT Tryz.prog 156 [Rp.int .i64 op] [] (.one (Rp.bool (asksE op))) := by
  refine W.enter (fn := Tryz.f156) (n := 9) Tryz.func156 rfl Tryz.ntmps156 rfl (fun w₀ C₀ => ?_)
  simp only [argS]
  refine W.sr ?_
  refine L.p1 rfl rfl rfl (spec_assign rfl Get.cbool) ?_
  refine L.nt ?_
  refine W.sr ?_
  refine L.mv rfl rfl rfl rfl rfl ?_
  refine L.p1 rfl rfl rfl (spec_eql rfl (Get.tmp rfl) (Get.cint rfl)) ?_
  refine L.mv rfl rfl rfl rfl rfl ?_
  refine L.op1 rfl rfl (GSpec.guard rfl rfl rfl fun hg => (spec_move rfl (Get.tmp rfl))) ?_
  refine L.op1 rfl rfl (GSpec.guard rfl rfl rfl fun hg => (spec_call rfl Tryz.call153 (named_ok _) (.cons (Get.opt rfl hg) .nil))) ?_
  refine L.p1 rfl rfl rfl (spec_or rfl (Get.tmp rfl) (fun hb => (Get.opt rfl hb))) ?_
  refine L.as rfl rfl rfl rfl rfl ?_
  refine L.nt ?_
  refine W.keep (.cons (t := 2) rfl .nil) .refl ?_
  refine W.ret ?_
  refine N.ret () rfl (.tmp (t := 2) (Get.tmp rfl) .nil) (res1 (eqB ?_)) .nil (fun _ _ h => h)
  rfl

theorem find_ok (env : List Sg) (s : List UInt8) : CallT Tryz.prog 172 [Rp.slice eSg env, Rp.str s] [] (.one (Rp.tuple [Rp.int .i64 (findS env s).1, Rp.bool (findS env s).2])) := by
  refine W.enter (fn := Tryz.f172) (n := 26) Tryz.func172 rfl Tryz.ntmps172 rfl (fun w₀ C₀ => ?_)
  simp only [argS]
  refine W.fact 0 rfl slice_fact fun hl => ?_
  refine W.sr ?_
  refine L.p1 rfl rfl rfl (spec_assign rfl (Get.cint rfl)) ?_
  refine L.p1 rfl rfl rfl (spec_assign rfl Get.cbool) ?_
  refine L.nt ?_
  refine W.seq ?_
  refine W.sr ?_
  refine L.p1 rfl rfl rfl (spec_assign rfl (Get.cint rfl)) ?_
  refine L.nt ?_
  refine W.block ?_
  refine W.loopK (σ := Nat) (.cons (t := 0) rfl (.cons (t := 1) rfl .nil)) (fun z => [(6, Rp.int .i64 (z : Nat))]) (fun z => []) (fun z => z ≤ env.length ∧ ∀ j : Nat, j < z → (env.getD j default).name ≠ s) (fun z => env.length - z) 0 ⟨Nat.zero_le _, fun j hj => by omega⟩ (.cons (t := 6) rfl .nil) .nil ?_
  intro i hI S' M' hS hM
  obtain ⟨hI1, hI2⟩ := hI
  try dsimp only at hS hM
  simp only [List.cons_append, List.nil_append] at hS hM
  subst hS hM
  try dsimp only
  refine W.seq ?_
  refine W.sr ?_
  refine L.mv rfl rfl rfl rfl rfl ?_
  refine L.mv rfl rfl rfl rfl rfl ?_
  refine L.p1 rfl rfl rfl (spec_len rfl Tryz.underlying102 (Get.tmp rfl)) ?_
  refine L.p1 rfl rfl rfl (spec_lss rfl (Get.tmp rfl) (Get.tmp rfl)) ?_
  refine L.nt ?_
  refine W.cond (Get.tmp rfl) (fun h1 => ?_) (fun h1 => ?_)
  · have ph1 := h1; try simp only [sbx] at ph1
    refine W.skip ?_
    refine N.thenW ?_
    refine W.seq ?_
    refine W.block ?_
    refine W.sr ?_
    refine L.mv rfl rfl rfl rfl rfl ?_
    refine L.mv rfl rfl rfl rfl rfl ?_
    refine L.p1 rfl rfl rfl (spec_indexAddrD (E := eSg) rfl Tryz.underlying102 Tryz.sizeOf101 (fun _ => rfl) (Get.tmp rfl) (Get.tmp rfl) (by omega)) ?_
    refine L.p1 rfl rfl rfl (spec_fieldAddrP (f := 0) rfl Tryz.underlying101 rfl Tryz.sizeOf9 (Get.tmp rfl) rfl rfl) ?_
    refine L.p1 rfl rfl rfl (spec_loadP1 rfl Tryz.isAgg9 (Get.tmp rfl)) ?_
    refine L.mv rfl rfl rfl rfl rfl ?_
    refine L.p1 rfl rfl rfl (spec_eqlS rfl (Get.tmp rfl) (Get.tmp rfl)) ?_
    refine L.nt ?_
    refine W.cond (Get.tmp rfl) (fun h2 => ?_) (fun h2 => ?_)
    · have ph2 := h2; try simp only [sbx] at ph2
      refine W.sr ?_
      refine L.mv rfl rfl rfl rfl rfl ?_
      refine L.mv rfl rfl rfl rfl rfl ?_
      refine L.p1 rfl rfl rfl (spec_indexAddrD (E := eSg) rfl Tryz.underlying102 Tryz.sizeOf101 (fun _ => rfl) (Get.tmp rfl) (Get.tmp rfl) (by omega)) ?_
      refine L.p1 rfl rfl rfl (spec_fieldAddrP (f := 1) rfl Tryz.underlying101 rfl Tryz.sizeOf3 (Get.tmp rfl) rfl rfl) ?_
      refine L.p1 rfl rfl rfl (spec_loadP1 rfl Tryz.isAgg3 (Get.tmp rfl)) ?_
      refine L.p1 rfl rfl rfl (spec_call rfl Tryz.call120 (wrap_ok _) (.cons (Get.tmp rfl) .nil)) ?_
      refine L.as rfl rfl rfl rfl rfl ?_
      refine L.p1 rfl rfl rfl (spec_assign rfl Get.cbool) ?_
      refine L.nt ?_
      refine W.ret ?_
      refine N.ret () rfl (.tmp (t := 4) (Get.tmp rfl) (.tmp (t := 5) (Get.tmp rfl) .nil)) (res2w (eqI ?_) (eqB ?_)) .nil (fun _ _ h => h)
      all_goals rw [findS_yes (by omega) (by simpa using h2) hI2]
      all_goals rfl
    · have ph2 := h2; try simp only [sbx] at ph2
      refine W.skip ?_
      refine N.blockNormal ?_
      refine N.thenW ?_
      refine W.region ?_
      refine L.mv rfl rfl rfl rfl rfl ?_
      first | refine L.op1 rfl rfl (GSpec.plain rfl (fit_i64 (by omega) (by omega) (spec_add rfl (Get.tmp rfl) (Get.cint rfl)))) ?_ | refine L.op1 rfl rfl (GSpec.plain rfl (spec_add rfl (Get.tmp rfl) (Get.cint rfl))) ?_
      refine L.as rfl rfl rfl rfl rfl ?_
      refine L.nil ?_
      refine N.roundK (i + 1) ?hI1 ?hmu1 ?hs1 ?hk1 ?hp1
      case hs1 => exact (.cons (t := 6) rfl .nil)
      case hk1 => exact (.cons (t := 0) rfl (.cons (t := 1) rfl .nil))
      case hp1 => exact .nil
      case hI1 => exact ⟨by omega, upto hI2 (by simpa using h2)⟩
      case hmu1 => omega
  · have ph1 := h1; try simp only [sbx] at ph1
    refine W.exit ?_
    refine N.thenExit ?_
    refine N.thenExit ?_
    refine N.blockExit ?_
    refine N.thenW ?_
    refine W.keep .nil .refl ?_
    refine W.sr ?_
    refine L.p1 rfl rfl rfl (spec_assign rfl (Get.cint rfl)) ?_
    refine L.p1 rfl rfl rfl (spec_assign rfl Get.cbool) ?_
    refine L.nt ?_
    refine W.ret ?_
    refine N.ret () rfl (.tmp (t := 4) (Get.tmp rfl) (.tmp (t := 5) (Get.tmp rfl) .nil)) (res2w (eqI ?_) (eqB ?_)) .nil (fun _ _ h => h)
    all_goals rw [findS_no fun j hj => hI2 j (by omega)]
    all_goals rfl

theorem leaf_ok (e : Ex) (env : List Sg) (ops : List Int) (hg : e.op = 1 ∨ (e.op = 2 ∧ (findS env e.name).2 = true)) : CallT Tryz.prog 157 [Rp.agg (eX e), Rp.slice eSg env, Rp.slice eI ops] [] (.one (Rp.tuple [Rp.int .i64 (valX env e), Rp.int .i64 0])) := by
  refine W.enter (fn := Tryz.f157) (n := 64) Tryz.func157 rfl Tryz.ntmps157 rfl (fun w₀ C₀ => ?_)
  simp only [argS]
  refine W.sr ?_
  refine L.box rfl rfl (GSpec.plain rfl (spec_box rfl (GetC.agg (Get.tmp rfl)))) (fun r3 => ?_)
  refine L.p1 rfl rfl rfl (spec_assign rfl (Get.cint rfl)) ?_
  refine L.p1 rfl rfl rfl (spec_assign rfl (Get.cint rfl)) ?_
  refine L.nt ?_
  refine W.seq ?_
  refine W.sr ?_
  refine L.p1 rfl rfl rfl (spec_fieldAddr (f := 0) (off' := 0) rfl Tryz.underlying66 rfl Tryz.sizeOf3 (Get.tmp rfl) rfl) ?_
  refine L.p1 rfl rfl rfl (spec_load1 (k := 0) rfl Tryz.isAgg3 (Get.tmp rfl) rfl rfl) ?_
  refine L.p1 rfl rfl rfl (spec_eql rfl (Get.tmp rfl) (Get.cint rfl)) ?_
  refine L.nt ?_
  refine W.cond (Get.tmp rfl) (fun h1 => ?_) (fun h1 => ?_)
  · have ph1 := h1; try simp only [sbx] at ph1
    refine W.sr ?_
    refine L.p1 rfl rfl rfl (spec_fieldAddr (f := 1) (off' := 1) rfl Tryz.underlying66 rfl Tryz.sizeOf3 (Get.tmp rfl) rfl) ?_
    refine L.p1 rfl rfl rfl (spec_load1 (k := 0) rfl Tryz.isAgg3 (Get.tmp rfl) rfl rfl) ?_
    refine L.as rfl rfl rfl rfl rfl ?_
    refine L.p1 rfl rfl rfl (spec_assign rfl (Get.cint rfl)) ?_
    refine L.nt ?_
    refine W.keep (.cons (t := 1) rfl (.cons (t := 2) rfl (.cons (t := 3) rfl (.cons (t := 6) rfl (.cons (t := 7) rfl .nil))))) .refl ?_
    refine W.ret ?_
    refine N.ret () rfl (.tmp (t := 6) (Get.tmp rfl) (.tmp (t := 7) (Get.tmp rfl) .nil)) (res2w (eqI ?_) (eqI ?_)) .nil (fun _ _ h => h)
    all_goals first | rfl | rw [valX_eq, if_pos (of_decide_eq_true h1)]
  · have ph1 := h1; try simp only [sbx] at ph1
    refine W.skip ?_
    refine N.thenW ?_
    refine W.seq ?_
    refine W.sr ?_
    refine L.p1 rfl rfl rfl (spec_fieldAddr (f := 0) (off' := 0) rfl Tryz.underlying66 rfl Tryz.sizeOf3 (Get.tmp rfl) rfl) ?_
    refine L.p1 rfl rfl rfl (spec_load1 (k := 0) rfl Tryz.isAgg3 (Get.tmp rfl) rfl rfl) ?_
    refine L.p1 rfl rfl rfl (spec_eql rfl (Get.tmp rfl) (Get.cint rfl)) ?_
    refine L.nt ?_
    refine W.cond (Get.tmp rfl) (fun h2 => ?_) (fun h2 => ?_)
    · have ph2 := h2; try simp only [sbx] at ph2
      refine W.sr ?_
      refine L.mv rfl rfl rfl rfl rfl ?_
      refine L.p1 rfl rfl rfl (spec_fieldAddr (f := 2) (off' := 2) rfl Tryz.underlying66 rfl Tryz.sizeOf9 (Get.tmp rfl) rfl) ?_
      refine L.p1 rfl rfl rfl (spec_load1 (k := 0) rfl Tryz.isAgg9 (Get.tmp rfl) rfl rfl) ?_
      refine L.p1 rfl rfl rfl (spec_call rfl Tryz.call172 (find_ok _ _) (.cons (Get.tmp rfl) (.cons (Get.tmp rfl) .nil))) ?_
      refine L.mv rfl rfl rfl rfl rfl ?_
      refine L.p1 rfl rfl rfl (spec_extract rfl (Get.tmp rfl) rfl) ?_
      refine L.p1 rfl rfl rfl (spec_extract rfl (Get.tmp rfl) rfl) ?_
      refine L.as rfl rfl rfl rfl rfl ?_
      refine L.as rfl rfl rfl rfl rfl ?_
      refine L.nt ?_
      refine W.keep (.cons (t := 1) rfl (.cons (t := 2) rfl (.cons (t := 3) rfl (.cons (t := 6) rfl (.cons (t := 7) rfl (.cons (t := 8) rfl (.cons (t := 9) rfl .nil))))))) .refl ?_
      refine W.seq ?_
      refine W.sr ?_
      refine L.mv rfl rfl rfl rfl rfl ?_
      refine L.p1 rfl rfl rfl (spec_not rfl (Get.tmp rfl)) ?_
      refine L.nt ?_
      refine W.cond (Get.tmp rfl) (fun h3 => ?_) (fun h3 => ?_)
      · exfalso; have h := h3; have h2 := of_decide_eq_true h2; rcases hg with q | q; omega; rw [q.2] at h; simp at h
      · have ph3 := h3; try simp only [sbx] at ph3
        refine W.skip ?_
        refine N.thenW ?_
        refine W.sr ?_
        refine L.mv rfl rfl rfl rfl rfl ?_
        refine L.as rfl rfl rfl rfl rfl ?_
        refine L.p1 rfl rfl rfl (spec_assign rfl (Get.cint rfl)) ?_
        refine L.nt ?_
        refine W.keep (.cons (t := 1) rfl (.cons (t := 2) rfl (.cons (t := 3) rfl (.cons (t := 6) rfl (.cons (t := 7) rfl .nil))))) .refl ?_
        refine W.ret ?_
        refine N.ret () rfl (.tmp (t := 6) (Get.tmp rfl) (.tmp (t := 7) (Get.tmp rfl) .nil)) (res2w (eqI ?_) (eqI ?_)) .nil (fun _ _ h => h)
        all_goals first | rfl | rw [valX_eq, if_neg (of_decide_eq_false h1), if_pos (of_decide_eq_true h2)]
    · exfalso; have h := of_decide_eq_false h2; have h1 := of_decide_eq_false h1; rcases hg with q | q; exact h1 q; exact h q.1

end Go.Proofs.YthlfacmpjehjmaaGreatDoor
set_option linter.unusedSimpArgs false
set_option maxRecDepth 8000
set_option linter.unusedVariables false
namespace Go.Proofs.YthlfacmpjehjmaaGreatDoor
open Go.Sim
theorem wrong_ok (e : Ex) (hn : NodeOk e) : CallT Tryz.prog 132 [Rp.agg (eX e)] [] (.one (Rp.int .i64 0)) := by
  refine W.enter (fn := Tryz.f132) (n := 99) Tryz.func132 rfl Tryz.ntmps132 rfl (fun w₀ C₀ => ?_)
  simp only [argS]
  refine W.sr ?_
  refine L.box rfl rfl (GSpec.plain rfl (spec_box rfl (GetC.agg (Get.tmp rfl)))) (fun r1 => ?_)
  refine L.p1 rfl rfl rfl (spec_assign rfl (Get.cint rfl)) ?_
  refine L.nt ?_
  refine W.seq ?_
  refine W.sr ?_
  refine L.p1 rfl rfl rfl (spec_fieldAddr (f := 0) (off' := 0) rfl Tryz.underlying66 rfl Tryz.sizeOf3 (Get.tmp rfl) rfl) ?_
  refine L.p1 rfl rfl rfl (spec_load1 (k := 0) rfl Tryz.isAgg3 (Get.tmp rfl) rfl rfl) ?_
  refine L.p1 rfl rfl rfl (spec_lss rfl (Get.tmp rfl) (Get.cint rfl)) ?_
  refine L.mv rfl rfl rfl rfl rfl ?_
  refine L.op1 rfl rfl (GSpec.guard rfl rfl rfl fun hg => (spec_fieldAddr (f := 0) (off' := 0) rfl Tryz.underlying66 rfl Tryz.sizeOf3 (Get.tmp rfl) rfl)) ?_
  refine L.op1 rfl rfl (GSpec.guard rfl rfl rfl fun hg => (spec_load1 (k := 0) rfl Tryz.isAgg3 (Get.opt rfl hg) rfl rfl)) ?_
  refine L.op1 rfl rfl (GSpec.guard rfl rfl rfl fun hg => (spec_gtr rfl (Get.opt rfl hg) (Get.cint rfl))) ?_
  refine L.p1 rfl rfl rfl (spec_or rfl (Get.tmp rfl) (fun hb => (Get.opt rfl hb))) ?_
  refine L.mv rfl rfl rfl rfl rfl ?_
  refine L.op1 rfl rfl (GSpec.guard rfl rfl rfl fun hg => (spec_fieldAddr (f := 1) (off' := 1) rfl Tryz.underlying66 rfl Tryz.sizeOf3 (Get.tmp rfl) rfl)) ?_
  refine L.op1 rfl rfl (GSpec.guard rfl rfl rfl fun hg => (spec_load1 (k := 0) rfl Tryz.isAgg3 (Get.opt rfl hg) rfl rfl)) ?_
  refine L.op1 rfl rfl (GSpec.guard rfl rfl rfl fun hg => (spec_lss rfl (Get.opt rfl hg) (Get.cint rfl))) ?_
  refine L.p1 rfl rfl rfl (spec_or rfl (Get.tmp rfl) (fun hb => (Get.opt rfl hb))) ?_
  refine L.mv rfl rfl rfl rfl rfl ?_
  refine L.op1 rfl rfl (GSpec.guard rfl rfl rfl fun hg => (spec_fieldAddr (f := 1) (off' := 1) rfl Tryz.underlying66 rfl Tryz.sizeOf3 (Get.tmp rfl) rfl)) ?_
  refine L.op1 rfl rfl (GSpec.guard rfl rfl rfl fun hg => (spec_load1 (k := 0) rfl Tryz.isAgg3 (Get.opt rfl hg) rfl rfl)) ?_
  refine L.op1 rfl rfl (GSpec.guard rfl rfl rfl fun hg => (spec_gtr rfl (Get.opt rfl hg) (Get.cint rfl))) ?_
  refine L.p1 rfl rfl rfl (spec_or rfl (Get.tmp rfl) (fun hb => (Get.opt rfl hb))) ?_
  refine L.mv rfl rfl rfl rfl rfl ?_
  refine L.op1 rfl rfl (GSpec.guard rfl rfl rfl fun hg => (spec_fieldAddr (f := 1) (off' := 1) rfl Tryz.underlying66 rfl Tryz.sizeOf3 (Get.tmp rfl) rfl)) ?_
  refine L.op1 rfl rfl (GSpec.guard rfl rfl rfl fun hg => (spec_load1 (k := 0) rfl Tryz.isAgg3 (Get.opt rfl hg) rfl rfl)) ?_
  refine L.op1 rfl rfl (GSpec.guard rfl rfl rfl fun hg => (spec_neq rfl (Get.opt rfl hg) (Get.cint rfl))) ?_
  refine L.op1 rfl rfl (GSpec.guard rfl rfl rfl fun hg => (spec_move rfl (Get.opt rfl hg))) ?_
  refine L.op1 rfl rfl (GSpec.guardOpt rfl rfl rfl fun hg => (spec_fieldAddr (f := 0) (off' := 0) rfl Tryz.underlying66 rfl Tryz.sizeOf3 (Get.tmp rfl) rfl)) ?_
  refine L.op1 rfl rfl (GSpec.guardOpt rfl rfl rfl fun hg => (spec_load1 (k := 0) rfl Tryz.isAgg3 (Get.opt rfl hg) rfl rfl)) ?_
  refine L.op1 rfl rfl (GSpec.guardOpt rfl rfl rfl fun hg => (spec_neq rfl (Get.opt rfl hg) (Get.cint rfl))) ?_
  refine L.op1 rfl rfl (GSpec.guard rfl rfl rfl fun hg => (spec_and rfl (Get.opt rfl hg) (fun hb => (Get.opt rfl ⟨hg, hb⟩)))) ?_
  refine L.p1 rfl rfl rfl (spec_or rfl (Get.tmp rfl) (fun hb => (Get.opt rfl hb))) ?_
  refine L.mv rfl rfl rfl rfl rfl ?_
  refine L.op1 rfl rfl (GSpec.guard rfl rfl rfl fun hg => (spec_fieldAddr (f := 2) (off' := 2) rfl Tryz.underlying66 rfl Tryz.sizeOf9 (Get.tmp rfl) rfl)) ?_
  refine L.op1 rfl rfl (GSpec.guard rfl rfl rfl fun hg => (spec_load1 (k := 0) rfl Tryz.isAgg9 (Get.opt rfl hg) rfl rfl)) ?_
  refine L.op1 rfl rfl (GSpec.guard rfl rfl rfl fun hg => (spec_neqS rfl (Get.opt rfl hg) (Get.cstr (l := []) rfl rfl))) ?_
  refine L.op1 rfl rfl (GSpec.guard rfl rfl rfl fun hg => (spec_move rfl (Get.opt rfl hg))) ?_
  refine L.op1 rfl rfl (GSpec.guardOpt rfl rfl rfl fun hg => (spec_fieldAddr (f := 0) (off' := 0) rfl Tryz.underlying66 rfl Tryz.sizeOf3 (Get.tmp rfl) rfl)) ?_
  refine L.op1 rfl rfl (GSpec.guardOpt rfl rfl rfl fun hg => (spec_load1 (k := 0) rfl Tryz.isAgg3 (Get.opt rfl hg) rfl rfl)) ?_
  refine L.op1 rfl rfl (GSpec.guardOpt rfl rfl rfl fun hg => (spec_call rfl Tryz.call153 (named_ok _) (.cons (Get.opt rfl hg) .nil))) ?_
  refine L.op1 rfl rfl (GSpec.guardOpt rfl rfl rfl fun hg => (spec_not rfl (Get.opt rfl hg))) ?_
  refine L.op1 rfl rfl (GSpec.guard rfl rfl rfl fun hg => (spec_and rfl (Get.opt rfl hg) (fun hb => (Get.opt rfl ⟨hg, hb⟩)))) ?_
  refine L.p1 rfl rfl rfl (spec_or rfl (Get.tmp rfl) (fun hb => (Get.opt rfl hb))) ?_
  refine L.nt ?_
  refine W.keep (.cons (t := 1) rfl (.cons (t := 2) rfl (.cons (t := 42) rfl .nil))) .refl ?_
  refine W.cond (Get.tmp rfl) (fun h1 => ?_) (fun h1 => ?_)
  · exfalso; have h := h1; rw [node_t1 hn] at h; cases h
  · have ph1 := h1; try simp only [sbx] at ph1
    refine W.skip ?_
    refine N.thenW ?_
    refine W.sr ?_
    refine L.p1 rfl rfl rfl (spec_fieldAddr (f := 3) (off' := 3) rfl Tryz.underlying66 rfl Tryz.sizeOf64 (Get.tmp rfl) rfl) ?_
    refine L.p1 rfl rfl rfl (Spec.eq (exs_eq _) (spec_load1 (k := 0) rfl Tryz.isAgg64 (Get.tmp rfl) rfl rfl)) ?_
    refine L.p1 rfl rfl rfl (spec_len rfl Tryz.underlying64 (Get.tmp rfl)) ?_
    refine L.as rfl rfl rfl rfl rfl ?_
    refine L.nt ?_
    refine W.seq ?_
    refine W.sr ?_
    refine L.p1 rfl rfl rfl (spec_fieldAddr (f := 0) (off' := 0) rfl Tryz.underlying66 rfl Tryz.sizeOf3 (Get.tmp rfl) rfl) ?_
    refine L.p1 rfl rfl rfl (spec_load1 (k := 0) rfl Tryz.isAgg3 (Get.tmp rfl) rfl rfl) ?_
    refine L.p1 rfl rfl rfl (spec_eql rfl (Get.tmp rfl) (Get.cint rfl)) ?_
    refine L.mv rfl rfl rfl rfl rfl ?_
    refine L.op1 rfl rfl (GSpec.guard rfl rfl rfl fun hg => (spec_move rfl (Get.tmp rfl))) ?_
    refine L.op1 rfl rfl (GSpec.guard rfl rfl rfl fun hg => (spec_lss rfl (Get.opt rfl hg) (Get.cint rfl))) ?_
    refine L.op1 rfl rfl (GSpec.guard rfl rfl rfl fun hg => (spec_move rfl (Get.opt rfl hg))) ?_
    refine L.op1 rfl rfl (GSpec.guardOpt rfl rfl rfl fun hg => (spec_move rfl (Get.tmp rfl))) ?_
    refine L.op1 rfl rfl (GSpec.guardOpt rfl rfl rfl fun hg => (spec_gtr rfl (Get.opt rfl hg) (Get.cint rfl))) ?_
    refine L.op1 rfl rfl (GSpec.guard rfl rfl rfl fun hg => (spec_or rfl (Get.opt rfl hg) (fun hb => (Get.opt rfl ⟨hg, hb⟩)))) ?_
    refine L.op1 rfl rfl (GSpec.guard rfl rfl rfl fun hg => (spec_move rfl (Get.opt rfl hg))) ?_
    refine L.op1 rfl rfl (GSpec.guardOpt rfl rfl rfl fun hg => (spec_move rfl (Get.tmp rfl))) ?_
    first | refine L.op1 rfl rfl (GSpec.guardOpt rfl rfl rfl fun hg => (spec_remP rfl (Get.opt rfl hg) (Get.cint rfl) (by (first | omega | (simp only [sbx] at hg; omega))) (by (first | omega | (simp only [sbx] at hg; omega))))) ?_ | refine L.op1 rfl rfl (GSpec.guardOpt rfl rfl rfl fun hg => (spec_rem rfl (Get.opt rfl hg) (Get.cint rfl) (by (first | omega | (simp only [sbx] at hg; omega))))) ?_
    refine L.op1 rfl rfl (GSpec.guardOpt rfl rfl rfl fun hg => (spec_eql rfl (Get.opt rfl hg) (Get.cint rfl))) ?_
    refine L.op1 rfl rfl (GSpec.guard rfl rfl rfl fun hg => (spec_or rfl (Get.opt rfl hg) (fun hb => (Get.opt rfl ⟨hg, hb⟩)))) ?_
    refine L.p1 rfl rfl rfl (spec_and rfl (Get.tmp rfl) (fun hb => (Get.opt rfl hb))) ?_
    refine L.mv rfl rfl rfl rfl rfl ?_
    refine L.op1 rfl rfl (GSpec.guard rfl rfl rfl fun hg => (spec_fieldAddr (f := 0) (off' := 0) rfl Tryz.underlying66 rfl Tryz.sizeOf3 (Get.tmp rfl) rfl)) ?_
    refine L.op1 rfl rfl (GSpec.guard rfl rfl rfl fun hg => (spec_load1 (k := 0) rfl Tryz.isAgg3 (Get.opt rfl hg) rfl rfl)) ?_
    refine L.op1 rfl rfl (GSpec.guard rfl rfl rfl fun hg => (spec_neq rfl (Get.opt rfl hg) (Get.cint rfl))) ?_
    refine L.op1 rfl rfl (GSpec.guard rfl rfl rfl fun hg => (spec_move rfl (Get.opt rfl hg))) ?_
    refine L.op1 rfl rfl (GSpec.guardOpt rfl rfl rfl fun hg => (spec_move rfl (Get.tmp rfl))) ?_
    refine L.op1 rfl rfl (GSpec.guardOpt rfl rfl rfl fun hg => (spec_fieldAddr (f := 0) (off' := 0) rfl Tryz.underlying66 rfl Tryz.sizeOf3 (Get.tmp rfl) rfl)) ?_
    refine L.op1 rfl rfl (GSpec.guardOpt rfl rfl rfl fun hg => (spec_load1 (k := 0) rfl Tryz.isAgg3 (Get.opt rfl hg) rfl rfl)) ?_
    refine L.op1 rfl rfl (GSpec.guardOpt rfl rfl rfl fun hg => (spec_call rfl Tryz.call154 (arity_ok _ _ (node_ar hn)) (.cons (Get.opt rfl hg) .nil))) ?_
    refine L.op1 rfl rfl (GSpec.guardOpt rfl rfl rfl fun hg => (spec_neq rfl (Get.opt rfl hg) (Get.opt rfl hg))) ?_
    refine L.op1 rfl rfl (GSpec.guard rfl rfl rfl fun hg => (spec_and rfl (Get.opt rfl hg) (fun hb => (Get.opt rfl ⟨hg, hb⟩)))) ?_
    refine L.p1 rfl rfl rfl (spec_or rfl (Get.tmp rfl) (fun hb => (Get.opt rfl hb))) ?_
    refine L.nt ?_
    refine W.keep (.cons (t := 1) rfl (.cons (t := 2) rfl (.cons (t := 73) rfl .nil))) .refl ?_
    refine W.cond (Get.tmp rfl) (fun h2 => ?_) (fun h2 => ?_)
    · exfalso; have h := h2; have ha := node_ar hn; unfold ArOk OpOk BinOp at ha; simp at h; omega
    · have ph2 := h2; try simp only [sbx] at ph2
      refine W.skip ?_
      refine N.thenW ?_
      refine W.seq ?_
      refine W.sr ?_
      refine L.p1 rfl rfl rfl (spec_fieldAddr (f := 0) (off' := 0) rfl Tryz.underlying66 rfl Tryz.sizeOf3 (Get.tmp rfl) rfl) ?_
      refine L.p1 rfl rfl rfl (spec_load1 (k := 0) rfl Tryz.isAgg3 (Get.tmp rfl) rfl rfl) ?_
      refine L.p1 rfl rfl rfl (spec_eql rfl (Get.tmp rfl) (Get.cint rfl)) ?_
      refine L.mv rfl rfl rfl rfl rfl ?_
      refine L.op1 rfl rfl (GSpec.guard rfl rfl rfl fun hg => (spec_fieldAddr (f := 2) (off' := 2) rfl Tryz.underlying66 rfl Tryz.sizeOf9 (Get.tmp rfl) rfl)) ?_
      refine L.op1 rfl rfl (GSpec.guard rfl rfl rfl fun hg => (spec_load1 (k := 0) rfl Tryz.isAgg9 (Get.opt rfl hg) rfl rfl)) ?_
      refine L.op1 rfl rfl (GSpec.guard rfl rfl rfl fun hg => (spec_call rfl Tryz.call155 (isVar_ok _ (node_nm hn (of_decide_eq_true hg))) (.cons (Get.opt rfl hg) .nil))) ?_
      refine L.op1 rfl rfl (GSpec.guard rfl rfl rfl fun hg => (spec_not rfl (Get.opt rfl hg))) ?_
      refine L.p1 rfl rfl rfl (spec_and rfl (Get.tmp rfl) (fun hb => (Get.opt rfl hb))) ?_
      refine L.mv rfl rfl rfl rfl rfl ?_
      refine L.op1 rfl rfl (GSpec.guard rfl rfl rfl fun hg => (spec_fieldAddr (f := 0) (off' := 0) rfl Tryz.underlying66 rfl Tryz.sizeOf3 (Get.tmp rfl) rfl)) ?_
      refine L.op1 rfl rfl (GSpec.guard rfl rfl rfl fun hg => (spec_load1 (k := 0) rfl Tryz.isAgg3 (Get.opt rfl hg) rfl rfl)) ?_
      refine L.op1 rfl rfl (GSpec.guard rfl rfl rfl fun hg => (spec_call rfl Tryz.call153 (named_ok _) (.cons (Get.opt rfl hg) .nil))) ?_
      refine L.op1 rfl rfl (GSpec.guard rfl rfl rfl fun hg => (spec_move rfl (Get.opt rfl hg))) ?_
      refine L.op1 rfl rfl (GSpec.guardOpt rfl rfl rfl fun hg => (spec_fieldAddr (f := 0) (off' := 0) rfl Tryz.underlying66 rfl Tryz.sizeOf3 (Get.tmp rfl) rfl)) ?_
      refine L.op1 rfl rfl (GSpec.guardOpt rfl rfl rfl fun hg => (spec_load1 (k := 0) rfl Tryz.isAgg3 (Get.opt rfl hg) rfl rfl)) ?_
      refine L.op1 rfl rfl (GSpec.guardOpt rfl rfl rfl fun hg => (spec_neq rfl (Get.opt rfl hg) (Get.cint rfl))) ?_
      refine L.op1 rfl rfl (GSpec.guard rfl rfl rfl fun hg => (spec_and rfl (Get.opt rfl hg) (fun hb => (Get.opt rfl ⟨hg, hb⟩)))) ?_
      refine L.op1 rfl rfl (GSpec.guard rfl rfl rfl fun hg => (spec_move rfl (Get.opt rfl hg))) ?_
      refine L.op1 rfl rfl (GSpec.guardOpt rfl rfl rfl fun hg => (spec_fieldAddr (f := 2) (off' := 2) rfl Tryz.underlying66 rfl Tryz.sizeOf9 (Get.tmp rfl) rfl)) ?_
      refine L.op1 rfl rfl (GSpec.guardOpt rfl rfl rfl fun hg => (spec_load1 (k := 0) rfl Tryz.isAgg9 (Get.opt rfl hg) rfl rfl)) ?_
      refine L.op1 rfl rfl (GSpec.guardOpt rfl rfl rfl fun hg => (spec_call rfl Tryz.call80 (isName_ok _) (.cons (Get.opt rfl hg) .nil))) ?_
      refine L.op1 rfl rfl (GSpec.guardOpt rfl rfl rfl fun hg => (spec_not rfl (Get.opt rfl hg))) ?_
      refine L.op1 rfl rfl (GSpec.guard rfl rfl rfl fun hg => (spec_and rfl (Get.opt rfl hg) (fun hb => (Get.opt rfl ⟨hg, hb⟩)))) ?_
      refine L.p1 rfl rfl rfl (spec_or rfl (Get.tmp rfl) (fun hb => (Get.opt rfl hb))) ?_
      refine L.nt ?_
      refine W.keep (.cons (t := 2) rfl (.cons (t := 98) rfl .nil)) .refl ?_
      refine W.cond (Get.tmp rfl) (fun h3 => ?_) (fun h3 => ?_)
      · exfalso; have h := h3; rcases hn with q | q | q; (rw [q.1] at h; simp at h); (rw [q.1, q.2.2.2] at h; simp at h); (have ha := q.1; unfold OpOk BinOp at ha; simp at h; omega)
      · have ph3 := h3; try simp only [sbx] at ph3
        refine W.skip ?_
        refine N.thenW ?_
        refine W.sr ?_
        refine L.p1 rfl rfl rfl (spec_assign rfl (Get.cint rfl)) ?_
        refine L.nt ?_
        refine W.ret ?_
        refine N.ret () rfl (.tmp (t := 2) (Get.tmp rfl) .nil) (res1 (eqI ?_)) .nil (fun _ _ h => h)
        rfl

end Go.Proofs.YthlfacmpjehjmaaGreatDoor
set_option linter.unusedSimpArgs false
set_option maxRecDepth 8000
set_option linter.unusedVariables false
namespace Go.Proofs.YthlfacmpjehjmaaGreatDoor
open Go.Sim
theorem see_step  : ∀ (e : Ex), GN e → ∀ (r : Nat) (va : Value) (d : Int) (s : Wk), s.vs.length + szX e ≤ 1000000 → SeeT e r va d s := by
  refine Ex.ind fun e ih hg r va d s hsz => ?_
  unfold SeeT
  obtain ⟨_, hno, hsub⟩ := hg
  have hal := node_len hno
  have har := node_arr hno
  rw [szX_eq] at hsz
  refine W.enter (fn := Tryz.f116) (n := 104) Tryz.func116 rfl Tryz.ntmps116 rfl (fun w₀ C₀ => ?_)
  simp only [argS]
  refine W.sr ?_
  refine L.box rfl rfl (GSpec.plain rfl (spec_box rfl (GetC.agg (Get.tmp rfl)))) (fun r4 => ?_)
  refine L.nt ?_
  refine W.sr ?_
  refine L.mv rfl rfl rfl rfl rfl ?_
  refine L.mv rfl rfl rfl rfl rfl ?_
  refine L.p1 rfl rfl rfl (spec_nilCheck rfl (Get.tmp rfl)) ?_
  refine L.p1 rfl rfl rfl (spec_fieldAddr (f := 0) (off' := 0) rfl Tryz.underlying132 rfl Tryz.sizeOf3 (Get.tmp rfl) rfl) ?_
  refine L.p1 rfl rfl rfl (spec_load1 (k := 1) rfl Tryz.isAgg3 (Get.tmp rfl) rfl rfl) ?_
  refine L.p1 rfl rfl rfl (spec_add rfl (Get.tmp rfl) (Get.cint rfl)) ?_
  refine L.p1 rfl rfl rfl (spec_nilCheck rfl (Get.tmp rfl)) ?_
  refine L.p1 rfl rfl rfl (spec_fieldAddr (f := 0) (off' := 0) rfl Tryz.underlying132 rfl Tryz.sizeOf3 (Get.tmp rfl) rfl) ?_
  refine L.storeB (k := 1) rfl rfl rfl Tryz.sizeOf3 (Get.tmp rfl) (Get.tmp rfl) rfl rfl ?_
  refine L.nt ?_
  refine W.keep (.cons (t := 0) rfl (.cons (t := 2) rfl (.cons (t := 4) rfl .nil))) .refl ?_
  refine W.seq ?_
  refine W.sr ?_
  refine L.mv rfl rfl rfl rfl rfl ?_
  refine L.mv rfl rfl rfl rfl rfl ?_
  refine L.p1 rfl rfl rfl (spec_nilCheck rfl (Get.tmp rfl)) ?_
  refine L.p1 rfl rfl rfl (spec_fieldAddr (f := 1) (off' := 1) rfl Tryz.underlying132 rfl Tryz.sizeOf3 (Get.tmp rfl) rfl) ?_
  refine L.p1 rfl rfl rfl (spec_load1 (k := 1) rfl Tryz.isAgg3 (Get.tmp rfl) rfl rfl) ?_
  refine L.p1 rfl rfl rfl (spec_gtr rfl (Get.tmp rfl) (Get.tmp rfl)) ?_
  refine L.nt ?_
  refine W.cond (Get.tmp rfl) (fun h1 => ?_) (fun h1 => ?_)
  · have hdp : s.d < d := of_decide_eq_true h1
    refine W.region ?_
    refine L.mv rfl rfl rfl rfl rfl ?_
    refine L.mv rfl rfl rfl rfl rfl ?_
    refine L.p1 rfl rfl rfl (spec_nilCheck rfl (Get.tmp rfl)) ?_
    refine L.p1 rfl rfl rfl (spec_fieldAddr (f := 1) (off' := 1) rfl Tryz.underlying132 rfl Tryz.sizeOf3 (Get.tmp rfl) rfl) ?_
    refine L.storeB (k := 1) rfl rfl rfl Tryz.sizeOf3 (Get.tmp rfl) (Get.tmp rfl) rfl rfl ?_
    refine L.nt ?_
    refine W.keep (.cons (t := 0) rfl (.cons (t := 2) rfl (.cons (t := 4) rfl .nil))) .refl ?_
    refine W.seq ?_
    refine W.sr ?_
    refine L.mv rfl rfl rfl rfl rfl ?_
    refine L.p1 rfl rfl rfl (spec_nilCheck rfl (Get.tmp rfl)) ?_
    refine L.p1 rfl rfl rfl (spec_fieldAddr (f := 2) (off' := 2) rfl Tryz.underlying132 rfl Tryz.sizeOf28 (Get.tmp rfl) rfl) ?_
    refine L.p1 rfl rfl rfl (spec_load1 (k := 1) rfl Tryz.isAgg28 (Get.tmp rfl) rfl rfl) ?_
    refine L.p1 rfl rfl rfl (spec_eql rfl (Get.tmp rfl) (Get.cint rfl)) ?_
    refine L.nt ?_
    refine W.cond (Get.tmp rfl) (fun h2 => ?_) (fun h2 => ?_)
    · have ph2 := h2; try simp only [sbx] at ph2
      refine W.region ?_
      refine L.mv rfl rfl rfl rfl rfl ?_
      refine L.p1 rfl rfl rfl (spec_loadW (k := 0) rfl Tryz.isAgg66 Tryz.sizeOf66 (Get.tmp rfl) rfl rfl) ?_
      refine L.p1 rfl rfl rfl (spec_call rfl Tryz.call132 (wrong_ok _ (by assumption)) (.cons (Get.tmp rfl) .nil)) ?_
      refine L.p1 rfl rfl rfl (spec_nilCheck rfl (Get.tmp rfl)) ?_
      refine L.p1 rfl rfl rfl (spec_fieldAddr (f := 2) (off' := 2) rfl Tryz.underlying132 rfl Tryz.sizeOf28 (Get.tmp rfl) rfl) ?_
      refine L.storeB (k := 1) rfl rfl rfl Tryz.sizeOf28 (Get.tmp rfl) (Get.tmp rfl) rfl rfl ?_
      refine L.nt ?_
      refine W.keep (.cons (t := 0) rfl (.cons (t := 2) rfl (.cons (t := 4) rfl .nil))) .refl ?_
      refine W.seq ?_
      refine W.seq ?_
      apply W.any 13 mixed (by kernel_rfl)
      · apply Head.one rfl rfl (GSpec.plain rfl (spec_fieldAddr (f := 0) (off' := 0) rfl Tryz.underlying66 rfl Tryz.sizeOf3 (Get.tmp rfl) rfl))
        apply Head.one rfl rfl (GSpec.plain rfl (spec_load1 (k := 0) rfl Tryz.isAgg3 (Get.tmp rfl) rfl rfl))
        apply Head.one rfl rfl (GSpec.plain rfl (spec_eql rfl (Get.tmp rfl) (Get.cint rfl)))
        apply Head.one rfl rfl (GSpec.plain rfl (spec_move rfl (Get.tmp rfl)))
        apply Head.one rfl rfl (GSpec.guard rfl rfl rfl fun hg => (spec_move rfl (Get.tmp rfl)))
        apply Head.one rfl rfl (GSpec.guard rfl rfl rfl fun hg => (spec_nilCheck rfl (Get.opt rfl hg)))
        apply Head.one rfl rfl (GSpec.guard rfl rfl rfl fun hg => (spec_fieldAddr (f := 3) (off' := 3) rfl Tryz.underlying132 rfl Tryz.sizeOf25 (Get.opt rfl hg) rfl))
        apply Head.one rfl rfl (GSpec.guard rfl rfl rfl fun hg => (spec_load1 (k := 1) rfl Tryz.isAgg25 (Get.opt rfl hg) rfl rfl))
        apply Head.one rfl rfl (GSpec.guard rfl rfl rfl fun hg => (spec_fieldAddr (f := 2) (off' := 2) rfl Tryz.underlying66 rfl Tryz.sizeOf9 (Get.tmp rfl) rfl))
        apply Head.one rfl rfl (GSpec.guard rfl rfl rfl fun hg => (spec_load1 (k := 0) rfl Tryz.isAgg9 (Get.opt rfl hg) rfl rfl))
        apply Head.one rfl rfl (GSpec.guard rfl rfl rfl fun hg => (spec_callB rfl Tryz.call133 (has8_ok _ _) (.cons (Get.opt rfl hg) (.cons (Get.opt rfl hg) .nil)) (.cons (.slice 2 rfl (fun _ => rfl)) (.cons .same .nil))))
        apply Head.one rfl rfl (GSpec.guard rfl rfl rfl fun hg => (spec_not rfl (Get.opt rfl hg)))
        apply Head.one rfl rfl (GSpec.plain rfl (spec_and rfl (Get.tmp rfl) (fun hb => (Get.opt rfl hb))))
        exact Head.nil
      refine Fin.one ?_
      refine Fin.one ?_
      refine Fin.one ?_
      refine Fin.one ?_
      refine Fin.one ?_
      refine Fin.one ?_
      refine Fin.one ?_
      refine Fin.one ?_
      refine Fin.one ?_
      refine Fin.one ?_
      refine Fin.one ?_
      refine Fin.one ?_
      refine Fin.one ?_
      refine Fin.nil ?_
      refine L.nt ?_
      refine W.keep (.cons (t := 0) rfl (.cons (t := 2) rfl (.cons (t := 4) rfl (.cons (t := 47) rfl .nil)))) .refl ?_
      refine W.cond (Get.tmp rfl) (fun h3 => ?_) (fun h3 => ?_)
      · have hnv : e.op = 2 ∧ (s.vs.any fun x => e.name == x) = false := by have h := h3; simpa using h
        apply W.any1 (bs := [true, false, false, false, false, false, false, false]) (Mf := []) 8 mixed (by kernel_rfl) (by kernel_rfl) rfl .nil
        · apply Head1.flo rfl rfl (GSpec.plain rfl (spec_move rfl (Get.tmp rfl)))
          apply Head1.one rfl rfl (GSpec.plain rfl (spec_move rfl (Get.tmp rfl)))
          apply Head1.one rfl rfl (GSpec.plain rfl (spec_nilCheck rfl (Get.tmp rfl)))
          apply Head1.one rfl rfl (GSpec.plain rfl (spec_fieldAddr (f := 3) (off' := 3) rfl Tryz.underlying132 rfl Tryz.sizeOf25 (Get.tmp rfl) rfl))
          apply Head1.one rfl rfl (GSpec.plain rfl (spec_load1 (k := 1) rfl Tryz.isAgg25 (Get.tmp rfl) rfl rfl))
          apply Head1.one rfl rfl (GSpec.plain rfl (spec_fieldAddr (f := 2) (off' := 2) rfl Tryz.underlying66 rfl Tryz.sizeOf9 (Get.tmp rfl) rfl))
          apply Head1.one rfl rfl (GSpec.plain rfl (spec_load1 (k := 0) rfl Tryz.isAgg9 (Get.tmp rfl) rfl rfl))
          apply Head1.one rfl rfl (GSpec.plain rfl (spec_buildSlice1 (y := e.name) (E := eS) rfl Tryz.underlying25 ti9 z9 (by decide) (GetC.one (Get.tmp rfl)) (fun _ => rfl)))
          exact Head1.nil
        · rfl
        refine Fin1.flo ?_
        refine Fin1.one ?_
        refine Fin1.one ?_
        refine Fin1.one ?_
        refine Fin1.one ?_
        refine Fin1.one ?_
        refine Fin1.one ?_
        refine Fin1.one ?_
        refine Fin1.nil (fun X => ?_)
        refine L.append (k := 2) (E := eS) rfl rfl rfl rfl Tryz.underlying25 ti9 rfl (by decide) (fun _ => rfl) (Get.tmp rfl) (Get.tmp rfl) rfl (by (simp only [List.length_cons, List.length_nil]; omega)) (by (simp only [List.length_cons, List.length_nil]; omega)) (fun v56 => ?_)
        refine L.nil ?_
        refine Aft.next ((56, _) :: _) (Sub.push rfl) .nil rfl ?_
        refine L.p1 rfl rfl rfl (spec_nilCheck rfl (Get.tmp rfl)) ?_
        refine L.p1 rfl rfl rfl (spec_fieldAddr (f := 3) (off' := 3) rfl Tryz.underlying132 rfl Tryz.sizeOf25 (Get.tmp rfl) rfl) ?_
        refine L.factM 2 rfl osl_one fun hq => ?_
        haveI := One.val hq
        refine L.storeB (k := 1) (R := Rp.val v56) rfl rfl rfl Tryz.sizeOf25 (Get.tmp rfl) (Get.tmp rfl) rfl rfl ?_
        refine L.nt ?_
        refine W.keep (.cons (t := 0) rfl (.cons (t := 2) rfl (.cons (t := 4) rfl .nil))) .refl ?_
        refine W.cut (σ := {z : Wk × Value // z.1 = stepW e d s}) (fun z => [(0, Rp.ptr r 0), (2, Rp.int .i64 d), (4, Rp.ptr r4 0)]) (fun z => [MF.box r 132 (walkR z.1.1 z.1.2), MF.osl z.1.2 9 1 eS z.1.1.vs, MF.box r4 66 (eX e)]) ?_ ?_
        · refine W.seq ?_
          apply W.any 18 mixed (by kernel_rfl)
          · apply Head.one rfl rfl (GSpec.plain rfl (spec_fieldAddr (f := 0) (off' := 0) rfl Tryz.underlying66 rfl Tryz.sizeOf3 (Get.tmp rfl) rfl))
            apply Head.one rfl rfl (GSpec.plain rfl (spec_load1 (k := 0) rfl Tryz.isAgg3 (Get.tmp rfl) rfl rfl))
            apply Head.one rfl rfl (GSpec.plain rfl (spec_eql rfl (Get.tmp rfl) (Get.cint rfl)))
            apply Head.one rfl rfl (GSpec.plain rfl (spec_move rfl (Get.tmp rfl)))
            apply Head.one rfl rfl (GSpec.guard rfl rfl rfl fun hg => (spec_fieldAddr (f := 0) (off' := 0) rfl Tryz.underlying66 rfl Tryz.sizeOf3 (Get.tmp rfl) rfl))
            apply Head.one rfl rfl (GSpec.guard rfl rfl rfl fun hg => (spec_load1 (k := 0) rfl Tryz.isAgg3 (Get.opt rfl hg) rfl rfl))
            apply Head.one rfl rfl (GSpec.guard rfl rfl rfl fun hg => (spec_eql rfl (Get.opt rfl hg) (Get.cint rfl)))
            apply Head.one rfl rfl (GSpec.plain rfl (spec_or rfl (Get.tmp rfl) (fun hb => (Get.opt rfl hb))))
            apply Head.one rfl rfl (GSpec.plain rfl (spec_move rfl (Get.tmp rfl)))
            apply Head.one rfl rfl (GSpec.guard rfl rfl rfl fun hg => (spec_move rfl (Get.tmp rfl)))
            apply Head.one rfl rfl (GSpec.guard rfl rfl rfl fun hg => (spec_nilCheck rfl (Get.opt rfl hg)))
            apply Head.one rfl rfl (GSpec.guard rfl rfl rfl fun hg => (spec_fieldAddr (f := 4) (off' := 4) rfl Tryz.underlying132 rfl Tryz.sizeOf25 (Get.opt rfl hg) rfl))
            apply Head.one rfl rfl (GSpec.guard rfl rfl rfl fun hg => (spec_load1 (k := 1) rfl Tryz.isAgg25 (Get.opt rfl hg) rfl rfl))
            apply Head.one rfl rfl (GSpec.guard rfl rfl rfl fun hg => (spec_fieldAddr (f := 2) (off' := 2) rfl Tryz.underlying66 rfl Tryz.sizeOf9 (Get.tmp rfl) rfl))
            apply Head.one rfl rfl (GSpec.guard rfl rfl rfl fun hg => (spec_load1 (k := 0) rfl Tryz.isAgg9 (Get.opt rfl hg) rfl rfl))
            apply Head.one rfl rfl (GSpec.guard rfl rfl rfl fun hg => (spec_call rfl Tryz.call133 (has8_ok _ _) (.cons (Get.opt rfl hg) (.cons (Get.opt rfl hg) .nil))))
            apply Head.one rfl rfl (GSpec.guard rfl rfl rfl fun hg => (spec_not rfl (Get.opt rfl hg)))
            apply Head.one rfl rfl (GSpec.plain rfl (spec_and rfl (Get.tmp rfl) (fun hb => (Get.opt rfl hb))))
            exact Head.nil
          refine Fin.one ?_
          refine Fin.one ?_
          refine Fin.one ?_
          refine Fin.one ?_
          refine Fin.one ?_
          refine Fin.one ?_
          refine Fin.one ?_
          refine Fin.one ?_
          refine Fin.one ?_
          refine Fin.one ?_
          refine Fin.one ?_
          refine Fin.one ?_
          refine Fin.one ?_
          refine Fin.one ?_
          refine Fin.one ?_
          refine Fin.one ?_
          refine Fin.one ?_
          refine Fin.one ?_
          refine Fin.nil ?_
          refine L.nt ?_
          refine W.keep (.cons (t := 0) rfl (.cons (t := 2) rfl (.cons (t := 4) rfl (.cons (t := 76) rfl .nil)))) .refl ?_
          refine W.cond (Get.tmp rfl) (fun h4 => ?_) (fun h4 => ?_)
          · exfalso; have h := h4; simp [har.1, har.2] at h
          · have ph4 := h4; try simp only [sbx] at ph4
            refine W.skip ?_
            refine N.mid ⟨(⟨IntKind.i64.wrap (s.n + 1), d, s.vs ++ [e.name]⟩, v56), by unfold stepW; rw [if_pos hdp, if_pos hnv]⟩ ?hs1 ?hp1
            case hs1 => exact (.cons (t := 0) rfl (.cons (t := 2) rfl (.cons (t := 4) rfl .nil)))
            case hp1 => exact (.cons 1 rfl (.cons 1 rfl (.cons 0 rfl .nil)))
        intro ⟨⟨s1, v1⟩, hs1⟩
        try dsimp only
        dsimp only at hs1
        subst hs1
        refine W.sr ?_
        refine L.p1 rfl rfl rfl (spec_assign rfl (Get.cint rfl)) ?_
        refine L.nt ?_
        refine W.block ?_
        refine W.loopK (σ := Nat × Value) (.cons (t := 0) rfl (.cons (t := 2) rfl (.cons (t := 4) rfl .nil))) (fun z => [(6, Rp.int .i64 (z.1 : Nat))]) (fun z => [MF.box r 132 (walkR ((e.args.take z.1).foldl (fun s a => seeX a (IntKind.i64.wrap (d + 1)) s) (stepW e d s)) z.2), MF.osl z.2 9 1 eS ((e.args.take z.1).foldl (fun s a => seeX a (IntKind.i64.wrap (d + 1)) s) (stepW e d s)).vs]) (fun z => z.1 ≤ e.args.length) (fun z => e.args.length - z.1) (0, v1) (Nat.zero_le _) (.cons (t := 6) rfl .nil) (.cons 0 rfl (.cons 0 rfl (.cons 0 rfl .nil))) ?_
        intro ⟨i, vc⟩ hI S' M' hS hM
        try dsimp only at hS hM
        simp only [List.cons_append, List.nil_append] at hS hM
        subst hS hM
        try dsimp only
        try dsimp only at hI
        have hst := szL_take e.args i
        have hsl := step_len e d s
        have hfl := fold_len (d := IntKind.i64.wrap (d + 1)) (e.args.take i) (stepW e d s) fun a _ s => see_len a _ s
        refine W.seq ?_
        refine W.sr ?_
        refine L.mv rfl rfl rfl rfl rfl ?_
        refine L.p1 rfl rfl rfl (spec_fieldAddr (f := 3) (off' := 3) rfl Tryz.underlying66 rfl Tryz.sizeOf64 (Get.tmp rfl) rfl) ?_
        refine L.p1 rfl rfl rfl (Spec.eq (exs_eq _) (spec_load1 (k := 2) rfl Tryz.isAgg64 (Get.tmp rfl) rfl rfl)) ?_
        refine L.p1 rfl rfl rfl (spec_len rfl Tryz.underlying64 (Get.tmp rfl)) ?_
        refine L.p1 rfl rfl rfl (spec_lss rfl (Get.tmp rfl) (Get.tmp rfl)) ?_
        refine L.nt ?_
        refine W.cond (Get.tmp rfl) (fun h5 => ?_) (fun h5 => ?_)
        · have hlt : i < e.args.length := by have h := of_decide_eq_true h5; omega
          have hst2 := hst hlt
          refine W.skip ?_
          refine N.thenW ?_
          refine W.seq ?_
          refine W.block ?_
          refine W.region ?_
          refine L.mv rfl rfl rfl rfl rfl ?_
          refine L.p1 rfl rfl rfl (spec_fieldAddr (f := 3) (off' := 3) rfl Tryz.underlying66 rfl Tryz.sizeOf64 (Get.tmp rfl) rfl) ?_
          refine L.p1 rfl rfl rfl (Spec.eq (exs_eq _) (spec_load1 (k := 2) rfl Tryz.isAgg64 (Get.tmp rfl) rfl rfl)) ?_
          refine L.mv rfl rfl rfl rfl rfl ?_
          refine L.p1 rfl rfl rfl (spec_indexAddrD (E := eX) rfl Tryz.underlying64 Tryz.sizeOf66 (fun _ => rfl) (Get.tmp rfl) (Get.tmp rfl) (by (first | omega | (simp only [Int.toNat_natCast]; omega)))) ?_
          refine L.p1 rfl rfl rfl (spec_loadPA rfl Tryz.isAgg66 Tryz.sizeOf66 (Get.tmp rfl) rfl) ?_
          refine L.mv rfl rfl rfl rfl rfl ?_
          refine L.p1 rfl rfl rfl (spec_add rfl (Get.tmp rfl) (Get.cint rfl)) ?_
          refine L.call rfl rfl rfl rfl Tryz.call116 (ih (e.args.getD i default) (getD_mem' (by omega)) (hsub _ (getD_mem' (by omega))) r vc _ ((e.args.take i).foldl (fun s a => seeX a (IntKind.i64.wrap (d + 1)) s) (stepW e d s)) (by omega)) (.cons 0 rfl (.cons 0 rfl .refl)) (.cons (Get.tmp rfl) (.cons (Get.tmp rfl) (.cons (Get.tmp rfl) .nil))) (fun v103 => ?_)
          try dsimp only
          refine L.nil ?_
          refine N.blockNormal ?_
          refine N.thenW ?_
          refine W.region ?_
          refine L.mv rfl rfl rfl rfl rfl ?_
          first | refine L.op1 rfl rfl (GSpec.plain rfl (fit_i64 (by (first | omega | (simp only [Int.toNat_natCast]; omega))) (by (first | omega | (simp only [Int.toNat_natCast]; omega))) (spec_add rfl (Get.tmp rfl) (Get.cint rfl)))) ?_ | refine L.op1 rfl rfl (GSpec.plain rfl (spec_add rfl (Get.tmp rfl) (Get.cint rfl))) ?_
          refine L.as rfl rfl rfl rfl rfl ?_
          refine L.nil ?_
          refine N.roundK (i + 1, v103) ?hI2 ?hmu2 ?hs2 ?hk2 ?hp2
          case hs2 => exact (.cons (t := 6) rfl .nil)
          case hk2 => exact (.cons (t := 0) rfl (.cons (t := 2) rfl (.cons (t := 4) rfl .nil)))
          case hp2 => dsimp only; rw [fold_take _ _ (show i < e.args.length by omega)]; exact (.cons 0 rfl (.cons 0 rfl (.cons 0 rfl .nil)))
          case hI2 => dsimp only; omega
          case hmu2 => dsimp only; omega
        · have hlt : ¬ i < e.args.length := by have h := of_decide_eq_false h5; omega
          have hi : i = e.args.length := by omega
          subst hi
          rw [List.take_length, ← seeX_eq]
          refine W.exit ?_
          refine N.thenExit ?_
          refine N.thenExit ?_
          refine N.blockExit ?_
          refine N.ret (X := (seeA _ _)) vc rfl .nil res0 (.cons 0 rfl (.cons 0 rfl .nil)) (fun _ _ h => h)
          skip
      · have hnv : ¬ (e.op = 2 ∧ (s.vs.any fun x => e.name == x) = false) := by have h := h3; simpa using h
        refine W.skip ?_
        refine N.thenW ?_
        refine W.cut (σ := {z : Wk × Value // z.1 = stepW e d s}) (fun z => [(0, Rp.ptr r 0), (2, Rp.int .i64 d), (4, Rp.ptr r4 0)]) (fun z => [MF.box r 132 (walkR z.1.1 z.1.2), MF.osl z.1.2 9 1 eS z.1.1.vs, MF.box r4 66 (eX e)]) ?_ ?_
        · refine W.seq ?_
          apply W.any 18 mixed (by kernel_rfl)
          · apply Head.one rfl rfl (GSpec.plain rfl (spec_fieldAddr (f := 0) (off' := 0) rfl Tryz.underlying66 rfl Tryz.sizeOf3 (Get.tmp rfl) rfl))
            apply Head.one rfl rfl (GSpec.plain rfl (spec_load1 (k := 0) rfl Tryz.isAgg3 (Get.tmp rfl) rfl rfl))
            apply Head.one rfl rfl (GSpec.plain rfl (spec_eql rfl (Get.tmp rfl) (Get.cint rfl)))
            apply Head.one rfl rfl (GSpec.plain rfl (spec_move rfl (Get.tmp rfl)))
            apply Head.one rfl rfl (GSpec.guard rfl rfl rfl fun hg => (spec_fieldAddr (f := 0) (off' := 0) rfl Tryz.underlying66 rfl Tryz.sizeOf3 (Get.tmp rfl) rfl))
            apply Head.one rfl rfl (GSpec.guard rfl rfl rfl fun hg => (spec_load1 (k := 0) rfl Tryz.isAgg3 (Get.opt rfl hg) rfl rfl))
            apply Head.one rfl rfl (GSpec.guard rfl rfl rfl fun hg => (spec_eql rfl (Get.opt rfl hg) (Get.cint rfl)))
            apply Head.one rfl rfl (GSpec.plain rfl (spec_or rfl (Get.tmp rfl) (fun hb => (Get.opt rfl hb))))
            apply Head.one rfl rfl (GSpec.plain rfl (spec_move rfl (Get.tmp rfl)))
            apply Head.one rfl rfl (GSpec.guard rfl rfl rfl fun hg => (spec_move rfl (Get.tmp rfl)))
            apply Head.one rfl rfl (GSpec.guard rfl rfl rfl fun hg => (spec_nilCheck rfl (Get.opt rfl hg)))
            apply Head.one rfl rfl (GSpec.guard rfl rfl rfl fun hg => (spec_fieldAddr (f := 4) (off' := 4) rfl Tryz.underlying132 rfl Tryz.sizeOf25 (Get.opt rfl hg) rfl))
            apply Head.one rfl rfl (GSpec.guard rfl rfl rfl fun hg => (spec_load1 (k := 1) rfl Tryz.isAgg25 (Get.opt rfl hg) rfl rfl))
            apply Head.one rfl rfl (GSpec.guard rfl rfl rfl fun hg => (spec_fieldAddr (f := 2) (off' := 2) rfl Tryz.underlying66 rfl Tryz.sizeOf9 (Get.tmp rfl) rfl))
            apply Head.one rfl rfl (GSpec.guard rfl rfl rfl fun hg => (spec_load1 (k := 0) rfl Tryz.isAgg9 (Get.opt rfl hg) rfl rfl))
            apply Head.one rfl rfl (GSpec.guard rfl rfl rfl fun hg => (spec_call rfl Tryz.call133 (has8_ok _ _) (.cons (Get.opt rfl hg) (.cons (Get.opt rfl hg) .nil))))
            apply Head.one rfl rfl (GSpec.guard rfl rfl rfl fun hg => (spec_not rfl (Get.opt rfl hg)))
            apply Head.one rfl rfl (GSpec.plain rfl (spec_and rfl (Get.tmp rfl) (fun hb => (Get.opt rfl hb))))
            exact Head.nil
          refine Fin.one ?_
          refine Fin.one ?_
          refine Fin.one ?_
          refine Fin.one ?_
          refine Fin.one ?_
          refine Fin.one ?_
          refine Fin.one ?_
          refine Fin.one ?_
          refine Fin.one ?_
          refine Fin.one ?_
          refine Fin.one ?_
          refine Fin.one ?_
          refine Fin.one ?_
          refine Fin.one ?_
          refine Fin.one ?_
          refine Fin.one ?_
          refine Fin.one ?_
          refine Fin.one ?_
          refine Fin.nil ?_
          refine L.nt ?_
          refine W.keep (.cons (t := 0) rfl (.cons (t := 2) rfl (.cons (t := 4) rfl (.cons (t := 76) rfl .nil)))) .refl ?_
          refine W.cond (Get.tmp rfl) (fun h6 => ?_) (fun h6 => ?_)
          · exfalso; have h := h6; simp [har.1, har.2] at h
          · have ph6 := h6; try simp only [sbx] at ph6
            refine W.skip ?_
            refine N.mid ⟨(⟨IntKind.i64.wrap (s.n + 1), d, s.vs⟩, va), by unfold stepW; rw [if_pos hdp, if_neg hnv]⟩ ?hs3 ?hp3
            case hs3 => exact (.cons (t := 0) rfl (.cons (t := 2) rfl (.cons (t := 4) rfl .nil)))
            case hp3 => exact (.cons 1 rfl (.cons 1 rfl (.cons 0 rfl .nil)))
        intro ⟨⟨s1, v1⟩, hs1⟩
        try dsimp only
        dsimp only at hs1
        subst hs1
        refine W.sr ?_
        refine L.p1 rfl rfl rfl (spec_assign rfl (Get.cint rfl)) ?_
        refine L.nt ?_
        refine W.block ?_
        refine W.loopK (σ := Nat × Value) (.cons (t := 0) rfl (.cons (t := 2) rfl (.cons (t := 4) rfl .nil))) (fun z => [(6, Rp.int .i64 (z.1 : Nat))]) (fun z => [MF.box r 132 (walkR ((e.args.take z.1).foldl (fun s a => seeX a (IntKind.i64.wrap (d + 1)) s) (stepW e d s)) z.2), MF.osl z.2 9 1 eS ((e.args.take z.1).foldl (fun s a => seeX a (IntKind.i64.wrap (d + 1)) s) (stepW e d s)).vs]) (fun z => z.1 ≤ e.args.length) (fun z => e.args.length - z.1) (0, v1) (Nat.zero_le _) (.cons (t := 6) rfl .nil) (.cons 0 rfl (.cons 0 rfl (.cons 0 rfl .nil))) ?_
        intro ⟨i, vc⟩ hI S' M' hS hM
        try dsimp only at hS hM
        simp only [List.cons_append, List.nil_append] at hS hM
        subst hS hM
        try dsimp only
        try dsimp only at hI
        have hst := szL_take e.args i
        have hsl := step_len e d s
        have hfl := fold_len (d := IntKind.i64.wrap (d + 1)) (e.args.take i) (stepW e d s) fun a _ s => see_len a _ s
        refine W.seq ?_
        refine W.sr ?_
        refine L.mv rfl rfl rfl rfl rfl ?_
        refine L.p1 rfl rfl rfl (spec_fieldAddr (f := 3) (off' := 3) rfl Tryz.underlying66 rfl Tryz.sizeOf64 (Get.tmp rfl) rfl) ?_
        refine L.p1 rfl rfl rfl (Spec.eq (exs_eq _) (spec_load1 (k := 2) rfl Tryz.isAgg64 (Get.tmp rfl) rfl rfl)) ?_
        refine L.p1 rfl rfl rfl (spec_len rfl Tryz.underlying64 (Get.tmp rfl)) ?_
        refine L.p1 rfl rfl rfl (spec_lss rfl (Get.tmp rfl) (Get.tmp rfl)) ?_
        refine L.nt ?_
        refine W.cond (Get.tmp rfl) (fun h7 => ?_) (fun h7 => ?_)
        · have hlt : i < e.args.length := by have h := of_decide_eq_true h7; omega
          have hst2 := hst hlt
          refine W.skip ?_
          refine N.thenW ?_
          refine W.seq ?_
          refine W.block ?_
          refine W.region ?_
          refine L.mv rfl rfl rfl rfl rfl ?_
          refine L.p1 rfl rfl rfl (spec_fieldAddr (f := 3) (off' := 3) rfl Tryz.underlying66 rfl Tryz.sizeOf64 (Get.tmp rfl) rfl) ?_
          refine L.p1 rfl rfl rfl (Spec.eq (exs_eq _) (spec_load1 (k := 2) rfl Tryz.isAgg64 (Get.tmp rfl) rfl rfl)) ?_
          refine L.mv rfl rfl rfl rfl rfl ?_
          refine L.p1 rfl rfl rfl (spec_indexAddrD (E := eX) rfl Tryz.underlying64 Tryz.sizeOf66 (fun _ => rfl) (Get.tmp rfl) (Get.tmp rfl) (by (first | omega | (simp only [Int.toNat_natCast]; omega)))) ?_
          refine L.p1 rfl rfl rfl (spec_loadPA rfl Tryz.isAgg66 Tryz.sizeOf66 (Get.tmp rfl) rfl) ?_
          refine L.mv rfl rfl rfl rfl rfl ?_
          refine L.p1 rfl rfl rfl (spec_add rfl (Get.tmp rfl) (Get.cint rfl)) ?_
          refine L.call rfl rfl rfl rfl Tryz.call116 (ih (e.args.getD i default) (getD_mem' (by omega)) (hsub _ (getD_mem' (by omega))) r vc _ ((e.args.take i).foldl (fun s a => seeX a (IntKind.i64.wrap (d + 1)) s) (stepW e d s)) (by omega)) (.cons 0 rfl (.cons 0 rfl .refl)) (.cons (Get.tmp rfl) (.cons (Get.tmp rfl) (.cons (Get.tmp rfl) .nil))) (fun v103 => ?_)
          try dsimp only
          refine L.nil ?_
          refine N.blockNormal ?_
          refine N.thenW ?_
          refine W.region ?_
          refine L.mv rfl rfl rfl rfl rfl ?_
          first | refine L.op1 rfl rfl (GSpec.plain rfl (fit_i64 (by (first | omega | (simp only [Int.toNat_natCast]; omega))) (by (first | omega | (simp only [Int.toNat_natCast]; omega))) (spec_add rfl (Get.tmp rfl) (Get.cint rfl)))) ?_ | refine L.op1 rfl rfl (GSpec.plain rfl (spec_add rfl (Get.tmp rfl) (Get.cint rfl))) ?_
          refine L.as rfl rfl rfl rfl rfl ?_
          refine L.nil ?_
          refine N.roundK (i + 1, v103) ?hI4 ?hmu4 ?hs4 ?hk4 ?hp4
          case hs4 => exact (.cons (t := 6) rfl .nil)
          case hk4 => exact (.cons (t := 0) rfl (.cons (t := 2) rfl (.cons (t := 4) rfl .nil)))
          case hp4 => dsimp only; rw [fold_take _ _ (show i < e.args.length by omega)]; exact (.cons 0 rfl (.cons 0 rfl (.cons 0 rfl .nil)))
          case hI4 => dsimp only; omega
          case hmu4 => dsimp only; omega
        · have hlt : ¬ i < e.args.length := by have h := of_decide_eq_false h7; omega
          have hi : i = e.args.length := by omega
          subst hi
          rw [List.take_length, ← seeX_eq]
          refine W.exit ?_
          refine N.thenExit ?_
          refine N.thenExit ?_
          refine N.blockExit ?_
          refine N.ret (X := (seeA _ _)) vc rfl .nil res0 (.cons 0 rfl (.cons 0 rfl .nil)) (fun _ _ h => h)
          skip
    · exfalso; have h := h2; simp at h
  · have hdp : ¬ s.d < d := of_decide_eq_false h1
    refine W.skip ?_
    refine N.thenW ?_
    refine W.keep (.cons (t := 0) rfl (.cons (t := 2) rfl (.cons (t := 4) rfl .nil))) .refl ?_
    refine W.seq ?_
    refine W.sr ?_
    refine L.mv rfl rfl rfl rfl rfl ?_
    refine L.p1 rfl rfl rfl (spec_nilCheck rfl (Get.tmp rfl)) ?_
    refine L.p1 rfl rfl rfl (spec_fieldAddr (f := 2) (off' := 2) rfl Tryz.underlying132 rfl Tryz.sizeOf28 (Get.tmp rfl) rfl) ?_
    refine L.p1 rfl rfl rfl (spec_load1 (k := 1) rfl Tryz.isAgg28 (Get.tmp rfl) rfl rfl) ?_
    refine L.p1 rfl rfl rfl (spec_eql rfl (Get.tmp rfl) (Get.cint rfl)) ?_
    refine L.nt ?_
    refine W.cond (Get.tmp rfl) (fun h8 => ?_) (fun h8 => ?_)
    · have ph8 := h8; try simp only [sbx] at ph8
      refine W.region ?_
      refine L.mv rfl rfl rfl rfl rfl ?_
      refine L.p1 rfl rfl rfl (spec_loadW (k := 0) rfl Tryz.isAgg66 Tryz.sizeOf66 (Get.tmp rfl) rfl rfl) ?_
      refine L.p1 rfl rfl rfl (spec_call rfl Tryz.call132 (wrong_ok _ (by assumption)) (.cons (Get.tmp rfl) .nil)) ?_
      refine L.p1 rfl rfl rfl (spec_nilCheck rfl (Get.tmp rfl)) ?_
      refine L.p1 rfl rfl rfl (spec_fieldAddr (f := 2) (off' := 2) rfl Tryz.underlying132 rfl Tryz.sizeOf28 (Get.tmp rfl) rfl) ?_
      refine L.storeB (k := 1) rfl rfl rfl Tryz.sizeOf28 (Get.tmp rfl) (Get.tmp rfl) rfl rfl ?_
      refine L.nt ?_
      refine W.keep (.cons (t := 0) rfl (.cons (t := 2) rfl (.cons (t := 4) rfl .nil))) .refl ?_
      refine W.seq ?_
      refine W.seq ?_
      apply W.any 13 mixed (by kernel_rfl)
      · apply Head.one rfl rfl (GSpec.plain rfl (spec_fieldAddr (f := 0) (off' := 0) rfl Tryz.underlying66 rfl Tryz.sizeOf3 (Get.tmp rfl) rfl))
        apply Head.one rfl rfl (GSpec.plain rfl (spec_load1 (k := 0) rfl Tryz.isAgg3 (Get.tmp rfl) rfl rfl))
        apply Head.one rfl rfl (GSpec.plain rfl (spec_eql rfl (Get.tmp rfl) (Get.cint rfl)))
        apply Head.one rfl rfl (GSpec.plain rfl (spec_move rfl (Get.tmp rfl)))
        apply Head.one rfl rfl (GSpec.guard rfl rfl rfl fun hg => (spec_move rfl (Get.tmp rfl)))
        apply Head.one rfl rfl (GSpec.guard rfl rfl rfl fun hg => (spec_nilCheck rfl (Get.opt rfl hg)))
        apply Head.one rfl rfl (GSpec.guard rfl rfl rfl fun hg => (spec_fieldAddr (f := 3) (off' := 3) rfl Tryz.underlying132 rfl Tryz.sizeOf25 (Get.opt rfl hg) rfl))
        apply Head.one rfl rfl (GSpec.guard rfl rfl rfl fun hg => (spec_load1 (k := 1) rfl Tryz.isAgg25 (Get.opt rfl hg) rfl rfl))
        apply Head.one rfl rfl (GSpec.guard rfl rfl rfl fun hg => (spec_fieldAddr (f := 2) (off' := 2) rfl Tryz.underlying66 rfl Tryz.sizeOf9 (Get.tmp rfl) rfl))
        apply Head.one rfl rfl (GSpec.guard rfl rfl rfl fun hg => (spec_load1 (k := 0) rfl Tryz.isAgg9 (Get.opt rfl hg) rfl rfl))
        apply Head.one rfl rfl (GSpec.guard rfl rfl rfl fun hg => (spec_callB rfl Tryz.call133 (has8_ok _ _) (.cons (Get.opt rfl hg) (.cons (Get.opt rfl hg) .nil)) (.cons (.slice 2 rfl (fun _ => rfl)) (.cons .same .nil))))
        apply Head.one rfl rfl (GSpec.guard rfl rfl rfl fun hg => (spec_not rfl (Get.opt rfl hg)))
        apply Head.one rfl rfl (GSpec.plain rfl (spec_and rfl (Get.tmp rfl) (fun hb => (Get.opt rfl hb))))
        exact Head.nil
      refine Fin.one ?_
      refine Fin.one ?_
      refine Fin.one ?_
      refine Fin.one ?_
      refine Fin.one ?_
      refine Fin.one ?_
      refine Fin.one ?_
      refine Fin.one ?_
      refine Fin.one ?_
      refine Fin.one ?_
      refine Fin.one ?_
      refine Fin.one ?_
      refine Fin.one ?_
      refine Fin.nil ?_
      refine L.nt ?_
      refine W.keep (.cons (t := 0) rfl (.cons (t := 2) rfl (.cons (t := 4) rfl (.cons (t := 47) rfl .nil)))) .refl ?_
      refine W.cond (Get.tmp rfl) (fun h9 => ?_) (fun h9 => ?_)
      · have hnv : e.op = 2 ∧ (s.vs.any fun x => e.name == x) = false := by have h := h9; simpa using h
        apply W.any1 (bs := [true, false, false, false, false, false, false, false]) (Mf := []) 8 mixed (by kernel_rfl) (by kernel_rfl) rfl .nil
        · apply Head1.flo rfl rfl (GSpec.plain rfl (spec_move rfl (Get.tmp rfl)))
          apply Head1.one rfl rfl (GSpec.plain rfl (spec_move rfl (Get.tmp rfl)))
          apply Head1.one rfl rfl (GSpec.plain rfl (spec_nilCheck rfl (Get.tmp rfl)))
          apply Head1.one rfl rfl (GSpec.plain rfl (spec_fieldAddr (f := 3) (off' := 3) rfl Tryz.underlying132 rfl Tryz.sizeOf25 (Get.tmp rfl) rfl))
          apply Head1.one rfl rfl (GSpec.plain rfl (spec_load1 (k := 1) rfl Tryz.isAgg25 (Get.tmp rfl) rfl rfl))
          apply Head1.one rfl rfl (GSpec.plain rfl (spec_fieldAddr (f := 2) (off' := 2) rfl Tryz.underlying66 rfl Tryz.sizeOf9 (Get.tmp rfl) rfl))
          apply Head1.one rfl rfl (GSpec.plain rfl (spec_load1 (k := 0) rfl Tryz.isAgg9 (Get.tmp rfl) rfl rfl))
          apply Head1.one rfl rfl (GSpec.plain rfl (spec_buildSlice1 (y := e.name) (E := eS) rfl Tryz.underlying25 ti9 z9 (by decide) (GetC.one (Get.tmp rfl)) (fun _ => rfl)))
          exact Head1.nil
        · rfl
        refine Fin1.flo ?_
        refine Fin1.one ?_
        refine Fin1.one ?_
        refine Fin1.one ?_
        refine Fin1.one ?_
        refine Fin1.one ?_
        refine Fin1.one ?_
        refine Fin1.one ?_
        refine Fin1.nil (fun X => ?_)
        refine L.append (k := 2) (E := eS) rfl rfl rfl rfl Tryz.underlying25 ti9 rfl (by decide) (fun _ => rfl) (Get.tmp rfl) (Get.tmp rfl) rfl (by (simp only [List.length_cons, List.length_nil]; omega)) (by (simp only [List.length_cons, List.length_nil]; omega)) (fun v56 => ?_)
        refine L.nil ?_
        refine Aft.next ((56, _) :: _) (Sub.push rfl) .nil rfl ?_
        refine L.p1 rfl rfl rfl (spec_nilCheck rfl (Get.tmp rfl)) ?_
        refine L.p1 rfl rfl rfl (spec_fieldAddr (f := 3) (off' := 3) rfl Tryz.underlying132 rfl Tryz.sizeOf25 (Get.tmp rfl) rfl) ?_
        refine L.factM 2 rfl osl_one fun hq => ?_
        haveI := One.val hq
        refine L.storeB (k := 1) (R := Rp.val v56) rfl rfl rfl Tryz.sizeOf25 (Get.tmp rfl) (Get.tmp rfl) rfl rfl ?_
        refine L.nt ?_
        refine W.keep (.cons (t := 0) rfl (.cons (t := 2) rfl (.cons (t := 4) rfl .nil))) .refl ?_
        refine W.cut (σ := {z : Wk × Value // z.1 = stepW e d s}) (fun z => [(0, Rp.ptr r 0), (2, Rp.int .i64 d), (4, Rp.ptr r4 0)]) (fun z => [MF.box r 132 (walkR z.1.1 z.1.2), MF.osl z.1.2 9 1 eS z.1.1.vs, MF.box r4 66 (eX e)]) ?_ ?_
        · refine W.seq ?_
          apply W.any 18 mixed (by kernel_rfl)
          · apply Head.one rfl rfl (GSpec.plain rfl (spec_fieldAddr (f := 0) (off' := 0) rfl Tryz.underlying66 rfl Tryz.sizeOf3 (Get.tmp rfl) rfl))
            apply Head.one rfl rfl (GSpec.plain rfl (spec_load1 (k := 0) rfl Tryz.isAgg3 (Get.tmp rfl) rfl rfl))
            apply Head.one rfl rfl (GSpec.plain rfl (spec_eql rfl (Get.tmp rfl) (Get.cint rfl)))
            apply Head.one rfl rfl (GSpec.plain rfl (spec_move rfl (Get.tmp rfl)))
            apply Head.one rfl rfl (GSpec.guard rfl rfl rfl fun hg => (spec_fieldAddr (f := 0) (off' := 0) rfl Tryz.underlying66 rfl Tryz.sizeOf3 (Get.tmp rfl) rfl))
            apply Head.one rfl rfl (GSpec.guard rfl rfl rfl fun hg => (spec_load1 (k := 0) rfl Tryz.isAgg3 (Get.opt rfl hg) rfl rfl))
            apply Head.one rfl rfl (GSpec.guard rfl rfl rfl fun hg => (spec_eql rfl (Get.opt rfl hg) (Get.cint rfl)))
            apply Head.one rfl rfl (GSpec.plain rfl (spec_or rfl (Get.tmp rfl) (fun hb => (Get.opt rfl hb))))
            apply Head.one rfl rfl (GSpec.plain rfl (spec_move rfl (Get.tmp rfl)))
            apply Head.one rfl rfl (GSpec.guard rfl rfl rfl fun hg => (spec_move rfl (Get.tmp rfl)))
            apply Head.one rfl rfl (GSpec.guard rfl rfl rfl fun hg => (spec_nilCheck rfl (Get.opt rfl hg)))
            apply Head.one rfl rfl (GSpec.guard rfl rfl rfl fun hg => (spec_fieldAddr (f := 4) (off' := 4) rfl Tryz.underlying132 rfl Tryz.sizeOf25 (Get.opt rfl hg) rfl))
            apply Head.one rfl rfl (GSpec.guard rfl rfl rfl fun hg => (spec_load1 (k := 1) rfl Tryz.isAgg25 (Get.opt rfl hg) rfl rfl))
            apply Head.one rfl rfl (GSpec.guard rfl rfl rfl fun hg => (spec_fieldAddr (f := 2) (off' := 2) rfl Tryz.underlying66 rfl Tryz.sizeOf9 (Get.tmp rfl) rfl))
            apply Head.one rfl rfl (GSpec.guard rfl rfl rfl fun hg => (spec_load1 (k := 0) rfl Tryz.isAgg9 (Get.opt rfl hg) rfl rfl))
            apply Head.one rfl rfl (GSpec.guard rfl rfl rfl fun hg => (spec_call rfl Tryz.call133 (has8_ok _ _) (.cons (Get.opt rfl hg) (.cons (Get.opt rfl hg) .nil))))
            apply Head.one rfl rfl (GSpec.guard rfl rfl rfl fun hg => (spec_not rfl (Get.opt rfl hg)))
            apply Head.one rfl rfl (GSpec.plain rfl (spec_and rfl (Get.tmp rfl) (fun hb => (Get.opt rfl hb))))
            exact Head.nil
          refine Fin.one ?_
          refine Fin.one ?_
          refine Fin.one ?_
          refine Fin.one ?_
          refine Fin.one ?_
          refine Fin.one ?_
          refine Fin.one ?_
          refine Fin.one ?_
          refine Fin.one ?_
          refine Fin.one ?_
          refine Fin.one ?_
          refine Fin.one ?_
          refine Fin.one ?_
          refine Fin.one ?_
          refine Fin.one ?_
          refine Fin.one ?_
          refine Fin.one ?_
          refine Fin.one ?_
          refine Fin.nil ?_
          refine L.nt ?_
          refine W.keep (.cons (t := 0) rfl (.cons (t := 2) rfl (.cons (t := 4) rfl (.cons (t := 76) rfl .nil)))) .refl ?_
          refine W.cond (Get.tmp rfl) (fun h10 => ?_) (fun h10 => ?_)
          · exfalso; have h := h10; simp [har.1, har.2] at h
          · have ph10 := h10; try simp only [sbx] at ph10
            refine W.skip ?_
            refine N.mid ⟨(⟨IntKind.i64.wrap (s.n + 1), s.d, s.vs ++ [e.name]⟩, v56), by unfold stepW; rw [if_neg hdp, if_pos hnv]⟩ ?hs5 ?hp5
            case hs5 => exact (.cons (t := 0) rfl (.cons (t := 2) rfl (.cons (t := 4) rfl .nil)))
            case hp5 => exact (.cons 1 rfl (.cons 1 rfl (.cons 0 rfl .nil)))
        intro ⟨⟨s1, v1⟩, hs1⟩
        try dsimp only
        dsimp only at hs1
        subst hs1
        refine W.sr ?_
        refine L.p1 rfl rfl rfl (spec_assign rfl (Get.cint rfl)) ?_
        refine L.nt ?_
        refine W.block ?_
        refine W.loopK (σ := Nat × Value) (.cons (t := 0) rfl (.cons (t := 2) rfl (.cons (t := 4) rfl .nil))) (fun z => [(6, Rp.int .i64 (z.1 : Nat))]) (fun z => [MF.box r 132 (walkR ((e.args.take z.1).foldl (fun s a => seeX a (IntKind.i64.wrap (d + 1)) s) (stepW e d s)) z.2), MF.osl z.2 9 1 eS ((e.args.take z.1).foldl (fun s a => seeX a (IntKind.i64.wrap (d + 1)) s) (stepW e d s)).vs]) (fun z => z.1 ≤ e.args.length) (fun z => e.args.length - z.1) (0, v1) (Nat.zero_le _) (.cons (t := 6) rfl .nil) (.cons 0 rfl (.cons 0 rfl (.cons 0 rfl .nil))) ?_
        intro ⟨i, vc⟩ hI S' M' hS hM
        try dsimp only at hS hM
        simp only [List.cons_append, List.nil_append] at hS hM
        subst hS hM
        try dsimp only
        try dsimp only at hI
        have hst := szL_take e.args i
        have hsl := step_len e d s
        have hfl := fold_len (d := IntKind.i64.wrap (d + 1)) (e.args.take i) (stepW e d s) fun a _ s => see_len a _ s
        refine W.seq ?_
        refine W.sr ?_
        refine L.mv rfl rfl rfl rfl rfl ?_
        refine L.p1 rfl rfl rfl (spec_fieldAddr (f := 3) (off' := 3) rfl Tryz.underlying66 rfl Tryz.sizeOf64 (Get.tmp rfl) rfl) ?_
        refine L.p1 rfl rfl rfl (Spec.eq (exs_eq _) (spec_load1 (k := 2) rfl Tryz.isAgg64 (Get.tmp rfl) rfl rfl)) ?_
        refine L.p1 rfl rfl rfl (spec_len rfl Tryz.underlying64 (Get.tmp rfl)) ?_
        refine L.p1 rfl rfl rfl (spec_lss rfl (Get.tmp rfl) (Get.tmp rfl)) ?_
        refine L.nt ?_
        refine W.cond (Get.tmp rfl) (fun h11 => ?_) (fun h11 => ?_)
        · have hlt : i < e.args.length := by have h := of_decide_eq_true h11; omega
          have hst2 := hst hlt
          refine W.skip ?_
          refine N.thenW ?_
          refine W.seq ?_
          refine W.block ?_
          refine W.region ?_
          refine L.mv rfl rfl rfl rfl rfl ?_
          refine L.p1 rfl rfl rfl (spec_fieldAddr (f := 3) (off' := 3) rfl Tryz.underlying66 rfl Tryz.sizeOf64 (Get.tmp rfl) rfl) ?_
          refine L.p1 rfl rfl rfl (Spec.eq (exs_eq _) (spec_load1 (k := 2) rfl Tryz.isAgg64 (Get.tmp rfl) rfl rfl)) ?_
          refine L.mv rfl rfl rfl rfl rfl ?_
          refine L.p1 rfl rfl rfl (spec_indexAddrD (E := eX) rfl Tryz.underlying64 Tryz.sizeOf66 (fun _ => rfl) (Get.tmp rfl) (Get.tmp rfl) (by (first | omega | (simp only [Int.toNat_natCast]; omega)))) ?_
          refine L.p1 rfl rfl rfl (spec_loadPA rfl Tryz.isAgg66 Tryz.sizeOf66 (Get.tmp rfl) rfl) ?_
          refine L.mv rfl rfl rfl rfl rfl ?_
          refine L.p1 rfl rfl rfl (spec_add rfl (Get.tmp rfl) (Get.cint rfl)) ?_
          refine L.call rfl rfl rfl rfl Tryz.call116 (ih (e.args.getD i default) (getD_mem' (by omega)) (hsub _ (getD_mem' (by omega))) r vc _ ((e.args.take i).foldl (fun s a => seeX a (IntKind.i64.wrap (d + 1)) s) (stepW e d s)) (by omega)) (.cons 0 rfl (.cons 0 rfl .refl)) (.cons (Get.tmp rfl) (.cons (Get.tmp rfl) (.cons (Get.tmp rfl) .nil))) (fun v103 => ?_)
          try dsimp only
          refine L.nil ?_
          refine N.blockNormal ?_
          refine N.thenW ?_
          refine W.region ?_
          refine L.mv rfl rfl rfl rfl rfl ?_
          first | refine L.op1 rfl rfl (GSpec.plain rfl (fit_i64 (by (first | omega | (simp only [Int.toNat_natCast]; omega))) (by (first | omega | (simp only [Int.toNat_natCast]; omega))) (spec_add rfl (Get.tmp rfl) (Get.cint rfl)))) ?_ | refine L.op1 rfl rfl (GSpec.plain rfl (spec_add rfl (Get.tmp rfl) (Get.cint rfl))) ?_
          refine L.as rfl rfl rfl rfl rfl ?_
          refine L.nil ?_
          refine N.roundK (i + 1, v103) ?hI6 ?hmu6 ?hs6 ?hk6 ?hp6
          case hs6 => exact (.cons (t := 6) rfl .nil)
          case hk6 => exact (.cons (t := 0) rfl (.cons (t := 2) rfl (.cons (t := 4) rfl .nil)))
          case hp6 => dsimp only; rw [fold_take _ _ (show i < e.args.length by omega)]; exact (.cons 0 rfl (.cons 0 rfl (.cons 0 rfl .nil)))
          case hI6 => dsimp only; omega
          case hmu6 => dsimp only; omega
        · have hlt : ¬ i < e.args.length := by have h := of_decide_eq_false h11; omega
          have hi : i = e.args.length := by omega
          subst hi
          rw [List.take_length, ← seeX_eq]
          refine W.exit ?_
          refine N.thenExit ?_
          refine N.thenExit ?_
          refine N.blockExit ?_
          refine N.ret (X := (seeA _ _)) vc rfl .nil res0 (.cons 0 rfl (.cons 0 rfl .nil)) (fun _ _ h => h)
          skip
      · have hnv : ¬ (e.op = 2 ∧ (s.vs.any fun x => e.name == x) = false) := by have h := h9; simpa using h
        refine W.skip ?_
        refine N.thenW ?_
        refine W.cut (σ := {z : Wk × Value // z.1 = stepW e d s}) (fun z => [(0, Rp.ptr r 0), (2, Rp.int .i64 d), (4, Rp.ptr r4 0)]) (fun z => [MF.box r 132 (walkR z.1.1 z.1.2), MF.osl z.1.2 9 1 eS z.1.1.vs, MF.box r4 66 (eX e)]) ?_ ?_
        · refine W.seq ?_
          apply W.any 18 mixed (by kernel_rfl)
          · apply Head.one rfl rfl (GSpec.plain rfl (spec_fieldAddr (f := 0) (off' := 0) rfl Tryz.underlying66 rfl Tryz.sizeOf3 (Get.tmp rfl) rfl))
            apply Head.one rfl rfl (GSpec.plain rfl (spec_load1 (k := 0) rfl Tryz.isAgg3 (Get.tmp rfl) rfl rfl))
            apply Head.one rfl rfl (GSpec.plain rfl (spec_eql rfl (Get.tmp rfl) (Get.cint rfl)))
            apply Head.one rfl rfl (GSpec.plain rfl (spec_move rfl (Get.tmp rfl)))
            apply Head.one rfl rfl (GSpec.guard rfl rfl rfl fun hg => (spec_fieldAddr (f := 0) (off' := 0) rfl Tryz.underlying66 rfl Tryz.sizeOf3 (Get.tmp rfl) rfl))
            apply Head.one rfl rfl (GSpec.guard rfl rfl rfl fun hg => (spec_load1 (k := 0) rfl Tryz.isAgg3 (Get.opt rfl hg) rfl rfl))
            apply Head.one rfl rfl (GSpec.guard rfl rfl rfl fun hg => (spec_eql rfl (Get.opt rfl hg) (Get.cint rfl)))
            apply Head.one rfl rfl (GSpec.plain rfl (spec_or rfl (Get.tmp rfl) (fun hb => (Get.opt rfl hb))))
            apply Head.one rfl rfl (GSpec.plain rfl (spec_move rfl (Get.tmp rfl)))
            apply Head.one rfl rfl (GSpec.guard rfl rfl rfl fun hg => (spec_move rfl (Get.tmp rfl)))
            apply Head.one rfl rfl (GSpec.guard rfl rfl rfl fun hg => (spec_nilCheck rfl (Get.opt rfl hg)))
            apply Head.one rfl rfl (GSpec.guard rfl rfl rfl fun hg => (spec_fieldAddr (f := 4) (off' := 4) rfl Tryz.underlying132 rfl Tryz.sizeOf25 (Get.opt rfl hg) rfl))
            apply Head.one rfl rfl (GSpec.guard rfl rfl rfl fun hg => (spec_load1 (k := 1) rfl Tryz.isAgg25 (Get.opt rfl hg) rfl rfl))
            apply Head.one rfl rfl (GSpec.guard rfl rfl rfl fun hg => (spec_fieldAddr (f := 2) (off' := 2) rfl Tryz.underlying66 rfl Tryz.sizeOf9 (Get.tmp rfl) rfl))
            apply Head.one rfl rfl (GSpec.guard rfl rfl rfl fun hg => (spec_load1 (k := 0) rfl Tryz.isAgg9 (Get.opt rfl hg) rfl rfl))
            apply Head.one rfl rfl (GSpec.guard rfl rfl rfl fun hg => (spec_call rfl Tryz.call133 (has8_ok _ _) (.cons (Get.opt rfl hg) (.cons (Get.opt rfl hg) .nil))))
            apply Head.one rfl rfl (GSpec.guard rfl rfl rfl fun hg => (spec_not rfl (Get.opt rfl hg)))
            apply Head.one rfl rfl (GSpec.plain rfl (spec_and rfl (Get.tmp rfl) (fun hb => (Get.opt rfl hb))))
            exact Head.nil
          refine Fin.one ?_
          refine Fin.one ?_
          refine Fin.one ?_
          refine Fin.one ?_
          refine Fin.one ?_
          refine Fin.one ?_
          refine Fin.one ?_
          refine Fin.one ?_
          refine Fin.one ?_
          refine Fin.one ?_
          refine Fin.one ?_
          refine Fin.one ?_
          refine Fin.one ?_
          refine Fin.one ?_
          refine Fin.one ?_
          refine Fin.one ?_
          refine Fin.one ?_
          refine Fin.one ?_
          refine Fin.nil ?_
          refine L.nt ?_
          refine W.keep (.cons (t := 0) rfl (.cons (t := 2) rfl (.cons (t := 4) rfl (.cons (t := 76) rfl .nil)))) .refl ?_
          refine W.cond (Get.tmp rfl) (fun h12 => ?_) (fun h12 => ?_)
          · exfalso; have h := h12; simp [har.1, har.2] at h
          · have ph12 := h12; try simp only [sbx] at ph12
            refine W.skip ?_
            refine N.mid ⟨(⟨IntKind.i64.wrap (s.n + 1), s.d, s.vs⟩, va), by unfold stepW; rw [if_neg hdp, if_neg hnv]⟩ ?hs7 ?hp7
            case hs7 => exact (.cons (t := 0) rfl (.cons (t := 2) rfl (.cons (t := 4) rfl .nil)))
            case hp7 => exact (.cons 1 rfl (.cons 1 rfl (.cons 0 rfl .nil)))
        intro ⟨⟨s1, v1⟩, hs1⟩
        try dsimp only
        dsimp only at hs1
        subst hs1
        refine W.sr ?_
        refine L.p1 rfl rfl rfl (spec_assign rfl (Get.cint rfl)) ?_
        refine L.nt ?_
        refine W.block ?_
        refine W.loopK (σ := Nat × Value) (.cons (t := 0) rfl (.cons (t := 2) rfl (.cons (t := 4) rfl .nil))) (fun z => [(6, Rp.int .i64 (z.1 : Nat))]) (fun z => [MF.box r 132 (walkR ((e.args.take z.1).foldl (fun s a => seeX a (IntKind.i64.wrap (d + 1)) s) (stepW e d s)) z.2), MF.osl z.2 9 1 eS ((e.args.take z.1).foldl (fun s a => seeX a (IntKind.i64.wrap (d + 1)) s) (stepW e d s)).vs]) (fun z => z.1 ≤ e.args.length) (fun z => e.args.length - z.1) (0, v1) (Nat.zero_le _) (.cons (t := 6) rfl .nil) (.cons 0 rfl (.cons 0 rfl (.cons 0 rfl .nil))) ?_
        intro ⟨i, vc⟩ hI S' M' hS hM
        try dsimp only at hS hM
        simp only [List.cons_append, List.nil_append] at hS hM
        subst hS hM
        try dsimp only
        try dsimp only at hI
        have hst := szL_take e.args i
        have hsl := step_len e d s
        have hfl := fold_len (d := IntKind.i64.wrap (d + 1)) (e.args.take i) (stepW e d s) fun a _ s => see_len a _ s
        refine W.seq ?_
        refine W.sr ?_
        refine L.mv rfl rfl rfl rfl rfl ?_
        refine L.p1 rfl rfl rfl (spec_fieldAddr (f := 3) (off' := 3) rfl Tryz.underlying66 rfl Tryz.sizeOf64 (Get.tmp rfl) rfl) ?_
        refine L.p1 rfl rfl rfl (Spec.eq (exs_eq _) (spec_load1 (k := 2) rfl Tryz.isAgg64 (Get.tmp rfl) rfl rfl)) ?_
        refine L.p1 rfl rfl rfl (spec_len rfl Tryz.underlying64 (Get.tmp rfl)) ?_
        refine L.p1 rfl rfl rfl (spec_lss rfl (Get.tmp rfl) (Get.tmp rfl)) ?_
        refine L.nt ?_
        refine W.cond (Get.tmp rfl) (fun h13 => ?_) (fun h13 => ?_)
        · have hlt : i < e.args.length := by have h := of_decide_eq_true h13; omega
          have hst2 := hst hlt
          refine W.skip ?_
          refine N.thenW ?_
          refine W.seq ?_
          refine W.block ?_
          refine W.region ?_
          refine L.mv rfl rfl rfl rfl rfl ?_
          refine L.p1 rfl rfl rfl (spec_fieldAddr (f := 3) (off' := 3) rfl Tryz.underlying66 rfl Tryz.sizeOf64 (Get.tmp rfl) rfl) ?_
          refine L.p1 rfl rfl rfl (Spec.eq (exs_eq _) (spec_load1 (k := 2) rfl Tryz.isAgg64 (Get.tmp rfl) rfl rfl)) ?_
          refine L.mv rfl rfl rfl rfl rfl ?_
          refine L.p1 rfl rfl rfl (spec_indexAddrD (E := eX) rfl Tryz.underlying64 Tryz.sizeOf66 (fun _ => rfl) (Get.tmp rfl) (Get.tmp rfl) (by (first | omega | (simp only [Int.toNat_natCast]; omega)))) ?_
          refine L.p1 rfl rfl rfl (spec_loadPA rfl Tryz.isAgg66 Tryz.sizeOf66 (Get.tmp rfl) rfl) ?_
          refine L.mv rfl rfl rfl rfl rfl ?_
          refine L.p1 rfl rfl rfl (spec_add rfl (Get.tmp rfl) (Get.cint rfl)) ?_
          refine L.call rfl rfl rfl rfl Tryz.call116 (ih (e.args.getD i default) (getD_mem' (by omega)) (hsub _ (getD_mem' (by omega))) r vc _ ((e.args.take i).foldl (fun s a => seeX a (IntKind.i64.wrap (d + 1)) s) (stepW e d s)) (by omega)) (.cons 0 rfl (.cons 0 rfl .refl)) (.cons (Get.tmp rfl) (.cons (Get.tmp rfl) (.cons (Get.tmp rfl) .nil))) (fun v103 => ?_)
          try dsimp only
          refine L.nil ?_
          refine N.blockNormal ?_
          refine N.thenW ?_
          refine W.region ?_
          refine L.mv rfl rfl rfl rfl rfl ?_
          first | refine L.op1 rfl rfl (GSpec.plain rfl (fit_i64 (by (first | omega | (simp only [Int.toNat_natCast]; omega))) (by (first | omega | (simp only [Int.toNat_natCast]; omega))) (spec_add rfl (Get.tmp rfl) (Get.cint rfl)))) ?_ | refine L.op1 rfl rfl (GSpec.plain rfl (spec_add rfl (Get.tmp rfl) (Get.cint rfl))) ?_
          refine L.as rfl rfl rfl rfl rfl ?_
          refine L.nil ?_
          refine N.roundK (i + 1, v103) ?hI8 ?hmu8 ?hs8 ?hk8 ?hp8
          case hs8 => exact (.cons (t := 6) rfl .nil)
          case hk8 => exact (.cons (t := 0) rfl (.cons (t := 2) rfl (.cons (t := 4) rfl .nil)))
          case hp8 => dsimp only; rw [fold_take _ _ (show i < e.args.length by omega)]; exact (.cons 0 rfl (.cons 0 rfl (.cons 0 rfl .nil)))
          case hI8 => dsimp only; omega
          case hmu8 => dsimp only; omega
        · have hlt : ¬ i < e.args.length := by have h := of_decide_eq_false h13; omega
          have hi : i = e.args.length := by omega
          subst hi
          rw [List.take_length, ← seeX_eq]
          refine W.exit ?_
          refine N.thenExit ?_
          refine N.thenExit ?_
          refine N.blockExit ?_
          refine N.ret (X := (seeA _ _)) vc rfl .nil res0 (.cons 0 rfl (.cons 0 rfl .nil)) (fun _ _ h => h)
          skip
    · exfalso; have h := h8; simp at h

end Go.Proofs.YthlfacmpjehjmaaGreatDoor
set_option linter.unusedSimpArgs false
set_option maxRecDepth 8000
set_option linter.unusedVariables false
namespace Go.Proofs.YthlfacmpjehjmaaGreatDoor
open Go.Sim
theorem value_ok (env : List Sg) : ∀ (e : Ex), GX (fun s => (findS env s).2 = true) e → CallT Tryz.prog 137 [Rp.agg (eX e), Rp.slice eSg env] [] (.one (Rp.tuple [Rp.int .i64 (valX env e), Rp.int .i64 0])) := by
  refine Ex.ind fun e ih hg => ?_
  obtain ⟨_, hop, hsub⟩ := hg
  have hal := gx_len hop
  refine W.enter (fn := Tryz.f137) (n := 47) Tryz.func137 rfl Tryz.ntmps137 rfl (fun w₀ C₀ => ?_)
  simp only [argS]
  refine W.sr ?_
  refine L.box rfl rfl (GSpec.plain rfl (spec_box rfl (GetC.agg (Get.tmp rfl)))) (fun r2 => ?_)
  refine L.p1 rfl rfl rfl (spec_assign rfl (Get.cint rfl)) ?_
  refine L.p1 rfl rfl rfl (spec_assign rfl (Get.cint rfl)) ?_
  refine L.nt ?_
  refine W.sr ?_
  refine L.p1 rfl rfl rfl (spec_assign rfl Get.cval) ?_
  refine L.nt ?_
  refine W.nil 3 1 eI ?_
  refine W.seq ?_
  refine W.sr ?_
  refine L.p1 rfl rfl rfl (spec_assign rfl (Get.cint rfl)) ?_
  refine L.nt ?_
  refine W.block ?_
  refine W.loopK (σ := Nat × Value) (.cons (t := 1) rfl (.cons (t := 2) rfl .nil)) (fun z => [(7, Rp.int .i64 (z.1 : Nat)), (6, Rp.val z.2)]) (fun z => [MF.osl z.2 3 1 eI ((e.args.map (valX env)).take z.1)]) (fun z => z.1 ≤ e.args.length) (fun z => e.args.length - z.1) (0, .slice none 0 0) (Nat.zero_le _) (.cons (t := 7) rfl (.cons (t := 6) rfl .nil)) (.cons 0 rfl (.cons 0 rfl .nil)) ?_
  intro ⟨i, vo⟩ hI S' M' hS hM
  try dsimp only at hS hM
  simp only [List.cons_append, List.nil_append] at hS hM
  subst hS hM
  try dsimp only
  try dsimp only at hI
  have hlm : (e.args.map (valX env)).length = e.args.length := List.length_map _
  refine W.seq ?_
  refine W.sr ?_
  refine L.mv rfl rfl rfl rfl rfl ?_
  refine L.p1 rfl rfl rfl (spec_fieldAddr (f := 3) (off' := 3) rfl Tryz.underlying66 rfl Tryz.sizeOf64 (Get.tmp rfl) rfl) ?_
  refine L.p1 rfl rfl rfl (Spec.eq (exs_eq _) (spec_load1 (k := 1) rfl Tryz.isAgg64 (Get.tmp rfl) rfl rfl)) ?_
  refine L.p1 rfl rfl rfl (spec_len rfl Tryz.underlying64 (Get.tmp rfl)) ?_
  refine L.p1 rfl rfl rfl (spec_lss rfl (Get.tmp rfl) (Get.tmp rfl)) ?_
  refine L.nt ?_
  refine W.cond (Get.tmp rfl) (fun h1 => ?_) (fun h1 => ?_)
  · have ph1 := h1; try simp only [sbx] at ph1
    refine W.skip ?_
    refine N.thenW ?_
    refine W.seq ?_
    refine W.block ?_
    refine W.sr ?_
    refine L.p1 rfl rfl rfl (spec_fieldAddr (f := 3) (off' := 3) rfl Tryz.underlying66 rfl Tryz.sizeOf64 (Get.tmp rfl) rfl) ?_
    refine L.p1 rfl rfl rfl (Spec.eq (exs_eq _) (spec_load1 (k := 1) rfl Tryz.isAgg64 (Get.tmp rfl) rfl rfl)) ?_
    refine L.mv rfl rfl rfl rfl rfl ?_
    refine L.p1 rfl rfl rfl (spec_indexAddrD (E := eX) rfl Tryz.underlying64 Tryz.sizeOf66 (fun _ => rfl) (Get.tmp rfl) (Get.tmp rfl) (by (first | omega | (simp only [Int.toNat_natCast]; omega)))) ?_
    refine L.p1 rfl rfl rfl (spec_loadPA rfl Tryz.isAgg66 Tryz.sizeOf66 (Get.tmp rfl) rfl) ?_
    refine L.mv rfl rfl rfl rfl rfl ?_
    refine L.p1 rfl rfl rfl (spec_call rfl Tryz.call137 (ih _ (getD_mem' (by omega)) (hsub _ (getD_mem' (by omega)))) (.cons (Get.tmp rfl) (.cons (Get.tmp rfl) .nil))) ?_
    refine L.mv rfl rfl rfl rfl rfl ?_
    refine L.p1 rfl rfl rfl (spec_extract rfl (Get.tmp rfl) rfl) ?_
    refine L.p1 rfl rfl rfl (spec_extract rfl (Get.tmp rfl) rfl) ?_
    refine L.as rfl rfl rfl rfl rfl ?_
    refine L.as rfl rfl rfl rfl rfl ?_
    refine L.nt ?_
    refine W.seq ?_
    refine W.sr ?_
    refine L.mv rfl rfl rfl rfl rfl ?_
    refine L.p1 rfl rfl rfl (spec_neq rfl (Get.tmp rfl) (Get.cint rfl)) ?_
    refine L.nt ?_
    refine W.cond (Get.tmp rfl) (fun h2 => ?_) (fun h2 => ?_)
    · exfalso; have h := h2; simp at h
    · have ph2 := h2; try simp only [sbx] at ph2
      refine W.skip ?_
      refine N.thenW ?_
      refine W.region ?_
      refine L.mv rfl rfl rfl rfl rfl ?_
      refine L.mv rfl rfl rfl rfl rfl ?_
      refine L.p1 rfl rfl rfl (spec_buildSlice1 (y := valX env (e.args.getD i default)) (E := eI) rfl Tryz.underlying92 ti3 z3 (by decide) (GetC.one (Get.tmp rfl)) (fun _ => rfl)) ?_
      refine L.append (k := 0) (E := eI) rfl rfl rfl rfl Tryz.underlying92 ti3 rfl (by decide) (fun _ => rfl) (Get.tmp rfl) (Get.tmp rfl) rfl (by (simp only [List.length_take, List.length_cons, List.length_nil]; omega)) (by (simp only [List.length_take, List.length_cons, List.length_nil]; omega)) (fun v33 => ?_)
      refine L.as rfl rfl rfl rfl rfl ?_
      refine L.nil ?_
      refine N.blockNormal ?_
      refine N.thenW ?_
      refine W.region ?_
      refine L.mv rfl rfl rfl rfl rfl ?_
      first | refine L.op1 rfl rfl (GSpec.plain rfl (fit_i64 (by (first | omega | (simp only [Int.toNat_natCast]; omega))) (by (first | omega | (simp only [Int.toNat_natCast]; omega))) (spec_add rfl (Get.tmp rfl) (Get.cint rfl)))) ?_ | refine L.op1 rfl rfl (GSpec.plain rfl (spec_add rfl (Get.tmp rfl) (Get.cint rfl))) ?_
      refine L.as rfl rfl rfl rfl rfl ?_
      refine L.nil ?_
      refine N.roundK (i + 1, v33) ?hI1 ?hmu1 ?hs1 ?hk1 ?hp1
      case hs1 => exact (.cons (t := 7) rfl (.cons (t := 6) rfl .nil))
      case hk1 => exact (.cons (t := 1) rfl (.cons (t := 2) rfl .nil))
      case hp1 => dsimp only; rw [take_succ (show i < (e.args.map (valX env)).length by omega), map_getD' _ (show i < e.args.length by omega)]; exact (.cons 0 rfl (.cons 0 rfl .nil))
      case hI1 => dsimp only; omega
      case hmu1 => dsimp only; omega
  · have ph1 := h1; try simp only [sbx] at ph1
    refine W.exit ?_
    refine N.thenExit ?_
    refine N.thenExit ?_
    refine N.blockExit ?_
    refine N.thenW ?_
    have hi : i = e.args.length := by omega
    subst hi
    rw [← List.length_map (f := valX env), List.take_length]
    refine W.pub (t := 6) (k := 0) rfl rfl (fun _ => rfl) ?_
    refine W.keep (.cons (t := 1) rfl (.cons (t := 2) rfl (.cons (t := 6) rfl .nil))) .refl ?_
    refine W.seq ?_
    refine W.sr ?_
    refine L.p1 rfl rfl rfl (spec_fieldAddr (f := 0) (off' := 0) rfl Tryz.underlying66 rfl Tryz.sizeOf3 (Get.tmp rfl) rfl) ?_
    refine L.p1 rfl rfl rfl (spec_load1 (k := 0) rfl Tryz.isAgg3 (Get.tmp rfl) rfl rfl) ?_
    refine L.p1 rfl rfl rfl (spec_call rfl Tryz.call156 (asks_ok _) (.cons (Get.tmp rfl) .nil)) ?_
    refine L.nt ?_
    refine W.cond (Get.tmp rfl) (fun h3 => ?_) (fun h3 => ?_)
    · have hlf : e.op = 1 ∨ (e.op = 2 ∧ (findS env e.name).2 = true) := by rcases hop with q | q | q; exact .inl q.1; exact .inr ⟨q.1, q.2.2⟩; have h := h3; rw [asks_no q] at h; cases h
      refine W.sr ?_
      refine L.p1 rfl rfl rfl (spec_loadW (k := 0) rfl Tryz.isAgg66 Tryz.sizeOf66 (Get.tmp rfl) rfl rfl) ?_
      refine L.mv rfl rfl rfl rfl rfl ?_
      refine L.mv rfl rfl rfl rfl rfl ?_
      refine L.p1 rfl rfl rfl (spec_call rfl Tryz.call157 (leaf_ok _ _ _ hlf) (.cons (Get.tmp rfl) (.cons (Get.tmp rfl) (.cons (Get.tmp rfl) .nil)))) ?_
      refine L.p1 rfl rfl rfl (spec_extract rfl (Get.tmp rfl) rfl) ?_
      refine L.p1 rfl rfl rfl (spec_extract rfl (Get.tmp rfl) rfl) ?_
      refine L.as rfl rfl rfl rfl rfl ?_
      refine L.as rfl rfl rfl rfl rfl ?_
      refine L.nt ?_
      refine W.keep (.cons (t := 2) rfl (.cons (t := 4) rfl (.cons (t := 5) rfl (.cons (t := 6) rfl .nil)))) .refl ?_
      refine W.ret ?_
      refine N.ret () rfl (.tmp (t := 4) (Get.tmp rfl) (.tmp (t := 5) (Get.tmp rfl) .nil)) (res2w (eqI ?_) (eqI ?_)) .nil (fun _ _ h => h)
      all_goals rfl
    · have hop2 : OpOk e.op (e.args.map (valX env)).length := by rw [List.length_map]; have h := h3; unfold asksE at h; simp only [Bool.or_eq_false_iff, decide_eq_false_iff_not] at h; rcases hop with q | q | q; exact absurd q.1 h.1; exact absurd q.1 h.2.1.1; exact q
      have hne : e.op ≠ 1 ∧ e.op ≠ 2 := by unfold OpOk BinOp at hop2; omega
      refine W.skip ?_
      refine N.thenW ?_
      refine W.sr ?_
      refine L.p1 rfl rfl rfl (spec_fieldAddr (f := 0) (off' := 0) rfl Tryz.underlying66 rfl Tryz.sizeOf3 (Get.tmp rfl) rfl) ?_
      refine L.p1 rfl rfl rfl (spec_load1 (k := 0) rfl Tryz.isAgg3 (Get.tmp rfl) rfl rfl) ?_
      refine L.mv rfl rfl rfl rfl rfl ?_
      refine L.p1 rfl rfl rfl (spec_call rfl Tryz.call158 (operate_ok _ _ (by assumption)) (.cons (Get.tmp rfl) (.cons (Get.tmp rfl) .nil))) ?_
      refine L.as rfl rfl rfl rfl rfl ?_
      refine L.p1 rfl rfl rfl (spec_assign rfl (Get.cint rfl)) ?_
      refine L.nt ?_
      refine W.keep (.cons (t := 4) rfl (.cons (t := 5) rfl .nil)) .refl ?_
      refine W.ret ?_
      refine N.ret () rfl (.tmp (t := 4) (Get.tmp rfl) (.tmp (t := 5) (Get.tmp rfl) .nil)) (res2w (eqI ?_) (eqI ?_)) .nil (fun _ _ h => h)
      all_goals first | rfl | rw [valX_eq, if_neg hne.1, if_neg hne.2]

end Go.Proofs.YthlfacmpjehjmaaGreatDoor
