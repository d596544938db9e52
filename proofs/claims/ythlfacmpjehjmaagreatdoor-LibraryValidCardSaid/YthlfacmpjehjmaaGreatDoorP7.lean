/- Lemmas for the claim, part 7: rules for walks, contracts of functions, the data they compute. No conditions. -/
import Derived.Test.YthlfacmpjehjmaaGreatDoorP2
import Derived.Test.YthlfacmpjehjmaaGreatDoorP3
import Derived.Test.YthlfacmpjehjmaaGreatDoorP6
/- Tables of numbers in package variables: a ghost fact, and reading an entry. -/
set_option linter.unusedSimpArgs false
set_option linter.unusedVariables false
namespace Go.Sim
theorem byte_ix (b : UInt8) : 0 ≤ ((b.toNat : Nat) : Int) ∧ ((b.toNat : Nat) : Int) < ((256 : Nat) : Int) := by
  have := UInt8.toNat_lt b; omega
section
variable {P : Program} {M : List MF} {o : Oper} {σ : Nat → Option Rp}
theorem spec_xor64 {T : TypeId} {x : Operand} {n : Int} (h : o.op = .unOp .xor T x) (hx : Get σ x (Rp.int .i64 n)) : Spec P σ M o (.one (Rp.int .i64 (bitsOf .xor .i64 (-1) n))) :=
  Spec.of_run fun a w C hs _ => ⟨.int .i64 (bitsOf .xor .i64 (-1) n), by
    have := (hx a w C hs).1
    simp [execOp, h, this, Op.unary, Op.intBits, bitsOf, IntKind.signed], rfl, in_wrap _ _⟩
theorem spec_indexAddrG {T e n g k : Nat} {io : Operand} {kk ke : IntKind} {i : Int} {zs : List Int} (h : o.op = .indexAddr T (.global g) io) (hu : P.underlying T = some (.array n e)) (hn : ∀ w, (sizeOf e).run P w = .ok 1 w)
    (hk : M[k]? = some (MF.glob g (zs.map (Rp.int ke)))) (hi : Get σ io (Rp.int kk i)) (hr : 0 ≤ i ∧ i < n) (hl : n ≤ zs.length) : Spec P σ M o (.one (Rp.at [Rp.int ke (zs.getD i.toNat 0)])) :=
  Spec.of_run fun a w C hs hm => by
    obtain ⟨ad, hv, hrow⟩ := get_glob (a := a) hk hm
    have hil : i.toNat < zs.length := by omega
    refine ⟨.pointer (some (ad.add (i.toNat * 1))), by simp [execOp, h, hv, get_int hi hs, Instr.indexAt, asIntOf, run_underlying hu, hn, hr.1, hr.2, Instr.sureAddr], _, rfl, ?_⟩
    have h2 := rowAt_sub (i.toNat * 1) 1 (by simp; omega) hrow
    have e : ((zs.map (Rp.int ke)).drop (i.toNat * 1)).take 1 = [Rp.int ke (zs.getD i.toNat 0)] := by
      rw [Nat.mul_one, List.drop_eq_getElem_cons (by simpa using hil)]
      simp [List.getD, hil]
    rwa [e] at h2
theorem spec_indexAA {α : Type} [Inhabited α] {T e n sz : Nat} {x ix : Operand} {E : α → List Rp} {xs : List α} {k : IntKind} {i : Int} (h : o.op = .index T x ix) (hu : P.underlying T = some (.array n e)) (hs : ∀ w, (sizeOf e).run P w = .ok sz w) (ha : ∀ w, (isAgg e).run P w = .ok true w)
    (hE : ∀ x, (E x).length = sz) (hx : Get σ x (Rp.agg (xs.flatMap E))) (hi : Get σ ix (Rp.int k i)) (hr : 0 ≤ i ∧ i < n) (hl : n ≤ xs.length) : Spec P σ M o (.one (Rp.agg (E (xs.getD i.toNat default)))) :=
  Spec.of_run fun a w C hsl _ => by
    obtain ⟨cs, hv, hcs⟩ := hx a w C hsl
    have hy : xs[i.toNat]? = some (xs.getD i.toNat default) := getD_some ⟨hr.1, by omega⟩
    have h2 := hcs.sub (i.toNat * sz) sz
    rw [flatMap_one hE xs hy] at h2
    exact ⟨.agg ((cs.drop (i.toNat * sz)).take sz).toArray, by
      simp [execOp, h, hv, Instr.index, get_int hi hsl, asIntOf, run_underlying hu, hr.1, hr.2, hs, part, ha, asAgg], _, rfl, h2⟩
end
theorem tab_row {k : IntKind} (W : World) (C : Nat → Prop) : ∀ (zs : List Int), (∀ z ∈ zs, InR k z) → AllR (zs.map (Rp.int k)) W C (zs.map fun z => Value.int k z)
  | [], _ => ⟨trivial, fun v hv => by cases hv⟩
  | z :: r, h => by
    have h2 := tab_row W C r fun x hx => h x (List.mem_cons_of_mem _ hx)
    refine ⟨⟨⟨rfl, h z List.mem_cons_self⟩, h2.1⟩, fun v hv => ?_⟩
    rcases List.mem_cons.1 hv with rfl | hv
    · rfl
    · exact h2.2 v hv
theorem glob_tab {P : Program} {W : World} {n : String} {g : Nat} {k : IntKind} {zs : List Int} (hg : P.globalNamed n = some g) (ht : Lib.TabIs P W n k zs) (hz : ∀ z ∈ zs, InR k z) : (MF.glob g (zs.map (Rp.int k))).p W (old W) := by
  unfold Lib.TabIs World.var? at ht
  rw [hg, Option.bind_some] at ht
  split at ht
  · rename_i cs' T fr hh
    cases ht
    refine ⟨rfl, (Array.getElem?_eq_some_iff.1 hh).1, _, T, fr, hh, ?_⟩
    show AllR (zs.map (Rp.int k)) W (old W) (((zs.map fun z => Value.int k z).drop 0).take (zs.map (Rp.int k)).length)
    rw [List.drop_zero, List.take_of_length_le (by simp)]
    exact tab_row W (old W) zs hz
  · cases ht
/-! Arrays of two numbers: equality. -/
theorem equal_ints {P : Program} {e : TypeId} {k kk : IntKind} {a b : Int} {d : Nat} {w : World} (he : P.underlying e = some (.int kk)) : (Op.equalIn (d + 1) e (.int k a) (.int k b)).run P w = .ok (decide (a = b)) w := by
  simp [Op.equalIn, run_underlying he]
  rfl
theorem equal_pairN {P : Program} {T e n : Nat} {k : IntKind} {a b c d : Int} {w : World} (hu : P.underlying T = some (.array 2 e)) (hn : ∀ w, (sizeOf e).run P w = .ok 1 w) (ha : ∀ w, (isAgg e).run P w = .ok false w)
    (h0 : ∀ a b, (Op.equalIn n e (.int k a) (.int k b)).run P w = .ok (decide (a = b)) w) :
    (Op.equalIn (n + 1) T (.agg #[.int k a, .int k b]) (.agg #[.int k c, .int k d])).run P w = .ok (decide (a = c) && decide (b = d)) w := by
  simp [Op.equalIn, run_underlying hu, hn, Std.Legacy.Range.forIn_eq_forIn_range', Std.Legacy.Range.size, List.range', part, ha, h0]
  by_cases h1 : a = c
  · by_cases h2 : b = d
    · simp [h1, h2]
    · simp [h1, h2]
  · simp [h1]
theorem equal_pair {P : Program} {T e : Nat} {k kk : IntKind} {a b c d : Int} {w : World} (hu : P.underlying T = some (.array 2 e)) (he : P.underlying e = some (.int kk)) (hn : ∀ w, (sizeOf e).run P w = .ok 1 w) (ha : ∀ w, (isAgg e).run P w = .ok false w) :
    (Op.equal T (.agg #[.int k a, .int k b]) (.agg #[.int k c, .int k d])).run P w = .ok (decide (a = c) && decide (b = d)) w :=
  equal_pairN (n := 9999) hu hn ha fun a b => equal_ints (d := 9998) he
section
variable {P : Program} {M : List MF} {o : Oper} {σ : Nat → Option Rp}
theorem spec_eqlP {T T' e : TypeId} {x y : Operand} {k kk : IntKind} {n m : Int × Int} (h : o.op = .binOp .eql T x y T') (hu : P.underlying T = some (.array 2 e)) (he : P.underlying e = some (.int kk)) (hn : ∀ w, (sizeOf e).run P w = .ok 1 w) (ha : ∀ w, (isAgg e).run P w = .ok false w) (hg : P.eqGuardType P.depth T = false)
    (hx : Get σ x (Rp.agg [Rp.int k n.1, Rp.int k n.2])) (hy : Get σ y (Rp.agg [Rp.int k m.1, Rp.int k m.2])) : Spec P σ M o (.one (Rp.bool (decide (n = m)))) :=
  Spec.of_run fun a w C hs _ => by
    obtain ⟨xs, hvx, hxs⟩ := hx a w C hs
    obtain ⟨ys, hvy, hys⟩ := hy a w C hs
    match xs, ys, hxs.1, hys.1 with
    | [x1, x2], [y1, y2], ⟨⟨h1, _⟩, ⟨h2, _⟩, _⟩, ⟨⟨h3, _⟩, ⟨h4, _⟩, _⟩ =>
      subst h1 h2 h3 h4
      have e := equal_pair (a := n.1) (b := n.2) (c := m.1) (d := m.2) (k := k) (w := w) hu he hn ha
      refine ⟨.bool (decide (n.1 = m.1) && decide (n.2 = m.2)), ?_, ?_⟩
      · simp only [execOp, h, hvx, hvy, Sem.run_bind, binOp, eqGuard_agg hg, Result.andThen_ok, e, Sem.run_pure]
      · show _ = _
        congr 1
        rw [Bool.eq_iff_iff]; simp [Prod.ext_iff]
theorem spec_neqP {T T' e : TypeId} {x y : Operand} {k kk : IntKind} {n m : Int × Int} (h : o.op = .binOp .neq T x y T') (hu : P.underlying T = some (.array 2 e)) (he : P.underlying e = some (.int kk)) (hn : ∀ w, (sizeOf e).run P w = .ok 1 w) (ha : ∀ w, (isAgg e).run P w = .ok false w) (hg : P.eqGuardType P.depth T = false)
    (hx : Get σ x (Rp.agg [Rp.int k n.1, Rp.int k n.2])) (hy : Get σ y (Rp.agg [Rp.int k m.1, Rp.int k m.2])) : Spec P σ M o (.one (Rp.bool (!decide (n = m)))) :=
  Spec.of_run fun a w C hs _ => by
    obtain ⟨xs, hvx, hxs⟩ := hx a w C hs
    obtain ⟨ys, hvy, hys⟩ := hy a w C hs
    match xs, ys, hxs.1, hys.1 with
    | [x1, x2], [y1, y2], ⟨⟨h1, _⟩, ⟨h2, _⟩, _⟩, ⟨⟨h3, _⟩, ⟨h4, _⟩, _⟩ =>
      subst h1 h2 h3 h4
      have e := equal_pair (a := n.1) (b := n.2) (c := m.1) (d := m.2) (k := k) (w := w) hu he hn ha
      refine ⟨.bool (!(decide (n.1 = m.1) && decide (n.2 = m.2))), ?_, ?_⟩
      · simp only [execOp, h, hvx, hvy, Sem.run_bind, binOp, eqGuard_agg hg, Result.andThen_ok, e, Sem.run_pure]
      · show _ = _
        congr 1; congr 1
        rw [Bool.eq_iff_iff]; simp [Prod.ext_iff]
end
end Go.Sim
set_option linter.unusedSimpArgs false
set_option maxRecDepth 8000
set_option linter.unusedVariables false
namespace Go.Proofs.YthlfacmpjehjmaaGreatDoor
open Go.Sim
theorem smallT_ok (m : Nat) (h : m ≤ 9) : CallT Tryz.prog 124 [Rp.int .i64 (m : Int)] [] (.one (Rp.str (digT m))) := by
  refine W.enter (fn := Tryz.f124) (n := 15) Tryz.func124 rfl Tryz.ntmps124 rfl (fun w₀ C₀ => ?_)
  simp only [argS]
  refine W.seq ?_
  refine W.region ?_
  refine L.op1 rfl rfl (GSpec.plain rfl (spec_assign rfl (Get.cstr (l := []) rfl rfl))) ?_
  refine L.nil ?_
  refine N.thenW ?_
  refine W.seq ?_
  refine W.seq ?_
  refine W.region ?_
  refine L.op1 rfl rfl (GSpec.plain rfl (spec_move rfl (Get.tmp rfl))) ?_
  refine L.op1 rfl rfl (GSpec.plain rfl (spec_lss rfl (Get.tmp rfl) (Get.cint rfl))) ?_
  refine L.nil ?_
  refine N.thenW ?_
  refine W.cond (Get.tmp rfl) (fun h1 => ?_) (fun h1 => ?_)
  · have ph1 := h1; try simp only [decide_eq_true_eq, decide_eq_false_iff_not, Bool.and_eq_true, Bool.or_eq_true, Bool.and_eq_false_iff, Bool.or_eq_false_iff, Bool.not_eq_true', Bool.not_eq_false', Bool.not_true, Bool.not_false, Int.not_lt, Int.not_le] at ph1
    refine W.seq ?_
    refine W.region ?_
    refine L.op1 rfl rfl (GSpec.plain rfl (spec_move rfl (Get.tmp rfl))) ?_
    refine L.op1 rfl rfl (GSpec.plain rfl (spec_move rfl (Get.tmp rfl))) ?_
    first | refine L.op1 rfl rfl (GSpec.plain rfl (fit_i64 (by (first | omega | (simp only [List.length_cons, List.length_nil]; omega))) (by (first | omega | (simp only [List.length_cons, List.length_nil]; omega))) (spec_add rfl (Get.tmp rfl) (Get.cint rfl)))) ?_ | refine L.op1 rfl rfl (GSpec.plain rfl (spec_add rfl (Get.tmp rfl) (Get.cint rfl))) ?_
    refine L.op1 rfl rfl (GSpec.plain rfl (spec_sliceS rfl Tryz.underlying9 (Get.cstr (l := [48, 49, 50, 51, 52, 53, 54, 55, 56, 57, 97, 98, 99, 100, 101, 102, 103, 104, 105, 106, 107, 108, 109, 110, 111, 112, 113, 114, 115, 116, 117, 118, 119, 120, 121, 122]) rfl rfl) (.some (Get.tmp rfl) (by (first | omega | (simp only [List.length_cons, List.length_nil]; omega)))) (.some (Get.tmp rfl) (by (first | omega | (simp only [List.length_cons, List.length_nil]; omega)))) (by (first | omega | (simp only [List.length_cons, List.length_nil]; omega))))) ?_
    refine L.op1 rfl rfl (GSpec.plain rfl (spec_assign rfl (Get.tmp rfl))) ?_
    refine L.nil ?_
    refine N.thenW ?_
    refine W.keep (.cons (t := 0) rfl (.cons (t := 2) rfl .nil)) .refl ?_
    refine W.ret ?_
    refine N.ret () rfl (.tmp (t := 2) (Get.tmp rfl) .nil) (res1 (eqS ?_)) .nil (fun _ _ h => h)
    exact small_dig h
  · exfalso; have h := of_decide_eq_false h1; omega

theorem fmtInt_ok (m : Nat) (h : m ≤ 9) : CallT Tryz.prog 108 [Rp.int .i64 (m : Int), Rp.int .i64 10] [] (.one (Rp.str (digT m))) := by
  refine W.enter (fn := Tryz.f108) (n := 54) Tryz.func108 rfl Tryz.ntmps108 rfl (fun w₀ C₀ => ?_)
  simp only [argS]
  refine W.seq ?_
  refine W.region ?_
  refine L.op1 rfl rfl (GSpec.plain rfl (spec_assign rfl (Get.cstr (l := []) rfl rfl))) ?_
  refine L.nil ?_
  refine N.thenW ?_
  refine W.seq ?_
  refine W.seq ?_
  refine W.region ?_
  refine L.op1 rfl rfl (GSpec.plain rfl (spec_move rfl (Get.tmp rfl))) ?_
  refine L.op1 rfl rfl (GSpec.plain rfl (spec_eql rfl (Get.tmp rfl) (Get.cint rfl))) ?_
  refine L.nil ?_
  refine N.thenW ?_
  refine W.cond (Get.tmp rfl) (fun h1 => ?_) (fun h1 => ?_)
  · have ph1 := h1; try simp only [decide_eq_true_eq, decide_eq_false_iff_not, Bool.and_eq_true, Bool.or_eq_true, Bool.and_eq_false_iff, Bool.or_eq_false_iff, Bool.not_eq_true', Bool.not_eq_false', Bool.not_true, Bool.not_false, Int.not_lt, Int.not_le] at ph1
    refine W.seq ?_
    refine W.seq ?_
    refine W.region ?_
    refine L.op1 rfl rfl (GSpec.plain rfl (spec_move rfl (Get.tmp rfl))) ?_
    refine L.op1 rfl rfl (GSpec.plain rfl (spec_leq rfl (Get.cint rfl) (Get.tmp rfl))) ?_
    refine L.op1 rfl rfl (GSpec.plain rfl (spec_move rfl (Get.tmp rfl))) ?_
    refine L.op1 rfl rfl (GSpec.guard rfl rfl rfl fun hg => (spec_move rfl (Get.tmp rfl))) ?_
    refine L.op1 rfl rfl (GSpec.guard rfl rfl rfl fun hg => (spec_lss rfl (Get.opt rfl hg) (Get.cint rfl))) ?_
    refine L.op1 rfl rfl (GSpec.plain rfl (spec_and rfl (Get.tmp rfl) (fun hb => (Get.opt rfl hb)))) ?_
    refine L.nil ?_
    refine N.thenW ?_
    refine W.keep (.cons (t := 0) rfl (.cons (t := 1) rfl (.cons (t := 4) rfl (.cons (t := 17) rfl .nil)))) .refl ?_
    refine W.cond (Get.tmp rfl) (fun h2 => ?_) (fun h2 => ?_)
    · have ph2 := h2; try simp only [decide_eq_true_eq, decide_eq_false_iff_not, Bool.and_eq_true, Bool.or_eq_true, Bool.and_eq_false_iff, Bool.or_eq_false_iff, Bool.not_eq_true', Bool.not_eq_false', Bool.not_true, Bool.not_false, Int.not_lt, Int.not_le] at ph2
      refine W.seq ?_
      refine W.region ?_
      refine L.op1 rfl rfl (GSpec.plain rfl (spec_move rfl (Get.tmp rfl))) ?_
      refine L.op1 rfl rfl (GSpec.plain rfl (spec_call rfl Tryz.call124 (smallT_ok _ (by omega)) (.cons (Get.tmp rfl) .nil))) ?_
      refine L.op1 rfl rfl (GSpec.plain rfl (spec_assign rfl (Get.tmp rfl))) ?_
      refine L.nil ?_
      refine N.thenW ?_
      refine W.ret ?_
      refine N.ret () rfl (.tmp (t := 4) (Get.tmp rfl) .nil) (res1 (eqS ?_)) .nil (fun _ _ h => h)
      rfl
    · exfalso; have h := h2; rw [decide_eq_true (show (0 : Int) ≤ (m : Int) by omega), decide_eq_true (show (m : Int) < 100 by omega)] at h; cases h
  · exfalso; have h := of_decide_eq_false h1; omega

theorem itoa2_ok (m : Nat) (h : m ≤ 9) : CallT Tryz.prog 97 [Rp.int .i64 (m : Int)] [] (.one (Rp.str (digT m))) := by
  refine W.enter (fn := Tryz.f97) (n := 5) Tryz.func97 rfl Tryz.ntmps97 rfl (fun w₀ C₀ => ?_)
  simp only [argS]
  refine W.seq ?_
  refine W.region ?_
  refine L.op1 rfl rfl (GSpec.plain rfl (spec_assign rfl (Get.cstr (l := []) rfl rfl))) ?_
  refine L.nil ?_
  refine N.thenW ?_
  refine W.seq ?_
  refine W.region ?_
  refine L.op1 rfl rfl (GSpec.plain rfl (spec_move rfl (Get.tmp rfl))) ?_
  refine L.op1 rfl rfl (GSpec.plain rfl (spec_call rfl Tryz.call108 (fmtInt_ok _ (by omega)) (.cons (Get.tmp rfl) (.cons (Get.cint rfl) .nil)))) ?_
  refine L.op1 rfl rfl (GSpec.plain rfl (spec_assign rfl (Get.tmp rfl))) ?_
  refine L.nil ?_
  refine N.thenW ?_
  refine W.keep (.cons (t := 2) rfl .nil) .refl ?_
  refine W.ret ?_
  refine N.ret () rfl (.tmp (t := 2) (Get.tmp rfl) .nil) (res1 (eqS ?_)) .nil (fun _ _ h => h)
  rfl

theorem itoa_ok (m : Nat) (h : m ≤ 9) : CallT Tryz.prog 76 [Rp.int .i64 (m : Int)] [] (.one (Rp.str (digT m))) := by
  refine W.enter (fn := Tryz.f76) (n := 5) Tryz.func76 rfl Tryz.ntmps76 rfl (fun w₀ C₀ => ?_)
  simp only [argS]
  refine W.seq ?_
  refine W.region ?_
  refine L.op1 rfl rfl (GSpec.plain rfl (spec_assign rfl (Get.cstr (l := []) rfl rfl))) ?_
  refine L.nil ?_
  refine N.thenW ?_
  refine W.seq ?_
  refine W.region ?_
  refine L.op1 rfl rfl (GSpec.plain rfl (spec_move rfl (Get.tmp rfl))) ?_
  refine L.op1 rfl rfl (GSpec.plain rfl (spec_call rfl Tryz.call97 (itoa2_ok _ (by omega)) (.cons (Get.tmp rfl) .nil))) ?_
  refine L.op1 rfl rfl (GSpec.plain rfl (spec_assign rfl (Get.tmp rfl))) ?_
  refine L.nil ?_
  refine N.thenW ?_
  refine W.ret ?_
  refine N.ret () rfl (.tmp (t := 2) (Get.tmp rfl) .nil) (res1 (eqS ?_)) .nil (fun _ _ h => h)
  rfl

theorem indexed_ok (s : List UInt8) (i : Int) (h0 : 0 ≤ i) (h1 : i ≤ 9) (hs : s.length ≤ 10) : CallT Tryz.prog 43 [Rp.str s, Rp.int .i64 i] [] (.one (Rp.str (ixN s i.toNat))) := by
  refine W.enter (fn := Tryz.f43) (n := 9) Tryz.func43 rfl Tryz.ntmps43 rfl (fun w₀ C₀ => ?_)
  simp only [argS]
  obtain ⟨m, rfl⟩ : ∃ m : Nat, i = (m : Int) := ⟨i.toNat, by omega⟩
  refine W.seq ?_
  refine W.region ?_
  refine L.op1 rfl rfl (GSpec.plain rfl (spec_assign rfl (Get.cstr (l := []) rfl rfl))) ?_
  refine L.nil ?_
  refine N.thenW ?_
  refine W.seq ?_
  refine W.region ?_
  refine L.op1 rfl rfl (GSpec.plain rfl (spec_move rfl (Get.tmp rfl))) ?_
  refine L.op1 rfl rfl (GSpec.plain rfl (spec_move rfl (Get.tmp rfl))) ?_
  refine L.op1 rfl rfl (GSpec.plain rfl (spec_call rfl Tryz.call76 (itoa_ok _ (by omega)) (.cons (Get.tmp rfl) .nil))) ?_
  refine L.op1 rfl rfl (GSpec.plain rfl (spec_addS rfl (Get.tmp rfl) (Get.tmp rfl) (by (first | omega | (simp only [digT, List.length_cons, List.length_nil]; omega))))) ?_
  refine L.op1 rfl rfl (GSpec.plain rfl (spec_assign rfl (Get.tmp rfl))) ?_
  refine L.nil ?_
  refine N.thenW ?_
  refine W.keep (.cons (t := 4) rfl .nil) .refl ?_
  refine W.ret ?_
  refine N.ret () rfl (.tmp (t := 4) (Get.tmp rfl) .nil) (res1 (eqS ?_)) .nil (fun _ _ h => h)
  rfl

theorem ref_ok (s : List UInt8) : CallT Tryz.prog 35 [Rp.str s] [] (.one (Rp.agg (eX (refE s)))) := by
  refine W.enter (fn := Tryz.f35) (n := 5) Tryz.func35 rfl Tryz.ntmps35 rfl (fun w₀ C₀ => ?_)
  simp only [argS]
  refine W.seq ?_
  refine W.region ?_
  refine L.box rfl rfl (GSpec.plain rfl (spec_alloc rfl ti66 z66)) (fun r2 => ?_)
  refine L.nil ?_
  refine N.thenW ?_
  refine W.seq ?_
  refine W.region ?_
  refine L.op1 rfl rfl (GSpec.plain rfl (spec_move rfl (Get.tmp rfl))) ?_
  refine L.op1 rfl rfl (GSpec.plain rfl (spec_build (Rs := [_, Rp.int .i64 0, _, Rp.exs []]) rfl ti66 z66 Tryz.underlying66 pl66 (.cons (GetC.one (Get.cint rfl)) rfl rfl rfl (.cons (GetC.one (Get.tmp rfl)) rfl rfl rfl .nil)))) ?_
  refine L.storeW (k := 0) rfl rfl rfl Tryz.sizeOf66 (Get.tmp rfl) (Get.tmp rfl) rfl rfl rfl ?_
  refine L.nil ?_
  refine N.thenW ?_
  refine W.ret ?_
  refine N.ret () rfl (.cellA (k := 0) (Get.tmp (t := 2) rfl) rfl Tryz.isAgg66 Tryz.sizeOf66 rfl .nil) (res1 (eqA ?_)) .nil (fun _ _ h => h)
  rfl

theorem num_ok (n : Int) : CallT Tryz.prog 36 [Rp.int .i64 n] [] (.one (Rp.agg (eX (numE n)))) := by
  refine W.enter (fn := Tryz.f36) (n := 5) Tryz.func36 rfl Tryz.ntmps36 rfl (fun w₀ C₀ => ?_)
  simp only [argS]
  refine W.seq ?_
  refine W.region ?_
  refine L.box rfl rfl (GSpec.plain rfl (spec_alloc rfl ti66 z66)) (fun r2 => ?_)
  refine L.nil ?_
  refine N.thenW ?_
  refine W.seq ?_
  refine W.region ?_
  refine L.op1 rfl rfl (GSpec.plain rfl (spec_move rfl (Get.tmp rfl))) ?_
  refine L.op1 rfl rfl (GSpec.plain rfl (spec_build (Rs := [_, _, Rp.str [], Rp.exs []]) rfl ti66 z66 Tryz.underlying66 pl66 (.cons (GetC.one (Get.cint rfl)) rfl rfl rfl (.cons (GetC.one (Get.tmp rfl)) rfl rfl rfl .nil)))) ?_
  refine L.storeW (k := 0) rfl rfl rfl Tryz.sizeOf66 (Get.tmp rfl) (Get.tmp rfl) rfl rfl rfl ?_
  refine L.nil ?_
  refine N.thenW ?_
  refine W.keep (.cons (t := 2) rfl .nil) .refl ?_
  refine W.ret ?_
  refine N.ret () rfl (.cellA (k := 0) (Get.tmp (t := 2) rfl) rfl Tryz.isAgg66 Tryz.sizeOf66 rfl .nil) (res1 (eqA ?_)) .nil (fun _ _ h => h)
  rfl

theorem clone_ok (l : List Ex) (hl : l.length ≤ 100) : CallT Tryz.prog 79 [Rp.slice eX l] [] (.one (Rp.slice eX l)) := by
  refine W.enter (fn := Tryz.f79) (n := 8) Tryz.func79 rfl Tryz.ntmps79 rfl (fun w₀ C₀ => ?_)
  simp only [argS]
  refine W.seq ?_
  refine W.region ?_
  refine L.op1 rfl rfl (GSpec.plain rfl (spec_assign rfl (Get.cnil (E := eX)))) ?_
  refine L.nil ?_
  refine N.thenW ?_
  refine W.seq ?_
  refine W.seq ?_
  refine W.region ?_
  refine L.op1 rfl rfl (GSpec.plain rfl (spec_move rfl (Get.tmp rfl))) ?_
  refine L.op rfl rfl (GSpec.plain rfl (spec_eqlNil rfl Tryz.underlying64 (Get.tmp rfl))) (fun bn4 => ?_)
  refine L.nil ?_
  refine N.thenW ?_
  refine W.cond (Get.tmp rfl) (fun h1 => ?_) (fun h1 => ?_)
  · have ph1 := h1; try simp only [decide_eq_true_eq, decide_eq_false_iff_not, Bool.and_eq_true, Bool.or_eq_true, Bool.and_eq_false_iff, Bool.or_eq_false_iff, Bool.not_eq_true', Bool.not_eq_false', Bool.not_true, Bool.not_false, Int.not_lt, Int.not_le] at ph1
    refine W.seq ?_
    refine W.region ?_
    refine L.op1 rfl rfl (GSpec.plain rfl (spec_assign rfl (Get.cnil (E := eX)))) ?_
    refine L.nil ?_
    refine N.thenW ?_
    refine W.ret ?_
    refine N.ret () rfl (.tmp (t := 2) (Get.tmp rfl) .nil) (res1 (eqSl ?_)) .nil (fun _ _ h => h)
    exact (bn4.2 h1).symm
  · have ph1 := h1; try simp only [decide_eq_true_eq, decide_eq_false_iff_not, Bool.and_eq_true, Bool.or_eq_true, Bool.and_eq_false_iff, Bool.or_eq_false_iff, Bool.not_eq_true', Bool.not_eq_false', Bool.not_true, Bool.not_false, Int.not_lt, Int.not_le] at ph1
    refine W.skip ?_
    refine N.thenW ?_
    refine W.seq ?_
    refine W.region ?_
    refine L.op rfl rfl (GSpec.plain rfl (spec_buildSlice0 (E := eX) rfl Tryz.underlying64 Tryz.sizeOf66)) (fun v5 => ?_)
    refine L.op1 rfl rfl (GSpec.plain rfl (spec_move rfl (Get.tmp rfl))) ?_
    refine L.append (k := 0) (E := eX) rfl rfl rfl rfl Tryz.underlying64 ti66 rfl (by decide) (fun _ => rfl) (Get.tmp rfl) (Get.tmp rfl) rfl (by (first | omega | (simp; omega))) (by (first | omega | (simp; omega))) (fun v7 => ?_)
    refine L.pub (t := 7) (k := 0) rfl rfl (fun _ => rfl) ?_
    refine L.op1 rfl rfl (GSpec.plain rfl (spec_assign rfl (Get.tmp rfl))) ?_
    refine L.nil ?_
    refine N.thenW ?_
    refine W.keep (.cons (t := 2) rfl .nil) .refl ?_
    refine W.ret ?_
    refine N.ret () rfl (.tmp (t := 2) (Get.tmp rfl) .nil) (res1 (eqSl ?_)) .nil (fun _ _ h => h)
    first | rfl | simp

theorem node_ok (op : Int) (l : List Ex) (hl : l.length ≤ 100) : CallT Tryz.prog 60 [Rp.int .i64 op, Rp.slice eX l] [] (.one (Rp.agg (eX (nodeE op l)))) := by
  refine W.enter (fn := Tryz.f60) (n := 9) Tryz.func60 rfl Tryz.ntmps60 rfl (fun w₀ C₀ => ?_)
  simp only [argS]
  refine W.seq ?_
  refine W.region ?_
  refine L.box rfl rfl (GSpec.plain rfl (spec_alloc rfl ti66 z66)) (fun r4 => ?_)
  refine L.nil ?_
  refine N.thenW ?_
  refine W.seq ?_
  refine W.region ?_
  refine L.op1 rfl rfl (GSpec.plain rfl (spec_move rfl (Get.tmp rfl))) ?_
  refine L.op1 rfl rfl (GSpec.plain rfl (spec_move rfl (Get.tmp rfl))) ?_
  refine L.op1 rfl rfl (GSpec.plain rfl (spec_call rfl Tryz.call79 (clone_ok _ (by first | decide | omega | (simp; done))) (.cons (Get.tmp rfl) .nil))) ?_
  refine L.op1 rfl rfl (GSpec.plain rfl (spec_build (Rs := [_, Rp.int .i64 0, Rp.str [], _]) rfl ti66 z66 Tryz.underlying66 pl66 (.cons (GetC.one (Get.tmp rfl)) rfl rfl rfl (.cons (GetC.one (Get.eq (exs_eq _).symm (Get.tmp rfl))) rfl rfl rfl .nil)))) ?_
  refine L.storeW (k := 0) rfl rfl rfl Tryz.sizeOf66 (Get.tmp rfl) (Get.tmp rfl) rfl rfl rfl ?_
  refine L.nil ?_
  refine N.thenW ?_
  refine W.ret ?_
  refine N.ret () rfl (.cellA (k := 0) (Get.tmp (t := 4) rfl) rfl Tryz.isAgg66 Tryz.sizeOf66 rfl .nil) (res1 (eqA ?_)) .nil (fun _ _ h => h)
  rfl

theorem not_ok (a : Ex) : CallT Tryz.prog 57 [Rp.agg (eX a)] [] (.one (Rp.agg (eX (notE a)))) := by
  refine W.enter (fn := Tryz.f57) (n := 6) Tryz.func57 rfl Tryz.ntmps57 rfl (fun w₀ C₀ => ?_)
  simp only [argS]
  refine W.seq ?_
  refine W.region ?_
  refine L.box rfl rfl (GSpec.plain rfl (spec_box rfl (GetC.agg (Get.tmp rfl)))) (fun r1 => ?_)
  refine L.box rfl rfl (GSpec.plain rfl (spec_alloc rfl ti66 z66)) (fun r2 => ?_)
  refine L.nil ?_
  refine N.thenW ?_
  refine W.keep (.cons (t := 1) rfl (.cons (t := 2) rfl .nil)) .refl ?_
  refine W.seq ?_
  refine W.region ?_
  refine L.op1 rfl rfl (GSpec.plain rfl (spec_loadW (k := 1) rfl Tryz.isAgg66 Tryz.sizeOf66 (Get.tmp rfl) rfl rfl)) ?_
  refine L.op1 rfl rfl (GSpec.plain rfl (spec_buildSlice1 (E := eX) rfl Tryz.underlying64 ti66 z66 (by decide) (GetC.agg (Get.tmp rfl)) (fun _ => rfl))) ?_
  refine L.op1 rfl rfl (GSpec.plain rfl (spec_call rfl Tryz.call60 (node_ok _ _ (by first | decide | omega | (simp; done))) (.cons (Get.cint rfl) (.cons (Get.tmp rfl) .nil)))) ?_
  refine L.storeW (k := 0) rfl rfl rfl Tryz.sizeOf66 (Get.tmp rfl) (Get.tmp rfl) rfl rfl rfl ?_
  refine L.nil ?_
  refine N.thenW ?_
  refine W.ret ?_
  refine N.ret () rfl (.cellA (k := 0) (Get.tmp (t := 2) rfl) rfl Tryz.isAgg66 Tryz.sizeOf66 rfl .nil) (res1 (eqA ?_)) .nil (fun _ _ h => h)
  rfl

theorem both_ok (a b : Ex) : CallT Tryz.prog 45 [Rp.agg (eX a), Rp.agg (eX b)] [] (.one (Rp.agg (eX (bothE a b)))) := by
  refine W.enter (fn := Tryz.f45) (n := 9) Tryz.func45 rfl Tryz.ntmps45 rfl (fun w₀ C₀ => ?_)
  simp only [argS]
  refine W.seq ?_
  refine W.region ?_
  refine L.box rfl rfl (GSpec.plain rfl (spec_box rfl (GetC.agg (Get.tmp rfl)))) (fun r2 => ?_)
  refine L.box rfl rfl (GSpec.plain rfl (spec_box rfl (GetC.agg (Get.tmp rfl)))) (fun r3 => ?_)
  refine L.box rfl rfl (GSpec.plain rfl (spec_alloc rfl ti66 z66)) (fun r4 => ?_)
  refine L.nil ?_
  refine N.thenW ?_
  refine W.seq ?_
  refine W.region ?_
  refine L.op1 rfl rfl (GSpec.plain rfl (spec_loadW (k := 2) rfl Tryz.isAgg66 Tryz.sizeOf66 (Get.tmp rfl) rfl rfl)) ?_
  refine L.op1 rfl rfl (GSpec.plain rfl (spec_loadW (k := 1) rfl Tryz.isAgg66 Tryz.sizeOf66 (Get.tmp rfl) rfl rfl)) ?_
  refine L.op1 rfl rfl (GSpec.plain rfl (spec_buildSliceN (xs := [a, b]) (E := eX) rfl Tryz.underlying64 ti66 z66 (by first | decide | simp) rfl (.cons (GetC.agg (Get.tmp rfl)) rfl rfl rfl (.cons (GetC.agg (Get.tmp rfl)) rfl rfl rfl .nil)) rfl rfl)) ?_
  refine L.op1 rfl rfl (GSpec.plain rfl (spec_call rfl Tryz.call60 (node_ok _ _ (by first | decide | omega | (simp; done))) (.cons (Get.cint rfl) (.cons (Get.tmp rfl) .nil)))) ?_
  refine L.storeW (k := 0) rfl rfl rfl Tryz.sizeOf66 (Get.tmp rfl) (Get.tmp rfl) rfl rfl rfl ?_
  refine L.nil ?_
  refine N.thenW ?_
  refine W.keep (.cons (t := 4) rfl .nil) .refl ?_
  refine W.ret ?_
  refine N.ret () rfl (.cellA (k := 0) (Get.tmp (t := 4) rfl) rfl Tryz.isAgg66 Tryz.sizeOf66 rfl .nil) (res1 (eqA ?_)) .nil (fun _ _ h => h)
  rfl

theorem either_ok (a b : Ex) : CallT Tryz.prog 56 [Rp.agg (eX a), Rp.agg (eX b)] [] (.one (Rp.agg (eX (eitherE a b)))) := by
  refine W.enter (fn := Tryz.f56) (n := 9) Tryz.func56 rfl Tryz.ntmps56 rfl (fun w₀ C₀ => ?_)
  simp only [argS]
  refine W.seq ?_
  refine W.region ?_
  refine L.box rfl rfl (GSpec.plain rfl (spec_box rfl (GetC.agg (Get.tmp rfl)))) (fun r2 => ?_)
  refine L.box rfl rfl (GSpec.plain rfl (spec_box rfl (GetC.agg (Get.tmp rfl)))) (fun r3 => ?_)
  refine L.box rfl rfl (GSpec.plain rfl (spec_alloc rfl ti66 z66)) (fun r4 => ?_)
  refine L.nil ?_
  refine N.thenW ?_
  refine W.seq ?_
  refine W.region ?_
  refine L.op1 rfl rfl (GSpec.plain rfl (spec_loadW (k := 2) rfl Tryz.isAgg66 Tryz.sizeOf66 (Get.tmp rfl) rfl rfl)) ?_
  refine L.op1 rfl rfl (GSpec.plain rfl (spec_loadW (k := 1) rfl Tryz.isAgg66 Tryz.sizeOf66 (Get.tmp rfl) rfl rfl)) ?_
  refine L.op1 rfl rfl (GSpec.plain rfl (spec_buildSliceN (xs := [a, b]) (E := eX) rfl Tryz.underlying64 ti66 z66 (by first | decide | simp) rfl (.cons (GetC.agg (Get.tmp rfl)) rfl rfl rfl (.cons (GetC.agg (Get.tmp rfl)) rfl rfl rfl .nil)) rfl rfl)) ?_
  refine L.op1 rfl rfl (GSpec.plain rfl (spec_call rfl Tryz.call60 (node_ok _ _ (by first | decide | omega | (simp; done))) (.cons (Get.cint rfl) (.cons (Get.tmp rfl) .nil)))) ?_
  refine L.storeW (k := 0) rfl rfl rfl Tryz.sizeOf66 (Get.tmp rfl) (Get.tmp rfl) rfl rfl rfl ?_
  refine L.nil ?_
  refine N.thenW ?_
  refine W.keep (.cons (t := 4) rfl .nil) .refl ?_
  refine W.ret ?_
  refine N.ret () rfl (.cellA (k := 0) (Get.tmp (t := 4) rfl) rfl Tryz.isAgg66 Tryz.sizeOf66 rfl .nil) (res1 (eqA ?_)) .nil (fun _ _ h => h)
  rfl

theorem plus_ok (a b : Ex) : CallT Tryz.prog 41 [Rp.agg (eX a), Rp.agg (eX b)] [] (.one (Rp.agg (eX (plusE a b)))) := by
  refine W.enter (fn := Tryz.f41) (n := 9) Tryz.func41 rfl Tryz.ntmps41 rfl (fun w₀ C₀ => ?_)
  simp only [argS]
  refine W.seq ?_
  refine W.region ?_
  refine L.box rfl rfl (GSpec.plain rfl (spec_box rfl (GetC.agg (Get.tmp rfl)))) (fun r2 => ?_)
  refine L.box rfl rfl (GSpec.plain rfl (spec_box rfl (GetC.agg (Get.tmp rfl)))) (fun r3 => ?_)
  refine L.box rfl rfl (GSpec.plain rfl (spec_alloc rfl ti66 z66)) (fun r4 => ?_)
  refine L.nil ?_
  refine N.thenW ?_
  refine W.seq ?_
  refine W.region ?_
  refine L.op1 rfl rfl (GSpec.plain rfl (spec_loadW (k := 2) rfl Tryz.isAgg66 Tryz.sizeOf66 (Get.tmp rfl) rfl rfl)) ?_
  refine L.op1 rfl rfl (GSpec.plain rfl (spec_loadW (k := 1) rfl Tryz.isAgg66 Tryz.sizeOf66 (Get.tmp rfl) rfl rfl)) ?_
  refine L.op1 rfl rfl (GSpec.plain rfl (spec_buildSliceN (xs := [a, b]) (E := eX) rfl Tryz.underlying64 ti66 z66 (by first | decide | simp) rfl (.cons (GetC.agg (Get.tmp rfl)) rfl rfl rfl (.cons (GetC.agg (Get.tmp rfl)) rfl rfl rfl .nil)) rfl rfl)) ?_
  refine L.op1 rfl rfl (GSpec.plain rfl (spec_call rfl Tryz.call60 (node_ok _ _ (by first | decide | omega | (simp; done))) (.cons (Get.cint rfl) (.cons (Get.tmp rfl) .nil)))) ?_
  refine L.storeW (k := 0) rfl rfl rfl Tryz.sizeOf66 (Get.tmp rfl) (Get.tmp rfl) rfl rfl rfl ?_
  refine L.nil ?_
  refine N.thenW ?_
  refine W.keep (.cons (t := 4) rfl .nil) .refl ?_
  refine W.ret ?_
  refine N.ret () rfl (.cellA (k := 0) (Get.tmp (t := 4) rfl) rfl Tryz.isAgg66 Tryz.sizeOf66 rfl .nil) (res1 (eqA ?_)) .nil (fun _ _ h => h)
  rfl

theorem minus_ok (a b : Ex) : CallT Tryz.prog 39 [Rp.agg (eX a), Rp.agg (eX b)] [] (.one (Rp.agg (eX (minusE a b)))) := by
  refine W.enter (fn := Tryz.f39) (n := 9) Tryz.func39 rfl Tryz.ntmps39 rfl (fun w₀ C₀ => ?_)
  simp only [argS]
  refine W.seq ?_
  refine W.region ?_
  refine L.box rfl rfl (GSpec.plain rfl (spec_box rfl (GetC.agg (Get.tmp rfl)))) (fun r2 => ?_)
  refine L.box rfl rfl (GSpec.plain rfl (spec_box rfl (GetC.agg (Get.tmp rfl)))) (fun r3 => ?_)
  refine L.box rfl rfl (GSpec.plain rfl (spec_alloc rfl ti66 z66)) (fun r4 => ?_)
  refine L.nil ?_
  refine N.thenW ?_
  refine W.seq ?_
  refine W.region ?_
  refine L.op1 rfl rfl (GSpec.plain rfl (spec_loadW (k := 2) rfl Tryz.isAgg66 Tryz.sizeOf66 (Get.tmp rfl) rfl rfl)) ?_
  refine L.op1 rfl rfl (GSpec.plain rfl (spec_loadW (k := 1) rfl Tryz.isAgg66 Tryz.sizeOf66 (Get.tmp rfl) rfl rfl)) ?_
  refine L.op1 rfl rfl (GSpec.plain rfl (spec_buildSliceN (xs := [a, b]) (E := eX) rfl Tryz.underlying64 ti66 z66 (by first | decide | simp) rfl (.cons (GetC.agg (Get.tmp rfl)) rfl rfl rfl (.cons (GetC.agg (Get.tmp rfl)) rfl rfl rfl .nil)) rfl rfl)) ?_
  refine L.op1 rfl rfl (GSpec.plain rfl (spec_call rfl Tryz.call60 (node_ok _ _ (by first | decide | omega | (simp; done))) (.cons (Get.cint rfl) (.cons (Get.tmp rfl) .nil)))) ?_
  refine L.storeW (k := 0) rfl rfl rfl Tryz.sizeOf66 (Get.tmp rfl) (Get.tmp rfl) rfl rfl rfl ?_
  refine L.nil ?_
  refine N.thenW ?_
  refine W.keep (.cons (t := 4) rfl .nil) .refl ?_
  refine W.ret ?_
  refine N.ret () rfl (.cellA (k := 0) (Get.tmp (t := 4) rfl) rfl Tryz.isAgg66 Tryz.sizeOf66 rfl .nil) (res1 (eqA ?_)) .nil (fun _ _ h => h)
  rfl

theorem less_ok (a b : Ex) : CallT Tryz.prog 34 [Rp.agg (eX a), Rp.agg (eX b)] [] (.one (Rp.agg (eX (lessE a b)))) := by
  refine W.enter (fn := Tryz.f34) (n := 9) Tryz.func34 rfl Tryz.ntmps34 rfl (fun w₀ C₀ => ?_)
  simp only [argS]
  refine W.seq ?_
  refine W.region ?_
  refine L.box rfl rfl (GSpec.plain rfl (spec_box rfl (GetC.agg (Get.tmp rfl)))) (fun r2 => ?_)
  refine L.box rfl rfl (GSpec.plain rfl (spec_box rfl (GetC.agg (Get.tmp rfl)))) (fun r3 => ?_)
  refine L.box rfl rfl (GSpec.plain rfl (spec_alloc rfl ti66 z66)) (fun r4 => ?_)
  refine L.nil ?_
  refine N.thenW ?_
  refine W.seq ?_
  refine W.region ?_
  refine L.op1 rfl rfl (GSpec.plain rfl (spec_loadW (k := 2) rfl Tryz.isAgg66 Tryz.sizeOf66 (Get.tmp rfl) rfl rfl)) ?_
  refine L.op1 rfl rfl (GSpec.plain rfl (spec_loadW (k := 1) rfl Tryz.isAgg66 Tryz.sizeOf66 (Get.tmp rfl) rfl rfl)) ?_
  refine L.op1 rfl rfl (GSpec.plain rfl (spec_buildSliceN (xs := [a, b]) (E := eX) rfl Tryz.underlying64 ti66 z66 (by first | decide | simp) rfl (.cons (GetC.agg (Get.tmp rfl)) rfl rfl rfl (.cons (GetC.agg (Get.tmp rfl)) rfl rfl rfl .nil)) rfl rfl)) ?_
  refine L.op1 rfl rfl (GSpec.plain rfl (spec_call rfl Tryz.call60 (node_ok _ _ (by first | decide | omega | (simp; done))) (.cons (Get.cint rfl) (.cons (Get.tmp rfl) .nil)))) ?_
  refine L.storeW (k := 0) rfl rfl rfl Tryz.sizeOf66 (Get.tmp rfl) (Get.tmp rfl) rfl rfl rfl ?_
  refine L.nil ?_
  refine N.thenW ?_
  refine W.keep (.cons (t := 4) rfl .nil) .refl ?_
  refine W.ret ?_
  refine N.ret () rfl (.cellA (k := 0) (Get.tmp (t := 4) rfl) rfl Tryz.isAgg66 Tryz.sizeOf66 rfl .nil) (res1 (eqA ?_)) .nil (fun _ _ h => h)
  rfl

theorem equal_ok (a : Ex) (n : Int) : CallT Tryz.prog 46 [Rp.agg (eX a), Rp.int .i64 n] [] (.one (Rp.agg (eX (equalE a n)))) := by
  refine W.enter (fn := Tryz.f46) (n := 10) Tryz.func46 rfl Tryz.ntmps46 rfl (fun w₀ C₀ => ?_)
  simp only [argS]
  refine W.seq ?_
  refine W.region ?_
  refine L.box rfl rfl (GSpec.plain rfl (spec_box rfl (GetC.agg (Get.tmp rfl)))) (fun r2 => ?_)
  refine L.box rfl rfl (GSpec.plain rfl (spec_alloc rfl ti66 z66)) (fun r4 => ?_)
  refine L.nil ?_
  refine N.thenW ?_
  refine W.seq ?_
  apply W.any 5 mixed (by kernel_rfl)
  · apply Head.one rfl rfl (GSpec.plain rfl (spec_loadW (k := 1) rfl Tryz.isAgg66 Tryz.sizeOf66 (Get.tmp rfl) rfl rfl))
    apply Head.one rfl rfl (GSpec.plain rfl (spec_move rfl (Get.tmp rfl)))
    apply Head.one rfl rfl (GSpec.plain rfl (spec_call rfl Tryz.call36 (num_ok _) (.cons (Get.tmp rfl) .nil)))
    apply Head.one rfl rfl (GSpec.plain rfl (spec_buildSliceN (xs := [a, numE n]) (E := eX) rfl Tryz.underlying64 ti66 z66 (by first | decide | simp) rfl (.cons (GetC.agg (Get.tmp rfl)) rfl rfl rfl (.cons (GetC.agg (Get.tmp rfl)) rfl rfl rfl .nil)) rfl rfl))
    apply Head.one rfl rfl (GSpec.plain rfl (spec_call rfl Tryz.call60 (node_ok _ _ (by first | decide | omega | (simp; done))) (.cons (Get.cint rfl) (.cons (Get.tmp rfl) .nil))))
    exact Head.nil
  refine Fin.one ?_
  refine Fin.one ?_
  refine Fin.one ?_
  refine Fin.one ?_
  refine Fin.one ?_
  refine Fin.nil ?_
  refine L.storeW (k := 0) rfl rfl rfl Tryz.sizeOf66 (Get.tmp rfl) (Get.tmp rfl) rfl rfl rfl ?_
  refine L.nil ?_
  refine N.thenW ?_
  refine W.keep (.cons (t := 4) rfl .nil) .refl ?_
  refine W.ret ?_
  refine N.ret () rfl (.cellA (k := 0) (Get.tmp (t := 4) rfl) rfl Tryz.isAgg66 Tryz.sizeOf66 rfl .nil) (res1 (eqA ?_)) .nil (fun _ _ h => h)
  rfl

theorem when_ok (c a b : Ex) : CallT Tryz.prog 44 [Rp.agg (eX c), Rp.agg (eX a), Rp.agg (eX b)] [] (.one (Rp.agg (eX (whenE c a b)))) := by
  refine W.enter (fn := Tryz.f44) (n := 12) Tryz.func44 rfl Tryz.ntmps44 rfl (fun w₀ C₀ => ?_)
  simp only [argS]
  refine W.seq ?_
  refine W.region ?_
  refine L.box rfl rfl (GSpec.plain rfl (spec_box rfl (GetC.agg (Get.tmp rfl)))) (fun r3 => ?_)
  refine L.box rfl rfl (GSpec.plain rfl (spec_box rfl (GetC.agg (Get.tmp rfl)))) (fun r4 => ?_)
  refine L.box rfl rfl (GSpec.plain rfl (spec_box rfl (GetC.agg (Get.tmp rfl)))) (fun r5 => ?_)
  refine L.box rfl rfl (GSpec.plain rfl (spec_alloc rfl ti66 z66)) (fun r6 => ?_)
  refine L.nil ?_
  refine N.thenW ?_
  refine W.seq ?_
  refine W.region ?_
  refine L.op1 rfl rfl (GSpec.plain rfl (spec_loadW (k := 3) rfl Tryz.isAgg66 Tryz.sizeOf66 (Get.tmp rfl) rfl rfl)) ?_
  refine L.op1 rfl rfl (GSpec.plain rfl (spec_loadW (k := 2) rfl Tryz.isAgg66 Tryz.sizeOf66 (Get.tmp rfl) rfl rfl)) ?_
  refine L.op1 rfl rfl (GSpec.plain rfl (spec_loadW (k := 1) rfl Tryz.isAgg66 Tryz.sizeOf66 (Get.tmp rfl) rfl rfl)) ?_
  refine L.op1 rfl rfl (GSpec.plain rfl (spec_buildSliceN (xs := [c, a, b]) (E := eX) rfl Tryz.underlying64 ti66 z66 (by first | decide | simp) rfl (.cons (GetC.agg (Get.tmp rfl)) rfl rfl rfl (.cons (GetC.agg (Get.tmp rfl)) rfl rfl rfl (.cons (GetC.agg (Get.tmp rfl)) rfl rfl rfl .nil))) rfl rfl)) ?_
  refine L.op1 rfl rfl (GSpec.plain rfl (spec_call rfl Tryz.call60 (node_ok _ _ (by first | decide | omega | (simp; done))) (.cons (Get.cint rfl) (.cons (Get.tmp rfl) .nil)))) ?_
  refine L.storeW (k := 0) rfl rfl rfl Tryz.sizeOf66 (Get.tmp rfl) (Get.tmp rfl) rfl rfl rfl ?_
  refine L.nil ?_
  refine N.thenW ?_
  refine W.keep (.cons (t := 6) rfl .nil) .refl ?_
  refine W.ret ?_
  refine N.ret () rfl (.cellA (k := 0) (Get.tmp (t := 6) rfl) rfl Tryz.isAgg66 Tryz.sizeOf66 rfl .nil) (res1 (eqA ?_)) .nil (fun _ _ h => h)
  rfl

theorem within_ok (n : Int) : CallT Tryz.prog 31 [Rp.int .i64 n] [] (.one (Rp.bool (decide (1 ≤ n) && decide (n ≤ 8)))) := by
  refine W.enter (fn := Tryz.f31) (n := 9) Tryz.func31 rfl Tryz.ntmps31 rfl (fun w₀ C₀ => ?_)
  simp only [argS]
  refine W.seq ?_
  refine W.region ?_
  refine L.op1 rfl rfl (GSpec.plain rfl (spec_assign rfl Get.cbool)) ?_
  refine L.nil ?_
  refine N.thenW ?_
  refine W.seq ?_
  refine W.region ?_
  refine L.op1 rfl rfl (GSpec.plain rfl (spec_move rfl (Get.tmp rfl))) ?_
  refine L.op1 rfl rfl (GSpec.plain rfl (spec_geq rfl (Get.tmp rfl) (Get.cint rfl))) ?_
  refine L.op1 rfl rfl (GSpec.plain rfl (spec_move rfl (Get.tmp rfl))) ?_
  refine L.op1 rfl rfl (GSpec.guard rfl rfl rfl fun hg => (spec_move rfl (Get.tmp rfl))) ?_
  refine L.op1 rfl rfl (GSpec.guard rfl rfl rfl fun hg => (spec_leq rfl (Get.opt rfl hg) (Get.cint rfl))) ?_
  refine L.op1 rfl rfl (GSpec.plain rfl (spec_and rfl (Get.tmp rfl) (fun hb => (Get.opt rfl hb)))) ?_
  refine L.op1 rfl rfl (GSpec.plain rfl (spec_assign rfl (Get.tmp rfl))) ?_
  refine L.nil ?_
  refine N.thenW ?_
  refine W.keep (.cons (t := 2) rfl .nil) .refl ?_
  refine W.ret ?_
  refine N.ret () rfl (.tmp (t := 2) (Get.tmp rfl) .nil) (res1 (eqB ?_)) .nil (fun _ _ h => h)
  rfl

end Go.Proofs.YthlfacmpjehjmaaGreatDoor
set_option linter.unusedSimpArgs false
set_option maxRecDepth 8000
set_option linter.unusedVariables false
namespace Go.Proofs.YthlfacmpjehjmaaGreatDoor
open Go.Sim
theorem wireB_ok (r : Nat) (v : Value × Value) (d : Ds) (nm : List UInt8) (w : Int) (e : Ex) (hl : d.wires.length ≤ 1000) : CallT Tryz.prog 33 [Rp.ptr r 0, Rp.str nm, Rp.int .i64 w, Rp.agg (eX e)] [MF.box r 111 (bdR d v), MF.osl v.1 77 6 eWr d.wires, MF.osl v.2 81 7 eRg d.regs] (bdX r (addW d nm w e)) := by
  refine W.enter (fn := Tryz.f33) (n := 23) Tryz.func33 rfl Tryz.ntmps33 rfl (fun w₀ C₀ => ?_)
  simp only [argS]
  refine W.seq ?_
  refine W.region ?_
  refine L.box rfl rfl (GSpec.plain rfl (spec_box rfl (GetC.agg (Get.tmp rfl)))) (fun r7 => ?_)
  refine L.nil ?_
  refine N.thenW ?_
  apply W.any1 (bs := [true, false, false, false, false, false, false, false, false, false, false]) (Mf := []) 11 mixed (by kernel_rfl) (by kernel_rfl) rfl .nil
  · apply Head1.flo rfl rfl (GSpec.plain rfl (spec_move rfl (Get.tmp rfl)))
    apply Head1.one rfl rfl (GSpec.plain rfl (spec_move rfl (Get.tmp rfl)))
    apply Head1.one rfl rfl (GSpec.plain rfl (spec_nilCheck rfl (Get.tmp rfl)))
    apply Head1.one rfl rfl (GSpec.plain rfl (spec_fieldAddr (f := 0) (off' := 0) rfl Tryz.underlying111 rfl Tryz.sizeOf27 (Get.tmp rfl) rfl))
    apply Head1.one rfl rfl (GSpec.plain rfl (spec_fieldAddr (f := 2) (off' := 2) rfl Tryz.underlying27 rfl Tryz.sizeOf23 (Get.tmp rfl) rfl))
    apply Head1.one rfl rfl (GSpec.plain rfl (spec_load1 (k := 1) rfl Tryz.isAgg23 (Get.tmp rfl) rfl rfl))
    apply Head1.one rfl rfl (GSpec.plain rfl (spec_move rfl (Get.tmp rfl)))
    apply Head1.one rfl rfl (GSpec.plain rfl (spec_move rfl (Get.tmp rfl)))
    apply Head1.one rfl rfl (GSpec.plain rfl (spec_loadW (k := 0) rfl Tryz.isAgg66 Tryz.sizeOf66 (Get.tmp rfl) rfl rfl))
    apply Head1.one rfl rfl (GSpec.plain rfl (spec_build (Rs := [_, _, _, _, _, _]) rfl ti77 z77 Tryz.underlying77 pl77 (.cons (GetC.one (Get.tmp rfl)) rfl rfl rfl (.cons (GetC.one (Get.tmp rfl)) rfl rfl rfl (.cons (GetC.agg (Get.tmp rfl)) rfl rfl rfl .nil)))))
    apply Head1.one rfl rfl (GSpec.plain rfl (spec_buildSlice1 (y := (⟨nm, w, e⟩ : Wr)) (E := eWr) rfl Tryz.underlying23 ti77 z77 (by decide) (GetC.agg (Get.tmp rfl)) (fun _ => rfl)))
    exact Head1.nil
  · rfl
  refine Fin1.flo ?_
  refine Fin1.one ?_
  refine Fin1.one ?_
  refine Fin1.one ?_
  refine Fin1.one ?_
  refine Fin1.one ?_
  refine Fin1.one ?_
  refine Fin1.one ?_
  refine Fin1.one ?_
  refine Fin1.one ?_
  refine Fin1.one ?_
  refine Fin1.nil (fun X => ?_)
  refine L.append (k := 2) (E := eWr) rfl rfl rfl rfl Tryz.underlying23 ti77 rfl (by decide) (fun _ => rfl) (Get.tmp rfl) (Get.tmp rfl) rfl (by (simp only [List.length_cons, List.length_nil]; omega)) (by (simp only [List.length_cons, List.length_nil]; omega)) (fun v19 => ?_)
  refine L.nil ?_
  refine Aft.next ((19, _) :: _) (Sub.push rfl) .nil rfl ?_
  refine L.op1 rfl rfl (GSpec.plain rfl (spec_nilCheck rfl (Get.tmp rfl))) ?_
  refine L.op1 rfl rfl (GSpec.plain rfl (spec_fieldAddr (f := 0) (off' := 0) rfl Tryz.underlying111 rfl Tryz.sizeOf27 (Get.tmp rfl) rfl)) ?_
  refine L.op1 rfl rfl (GSpec.plain rfl (spec_fieldAddr (f := 2) (off' := 2) rfl Tryz.underlying27 rfl Tryz.sizeOf23 (Get.tmp rfl) rfl)) ?_
  refine L.factM 2 rfl osl_one fun hq => ?_
  haveI := One.val hq
  refine L.storeB (k := 1) (R := Rp.val v19) rfl rfl rfl Tryz.sizeOf23 (Get.tmp rfl) (Get.tmp rfl) rfl rfl ?_
  refine L.nil ?_
  refine N.ret (X := (bdX r (addW d nm w e))) (v19, v.2) rfl .nil res0 (.cons 1 rfl (.cons 1 rfl (.cons 1 rfl .nil))) (fun _ _ h => h)
  skip

theorem regB_ok (r : Nat) (v : Value × Value) (d : Ds) (nm : List UInt8) (w : Int) (e : Ex) (hl : d.regs.length ≤ 1000) : CallT Tryz.prog 40 [Rp.ptr r 0, Rp.str nm, Rp.int .i64 w, Rp.agg (eX e)] [MF.box r 111 (bdR d v), MF.osl v.1 77 6 eWr d.wires, MF.osl v.2 81 7 eRg d.regs] (bdX r (addR d nm w e)) := by
  refine W.enter (fn := Tryz.f40) (n := 23) Tryz.func40 rfl Tryz.ntmps40 rfl (fun w₀ C₀ => ?_)
  simp only [argS]
  refine W.seq ?_
  refine W.region ?_
  refine L.box rfl rfl (GSpec.plain rfl (spec_box rfl (GetC.agg (Get.tmp rfl)))) (fun r7 => ?_)
  refine L.nil ?_
  refine N.thenW ?_
  refine W.keep (.cons (t := 0) rfl (.cons (t := 1) rfl (.cons (t := 2) rfl (.cons (t := 7) rfl .nil)))) .refl ?_
  apply W.any1 (bs := [true, false, false, false, false, false, false, false, false, false, false]) (Mf := []) 11 mixed (by kernel_rfl) (by kernel_rfl) rfl .nil
  · apply Head1.flo rfl rfl (GSpec.plain rfl (spec_move rfl (Get.tmp rfl)))
    apply Head1.one rfl rfl (GSpec.plain rfl (spec_move rfl (Get.tmp rfl)))
    apply Head1.one rfl rfl (GSpec.plain rfl (spec_nilCheck rfl (Get.tmp rfl)))
    apply Head1.one rfl rfl (GSpec.plain rfl (spec_fieldAddr (f := 0) (off' := 0) rfl Tryz.underlying111 rfl Tryz.sizeOf27 (Get.tmp rfl) rfl))
    apply Head1.one rfl rfl (GSpec.plain rfl (spec_fieldAddr (f := 3) (off' := 3) rfl Tryz.underlying27 rfl Tryz.sizeOf24 (Get.tmp rfl) rfl))
    apply Head1.one rfl rfl (GSpec.plain rfl (spec_load1 (k := 1) rfl Tryz.isAgg24 (Get.tmp rfl) rfl rfl))
    apply Head1.one rfl rfl (GSpec.plain rfl (spec_move rfl (Get.tmp rfl)))
    apply Head1.one rfl rfl (GSpec.plain rfl (spec_move rfl (Get.tmp rfl)))
    apply Head1.one rfl rfl (GSpec.plain rfl (spec_loadW (k := 0) rfl Tryz.isAgg66 Tryz.sizeOf66 (Get.tmp rfl) rfl rfl))
    apply Head1.one rfl rfl (GSpec.plain rfl (spec_build (Rs := [_, _, Rp.int .i64 0, _, _, _, _]) rfl ti81 z81 Tryz.underlying81 pl81 (.cons (GetC.one (Get.tmp rfl)) rfl rfl rfl (.cons (GetC.one (Get.tmp rfl)) rfl rfl rfl (.cons (GetC.agg (Get.tmp rfl)) rfl rfl rfl .nil)))))
    apply Head1.one rfl rfl (GSpec.plain rfl (spec_buildSlice1 (y := (⟨nm, w, 0, e⟩ : Rg)) (E := eRg) rfl Tryz.underlying24 ti81 z81 (by decide) (GetC.agg (Get.tmp rfl)) (fun _ => rfl)))
    exact Head1.nil
  · rfl
  refine Fin1.flo ?_
  refine Fin1.one ?_
  refine Fin1.one ?_
  refine Fin1.one ?_
  refine Fin1.one ?_
  refine Fin1.one ?_
  refine Fin1.one ?_
  refine Fin1.one ?_
  refine Fin1.one ?_
  refine Fin1.one ?_
  refine Fin1.one ?_
  refine Fin1.nil (fun X => ?_)
  refine L.append (k := 3) (E := eRg) rfl rfl rfl rfl Tryz.underlying24 ti81 rfl (by decide) (fun _ => rfl) (Get.tmp rfl) (Get.tmp rfl) rfl (by (simp only [List.length_cons, List.length_nil]; omega)) (by (simp only [List.length_cons, List.length_nil]; omega)) (fun v19 => ?_)
  refine L.nil ?_
  refine Aft.next ((19, _) :: _) (Sub.push rfl) .nil rfl ?_
  refine L.op1 rfl rfl (GSpec.plain rfl (spec_nilCheck rfl (Get.tmp rfl))) ?_
  refine L.op1 rfl rfl (GSpec.plain rfl (spec_fieldAddr (f := 0) (off' := 0) rfl Tryz.underlying111 rfl Tryz.sizeOf27 (Get.tmp rfl) rfl)) ?_
  refine L.op1 rfl rfl (GSpec.plain rfl (spec_fieldAddr (f := 3) (off' := 3) rfl Tryz.underlying27 rfl Tryz.sizeOf24 (Get.tmp rfl) rfl)) ?_
  refine L.factM 3 rfl osl_one fun hq => ?_
  haveI := One.val hq
  refine L.storeB (k := 1) (R := Rp.val v19) rfl rfl rfl Tryz.sizeOf24 (Get.tmp rfl) (Get.tmp rfl) rfl rfl ?_
  refine L.nil ?_
  refine N.ret (X := (bdX r (addR d nm w e))) (v.1, v19) rfl .nil res0 (.cons 1 rfl (.cons 1 rfl (.cons 1 rfl .nil))) (fun _ _ h => h)
  skip

theorem push_ok (r : Nat) (v : Value × Value) (d : Ds) (hl : d.wires.length ≤ 900) : CallT Tryz.prog 37 [Rp.ptr r 0] [MF.box r 111 (bdR d v), MF.osl v.1 77 6 eWr d.wires, MF.osl v.2 81 7 eRg d.regs] (bdX r (pushD d)) := by
  refine W.enter (fn := Tryz.f37) (n := 7) Tryz.func37 rfl Tryz.ntmps37 rfl (fun w₀ C₀ => ?_)
  simp only [argS]
  refine W.region ?_
  refine L.op1 rfl rfl (GSpec.plain rfl (spec_move rfl (Get.tmp rfl))) ?_
  refine L.op1 rfl rfl (GSpec.plain rfl (spec_call rfl Tryz.call35 (ref_ok _) (.cons (Get.cstr (l := [105, 118]) rfl rfl) .nil))) ?_
  refine L.op1 rfl rfl (GSpec.plain rfl (spec_call rfl Tryz.call35 (ref_ok _) (.cons (Get.cstr (l := [105, 114, 100, 121]) rfl rfl) .nil))) ?_
  refine L.op1 rfl rfl (GSpec.plain rfl (spec_call rfl Tryz.call45 (both_ok _ _) (.cons (Get.tmp rfl) (.cons (Get.tmp rfl) .nil)))) ?_
  refine L.call rfl rfl rfl rfl Tryz.call33 (wireB_ok _ _ _ _ _ _ (by first | omega | (simp only [addW, addR, pushD, popD, stageD, queue0, delay0, swapW, swap0, beginD, List.length_append, List.length_cons, List.length_nil]; omega) | decide)) (.cons 0 rfl (.cons 0 rfl (.cons 0 rfl .refl))) (.cons (Get.tmp rfl) (.cons (Get.cstr (l := [112, 117, 115, 104]) rfl rfl) (.cons (Get.cint rfl) (.cons (Get.tmp rfl) .nil)))) (fun v6 => ?_)
  try dsimp only
  refine L.nil ?_
  refine N.ret (X := (bdX r (pushD d))) v6 rfl .nil res0 (.cons 0 rfl (.cons 0 rfl (.cons 0 rfl .nil))) (fun _ _ h => h)
  skip

theorem pop_ok (r : Nat) (v : Value × Value) (d : Ds) (hl : d.wires.length ≤ 900) : CallT Tryz.prog 38 [Rp.ptr r 0] [MF.box r 111 (bdR d v), MF.osl v.1 77 6 eWr d.wires, MF.osl v.2 81 7 eRg d.regs] (bdX r (popD d)) := by
  refine W.enter (fn := Tryz.f38) (n := 7) Tryz.func38 rfl Tryz.ntmps38 rfl (fun w₀ C₀ => ?_)
  simp only [argS]
  refine W.region ?_
  refine L.op1 rfl rfl (GSpec.plain rfl (spec_move rfl (Get.tmp rfl))) ?_
  refine L.op1 rfl rfl (GSpec.plain rfl (spec_call rfl Tryz.call35 (ref_ok _) (.cons (Get.cstr (l := [111, 118]) rfl rfl) .nil))) ?_
  refine L.op1 rfl rfl (GSpec.plain rfl (spec_call rfl Tryz.call35 (ref_ok _) (.cons (Get.cstr (l := [111, 114, 100, 121]) rfl rfl) .nil))) ?_
  refine L.op1 rfl rfl (GSpec.plain rfl (spec_call rfl Tryz.call45 (both_ok _ _) (.cons (Get.tmp rfl) (.cons (Get.tmp rfl) .nil)))) ?_
  refine L.call rfl rfl rfl rfl Tryz.call33 (wireB_ok _ _ _ _ _ _ (by first | omega | (simp only [addW, addR, pushD, popD, stageD, queue0, delay0, swapW, swap0, beginD, List.length_append, List.length_cons, List.length_nil]; omega) | decide)) (.cons 0 rfl (.cons 0 rfl (.cons 0 rfl .refl))) (.cons (Get.tmp rfl) (.cons (Get.cstr (l := [112, 111, 112]) rfl rfl) (.cons (Get.cint rfl) (.cons (Get.tmp rfl) .nil)))) (fun v6 => ?_)
  try dsimp only
  refine L.nil ?_
  refine N.ret (X := (bdX r (popD d))) v6 rfl .nil res0 (.cons 0 rfl (.cons 0 rfl (.cons 0 rfl .nil))) (fun _ _ h => h)
  skip

theorem stage_ok (r : Nat) (v : Value × Value) (d : Ds) (w : Int) (hl : d.wires.length ≤ 800) (hl2 : d.regs.length ≤ 800) : CallT Tryz.prog 54 [Rp.ptr r 0, Rp.int .i64 w] [MF.box r 111 (bdR d v), MF.osl v.1 77 6 eWr d.wires, MF.osl v.2 81 7 eRg d.regs] (bdX r (stageD d w)) := by
  refine W.enter (fn := Tryz.f54) (n := 37) Tryz.func54 rfl Tryz.ntmps54 rfl (fun w₀ C₀ => ?_)
  simp only [argS]
  refine W.seq ?_
  refine W.region ?_
  refine L.op1 rfl rfl (GSpec.plain rfl (spec_move rfl (Get.tmp rfl))) ?_
  refine L.op1 rfl rfl (GSpec.plain rfl (spec_call rfl Tryz.call35 (ref_ok _) (.cons (Get.cstr (l := [118]) rfl rfl) .nil))) ?_
  refine L.op1 rfl rfl (GSpec.plain rfl (spec_call rfl Tryz.call57 (not_ok _) (.cons (Get.tmp rfl) .nil))) ?_
  refine L.op1 rfl rfl (GSpec.plain rfl (spec_call rfl Tryz.call35 (ref_ok _) (.cons (Get.cstr (l := [111, 114, 100, 121]) rfl rfl) .nil))) ?_
  refine L.op1 rfl rfl (GSpec.plain rfl (spec_call rfl Tryz.call56 (either_ok _ _) (.cons (Get.tmp rfl) (.cons (Get.tmp rfl) .nil)))) ?_
  refine L.call rfl rfl rfl rfl Tryz.call33 (wireB_ok _ _ _ _ _ _ (by first | omega | (simp only [addW, addR, pushD, popD, stageD, queue0, delay0, swapW, swap0, beginD, List.length_append, List.length_cons, List.length_nil]; omega) | decide)) (.cons 0 rfl (.cons 0 rfl (.cons 0 rfl .refl))) (.cons (Get.tmp rfl) (.cons (Get.cstr (l := [105, 114, 100, 121]) rfl rfl) (.cons (Get.cint rfl) (.cons (Get.tmp rfl) .nil)))) (fun v9 => ?_)
  try dsimp only
  refine L.nil ?_
  refine N.thenW ?_
  refine W.keep (.cons (t := 0) rfl (.cons (t := 1) rfl .nil)) .refl ?_
  refine W.seq ?_
  refine W.region ?_
  refine L.op1 rfl rfl (GSpec.plain rfl (spec_move rfl (Get.tmp rfl))) ?_
  refine L.op1 rfl rfl (GSpec.plain rfl (spec_call rfl Tryz.call35 (ref_ok _) (.cons (Get.cstr (l := [118]) rfl rfl) .nil))) ?_
  refine L.call rfl rfl rfl rfl Tryz.call33 (wireB_ok _ _ _ _ _ _ (by first | omega | (simp only [addW, addR, pushD, popD, stageD, queue0, delay0, swapW, swap0, beginD, List.length_append, List.length_cons, List.length_nil]; omega) | decide)) (.cons 0 rfl (.cons 0 rfl (.cons 0 rfl .refl))) (.cons (Get.tmp rfl) (.cons (Get.cstr (l := [111, 118]) rfl rfl) (.cons (Get.cint rfl) (.cons (Get.tmp rfl) .nil)))) (fun v12 => ?_)
  try dsimp only
  refine L.nil ?_
  refine N.thenW ?_
  refine W.seq ?_
  refine W.region ?_
  refine L.op1 rfl rfl (GSpec.plain rfl (spec_move rfl (Get.tmp rfl))) ?_
  refine L.op1 rfl rfl (GSpec.plain rfl (spec_call rfl Tryz.call35 (ref_ok _) (.cons (Get.cstr (l := [116]) rfl rfl) .nil))) ?_
  refine L.call rfl rfl rfl rfl Tryz.call33 (wireB_ok _ _ _ _ _ _ (by first | omega | (simp only [addW, addR, pushD, popD, stageD, queue0, delay0, swapW, swap0, beginD, List.length_append, List.length_cons, List.length_nil]; omega) | decide)) (.cons 0 rfl (.cons 0 rfl (.cons 0 rfl .refl))) (.cons (Get.tmp rfl) (.cons (Get.cstr (l := [111, 116]) rfl rfl) (.cons (Get.cint rfl) (.cons (Get.tmp rfl) .nil)))) (fun v15 => ?_)
  try dsimp only
  refine L.nil ?_
  refine N.thenW ?_
  refine W.keep (.cons (t := 0) rfl (.cons (t := 1) rfl .nil)) .refl ?_
  refine W.seq ?_
  refine W.region ?_
  refine L.op1 rfl rfl (GSpec.plain rfl (spec_move rfl (Get.tmp rfl))) ?_
  refine L.op1 rfl rfl (GSpec.plain rfl (spec_move rfl (Get.tmp rfl))) ?_
  refine L.op1 rfl rfl (GSpec.plain rfl (spec_call rfl Tryz.call35 (ref_ok _) (.cons (Get.cstr (l := [97]) rfl rfl) .nil))) ?_
  refine L.call rfl rfl rfl rfl Tryz.call33 (wireB_ok _ _ _ _ _ _ (by first | omega | (simp only [addW, addR, pushD, popD, stageD, queue0, delay0, swapW, swap0, beginD, List.length_append, List.length_cons, List.length_nil]; omega) | decide)) (.cons 0 rfl (.cons 0 rfl (.cons 0 rfl .refl))) (.cons (Get.tmp rfl) (.cons (Get.cstr (l := [111, 97]) rfl rfl) (.cons (Get.tmp rfl) (.cons (Get.tmp rfl) .nil)))) (fun v19 => ?_)
  try dsimp only
  refine L.nil ?_
  refine N.thenW ?_
  refine W.seq ?_
  refine W.region ?_
  refine L.op1 rfl rfl (GSpec.plain rfl (spec_move rfl (Get.tmp rfl))) ?_
  refine L.call rfl rfl rfl rfl Tryz.call37 (push_ok _ _ _ (by first | omega | (simp only [addW, addR, pushD, popD, stageD, queue0, delay0, swapW, swap0, beginD, List.length_append, List.length_cons, List.length_nil]; omega) | decide)) (.cons 0 rfl (.cons 0 rfl (.cons 0 rfl .refl))) (.cons (Get.tmp rfl) .nil) (fun v21 => ?_)
  try dsimp only
  refine L.nil ?_
  refine N.thenW ?_
  refine W.keep (.cons (t := 0) rfl .nil) .refl ?_
  refine W.seq ?_
  refine W.region ?_
  refine L.op1 rfl rfl (GSpec.plain rfl (spec_move rfl (Get.tmp rfl))) ?_
  refine L.op1 rfl rfl (GSpec.plain rfl (spec_call rfl Tryz.call35 (ref_ok _) (.cons (Get.cstr (l := [112, 117, 115, 104]) rfl rfl) .nil))) ?_
  refine L.op1 rfl rfl (GSpec.plain rfl (spec_call rfl Tryz.call36 (num_ok _) (.cons (Get.cint rfl) .nil))) ?_
  refine L.op1 rfl rfl (GSpec.plain rfl (spec_call rfl Tryz.call35 (ref_ok _) (.cons (Get.cstr (l := [111, 114, 100, 121]) rfl rfl) .nil))) ?_
  refine L.op1 rfl rfl (GSpec.plain rfl (spec_call rfl Tryz.call36 (num_ok _) (.cons (Get.cint rfl) .nil))) ?_
  refine L.op1 rfl rfl (GSpec.plain rfl (spec_call rfl Tryz.call35 (ref_ok _) (.cons (Get.cstr (l := [118]) rfl rfl) .nil))) ?_
  refine L.op1 rfl rfl (GSpec.plain rfl (spec_call rfl Tryz.call44 (when_ok _ _ _) (.cons (Get.tmp rfl) (.cons (Get.tmp rfl) (.cons (Get.tmp rfl) .nil))))) ?_
  refine L.op1 rfl rfl (GSpec.plain rfl (spec_call rfl Tryz.call44 (when_ok _ _ _) (.cons (Get.tmp rfl) (.cons (Get.tmp rfl) (.cons (Get.tmp rfl) .nil))))) ?_
  refine L.call rfl rfl rfl rfl Tryz.call40 (regB_ok _ _ _ _ _ _ (by first | omega | (simp only [addW, addR, pushD, popD, stageD, queue0, delay0, swapW, swap0, beginD, List.length_append, List.length_cons, List.length_nil]; omega) | decide)) (.cons 0 rfl (.cons 0 rfl (.cons 0 rfl .refl))) (.cons (Get.tmp rfl) (.cons (Get.cstr (l := [118]) rfl rfl) (.cons (Get.cint rfl) (.cons (Get.tmp rfl) .nil)))) (fun v30 => ?_)
  try dsimp only
  refine L.nil ?_
  refine N.thenW ?_
  refine W.keep (.cons (t := 0) rfl .nil) .refl ?_
  refine W.region ?_
  refine L.op1 rfl rfl (GSpec.plain rfl (spec_move rfl (Get.tmp rfl))) ?_
  refine L.op1 rfl rfl (GSpec.plain rfl (spec_call rfl Tryz.call35 (ref_ok _) (.cons (Get.cstr (l := [112, 117, 115, 104]) rfl rfl) .nil))) ?_
  refine L.op1 rfl rfl (GSpec.plain rfl (spec_call rfl Tryz.call35 (ref_ok _) (.cons (Get.cstr (l := [105, 116]) rfl rfl) .nil))) ?_
  refine L.op1 rfl rfl (GSpec.plain rfl (spec_call rfl Tryz.call35 (ref_ok _) (.cons (Get.cstr (l := [116]) rfl rfl) .nil))) ?_
  refine L.op1 rfl rfl (GSpec.plain rfl (spec_call rfl Tryz.call44 (when_ok _ _ _) (.cons (Get.tmp rfl) (.cons (Get.tmp rfl) (.cons (Get.tmp rfl) .nil))))) ?_
  refine L.call rfl rfl rfl rfl Tryz.call40 (regB_ok _ _ _ _ _ _ (by first | omega | (simp only [addW, addR, pushD, popD, stageD, queue0, delay0, swapW, swap0, beginD, List.length_append, List.length_cons, List.length_nil]; omega) | decide)) (.cons 0 rfl (.cons 0 rfl (.cons 0 rfl .refl))) (.cons (Get.tmp rfl) (.cons (Get.cstr (l := [116]) rfl rfl) (.cons (Get.cint rfl) (.cons (Get.tmp rfl) .nil)))) (fun v36 => ?_)
  try dsimp only
  refine L.nil ?_
  refine N.ret (X := (bdX r (stageD d w))) v36 rfl .nil res0 (.cons 0 rfl (.cons 0 rfl (.cons 0 rfl .nil))) (fun _ _ h => h)
  skip

theorem end_ok (r : Nat) (v : Value × Value) (d : Ds) : CallT Tryz.prog 47 [Rp.ptr r 0] [MF.box r 111 (bdR d v), MF.osl v.1 77 6 eWr d.wires, MF.osl v.2 81 7 eRg d.regs] (.one (Rp.tuple [Rp.agg (eD d), Rp.int .i64 0])) := by
  refine W.enter (fn := Tryz.f47) (n := 8) Tryz.func47 rfl Tryz.ntmps47 rfl (fun w₀ C₀ => ?_)
  simp only [argS]
  refine W.seq ?_
  refine W.region ?_
  refine L.box rfl rfl (GSpec.plain rfl (spec_alloc rfl ti27 z27)) (fun r2 => ?_)
  refine L.op1 rfl rfl (GSpec.plain rfl (spec_assign rfl (Get.cint rfl))) ?_
  refine L.nil ?_
  refine N.thenW ?_
  refine W.pubBox (off := 2) 2 1 rfl rfl rfl (fun _ => rfl) ?_
  refine W.pubBox (off := 3) 2 1 rfl rfl rfl (fun _ => rfl) ?_
  refine W.keep (.cons (t := 0) rfl (.cons (t := 2) rfl (.cons (t := 3) rfl .nil))) .refl ?_
  refine W.seq ?_
  refine W.region ?_
  refine L.op1 rfl rfl (GSpec.plain rfl (spec_move rfl (Get.tmp rfl))) ?_
  refine L.op1 rfl rfl (GSpec.plain rfl (spec_nilCheck rfl (Get.tmp rfl))) ?_
  refine L.op1 rfl rfl (GSpec.plain rfl (spec_fieldAddr (f := 0) (off' := 0) rfl Tryz.underlying111 rfl Tryz.sizeOf27 (Get.tmp rfl) rfl)) ?_
  refine L.op1 rfl rfl (GSpec.plain rfl (spec_loadW (k := 1) rfl Tryz.isAgg27 Tryz.sizeOf27 (Get.tmp rfl) rfl rfl)) ?_
  refine L.storeW (k := 0) rfl rfl rfl Tryz.sizeOf27 (Get.tmp rfl) (Get.tmp rfl) rfl rfl rfl ?_
  refine L.op1 rfl rfl (GSpec.plain rfl (spec_assign rfl (Get.cint rfl))) ?_
  refine L.nil ?_
  refine N.thenW ?_
  refine W.keep (.cons (t := 2) rfl (.cons (t := 3) rfl .nil)) .refl ?_
  refine W.ret ?_
  refine N.ret () rfl (.cellA (k := 0) (Get.tmp (t := 2) rfl) rfl Tryz.isAgg27 Tryz.sizeOf27 rfl (.tmp (t := 3) (Get.tmp rfl) .nil)) (res2w (eqA ?_) (eqI ?_)) .nil (fun _ _ h => h)
  all_goals rfl

end Go.Proofs.YthlfacmpjehjmaaGreatDoor
set_option linter.unusedSimpArgs false
set_option maxRecDepth 8000
set_option linter.unusedVariables false
namespace Go.Proofs.YthlfacmpjehjmaaGreatDoor
open Go.Sim
theorem fields_ok  : CallT Tryz.prog 75 [Rp.str txt] [spG] (.one (Rp.slice eS [sIrdy, sOv, sOt, sOa])) := by
  refine W.enter (fn := Tryz.f75) (n := 106) Tryz.func75 rfl Tryz.ntmps75 rfl (fun w₀ C₀ => ?_)
  simp only [argS]
  have htl : txt.length = 13 := rfl
  refine W.seq ?_
  refine W.region ?_
  refine L.op1 rfl rfl (GSpec.plain rfl (spec_assign rfl (Get.cnil (E := eS)))) ?_
  refine L.nil ?_
  refine N.thenW ?_
  refine W.seq ?_
  refine W.region ?_
  refine L.op1 rfl rfl (GSpec.plain rfl (spec_assign rfl (Get.cint rfl))) ?_
  refine L.nil ?_
  refine N.thenW ?_
  refine W.seq ?_
  refine W.region ?_
  refine L.op1 rfl rfl (GSpec.plain rfl (spec_assign rfl (Get.cint rfl))) ?_
  refine L.nil ?_
  refine N.thenW ?_
  refine W.seq ?_
  refine W.region ?_
  refine L.op1 rfl rfl (GSpec.plain rfl (spec_assign rfl (Get.cint rfl))) ?_
  refine L.nil ?_
  refine N.thenW ?_
  refine W.seq ?_
  refine W.seq ?_
  refine W.region ?_
  refine L.op1 rfl rfl (GSpec.plain rfl (spec_assign rfl (Get.cint rfl))) ?_
  refine L.nil ?_
  refine N.thenW ?_
  refine W.block ?_
  refine W.loopK (σ := Nat) (.cons (t := 0) rfl (.cons (t := 2) rfl .nil)) (fun z => [(6, Rp.int .i64 (z : Nat)), (3, Rp.int .i64 (cF z).1), (4, Rp.int .i64 (cF z).2.1), (5, Rp.int .u8 (cF z).2.2)]) (fun z => []) (fun z => z ≤ 13) (fun z => 13 - z) 0 (Nat.zero_le _) (.cons (t := 6) rfl (.cons (t := 3) rfl (.cons (t := 4) rfl (.cons (t := 5) rfl .nil)))) (.cons 0 rfl .nil) ?_
  intro i hI S' M' hS hM
  try dsimp only at hS hM
  simp only [List.cons_append, List.nil_append] at hS hM
  subst hS hM
  try dsimp only
  refine W.seq ?_
  refine W.seq ?_
  refine W.region ?_
  refine L.op1 rfl rfl (GSpec.plain rfl (spec_move rfl (Get.tmp rfl))) ?_
  refine L.op1 rfl rfl (GSpec.plain rfl (spec_move rfl (Get.tmp rfl))) ?_
  refine L.op1 rfl rfl (GSpec.plain rfl (spec_lenS rfl Tryz.underlying9 (Get.tmp rfl))) ?_
  refine L.op1 rfl rfl (GSpec.plain rfl (spec_lss rfl (Get.tmp rfl) (Get.tmp rfl))) ?_
  refine L.nil ?_
  refine N.thenW ?_
  refine W.cond (Get.tmp rfl) (fun h1 => ?_) (fun h1 => ?_)
  · have ph1 := h1; try simp only [decide_eq_true_eq, decide_eq_false_iff_not, Bool.and_eq_true, Bool.or_eq_true, Bool.and_eq_false_iff, Bool.or_eq_false_iff, Bool.not_eq_true', Bool.not_eq_false', Bool.not_true, Bool.not_false, Int.not_lt, Int.not_le] at ph1
    refine W.skip ?_
    refine N.thenW ?_
    refine W.seq ?_
    refine W.block ?_
    refine W.seq ?_
    refine W.region ?_
    refine L.op1 rfl rfl (GSpec.plain rfl (spec_move rfl (Get.tmp rfl))) ?_
    refine L.op1 rfl rfl (GSpec.plain rfl (spec_move rfl (Get.tmp rfl))) ?_
    refine L.op1 rfl rfl (GSpec.plain rfl (spec_indexS rfl Tryz.underlying9 (Get.tmp rfl) (Get.tmp rfl) (by (first | omega | (simp only [txt, List.length_cons, List.length_nil, Int.toNat_natCast]; omega))))) ?_
    refine L.op1 rfl rfl (GSpec.plain rfl (spec_assign rfl (Get.tmp rfl))) ?_
    refine L.nil ?_
    refine N.thenW ?_
    refine W.seq ?_
    refine W.region ?_
    refine L.op1 rfl rfl (GSpec.plain rfl (spec_move rfl (Get.tmp rfl))) ?_
    refine L.op1 rfl rfl (GSpec.plain rfl (spec_move rfl (Get.tmp rfl))) ?_
    refine L.op1 rfl rfl (GSpec.plain rfl (spec_bits rfl (by simp) (Get.tmp rfl) (Get.tmp rfl))) ?_
    refine L.op1 rfl rfl (GSpec.plain rfl (spec_assign rfl (Get.tmp rfl))) ?_
    refine L.nil ?_
    refine N.thenW ?_
    refine W.seq ?_
    refine W.region ?_
    refine L.op1 rfl rfl (GSpec.plain rfl (spec_move rfl (Get.tmp rfl))) ?_
    refine L.op1 rfl rfl (GSpec.plain rfl (spec_indexAddrG (k := 0) (zs := spTab) (ke := .u8) rfl Tryz.underlying123 Tryz.sizeOf5 rfl (Get.tmp rfl) (byte_ix _) (by decide))) ?_
    refine L.op1 rfl rfl (GSpec.plain rfl (spec_loadP1 rfl Tryz.isAgg5 (Get.tmp rfl))) ?_
    first | refine L.op1 rfl rfl (GSpec.plain rfl (fit_i64 (by (first | omega | (simp only [txt, List.length_cons, List.length_nil, Int.toNat_natCast]; omega))) (by (first | omega | (simp only [txt, List.length_cons, List.length_nil, Int.toNat_natCast]; omega))) (spec_conv rfl Tryz.underlying3 ⟨_, Tryz.underlying5⟩ (Get.tmp rfl)))) ?_ | refine L.op1 rfl rfl (GSpec.plain rfl (spec_conv rfl Tryz.underlying3 ⟨_, Tryz.underlying5⟩ (Get.tmp rfl))) ?_
    refine L.op1 rfl rfl (GSpec.plain rfl (spec_assign rfl (Get.tmp rfl))) ?_
    refine L.nil ?_
    refine N.thenW ?_
    refine W.seq ?_
    refine W.region ?_
    refine L.op1 rfl rfl (GSpec.plain rfl (spec_move rfl (Get.tmp rfl))) ?_
    refine L.op1 rfl rfl (GSpec.plain rfl (spec_move rfl (Get.tmp rfl))) ?_
    refine L.op1 rfl rfl (GSpec.plain rfl (spec_move rfl (Get.tmp rfl))) ?_
    refine L.op1 rfl rfl (GSpec.plain rfl (spec_xor64 rfl (Get.tmp rfl))) ?_
    refine L.op1 rfl rfl (GSpec.plain rfl (spec_bits rfl (by simp) (Get.tmp rfl) (Get.tmp rfl))) ?_
    refine L.op1 rfl rfl (GSpec.plain rfl (spec_add rfl (Get.tmp rfl) (Get.tmp rfl))) ?_
    refine L.op1 rfl rfl (GSpec.plain rfl (spec_assign rfl (Get.tmp rfl))) ?_
    refine L.nil ?_
    refine N.thenW ?_
    refine W.region ?_
    refine L.op1 rfl rfl (GSpec.plain rfl (spec_move rfl (Get.tmp rfl))) ?_
    refine L.op1 rfl rfl (GSpec.plain rfl (spec_assign rfl (Get.tmp rfl))) ?_
    refine L.nil ?_
    refine N.blockNormal ?_
    refine N.thenW ?_
    refine W.region ?_
    refine L.op1 rfl rfl (GSpec.plain rfl (spec_move rfl (Get.tmp rfl))) ?_
    first | refine L.op1 rfl rfl (GSpec.plain rfl (fit_i64 (by (first | omega | (simp only [txt, List.length_cons, List.length_nil, Int.toNat_natCast]; omega))) (by (first | omega | (simp only [txt, List.length_cons, List.length_nil, Int.toNat_natCast]; omega))) (spec_add rfl (Get.tmp rfl) (Get.cint rfl)))) ?_ | refine L.op1 rfl rfl (GSpec.plain rfl (spec_add rfl (Get.tmp rfl) (Get.cint rfl))) ?_
    refine L.op1 rfl rfl (GSpec.plain rfl (spec_assign rfl (Get.tmp rfl))) ?_
    refine L.nil ?_
    refine N.roundK (i + 1) ?hI1 ?hmu1 ?hs1 ?hk1 ?hp1
    case hs1 => exact (.cons (t := 6) rfl (.weak (t := 3) rfl (eqI (by rfl)) (.weak (t := 4) rfl (eqI (by rfl)) (.weak (t := 5) rfl (eqI (by rfl)) .nil))))
    case hk1 => exact (.cons (t := 0) rfl (.cons (t := 2) rfl .nil))
    case hp1 => exact (.cons 0 rfl .nil)
    all_goals (first | rfl | trivial | omega | (simp_all; done))
  · have ph1 := h1; try simp only [decide_eq_true_eq, decide_eq_false_iff_not, Bool.and_eq_true, Bool.or_eq_true, Bool.and_eq_false_iff, Bool.or_eq_false_iff, Bool.not_eq_true', Bool.not_eq_false', Bool.not_true, Bool.not_false, Int.not_lt, Int.not_le] at ph1
    refine W.exit ?_
    refine N.thenExit ?_
    refine N.thenExit ?_
    refine N.blockExit ?_
    refine N.thenW ?_
    have hi : i = 13 := by omega
    subst hi
    refine W.keep (.cons (t := 0) rfl (.cons (t := 2) rfl (.cons (t := 3) rfl (.cons (t := 5) rfl .nil)))) .refl ?_
    refine W.seq ?_
    refine W.seq ?_
    refine W.region ?_
    refine L.op1 rfl rfl (GSpec.plain rfl (spec_move rfl (Get.tmp rfl))) ?_
    refine L.op1 rfl rfl (GSpec.plain rfl (spec_geq rfl (Get.tmp rfl) (Get.cint rfl))) ?_
    refine L.nil ?_
    refine N.thenW ?_
    refine W.cond (Get.tmp rfl) (fun h2 => ?_) (fun h2 => ?_)
    · exfalso; have h := of_decide_eq_true h2; have := cF_end.2; omega
    · have ph2 := h2; try simp only [decide_eq_true_eq, decide_eq_false_iff_not, Bool.and_eq_true, Bool.or_eq_true, Bool.and_eq_false_iff, Bool.or_eq_false_iff, Bool.not_eq_true', Bool.not_eq_false', Bool.not_true, Bool.not_false, Int.not_lt, Int.not_le] at ph2
      refine W.skip ?_
      refine N.thenW ?_
      have e4 : (cF 13).1 = 4 := cF_end.1
      rw [e4]
      refine W.seq ?_
      refine W.region ?_
      refine L.op1 rfl rfl (GSpec.plain rfl (spec_move rfl (Get.tmp rfl))) ?_
      refine L.op rfl rfl (GSpec.plain rfl (spec_makeSlice (z₀ := ([] : List UInt8)) (E := eS) rfl Tryz.underlying25 ti9 z9 (fun _ => rfl) (Get.tmp rfl) (Get.tmp rfl) (by (first | omega | (simp only [txt, List.length_cons, List.length_nil, Int.toNat_natCast]; omega))) (by (first | omega | (simp only [txt, List.length_cons, List.length_nil, Int.toNat_natCast]; omega))) (by (first | omega | (simp only [txt, List.length_cons, List.length_nil, Int.toNat_natCast]; omega))))) (fun v41 => ?_)
      refine L.op1 rfl rfl (GSpec.plain rfl (spec_assign rfl (Get.tmp rfl))) ?_
      refine L.nil ?_
      refine N.thenW ?_
      refine W.keep (.cons (t := 0) rfl (.cons (t := 2) rfl (.cons (t := 9) rfl .nil))) .refl ?_
      refine W.seq ?_
      refine W.region ?_
      refine L.op1 rfl rfl (GSpec.plain rfl (spec_assign rfl (Get.cint rfl))) ?_
      refine L.nil ?_
      refine N.thenW ?_
      refine W.seq ?_
      refine W.region ?_
      refine L.op1 rfl rfl (GSpec.plain rfl (spec_assign rfl (Get.cint rfl))) ?_
      refine L.nil ?_
      refine N.thenW ?_
      refine W.seq ?_
      refine W.region ?_
      refine L.op1 rfl rfl (GSpec.plain rfl (spec_assign rfl (Get.cint rfl))) ?_
      refine L.nil ?_
      refine N.thenW ?_
      refine W.seq ?_
      refine W.block ?_
      refine W.loopK (σ := Nat) (.cons (t := 0) rfl (.cons (t := 2) rfl (.cons (t := 9) rfl (.cons (t := 10) rfl (.cons (t := 11) rfl .nil))))) (fun z => [(12, Rp.int .i64 (z : Nat))]) (fun z => []) (fun z => z = 0) (fun z => 0) 0 rfl (.cons (t := 12) rfl .nil) (.cons 0 rfl (.cons 0 rfl .nil)) ?_
      intro z hI S' M' hS hM
      try dsimp only at hS hM
      simp only [List.cons_append, List.nil_append] at hS hM
      subst hS hM
      try dsimp only
      refine W.seq ?_
      refine W.seq ?_
      refine W.region ?_
      refine L.op1 rfl rfl (GSpec.plain rfl (spec_move rfl (Get.tmp rfl))) ?_
      refine L.op1 rfl rfl (GSpec.plain rfl (spec_move rfl (Get.tmp rfl))) ?_
      refine L.op1 rfl rfl (GSpec.plain rfl (spec_lenS rfl Tryz.underlying9 (Get.tmp rfl))) ?_
      refine L.op1 rfl rfl (GSpec.plain rfl (spec_lss rfl (Get.tmp rfl) (Get.tmp rfl))) ?_
      refine L.op1 rfl rfl (GSpec.plain rfl (spec_move rfl (Get.tmp rfl))) ?_
      refine L.op1 rfl rfl (GSpec.guard rfl rfl rfl fun hg => (spec_move rfl (Get.tmp rfl))) ?_
      refine L.op1 rfl rfl (GSpec.guard rfl rfl rfl fun hg => (spec_move rfl (Get.tmp rfl))) ?_
      refine L.op1 rfl rfl (GSpec.guard rfl rfl rfl fun hg => (spec_indexS rfl Tryz.underlying9 (Get.opt rfl hg) (Get.opt rfl hg) (by (have := of_decide_eq_true hg; first | omega | (simp only [txt, List.length_cons, List.length_nil, Int.toNat_natCast] at *; omega))))) ?_
      refine L.op1 rfl rfl (GSpec.guard rfl rfl rfl fun hg => (spec_indexAddrG (k := 1) (zs := spTab) (ke := .u8) rfl Tryz.underlying123 Tryz.sizeOf5 rfl (Get.opt rfl hg) (byte_ix _) (by decide))) ?_
      refine L.op1 rfl rfl (GSpec.guard rfl rfl rfl fun hg => (spec_loadP1 rfl Tryz.isAgg5 (Get.opt rfl hg))) ?_
      refine L.op1 rfl rfl (GSpec.guard rfl rfl rfl fun hg => (spec_neq rfl (Get.opt rfl hg) (Get.cint rfl))) ?_
      refine L.op1 rfl rfl (GSpec.plain rfl (spec_and rfl (Get.tmp rfl) (fun hb => (Get.opt rfl hb)))) ?_
      refine L.nil ?_
      refine N.thenW ?_
      refine W.cond (Get.tmp rfl) (fun h3 => ?_) (fun h3 => ?_)
      · exfalso; have h := h3; subst hI; revert h; decide
      · have ph3 := h3; try simp only [decide_eq_true_eq, decide_eq_false_iff_not, Bool.and_eq_true, Bool.or_eq_true, Bool.and_eq_false_iff, Bool.or_eq_false_iff, Bool.not_eq_true', Bool.not_eq_false', Bool.not_true, Bool.not_false, Int.not_lt, Int.not_le] at ph3
        refine W.exit ?_
        refine N.thenExit ?_
        refine N.thenExit ?_
        refine N.blockExit ?_
        refine N.thenW ?_
        subst hI
        refine W.keep (.cons (t := 0) rfl (.cons (t := 2) rfl (.cons (t := 9) rfl (.cons (t := 10) rfl (.cons (t := 11) rfl (.cons (t := 12) rfl .nil)))))) .refl ?_
        refine W.seq ?_
        refine W.region ?_
        refine L.op1 rfl rfl (GSpec.plain rfl (spec_move rfl (Get.tmp rfl))) ?_
        refine L.op1 rfl rfl (GSpec.plain rfl (spec_assign rfl (Get.tmp rfl))) ?_
        refine L.nil ?_
        refine N.thenW ?_
        refine W.seq ?_
        refine W.block ?_
        refine W.loopK (σ := Nat) (.cons (t := 0) rfl (.cons (t := 2) rfl (.cons (t := 9) rfl .nil))) (fun z => [(12, Rp.int .i64 (z : Nat)), (10, Rp.int .i64 ((fA z).2.1 : Nat)), (11, Rp.int .i64 ((fA z).2.2 : Nat))]) (fun z => [MF.osl v41 9 1 eS (fA z).1]) (fun z => z ≤ 13) (fun z => 13 - z) 0 (Nat.zero_le _) (.cons (t := 12) rfl (.cons (t := 10) rfl (.cons (t := 11) rfl .nil))) (.cons 0 rfl (.cons 0 rfl .nil)) ?_
        intro i hI S' M' hS hM
        try dsimp only at hS hM
        simp only [List.cons_append, List.nil_append] at hS hM
        subst hS hM
        try dsimp only
        refine W.seq ?_
        refine W.seq ?_
        refine W.region ?_
        refine L.op1 rfl rfl (GSpec.plain rfl (spec_move rfl (Get.tmp rfl))) ?_
        refine L.op1 rfl rfl (GSpec.plain rfl (spec_move rfl (Get.tmp rfl))) ?_
        refine L.op1 rfl rfl (GSpec.plain rfl (spec_lenS rfl Tryz.underlying9 (Get.tmp rfl))) ?_
        refine L.op1 rfl rfl (GSpec.plain rfl (spec_lss rfl (Get.tmp rfl) (Get.tmp rfl))) ?_
        refine L.nil ?_
        refine N.thenW ?_
        refine W.cond (Get.tmp rfl) (fun h4 => ?_) (fun h4 => ?_)
        · have ph4 := h4; try simp only [decide_eq_true_eq, decide_eq_false_iff_not, Bool.and_eq_true, Bool.or_eq_true, Bool.and_eq_false_iff, Bool.or_eq_false_iff, Bool.not_eq_true', Bool.not_eq_false', Bool.not_true, Bool.not_false, Int.not_lt, Int.not_le] at ph4
          refine W.skip ?_
          refine N.thenW ?_
          have hbd := fA_bd i (by omega)
          have hal := fA_len i
          refine W.block ?_
          refine W.seq ?_
          refine W.seq ?_
          refine W.region ?_
          refine L.op1 rfl rfl (GSpec.plain rfl (spec_move rfl (Get.tmp rfl))) ?_
          refine L.op1 rfl rfl (GSpec.plain rfl (spec_move rfl (Get.tmp rfl))) ?_
          refine L.op1 rfl rfl (GSpec.plain rfl (spec_indexS rfl Tryz.underlying9 (Get.tmp rfl) (Get.tmp rfl) (by (first | omega | (simp only [txt, List.length_cons, List.length_nil, Int.toNat_natCast]; omega))))) ?_
          refine L.op1 rfl rfl (GSpec.plain rfl (spec_indexAddrG (k := 1) (zs := spTab) (ke := .u8) rfl Tryz.underlying123 Tryz.sizeOf5 rfl (Get.tmp rfl) (byte_ix _) (by decide))) ?_
          refine L.op1 rfl rfl (GSpec.plain rfl (spec_loadP1 rfl Tryz.isAgg5 (Get.tmp rfl))) ?_
          refine L.op1 rfl rfl (GSpec.plain rfl (spec_eql rfl (Get.tmp rfl) (Get.cint rfl))) ?_
          refine L.nil ?_
          refine N.thenW ?_
          refine W.cond (Get.tmp rfl) (fun h5 => ?_) (fun h5 => ?_)
          · have hsp : isF i = 0 := by have h := of_decide_eq_true h5; exact h
            have hst := fA_no hsp
            refine W.seq ?_
            refine W.region ?_
            refine L.op1 rfl rfl (GSpec.plain rfl (spec_move rfl (Get.tmp rfl))) ?_
            first | refine L.op1 rfl rfl (GSpec.plain rfl (fit_i64 (by (first | omega | (simp only [txt, List.length_cons, List.length_nil, Int.toNat_natCast]; omega))) (by (first | omega | (simp only [txt, List.length_cons, List.length_nil, Int.toNat_natCast]; omega))) (spec_add rfl (Get.tmp rfl) (Get.cint rfl)))) ?_ | refine L.op1 rfl rfl (GSpec.plain rfl (spec_add rfl (Get.tmp rfl) (Get.cint rfl))) ?_
            refine L.op1 rfl rfl (GSpec.plain rfl (spec_assign rfl (Get.tmp rfl))) ?_
            refine L.nil ?_
            refine N.thenW ?_
            refine W.exit ?_
            refine N.thenExit ?_
            refine N.blockExit ?_
            refine N.roundK (i + 1) ?hI2 ?hmu2 ?hs2 ?hk2 ?hp2
            case hs2 => exact (.cons (t := 12) rfl (.weak (t := 10) rfl (eqI (by first | rfl | (rw [hst]; done) | (rw [hst]; rfl) | (rw [hst]; dsimp only; omega))) (.weak (t := 11) rfl (eqI (by first | rfl | (rw [hst]; done) | (rw [hst]; rfl) | (rw [hst]; dsimp only; omega))) .nil)))
            case hk2 => exact (.cons (t := 0) rfl (.cons (t := 2) rfl (.cons (t := 9) rfl .nil)))
            case hp2 => rw [hst]; exact (.cons 0 rfl (.cons 0 rfl .nil))
            all_goals (first | rfl | trivial | omega | (simp_all; done))
          · have hsp : ¬ isF i = 0 := by have h := of_decide_eq_false h5; exact h
            have hst := fA_yes hsp
            have hb2 := hbd.2 hsp
            refine W.skip ?_
            refine N.thenW ?_
            refine W.seq ?_
            refine W.region ?_
            refine L.op1 rfl rfl (GSpec.plain rfl (spec_move rfl (Get.tmp rfl))) ?_
            refine L.op1 rfl rfl (GSpec.plain rfl (spec_move rfl (Get.tmp rfl))) ?_
            refine L.op1 rfl rfl (GSpec.plain rfl (spec_move rfl (Get.tmp rfl))) ?_
            refine L.op1 rfl rfl (GSpec.plain rfl (spec_move rfl (Get.tmp rfl))) ?_
            refine L.op1 rfl rfl (GSpec.plain rfl (spec_move rfl (Get.tmp rfl))) ?_
            refine L.op1 rfl rfl (GSpec.plain rfl (spec_sliceS rfl Tryz.underlying9 (Get.tmp rfl) (.some (Get.tmp rfl) (by (first | omega | (simp only [txt, List.length_cons, List.length_nil, Int.toNat_natCast]; omega)))) (.some (Get.tmp rfl) (by (first | omega | (simp only [txt, List.length_cons, List.length_nil, Int.toNat_natCast]; omega)))) (by (first | omega | (simp only [txt, List.length_cons, List.length_nil, Int.toNat_natCast]; omega))))) ?_
            refine L.op1 rfl rfl (GSpec.plain rfl (spec_indexAddrO (k := 0) (E := eS) rfl Tryz.underlying25 Tryz.sizeOf9 (Get.tmp rfl) (Get.tmp rfl) rfl (by (first | omega | (simp only [txt, List.length_cons, List.length_nil, Int.toNat_natCast]; omega))))) ?_
            refine L.storeO1 (k := 0) (j := 0) (E := eS) rfl rfl rfl Tryz.sizeOf9 (fun _ => rfl) (Get.tmp rfl) (Get.tmp rfl) rfl rfl (by decide) (getD_some (by (first | omega | (simp only [txt, List.length_cons, List.length_nil, Int.toNat_natCast]; omega)))) rfl ?_
            refine L.nil ?_
            refine N.thenW ?_
            refine W.seq ?_
            refine W.region ?_
            refine L.op1 rfl rfl (GSpec.plain rfl (spec_move rfl (Get.tmp rfl))) ?_
            first | refine L.op1 rfl rfl (GSpec.plain rfl (fit_i64 (by (first | omega | (simp only [txt, List.length_cons, List.length_nil, Int.toNat_natCast]; omega))) (by (first | omega | (simp only [txt, List.length_cons, List.length_nil, Int.toNat_natCast]; omega))) (spec_add rfl (Get.tmp rfl) (Get.cint rfl)))) ?_ | refine L.op1 rfl rfl (GSpec.plain rfl (spec_add rfl (Get.tmp rfl) (Get.cint rfl))) ?_
            refine L.op1 rfl rfl (GSpec.plain rfl (spec_assign rfl (Get.tmp rfl))) ?_
            refine L.nil ?_
            refine N.thenW ?_
            refine W.seq ?_
            refine W.region ?_
            refine L.op1 rfl rfl (GSpec.plain rfl (spec_move rfl (Get.tmp rfl))) ?_
            first | refine L.op1 rfl rfl (GSpec.plain rfl (fit_i64 (by (first | omega | (simp only [txt, List.length_cons, List.length_nil, Int.toNat_natCast]; omega))) (by (first | omega | (simp only [txt, List.length_cons, List.length_nil, Int.toNat_natCast]; omega))) (spec_add rfl (Get.tmp rfl) (Get.cint rfl)))) ?_ | refine L.op1 rfl rfl (GSpec.plain rfl (spec_add rfl (Get.tmp rfl) (Get.cint rfl))) ?_
            refine L.op1 rfl rfl (GSpec.plain rfl (spec_assign rfl (Get.tmp rfl))) ?_
            refine L.nil ?_
            refine N.thenW ?_
            refine W.seq ?_
            refine W.block ?_
            refine W.loopK (σ := Nat) (.cons (t := 0) rfl (.cons (t := 2) rfl (.cons (t := 9) rfl (.cons (t := 10) rfl (.cons (t := 11) rfl (.cons (t := 57) rfl (.cons (t := 58) rfl (.cons (t := 59) rfl (.cons (t := 60) rfl (.cons (t := 61) rfl (.cons (t := 62) rfl (.cons (t := 63) rfl (.cons (t := 64) rfl (.cons (t := 65) rfl (.cons (t := 66) rfl (.cons (t := 69) rfl (.cons (t := 70) rfl (.cons (t := 71) rfl (.cons (t := 72) rfl (.cons (t := 73) rfl (.cons (t := 74) rfl (.cons (t := 75) rfl (.cons (t := 76) rfl (.cons (t := 77) rfl (.cons (t := 78) rfl (.cons (t := 79) rfl .nil)))))))))))))))))))))))))) (fun z => [(12, Rp.int .i64 (z : Nat))]) (fun z => []) (fun z => z = i + 1) (fun z => 0) (i + 1) rfl (.cons (t := 12) rfl .nil) (.cons 0 rfl (.cons 0 rfl .nil)) ?_
            intro q hI S' M' hS hM
            try dsimp only at hS hM
            simp only [List.cons_append, List.nil_append] at hS hM
            subst hS hM
            try dsimp only
            refine W.seq ?_
            refine W.seq ?_
            refine W.region ?_
            refine L.op1 rfl rfl (GSpec.plain rfl (spec_move rfl (Get.tmp rfl))) ?_
            refine L.op1 rfl rfl (GSpec.plain rfl (spec_move rfl (Get.tmp rfl))) ?_
            refine L.op1 rfl rfl (GSpec.plain rfl (spec_lenS rfl Tryz.underlying9 (Get.tmp rfl))) ?_
            refine L.op1 rfl rfl (GSpec.plain rfl (spec_lss rfl (Get.tmp rfl) (Get.tmp rfl))) ?_
            refine L.op1 rfl rfl (GSpec.plain rfl (spec_move rfl (Get.tmp rfl))) ?_
            refine L.op1 rfl rfl (GSpec.guard rfl rfl rfl fun hg => (spec_move rfl (Get.tmp rfl))) ?_
            refine L.op1 rfl rfl (GSpec.guard rfl rfl rfl fun hg => (spec_move rfl (Get.tmp rfl))) ?_
            refine L.op1 rfl rfl (GSpec.guard rfl rfl rfl fun hg => (spec_indexS rfl Tryz.underlying9 (Get.opt rfl hg) (Get.opt rfl hg) (by (have := of_decide_eq_true hg; first | omega | (simp only [txt, List.length_cons, List.length_nil, Int.toNat_natCast] at *; omega))))) ?_
            refine L.op1 rfl rfl (GSpec.guard rfl rfl rfl fun hg => (spec_indexAddrG (k := 1) (zs := spTab) (ke := .u8) rfl Tryz.underlying123 Tryz.sizeOf5 rfl (Get.opt rfl hg) (byte_ix _) (by decide))) ?_
            refine L.op1 rfl rfl (GSpec.guard rfl rfl rfl fun hg => (spec_loadP1 rfl Tryz.isAgg5 (Get.opt rfl hg))) ?_
            refine L.op1 rfl rfl (GSpec.guard rfl rfl rfl fun hg => (spec_neq rfl (Get.opt rfl hg) (Get.cint rfl))) ?_
            refine L.op1 rfl rfl (GSpec.plain rfl (spec_and rfl (Get.tmp rfl) (fun hb => (Get.opt rfl hb)))) ?_
            refine L.nil ?_
            refine N.thenW ?_
            refine W.cond (Get.tmp rfl) (fun h6 => ?_) (fun h6 => ?_)
            · exfalso; have h := h6; subst hI; have hd := hb2.2; simp only [Bool.and_eq_true, decide_eq_true_eq, Bool.not_eq_true', decide_eq_false_iff_not] at h; exact h.2 (hd (by omega))
            · have ph6 := h6; try simp only [decide_eq_true_eq, decide_eq_false_iff_not, Bool.and_eq_true, Bool.or_eq_true, Bool.and_eq_false_iff, Bool.or_eq_false_iff, Bool.not_eq_true', Bool.not_eq_false', Bool.not_true, Bool.not_false, Int.not_lt, Int.not_le] at ph6
              refine W.exit ?_
              refine N.thenExit ?_
              refine N.thenExit ?_
              refine N.blockExit ?_
              refine N.thenW ?_
              subst hI
              refine W.region ?_
              refine L.op1 rfl rfl (GSpec.plain rfl (spec_move rfl (Get.tmp rfl))) ?_
              refine L.op1 rfl rfl (GSpec.plain rfl (spec_assign rfl (Get.tmp rfl))) ?_
              refine L.nil ?_
              refine N.blockNormal ?_
              refine N.roundK (i + 1) ?hI3 ?hmu3 ?hs3 ?hk3 ?hp3
              case hs3 => exact (.cons (t := 12) rfl (.weak (t := 10) rfl (eqI (by first | rfl | (rw [hst]; done) | (rw [hst]; rfl) | (rw [hst]; dsimp only; omega))) (.weak (t := 11) rfl (eqI (by first | rfl | (rw [hst]; done) | (rw [hst]; rfl) | (rw [hst]; dsimp only; omega))) .nil)))
              case hk3 => exact (.cons (t := 0) rfl (.cons (t := 2) rfl (.cons (t := 9) rfl .nil)))
              case hp3 => rw [hst]; exact (.cons 0 rfl (.cons 0 rfl .nil))
              all_goals (first | rfl | trivial | omega | (simp_all; done))
        · have ph4 := h4; try simp only [decide_eq_true_eq, decide_eq_false_iff_not, Bool.and_eq_true, Bool.or_eq_true, Bool.and_eq_false_iff, Bool.or_eq_false_iff, Bool.not_eq_true', Bool.not_eq_false', Bool.not_true, Bool.not_false, Int.not_lt, Int.not_le] at ph4
          refine W.exit ?_
          refine N.thenExit ?_
          refine N.thenExit ?_
          refine N.blockExit ?_
          refine N.thenW ?_
          have hi : i = 13 := by omega
          subst hi
          rw [fA_end]
          dsimp only
          refine W.seq ?_
          refine W.seq ?_
          refine W.region ?_
          refine L.op1 rfl rfl (GSpec.plain rfl (spec_move rfl (Get.tmp rfl))) ?_
          refine L.op1 rfl rfl (GSpec.plain rfl (spec_move rfl (Get.tmp rfl))) ?_
          refine L.op1 rfl rfl (GSpec.plain rfl (spec_lenS rfl Tryz.underlying9 (Get.tmp rfl))) ?_
          refine L.op1 rfl rfl (GSpec.plain rfl (spec_lss rfl (Get.tmp rfl) (Get.tmp rfl))) ?_
          refine L.nil ?_
          refine N.thenW ?_
          refine W.keep (.cons (t := 0) rfl (.cons (t := 2) rfl (.cons (t := 9) rfl (.cons (t := 10) rfl (.cons (t := 11) rfl (.cons (t := 98) rfl .nil)))))) .refl ?_
          refine W.cond (Get.tmp rfl) (fun h7 => ?_) (fun h7 => ?_)
          · have ph7 := h7; try simp only [decide_eq_true_eq, decide_eq_false_iff_not, Bool.and_eq_true, Bool.or_eq_true, Bool.and_eq_false_iff, Bool.or_eq_false_iff, Bool.not_eq_true', Bool.not_eq_false', Bool.not_true, Bool.not_false, Int.not_lt, Int.not_le] at ph7
            refine W.region ?_
            refine L.op1 rfl rfl (GSpec.plain rfl (spec_move rfl (Get.tmp rfl))) ?_
            refine L.op1 rfl rfl (GSpec.plain rfl (spec_move rfl (Get.tmp rfl))) ?_
            refine L.op1 rfl rfl (GSpec.plain rfl (spec_move rfl (Get.tmp rfl))) ?_
            refine L.op1 rfl rfl (GSpec.plain rfl (spec_move rfl (Get.tmp rfl))) ?_
            refine L.op1 rfl rfl (GSpec.plain rfl (spec_sliceS rfl Tryz.underlying9 (Get.tmp rfl) (.some (Get.tmp rfl) (by (first | omega | (simp only [txt, List.length_cons, List.length_nil, Int.toNat_natCast]; omega)))) .none (by (first | omega | (simp only [txt, List.length_cons, List.length_nil, Int.toNat_natCast]; omega))))) ?_
            refine L.op1 rfl rfl (GSpec.plain rfl (spec_indexAddrO (k := 0) (E := eS) rfl Tryz.underlying25 Tryz.sizeOf9 (Get.tmp rfl) (Get.tmp rfl) rfl (by (first | omega | (simp only [txt, List.length_cons, List.length_nil, Int.toNat_natCast]; omega))))) ?_
            refine L.storeO1 (k := 0) (j := 0) (E := eS) (i := ((3 : Nat) : Int).toNat) rfl rfl rfl Tryz.sizeOf9 (fun _ => rfl) (Get.tmp rfl) (Get.tmp rfl) rfl rfl (by decide) (getD_some (by decide)) rfl ?_
            refine L.nil ?_
            refine N.thenW ?_
            refine W.pub (t := 9) (k := 0) rfl rfl (fun _ => rfl) ?_
            refine W.keep (.cons (t := 2) rfl (.cons (t := 9) rfl .nil)) .refl ?_
            refine W.seq ?_
            refine W.region ?_
            refine L.op1 rfl rfl (GSpec.plain rfl (spec_move rfl (Get.tmp rfl))) ?_
            refine L.op1 rfl rfl (GSpec.plain rfl (spec_assign rfl (Get.tmp rfl))) ?_
            refine L.nil ?_
            refine N.thenW ?_
            refine W.ret ?_
            refine N.ret () rfl (.tmp (t := 2) (Get.tmp rfl) .nil) (res1 (eqSl ?_)) .nil (fun _ _ h => h)
            rfl
          · exfalso; have h := of_decide_eq_false h7; omega

end Go.Proofs.YthlfacmpjehjmaaGreatDoor
set_option linter.unusedSimpArgs false
set_option maxRecDepth 8000
set_option linter.unusedVariables false
namespace Go.Proofs.YthlfacmpjehjmaaGreatDoor
open Go.Sim
theorem begin_ok (nm : List UInt8) (w : Int) : CallT Tryz.prog 32 [Rp.str nm, Rp.int .i64 w] [spG] (begX nm w) := by
  refine W.enter (fn := Tryz.f32) (n := 28) Tryz.func32 rfl Tryz.ntmps32 rfl (fun w₀ C₀ => ?_)
  simp only [argS]
  refine W.seq ?_
  refine W.region ?_
  refine L.op1 rfl rfl (GSpec.plain rfl (spec_assign rfl Get.cval)) ?_
  refine L.nil ?_
  refine N.thenW ?_
  refine W.seq ?_
  refine W.region ?_
  refine L.op1 rfl rfl (GSpec.plain rfl (spec_move rfl (Get.tmp rfl))) ?_
  refine L.op1 rfl rfl (GSpec.plain rfl (spec_build (Rs := [_, Rp.val (.slice none 0 0), Rp.val (.slice none 0 0), Rp.val (.slice none 0 0), Rp.val (.slice none 0 0)]) rfl ti27 z27v Tryz.underlying27 pl27 (.cons (GetC.one (Get.tmp rfl)) rfl rfl rfl .nil))) ?_
  refine L.op1 rfl rfl (GSpec.plain rfl (spec_build (Rs := [_, _, _, _, _]) rfl ti111 z111 Tryz.underlying111 pl111 (.cons (GetC.agg (Get.tmp rfl)) rfl rfl rfl .nil))) ?_
  refine L.box rfl rfl (GSpec.plain rfl (spec_box rfl (GetC.agg (Get.tmp rfl)))) (fun r9 => ?_)
  refine L.op1 rfl rfl (GSpec.plain rfl (spec_assign rfl (Get.tmp rfl))) ?_
  refine L.nil ?_
  refine N.thenW ?_
  refine W.seq ?_
  refine W.region ?_
  refine L.op1 rfl rfl (GSpec.plain rfl (spec_move rfl (Get.tmp rfl))) ?_
  refine L.op1 rfl rfl (GSpec.plain rfl (spec_build (Rs := [_, _]) rfl ti84 z84 Tryz.underlying84 pl84 (.cons (GetC.one (Get.cstr (l := [105, 118]) rfl rfl)) rfl rfl rfl (.cons (GetC.one (Get.cint rfl)) rfl rfl rfl .nil)))) ?_
  refine L.op1 rfl rfl (GSpec.plain rfl (spec_build (Rs := [_, _]) rfl ti84 z84 Tryz.underlying84 pl84 (.cons (GetC.one (Get.cstr (l := [105, 116]) rfl rfl)) rfl rfl rfl (.cons (GetC.one (Get.cint rfl)) rfl rfl rfl .nil)))) ?_
  refine L.op1 rfl rfl (GSpec.plain rfl (spec_move rfl (Get.tmp rfl))) ?_
  refine L.op1 rfl rfl (GSpec.plain rfl (spec_build (Rs := [_, _]) rfl ti84 z84 Tryz.underlying84 pl84 (.cons (GetC.one (Get.cstr (l := [105, 97]) rfl rfl)) rfl rfl rfl (.cons (GetC.one (Get.tmp rfl)) rfl rfl rfl .nil)))) ?_
  refine L.op1 rfl rfl (GSpec.plain rfl (spec_move rfl (Get.tmp rfl))) ?_
  refine L.op1 rfl rfl (GSpec.plain rfl (spec_build (Rs := [_, _]) rfl ti84 z84 Tryz.underlying84 pl84 (.cons (GetC.one (Get.cstr (l := [105, 98]) rfl rfl)) rfl rfl rfl (.cons (GetC.one (Get.tmp rfl)) rfl rfl rfl .nil)))) ?_
  refine L.op1 rfl rfl (GSpec.plain rfl (spec_build (Rs := [_, _]) rfl ti84 z84 Tryz.underlying84 pl84 (.cons (GetC.one (Get.cstr (l := [111, 114, 100, 121]) rfl rfl)) rfl rfl rfl (.cons (GetC.one (Get.cint rfl)) rfl rfl rfl .nil)))) ?_
  refine L.op1 rfl rfl (GSpec.plain rfl (spec_buildSliceN (xs := (beginD nm w).inputs) (E := eP) rfl Tryz.underlying22 ti84 z84 (by first | decide | simp) rfl (.cons (GetC.agg (Get.tmp rfl)) rfl rfl rfl (.cons (GetC.agg (Get.tmp rfl)) rfl rfl rfl (.cons (GetC.agg (Get.tmp rfl)) rfl rfl rfl (.cons (GetC.agg (Get.tmp rfl)) rfl rfl rfl (.cons (GetC.agg (Get.tmp rfl)) rfl rfl rfl .nil))))) rfl rfl)) ?_
  refine L.op1 rfl rfl (GSpec.plain rfl (spec_nilCheck rfl (Get.tmp rfl))) ?_
  refine L.op1 rfl rfl (GSpec.plain rfl (spec_fieldAddr (f := 0) (off' := 0) rfl Tryz.underlying111 rfl Tryz.sizeOf27 (Get.tmp rfl) rfl)) ?_
  refine L.op1 rfl rfl (GSpec.plain rfl (spec_fieldAddr (f := 1) (off' := 1) rfl Tryz.underlying27 rfl Tryz.sizeOf22 (Get.tmp rfl) rfl)) ?_
  refine L.storeB (k := 0) rfl rfl rfl Tryz.sizeOf22 (Get.tmp rfl) (Get.tmp rfl) rfl rfl ?_
  refine L.nil ?_
  refine N.thenW ?_
  refine W.keep (.cons (t := 4) rfl (.cons (t := 5) rfl .nil)) .refl ?_
  refine W.seq ?_
  refine W.region ?_
  refine L.op1 rfl rfl (GSpec.plain rfl (spec_move rfl (Get.tmp rfl))) ?_
  refine L.op1 rfl rfl (GSpec.plain rfl (spec_callG (k := 1) rfl Tryz.call75 rfl (fields_ok ) (.cons (Get.cstr (l := [105, 114, 100, 121, 32, 111, 118, 32, 111, 116, 32, 111, 97]) rfl rfl) .nil))) ?_
  refine L.op1 rfl rfl (GSpec.plain rfl (spec_nilCheck rfl (Get.tmp rfl))) ?_
  refine L.op1 rfl rfl (GSpec.plain rfl (spec_fieldAddr (f := 0) (off' := 0) rfl Tryz.underlying111 rfl Tryz.sizeOf27 (Get.tmp rfl) rfl)) ?_
  refine L.op1 rfl rfl (GSpec.plain rfl (spec_fieldAddr (f := 4) (off' := 4) rfl Tryz.underlying27 rfl Tryz.sizeOf25 (Get.tmp rfl) rfl)) ?_
  refine L.storeB (k := 0) rfl rfl rfl Tryz.sizeOf25 (Get.tmp rfl) (Get.tmp rfl) rfl rfl ?_
  refine L.nil ?_
  refine N.thenW ?_
  refine W.nil 77 6 eWr ?_
  refine W.nil 81 7 eRg ?_
  refine W.seq ?_
  refine W.region ?_
  refine L.op1 rfl rfl (GSpec.plain rfl (spec_move rfl (Get.tmp rfl))) ?_
  refine L.op1 rfl rfl (GSpec.plain rfl (spec_assign rfl (Get.tmp rfl))) ?_
  refine L.nil ?_
  refine N.thenW ?_
  refine W.keep (.cons (t := 4) rfl .nil) .refl ?_
  refine W.ret ?_
  refine N.ret (X := (begX nm w)) (r9, .slice none 0 0, .slice none 0 0) rfl (.tmp (t := 4) (Get.tmp rfl) .nil) (res1 (fun _ _ _ h => h)) (.cons 3 rfl (.cons 2 rfl (.cons 1 rfl (.cons 0 rfl .nil)))) (fun _ _ h => h)
  skip

theorem cell_ok (s inp : List UInt8) (i : Nat) (dep : Int) (hi : i ≤ 7) (hd : 1 ≤ dep ∧ dep ≤ 8) (hs : s.length ≤ 10) : CallT Tryz.prog 42 [Rp.str s, Rp.str inp, Rp.int .i64 (i : Nat), Rp.at [Rp.int .i64 dep]] [] (.one (Rp.agg (eX (cellE dep s inp i)))) := by
  refine W.enter (fn := Tryz.f42) (n := 36) Tryz.func42 rfl Tryz.ntmps42 rfl (fun w₀ C₀ => ?_)
  simp only [argS]
  refine W.seq ?_
  refine W.region ?_
  refine L.box rfl rfl (GSpec.plain rfl (spec_alloc rfl ti66 z66)) (fun r7 => ?_)
  refine L.nil ?_
  refine N.thenW ?_
  refine W.seq ?_
  refine W.region ?_
  refine L.op1 rfl rfl (GSpec.plain rfl (spec_call rfl Tryz.call36 (num_ok _) (.cons (Get.cint rfl) .nil))) ?_
  refine L.box rfl rfl (GSpec.plain rfl (spec_alloc rfl ti66 z66)) (fun r8 => ?_)
  refine L.storeW (k := 0) rfl rfl rfl Tryz.sizeOf66 (Get.tmp rfl) (Get.tmp rfl) rfl rfl rfl ?_
  refine L.nil ?_
  refine N.thenW ?_
  refine W.seq ?_
  refine W.seq ?_
  refine W.region ?_
  refine L.op1 rfl rfl (GSpec.plain rfl (spec_move rfl (Get.tmp rfl))) ?_
  refine L.op1 rfl rfl (GSpec.plain rfl (spec_loadP1 rfl Tryz.isAgg3 (Get.tmp rfl))) ?_
  first | refine L.op1 rfl rfl (GSpec.plain rfl (fit_i64 (by omega) (by omega) (spec_sub rfl (Get.tmp rfl) (Get.cint rfl)))) ?_ | refine L.op1 rfl rfl (GSpec.plain rfl (spec_sub rfl (Get.tmp rfl) (Get.cint rfl))) ?_
  refine L.op1 rfl rfl (GSpec.plain rfl (spec_lss rfl (Get.tmp rfl) (Get.tmp rfl))) ?_
  refine L.nil ?_
  refine N.thenW ?_
  refine W.cond (Get.tmp rfl) (fun h1 => ?_) (fun h1 => ?_)
  · have ph1 := h1; try simp only [decide_eq_true_eq, decide_eq_false_iff_not, Bool.and_eq_true, Bool.or_eq_true, Bool.and_eq_false_iff, Bool.or_eq_false_iff, Bool.not_eq_true', Bool.not_eq_false', Bool.not_true, Bool.not_false, Int.not_lt, Int.not_le] at ph1
    refine W.region ?_
    refine L.op1 rfl rfl (GSpec.plain rfl (spec_move rfl (Get.tmp rfl))) ?_
    refine L.op1 rfl rfl (GSpec.plain rfl (spec_move rfl (Get.tmp rfl))) ?_
    first | refine L.op1 rfl rfl (GSpec.plain rfl (fit_i64 (by omega) (by omega) (spec_add rfl (Get.tmp rfl) (Get.cint rfl)))) ?_ | refine L.op1 rfl rfl (GSpec.plain rfl (spec_add rfl (Get.tmp rfl) (Get.cint rfl))) ?_
    refine L.op1 rfl rfl (GSpec.plain rfl (spec_call rfl Tryz.call43 (indexed_ok _ _ (by omega) (by omega) (by first | decide | omega | (simp; omega))) (.cons (Get.tmp rfl) (.cons (Get.tmp rfl) .nil)))) ?_
    refine L.op1 rfl rfl (GSpec.plain rfl (spec_call rfl Tryz.call35 (ref_ok _) (.cons (Get.tmp rfl) .nil))) ?_
    refine L.storeW (k := 0) rfl rfl rfl Tryz.sizeOf66 (Get.tmp rfl) (Get.tmp rfl) rfl rfl rfl ?_
    refine L.nil ?_
    refine N.thenW ?_
    refine W.keep (.cons (t := 0) rfl (.cons (t := 1) rfl (.cons (t := 2) rfl (.cons (t := 7) rfl (.cons (t := 8) rfl .nil))))) .refl ?_
    refine W.seq ?_
    apply W.any 8 mixed (by kernel_rfl)
    · apply Head.one rfl rfl (GSpec.plain rfl (spec_call rfl Tryz.call35 (ref_ok _) (.cons (Get.cstr (l := [112, 111, 112]) rfl rfl) .nil)))
      apply Head.one rfl rfl (GSpec.plain rfl (spec_loadW (k := 0) rfl Tryz.isAgg66 Tryz.sizeOf66 (Get.tmp rfl) rfl rfl))
      apply Head.one rfl rfl (GSpec.plain rfl (spec_move rfl (Get.tmp rfl)))
      apply Head.one rfl rfl (GSpec.plain rfl (spec_move rfl (Get.tmp rfl)))
      apply Head.one rfl rfl (GSpec.plain rfl (spec_call rfl Tryz.call43 (indexed_ok _ _ (by omega) (by omega) (by first | decide | omega | (simp; omega))) (.cons (Get.tmp rfl) (.cons (Get.tmp rfl) .nil))))
      apply Head.one rfl rfl (GSpec.plain rfl (spec_call rfl Tryz.call35 (ref_ok _) (.cons (Get.tmp rfl) .nil)))
      apply Head.one rfl rfl (GSpec.plain rfl (spec_call rfl Tryz.call44 (when_ok _ _ _) (.cons (Get.tmp rfl) (.cons (Get.tmp rfl) (.cons (Get.tmp rfl) .nil)))))
      apply Head.sink rfl rfl (GSpec.plain rfl (spec_alloc rfl ti66 z66))
      exact Head.nil
    refine Fin.one ?_
    refine Fin.one ?_
    refine Fin.one ?_
    refine Fin.one ?_
    refine Fin.one ?_
    refine Fin.one ?_
    refine Fin.one ?_
    refine Fin.sink (fun (r9 : Nat) => ?_)
    refine Fin.nil ?_
    refine L.storeW (k := 0) rfl rfl rfl Tryz.sizeOf66 (Get.tmp rfl) (Get.tmp rfl) rfl rfl rfl ?_
    refine L.nil ?_
    refine N.thenW ?_
    refine W.keep (.cons (t := 1) rfl (.cons (t := 2) rfl (.cons (t := 7) rfl (.cons (t := 9) rfl .nil)))) .refl ?_
    refine W.seq ?_
    apply W.any 9 mixed (by kernel_rfl)
    · apply Head.one rfl rfl (GSpec.plain rfl (spec_call rfl Tryz.call35 (ref_ok _) (.cons (Get.cstr (l := [112, 117, 115, 104]) rfl rfl) .nil)))
      apply Head.one rfl rfl (GSpec.plain rfl (spec_call rfl Tryz.call35 (ref_ok _) (.cons (Get.cstr (l := [107]) rfl rfl) .nil)))
      apply Head.one rfl rfl (GSpec.plain rfl (spec_move rfl (Get.tmp rfl)))
      apply Head.one rfl rfl (GSpec.plain rfl (spec_call rfl Tryz.call46 (equal_ok _ _) (.cons (Get.tmp rfl) (.cons (Get.tmp rfl) .nil))))
      apply Head.one rfl rfl (GSpec.plain rfl (spec_call rfl Tryz.call45 (both_ok _ _) (.cons (Get.tmp rfl) (.cons (Get.tmp rfl) .nil))))
      apply Head.one rfl rfl (GSpec.plain rfl (spec_move rfl (Get.tmp rfl)))
      apply Head.one rfl rfl (GSpec.plain rfl (spec_call rfl Tryz.call35 (ref_ok _) (.cons (Get.tmp rfl) .nil)))
      apply Head.one rfl rfl (GSpec.plain rfl (spec_loadW (k := 0) rfl Tryz.isAgg66 Tryz.sizeOf66 (Get.tmp rfl) rfl rfl))
      apply Head.one rfl rfl (GSpec.plain rfl (spec_call rfl Tryz.call44 (when_ok _ _ _) (.cons (Get.tmp rfl) (.cons (Get.tmp rfl) (.cons (Get.tmp rfl) .nil)))))
      exact Head.nil
    refine Fin.one ?_
    refine Fin.one ?_
    refine Fin.one ?_
    refine Fin.one ?_
    refine Fin.one ?_
    refine Fin.one ?_
    refine Fin.one ?_
    refine Fin.one ?_
    refine Fin.one ?_
    refine Fin.nil ?_
    refine L.storeW (k := 2) rfl rfl rfl Tryz.sizeOf66 (Get.tmp rfl) (Get.tmp rfl) rfl rfl rfl ?_
    refine L.nil ?_
    refine N.thenW ?_
    refine W.keep (.cons (t := 7) rfl .nil) .refl ?_
    refine W.ret ?_
    refine N.ret () rfl (.cellA (k := 2) (Get.tmp (t := 7) rfl) rfl Tryz.isAgg66 Tryz.sizeOf66 rfl .nil) (res1 (eqA ?_)) .nil (fun _ _ h => h)
    unfold cellE; rw [if_pos (by have h := of_decide_eq_true h1; omega)]; rfl
  · have ph1 := h1; try simp only [decide_eq_true_eq, decide_eq_false_iff_not, Bool.and_eq_true, Bool.or_eq_true, Bool.and_eq_false_iff, Bool.or_eq_false_iff, Bool.not_eq_true', Bool.not_eq_false', Bool.not_true, Bool.not_false, Int.not_lt, Int.not_le] at ph1
    refine W.skip ?_
    refine N.thenW ?_
    refine W.seq ?_
    apply W.any 8 mixed (by kernel_rfl)
    · apply Head.one rfl rfl (GSpec.plain rfl (spec_call rfl Tryz.call35 (ref_ok _) (.cons (Get.cstr (l := [112, 111, 112]) rfl rfl) .nil)))
      apply Head.one rfl rfl (GSpec.plain rfl (spec_loadW (k := 0) rfl Tryz.isAgg66 Tryz.sizeOf66 (Get.tmp rfl) rfl rfl))
      apply Head.one rfl rfl (GSpec.plain rfl (spec_move rfl (Get.tmp rfl)))
      apply Head.one rfl rfl (GSpec.plain rfl (spec_move rfl (Get.tmp rfl)))
      apply Head.one rfl rfl (GSpec.plain rfl (spec_call rfl Tryz.call43 (indexed_ok _ _ (by omega) (by omega) (by first | decide | omega | (simp; omega))) (.cons (Get.tmp rfl) (.cons (Get.tmp rfl) .nil))))
      apply Head.one rfl rfl (GSpec.plain rfl (spec_call rfl Tryz.call35 (ref_ok _) (.cons (Get.tmp rfl) .nil)))
      apply Head.one rfl rfl (GSpec.plain rfl (spec_call rfl Tryz.call44 (when_ok _ _ _) (.cons (Get.tmp rfl) (.cons (Get.tmp rfl) (.cons (Get.tmp rfl) .nil)))))
      apply Head.sink rfl rfl (GSpec.plain rfl (spec_alloc rfl ti66 z66))
      exact Head.nil
    refine Fin.one ?_
    refine Fin.one ?_
    refine Fin.one ?_
    refine Fin.one ?_
    refine Fin.one ?_
    refine Fin.one ?_
    refine Fin.one ?_
    refine Fin.sink (fun (r9 : Nat) => ?_)
    refine Fin.nil ?_
    refine L.storeW (k := 0) rfl rfl rfl Tryz.sizeOf66 (Get.tmp rfl) (Get.tmp rfl) rfl rfl rfl ?_
    refine L.nil ?_
    refine N.thenW ?_
    refine W.keep (.cons (t := 1) rfl (.cons (t := 2) rfl (.cons (t := 7) rfl (.cons (t := 9) rfl .nil)))) .refl ?_
    refine W.seq ?_
    apply W.any 9 mixed (by kernel_rfl)
    · apply Head.one rfl rfl (GSpec.plain rfl (spec_call rfl Tryz.call35 (ref_ok _) (.cons (Get.cstr (l := [112, 117, 115, 104]) rfl rfl) .nil)))
      apply Head.one rfl rfl (GSpec.plain rfl (spec_call rfl Tryz.call35 (ref_ok _) (.cons (Get.cstr (l := [107]) rfl rfl) .nil)))
      apply Head.one rfl rfl (GSpec.plain rfl (spec_move rfl (Get.tmp rfl)))
      apply Head.one rfl rfl (GSpec.plain rfl (spec_call rfl Tryz.call46 (equal_ok _ _) (.cons (Get.tmp rfl) (.cons (Get.tmp rfl) .nil))))
      apply Head.one rfl rfl (GSpec.plain rfl (spec_call rfl Tryz.call45 (both_ok _ _) (.cons (Get.tmp rfl) (.cons (Get.tmp rfl) .nil))))
      apply Head.one rfl rfl (GSpec.plain rfl (spec_move rfl (Get.tmp rfl)))
      apply Head.one rfl rfl (GSpec.plain rfl (spec_call rfl Tryz.call35 (ref_ok _) (.cons (Get.tmp rfl) .nil)))
      apply Head.one rfl rfl (GSpec.plain rfl (spec_loadW (k := 0) rfl Tryz.isAgg66 Tryz.sizeOf66 (Get.tmp rfl) rfl rfl))
      apply Head.one rfl rfl (GSpec.plain rfl (spec_call rfl Tryz.call44 (when_ok _ _ _) (.cons (Get.tmp rfl) (.cons (Get.tmp rfl) (.cons (Get.tmp rfl) .nil)))))
      exact Head.nil
    refine Fin.one ?_
    refine Fin.one ?_
    refine Fin.one ?_
    refine Fin.one ?_
    refine Fin.one ?_
    refine Fin.one ?_
    refine Fin.one ?_
    refine Fin.one ?_
    refine Fin.one ?_
    refine Fin.nil ?_
    refine L.storeW (k := 2) rfl rfl rfl Tryz.sizeOf66 (Get.tmp rfl) (Get.tmp rfl) rfl rfl rfl ?_
    refine L.nil ?_
    refine N.thenW ?_
    refine W.keep (.cons (t := 7) rfl .nil) .refl ?_
    refine W.ret ?_
    refine N.ret () rfl (.cellA (k := 2) (Get.tmp (t := 7) rfl) rfl Tryz.isAgg66 Tryz.sizeOf66 rfl .nil) (res1 (eqA ?_)) .nil (fun _ _ h => h)
    unfold cellE; rw [if_neg (by have h := of_decide_eq_false h1; omega)]; rfl

end Go.Proofs.YthlfacmpjehjmaaGreatDoor
set_option linter.unusedSimpArgs false
set_option maxRecDepth 8000
set_option linter.unusedVariables false
namespace Go.Proofs.YthlfacmpjehjmaaGreatDoor
open Go.Sim
theorem queue_ok (k w : Int) (hk : 1 ≤ k ∧ k ≤ 8) (hw : 1 ≤ w ∧ w ≤ 8) : CallT Tryz.prog 9 [Rp.int .i64 k, Rp.int .i64 w] [spG] (.one (Rp.tuple [Rp.agg (eD (queueD k.toNat w)), Rp.int .i64 0])) := by
  refine W.enter (fn := Tryz.f9) (n := 77) Tryz.func9 rfl Tryz.ntmps9 rfl (fun w₀ C₀ => ?_)
  simp only [argS]
  obtain ⟨m, rfl⟩ : ∃ m : Nat, k = (m : Int) := ⟨k.toNat, by omega⟩
  refine W.seq ?_
  refine W.region ?_
  refine L.box rfl rfl (GSpec.plain rfl (spec_box rfl (GetC.one (Get.tmp rfl)))) (fun r2 => ?_)
  refine L.box rfl rfl (GSpec.plain rfl (spec_alloc rfl ti27 z27)) (fun r4 => ?_)
  refine L.op1 rfl rfl (GSpec.plain rfl (spec_assign rfl (Get.cint rfl))) ?_
  refine L.nil ?_
  refine N.thenW ?_
  refine W.pubB 2 1 rfl rfl ?_
  refine W.seq ?_
  refine W.seq ?_
  refine W.region ?_
  refine L.op1 rfl rfl (GSpec.plain rfl (spec_loadP1 rfl Tryz.isAgg3 (Get.tmp rfl))) ?_
  refine L.op1 rfl rfl (GSpec.plain rfl (spec_call rfl Tryz.call31 (within_ok _) (.cons (Get.tmp rfl) .nil))) ?_
  refine L.op1 rfl rfl (GSpec.plain rfl (spec_not rfl (Get.tmp rfl))) ?_
  refine L.op1 rfl rfl (GSpec.plain rfl (spec_move rfl (Get.tmp rfl))) ?_
  refine L.op1 rfl rfl (GSpec.guard rfl rfl rfl fun hg => (spec_move rfl (Get.tmp rfl))) ?_
  refine L.op1 rfl rfl (GSpec.guard rfl rfl rfl fun hg => (spec_call rfl Tryz.call31 (within_ok _) (.cons (Get.opt rfl hg) .nil))) ?_
  refine L.op1 rfl rfl (GSpec.guard rfl rfl rfl fun hg => (spec_not rfl (Get.opt rfl hg))) ?_
  refine L.op1 rfl rfl (GSpec.plain rfl (spec_or rfl (Get.tmp rfl) (fun hb => (Get.opt rfl hb)))) ?_
  refine L.nil ?_
  refine N.thenW ?_
  refine W.keep (.cons (t := 1) rfl (.cons (t := 2) rfl (.cons (t := 4) rfl (.cons (t := 5) rfl (.cons (t := 16) rfl .nil))))) .refl ?_
  refine W.cond (Get.tmp rfl) (fun h1 => ?_) (fun h1 => ?_)
  · exfalso; have h := h1; simp only [show decide (1 ≤ (m : Int)) = true from decide_eq_true hk.1, show decide ((m : Int) ≤ 8) = true from decide_eq_true hk.2, show decide (1 ≤ w) = true from decide_eq_true hw.1, show decide (w ≤ 8) = true from decide_eq_true hw.2] at h; revert h; decide
  · have ph1 := h1; try simp only [decide_eq_true_eq, decide_eq_false_iff_not, Bool.and_eq_true, Bool.or_eq_true, Bool.and_eq_false_iff, Bool.or_eq_false_iff, Bool.not_eq_true', Bool.not_eq_false', Bool.not_true, Bool.not_false, Int.not_lt, Int.not_le] at ph1
    refine W.skip ?_
    refine N.thenW ?_
    refine W.seq ?_
    refine W.region ?_
    refine L.op1 rfl rfl (GSpec.plain rfl (spec_move rfl (Get.tmp rfl))) ?_
    refine L.call rfl rfl rfl rfl Tryz.call32 (begin_ok _ _) (.cons 1 rfl .refl) (.cons (Get.cstr (l := [113, 117, 101, 117, 101]) rfl rfl) (.cons (Get.tmp rfl) .nil)) (fun v19 => ?_)
    try dsimp only
    refine L.op1 rfl rfl (GSpec.plain rfl (spec_assign rfl (Get.tmp rfl))) ?_
    refine L.nil ?_
    refine N.thenW ?_
    refine W.seq ?_
    apply W.any 5 mixed (by kernel_rfl)
    · apply Head.one rfl rfl (GSpec.plain rfl (spec_move rfl (Get.tmp rfl)))
      apply Head.one rfl rfl (GSpec.plain rfl (spec_call rfl Tryz.call35 (ref_ok _) (.cons (Get.cstr (l := [110]) rfl rfl) .nil)))
      apply Head.one rfl rfl (GSpec.plain rfl (spec_loadP1 rfl Tryz.isAgg3 (Get.tmp rfl)))
      apply Head.one rfl rfl (GSpec.plain rfl (spec_call rfl Tryz.call36 (num_ok _) (.cons (Get.tmp rfl) .nil)))
      apply Head.one rfl rfl (GSpec.plain rfl (spec_call rfl Tryz.call34 (less_ok _ _) (.cons (Get.tmp rfl) (.cons (Get.tmp rfl) .nil))))
      exact Head.nil
    refine Fin.one ?_
    refine Fin.one ?_
    refine Fin.one ?_
    refine Fin.one ?_
    refine Fin.one ?_
    refine Fin.nil ?_
    refine L.call rfl rfl rfl rfl Tryz.call33 (wireB_ok _ _ _ _ _ _ (by first | omega | (simp only [addW, addR, pushD, popD, stageD, queue0, delay0, swapW, swap0, beginD, List.length_append, List.length_cons, List.length_nil]; omega) | decide)) (.cons 1 rfl (.cons 1 rfl (.cons 1 rfl .refl))) (.cons (Get.tmp rfl) (.cons (Get.cstr (l := [105, 114, 100, 121]) rfl rfl) (.cons (Get.cint rfl) (.cons (Get.tmp rfl) .nil)))) (fun v25 => ?_)
    try dsimp only
    refine L.nil ?_
    refine N.thenW ?_
    refine W.keep (.cons (t := 1) rfl (.cons (t := 2) rfl (.cons (t := 4) rfl (.cons (t := 5) rfl (.cons (t := 6) rfl .nil))))) .refl ?_
    refine W.seq ?_
    refine W.region ?_
    refine L.op1 rfl rfl (GSpec.plain rfl (spec_move rfl (Get.tmp rfl))) ?_
    refine L.op1 rfl rfl (GSpec.plain rfl (spec_call rfl Tryz.call36 (num_ok _) (.cons (Get.cint rfl) .nil))) ?_
    refine L.op1 rfl rfl (GSpec.plain rfl (spec_call rfl Tryz.call35 (ref_ok _) (.cons (Get.cstr (l := [110]) rfl rfl) .nil))) ?_
    refine L.op1 rfl rfl (GSpec.plain rfl (spec_call rfl Tryz.call34 (less_ok _ _) (.cons (Get.tmp rfl) (.cons (Get.tmp rfl) .nil)))) ?_
    refine L.call rfl rfl rfl rfl Tryz.call33 (wireB_ok _ _ _ _ _ _ (by first | omega | (simp only [addW, addR, pushD, popD, stageD, queue0, delay0, swapW, swap0, beginD, List.length_append, List.length_cons, List.length_nil]; omega) | decide)) (.cons 0 rfl (.cons 0 rfl (.cons 0 rfl .refl))) (.cons (Get.tmp rfl) (.cons (Get.cstr (l := [111, 118]) rfl rfl) (.cons (Get.cint rfl) (.cons (Get.tmp rfl) .nil)))) (fun v30 => ?_)
    try dsimp only
    refine L.nil ?_
    refine N.thenW ?_
    refine W.seq ?_
    refine W.region ?_
    refine L.op1 rfl rfl (GSpec.plain rfl (spec_move rfl (Get.tmp rfl))) ?_
    refine L.op1 rfl rfl (GSpec.plain rfl (spec_call rfl Tryz.call35 (ref_ok _) (.cons (Get.cstr (l := [116, 48]) rfl rfl) .nil))) ?_
    refine L.call rfl rfl rfl rfl Tryz.call33 (wireB_ok _ _ _ _ _ _ (by first | omega | (simp only [addW, addR, pushD, popD, stageD, queue0, delay0, swapW, swap0, beginD, List.length_append, List.length_cons, List.length_nil]; omega) | decide)) (.cons 0 rfl (.cons 0 rfl (.cons 0 rfl .refl))) (.cons (Get.tmp rfl) (.cons (Get.cstr (l := [111, 116]) rfl rfl) (.cons (Get.cint rfl) (.cons (Get.tmp rfl) .nil)))) (fun v33 => ?_)
    try dsimp only
    refine L.nil ?_
    refine N.thenW ?_
    refine W.keep (.cons (t := 1) rfl (.cons (t := 2) rfl (.cons (t := 4) rfl (.cons (t := 5) rfl (.cons (t := 6) rfl .nil))))) .refl ?_
    refine W.seq ?_
    refine W.region ?_
    refine L.op1 rfl rfl (GSpec.plain rfl (spec_move rfl (Get.tmp rfl))) ?_
    refine L.op1 rfl rfl (GSpec.plain rfl (spec_move rfl (Get.tmp rfl))) ?_
    refine L.op1 rfl rfl (GSpec.plain rfl (spec_call rfl Tryz.call35 (ref_ok _) (.cons (Get.cstr (l := [97, 48]) rfl rfl) .nil))) ?_
    refine L.call rfl rfl rfl rfl Tryz.call33 (wireB_ok _ _ _ _ _ _ (by first | omega | (simp only [addW, addR, pushD, popD, stageD, queue0, delay0, swapW, swap0, beginD, List.length_append, List.length_cons, List.length_nil]; omega) | decide)) (.cons 0 rfl (.cons 0 rfl (.cons 0 rfl .refl))) (.cons (Get.tmp rfl) (.cons (Get.cstr (l := [111, 97]) rfl rfl) (.cons (Get.tmp rfl) (.cons (Get.tmp rfl) .nil)))) (fun v37 => ?_)
    try dsimp only
    refine L.nil ?_
    refine N.thenW ?_
    refine W.seq ?_
    refine W.region ?_
    refine L.op1 rfl rfl (GSpec.plain rfl (spec_move rfl (Get.tmp rfl))) ?_
    refine L.call rfl rfl rfl rfl Tryz.call37 (push_ok _ _ _ (by first | omega | (simp only [addW, addR, pushD, popD, stageD, queue0, delay0, swapW, swap0, beginD, List.length_append, List.length_cons, List.length_nil]; omega) | decide)) (.cons 0 rfl (.cons 0 rfl (.cons 0 rfl .refl))) (.cons (Get.tmp rfl) .nil) (fun v39 => ?_)
    try dsimp only
    refine L.nil ?_
    refine N.thenW ?_
    refine W.keep (.cons (t := 1) rfl (.cons (t := 2) rfl (.cons (t := 4) rfl (.cons (t := 5) rfl (.cons (t := 6) rfl .nil))))) .refl ?_
    refine W.seq ?_
    refine W.region ?_
    refine L.op1 rfl rfl (GSpec.plain rfl (spec_move rfl (Get.tmp rfl))) ?_
    refine L.call rfl rfl rfl rfl Tryz.call38 (pop_ok _ _ _ (by first | omega | (simp only [addW, addR, pushD, popD, stageD, queue0, delay0, swapW, swap0, beginD, List.length_append, List.length_cons, List.length_nil]; omega) | decide)) (.cons 0 rfl (.cons 0 rfl (.cons 0 rfl .refl))) (.cons (Get.tmp rfl) .nil) (fun v41 => ?_)
    try dsimp only
    refine L.nil ?_
    refine N.thenW ?_
    refine W.seq ?_
    refine W.region ?_
    refine L.op1 rfl rfl (GSpec.plain rfl (spec_move rfl (Get.tmp rfl))) ?_
    refine L.op1 rfl rfl (GSpec.plain rfl (spec_call rfl Tryz.call35 (ref_ok _) (.cons (Get.cstr (l := [110]) rfl rfl) .nil))) ?_
    refine L.op1 rfl rfl (GSpec.plain rfl (spec_call rfl Tryz.call35 (ref_ok _) (.cons (Get.cstr (l := [112, 111, 112]) rfl rfl) .nil))) ?_
    refine L.op1 rfl rfl (GSpec.plain rfl (spec_call rfl Tryz.call39 (minus_ok _ _) (.cons (Get.tmp rfl) (.cons (Get.tmp rfl) .nil)))) ?_
    refine L.call rfl rfl rfl rfl Tryz.call33 (wireB_ok _ _ _ _ _ _ (by first | omega | (simp only [addW, addR, pushD, popD, stageD, queue0, delay0, swapW, swap0, beginD, List.length_append, List.length_cons, List.length_nil]; omega) | decide)) (.cons 0 rfl (.cons 0 rfl (.cons 0 rfl .refl))) (.cons (Get.tmp rfl) (.cons (Get.cstr (l := [107]) rfl rfl) (.cons (Get.cint rfl) (.cons (Get.tmp rfl) .nil)))) (fun v46 => ?_)
    try dsimp only
    refine L.nil ?_
    refine N.thenW ?_
    refine W.keep (.cons (t := 1) rfl (.cons (t := 2) rfl (.cons (t := 4) rfl (.cons (t := 5) rfl (.cons (t := 6) rfl .nil))))) .refl ?_
    refine W.seq ?_
    refine W.region ?_
    refine L.op1 rfl rfl (GSpec.plain rfl (spec_move rfl (Get.tmp rfl))) ?_
    refine L.op1 rfl rfl (GSpec.plain rfl (spec_call rfl Tryz.call35 (ref_ok _) (.cons (Get.cstr (l := [107]) rfl rfl) .nil))) ?_
    refine L.op1 rfl rfl (GSpec.plain rfl (spec_call rfl Tryz.call35 (ref_ok _) (.cons (Get.cstr (l := [112, 117, 115, 104]) rfl rfl) .nil))) ?_
    refine L.op1 rfl rfl (GSpec.plain rfl (spec_call rfl Tryz.call41 (plus_ok _ _) (.cons (Get.tmp rfl) (.cons (Get.tmp rfl) .nil)))) ?_
    refine L.call rfl rfl rfl rfl Tryz.call40 (regB_ok _ _ _ _ _ _ (by first | omega | (simp only [addW, addR, pushD, popD, stageD, queue0, delay0, swapW, swap0, beginD, List.length_append, List.length_cons, List.length_nil]; omega) | decide)) (.cons 0 rfl (.cons 0 rfl (.cons 0 rfl .refl))) (.cons (Get.tmp rfl) (.cons (Get.cstr (l := [110]) rfl rfl) (.cons (Get.cint rfl) (.cons (Get.tmp rfl) .nil)))) (fun v51 => ?_)
    try dsimp only
    refine L.nil ?_
    refine N.thenW ?_
    refine W.seq ?_
    refine W.region ?_
    refine L.op1 rfl rfl (GSpec.plain rfl (spec_makeFunc rfl (.cons (Get.tmp rfl) .nil))) ?_
    refine L.op1 rfl rfl (GSpec.plain rfl (spec_assign rfl (Get.tmp rfl))) ?_
    refine L.nil ?_
    refine N.thenW ?_
    refine W.keep (.cons (t := 1) rfl (.cons (t := 2) rfl (.cons (t := 4) rfl (.cons (t := 5) rfl (.cons (t := 6) rfl (.cons (t := 7) rfl .nil)))))) .refl ?_
    refine W.seq ?_
    refine W.seq ?_
    refine W.region ?_
    refine L.op1 rfl rfl (GSpec.plain rfl (spec_loadP1 rfl Tryz.isAgg3 (Get.tmp rfl))) ?_
    refine L.op1 rfl rfl (GSpec.plain rfl (spec_move rfl (Get.cint rfl))) ?_
    refine L.nil ?_
    refine N.thenW ?_
    refine W.block ?_
    refine W.loopK (σ := Nat × (Value × Value)) (.cons (t := 1) rfl (.cons (t := 4) rfl (.cons (t := 5) rfl (.cons (t := 6) rfl (.cons (t := 7) rfl (.cons (t := 53) rfl .nil)))))) (fun z => [(54, Rp.int .i64 (z.1 : Nat))]) (fun z => [MF.box v19.1 111 (bdR (cellsD (m : Int) w z.1) z.2), MF.osl z.2.1 77 6 eWr (cellsD (m : Int) w z.1).wires, MF.osl z.2.2 81 7 eRg (cellsD (m : Int) w z.1).regs]) (fun z => z.1 ≤ m) (fun z => m - z.1) (0, v51) (Nat.zero_le _) (.cons (t := 54) rfl .nil) (.cons 0 rfl (.cons 0 rfl (.cons 0 rfl (.cons 0 rfl (.cons 0 rfl .nil))))) ?_
    intro ⟨i, vp⟩ hI S' M' hS hM
    try dsimp only at hS hM
    simp only [List.cons_append, List.nil_append] at hS hM
    subst hS hM
    try dsimp only
    try dsimp only at hI
    have hcl := cells_len (m : Int) w i
    refine W.seq ?_
    refine W.region ?_
    refine L.op1 rfl rfl (GSpec.plain rfl (spec_lss rfl (Get.tmp rfl) (Get.tmp rfl))) ?_
    refine L.nil ?_
    refine N.thenW ?_
    refine W.seq ?_
    refine W.cond (Get.tmp rfl) (fun h2 => ?_) (fun h2 => ?_)
    · have ph2 := h2; try simp only [decide_eq_true_eq, decide_eq_false_iff_not, Bool.and_eq_true, Bool.or_eq_true, Bool.and_eq_false_iff, Bool.or_eq_false_iff, Bool.not_eq_true', Bool.not_eq_false', Bool.not_true, Bool.not_false, Int.not_lt, Int.not_le] at ph2
      refine W.skip ?_
      refine N.thenW ?_
      refine W.seq ?_
      refine W.block ?_
      refine W.seq ?_
      refine W.region ?_
      refine L.op1 rfl rfl (GSpec.plain rfl (spec_move rfl (Get.tmp rfl))) ?_
      refine L.op1 rfl rfl (GSpec.plain rfl (spec_assign rfl (Get.tmp rfl))) ?_
      refine L.nil ?_
      refine N.thenW ?_
      refine W.seq ?_
      refine W.region ?_
      refine L.op1 rfl rfl (GSpec.plain rfl (spec_move rfl (Get.tmp rfl))) ?_
      refine L.op1 rfl rfl (GSpec.plain rfl (spec_move rfl (Get.tmp rfl))) ?_
      refine L.op1 rfl rfl (GSpec.plain rfl (spec_call rfl Tryz.call43 (indexed_ok _ _ (by omega) (by omega) (by first | decide | omega | (simp; omega))) (.cons (Get.cstr (l := [116]) rfl rfl) (.cons (Get.tmp rfl) .nil)))) ?_
      refine L.op1 rfl rfl (GSpec.plain rfl (spec_move rfl (Get.tmp rfl))) ?_
      refine L.op1 rfl rfl (GSpec.plain rfl (spec_move rfl (Get.tmp rfl))) ?_
      refine L.op1 rfl rfl (GSpec.plain rfl (spec_callC (A := [_, _, _]) rfl (Get.tmp rfl) Tryz.call42 (cell_ok _ _ _ _ (by omega) (by omega) (by first | decide | omega)) (.cons (Get.cstr (l := [116]) rfl rfl) (.cons (Get.cstr (l := [105, 116]) rfl rfl) (.cons (Get.tmp rfl) .nil))))) ?_
      refine L.call rfl rfl rfl rfl Tryz.call40 (regB_ok _ _ _ _ _ _ (by first | omega | (simp only [addW, addR, pushD, popD, stageD, queue0, delay0, swapW, swap0, beginD, List.length_append, List.length_cons, List.length_nil]; omega) | decide)) (.cons 0 rfl (.cons 0 rfl (.cons 0 rfl .refl))) (.cons (Get.tmp rfl) (.cons (Get.tmp rfl) (.cons (Get.cint rfl) (.cons (Get.tmp rfl) .nil)))) (fun v63 => ?_)
      try dsimp only
      refine L.nil ?_
      refine N.thenW ?_
      refine W.region ?_
      refine L.op1 rfl rfl (GSpec.plain rfl (spec_move rfl (Get.tmp rfl))) ?_
      refine L.op1 rfl rfl (GSpec.plain rfl (spec_move rfl (Get.tmp rfl))) ?_
      refine L.op1 rfl rfl (GSpec.plain rfl (spec_call rfl Tryz.call43 (indexed_ok _ _ (by omega) (by omega) (by first | decide | omega | (simp; omega))) (.cons (Get.cstr (l := [97]) rfl rfl) (.cons (Get.tmp rfl) .nil)))) ?_
      refine L.op1 rfl rfl (GSpec.plain rfl (spec_move rfl (Get.tmp rfl))) ?_
      refine L.op1 rfl rfl (GSpec.plain rfl (spec_move rfl (Get.tmp rfl))) ?_
      refine L.op1 rfl rfl (GSpec.plain rfl (spec_move rfl (Get.tmp rfl))) ?_
      refine L.op1 rfl rfl (GSpec.plain rfl (spec_callC (A := [_, _, _]) rfl (Get.tmp rfl) Tryz.call42 (cell_ok _ _ _ _ (by omega) (by omega) (by first | decide | omega)) (.cons (Get.cstr (l := [97]) rfl rfl) (.cons (Get.cstr (l := [105, 97]) rfl rfl) (.cons (Get.tmp rfl) .nil))))) ?_
      refine L.call rfl rfl rfl rfl Tryz.call40 (regB_ok _ _ _ _ _ _ (by first | omega | (simp only [addW, addR, pushD, popD, stageD, queue0, delay0, swapW, swap0, beginD, List.length_append, List.length_cons, List.length_nil]; omega) | decide)) (.cons 0 rfl (.cons 0 rfl (.cons 0 rfl .refl))) (.cons (Get.tmp rfl) (.cons (Get.tmp rfl) (.cons (Get.tmp rfl) (.cons (Get.tmp rfl) .nil)))) (fun v71 => ?_)
      try dsimp only
      refine L.nil ?_
      refine N.blockNormal ?_
      refine N.thenW ?_
      refine W.region ?_
      first | refine L.op1 rfl rfl (GSpec.plain rfl (fit_i64 (by omega) (by omega) (spec_add rfl (Get.tmp rfl) (Get.cint rfl)))) ?_ | refine L.op1 rfl rfl (GSpec.plain rfl (spec_add rfl (Get.tmp rfl) (Get.cint rfl))) ?_
      refine L.op1 rfl rfl (GSpec.plain rfl (spec_move rfl (Get.tmp rfl))) ?_
      refine L.nil ?_
      refine N.roundK (i + 1, v71) ?hI1 ?hmu1 ?hs1 ?hk1 ?hp1
      case hs1 => exact (.cons (t := 54) rfl .nil)
      case hk1 => exact (.cons (t := 1) rfl (.cons (t := 4) rfl (.cons (t := 5) rfl (.cons (t := 6) rfl (.cons (t := 7) rfl (.cons (t := 53) rfl .nil))))))
      case hp1 => exact (.cons 0 rfl (.cons 0 rfl (.cons 0 rfl (.cons 0 rfl (.cons 0 rfl .nil)))))
      case hI1 => dsimp only; omega
      case hmu1 => dsimp only; omega
    · have ph2 := h2; try simp only [decide_eq_true_eq, decide_eq_false_iff_not, Bool.and_eq_true, Bool.or_eq_true, Bool.and_eq_false_iff, Bool.or_eq_false_iff, Bool.not_eq_true', Bool.not_eq_false', Bool.not_true, Bool.not_false, Int.not_lt, Int.not_le] at ph2
      refine W.exit ?_
      refine N.thenExit ?_
      refine N.thenExit ?_
      refine N.blockExit ?_
      refine N.thenW ?_
      have hi : i = m := by omega
      subst hi
      have hcl := cells_len (i : Int) w i
      refine W.seq ?_
      refine W.region ?_
      refine L.op1 rfl rfl (GSpec.plain rfl (spec_move rfl (Get.tmp rfl))) ?_
      refine L.call rfl rfl rfl rfl Tryz.call47 (end_ok _ _ _) (.cons 0 rfl (.cons 0 rfl (.cons 0 rfl .refl))) (.cons (Get.tmp rfl) .nil) (fun _u => ?_)
      try dsimp only
      refine L.op1 rfl rfl (GSpec.plain rfl (spec_extract rfl (Get.tmp rfl) rfl)) ?_
      refine L.op1 rfl rfl (GSpec.plain rfl (spec_extract rfl (Get.tmp rfl) rfl)) ?_
      refine L.storeW (k := 1) rfl rfl rfl Tryz.sizeOf27 (Get.tmp rfl) (Get.tmp rfl) rfl rfl rfl ?_
      refine L.op1 rfl rfl (GSpec.plain rfl (spec_assign rfl (Get.tmp rfl))) ?_
      refine L.nil ?_
      refine N.thenW ?_
      refine W.keep (.cons (t := 4) rfl (.cons (t := 5) rfl .nil)) .refl ?_
      refine W.ret ?_
      refine N.ret () rfl (.cellA (k := 1) (Get.tmp (t := 4) rfl) rfl Tryz.isAgg27 Tryz.sizeOf27 rfl (.tmp (t := 5) (Get.tmp rfl) .nil)) (res2w (eqA ?_) (eqI ?_)) .nil (fun _ _ h => h)
      all_goals rfl

end Go.Proofs.YthlfacmpjehjmaaGreatDoor
set_option linter.unusedSimpArgs false
set_option maxRecDepth 8000
set_option linter.unusedVariables false
namespace Go.Proofs.YthlfacmpjehjmaaGreatDoor
open Go.Sim
theorem adder_ok (w : Int) (hw : 1 ≤ w ∧ w ≤ 8) : CallT Tryz.prog 12 [Rp.int .i64 w] [spG] (.one (Rp.tuple [Rp.agg (eD (adderD w)), Rp.int .i64 0])) := by
  refine W.enter (fn := Tryz.f12) (n := 27) Tryz.func12 rfl Tryz.ntmps12 rfl (fun w₀ C₀ => ?_)
  simp only [argS]
  refine W.seq ?_
  refine W.region ?_
  refine L.box rfl rfl (GSpec.plain rfl (spec_alloc rfl ti27 z27)) (fun r2 => ?_)
  refine L.op1 rfl rfl (GSpec.plain rfl (spec_assign rfl (Get.cint rfl))) ?_
  refine L.nil ?_
  refine N.thenW ?_
  refine W.seq ?_
  refine W.seq ?_
  refine W.region ?_
  refine L.op1 rfl rfl (GSpec.plain rfl (spec_move rfl (Get.tmp rfl))) ?_
  refine L.op1 rfl rfl (GSpec.plain rfl (spec_call rfl Tryz.call31 (within_ok _) (.cons (Get.tmp rfl) .nil))) ?_
  refine L.op1 rfl rfl (GSpec.plain rfl (spec_not rfl (Get.tmp rfl))) ?_
  refine L.nil ?_
  refine N.thenW ?_
  refine W.cond (Get.tmp rfl) (fun h1 => ?_) (fun h1 => ?_)
  · exfalso; have h := h1; simp only [show decide (1 ≤ w) = true from decide_eq_true hw.1, show decide (w ≤ 8) = true from decide_eq_true hw.2] at h; revert h; decide
  · have ph1 := h1; try simp only [decide_eq_true_eq, decide_eq_false_iff_not, Bool.and_eq_true, Bool.or_eq_true, Bool.and_eq_false_iff, Bool.or_eq_false_iff, Bool.not_eq_true', Bool.not_eq_false', Bool.not_true, Bool.not_false, Int.not_lt, Int.not_le] at ph1
    refine W.skip ?_
    refine N.thenW ?_
    refine W.seq ?_
    refine W.region ?_
    refine L.op1 rfl rfl (GSpec.plain rfl (spec_move rfl (Get.tmp rfl))) ?_
    refine L.call rfl rfl rfl rfl Tryz.call32 (begin_ok _ _) (.cons 1 rfl .refl) (.cons (Get.cstr (l := [97, 100, 100, 101, 114]) rfl rfl) (.cons (Get.tmp rfl) .nil)) (fun v10 => ?_)
    try dsimp only
    refine L.op1 rfl rfl (GSpec.plain rfl (spec_assign rfl (Get.tmp rfl))) ?_
    refine L.nil ?_
    refine N.thenW ?_
    refine W.seq ?_
    refine W.region ?_
    refine L.op1 rfl rfl (GSpec.plain rfl (spec_move rfl (Get.tmp rfl))) ?_
    refine L.op1 rfl rfl (GSpec.plain rfl (spec_move rfl (Get.tmp rfl))) ?_
    refine L.call rfl rfl rfl rfl Tryz.call54 (stage_ok _ _ _ _ (by first | omega | (simp only [addW, addR, pushD, popD, stageD, queue0, delay0, swapW, swap0, beginD, List.length_append, List.length_cons, List.length_nil]; omega) | decide) (by first | omega | (simp only [addW, addR, pushD, popD, stageD, queue0, delay0, swapW, swap0, beginD, List.length_append, List.length_cons, List.length_nil]; omega) | decide)) (.cons 1 rfl (.cons 1 rfl (.cons 1 rfl .refl))) (.cons (Get.tmp rfl) (.cons (Get.tmp rfl) .nil)) (fun v13 => ?_)
    try dsimp only
    refine L.nil ?_
    refine N.thenW ?_
    refine W.keep (.cons (t := 0) rfl (.cons (t := 2) rfl (.cons (t := 3) rfl (.cons (t := 4) rfl .nil)))) .refl ?_
    refine W.seq ?_
    refine W.region ?_
    refine L.op1 rfl rfl (GSpec.plain rfl (spec_move rfl (Get.tmp rfl))) ?_
    refine L.op1 rfl rfl (GSpec.plain rfl (spec_move rfl (Get.tmp rfl))) ?_
    refine L.op1 rfl rfl (GSpec.plain rfl (spec_call rfl Tryz.call35 (ref_ok _) (.cons (Get.cstr (l := [112, 117, 115, 104]) rfl rfl) .nil))) ?_
    refine L.op1 rfl rfl (GSpec.plain rfl (spec_call rfl Tryz.call35 (ref_ok _) (.cons (Get.cstr (l := [105, 97]) rfl rfl) .nil))) ?_
    refine L.op1 rfl rfl (GSpec.plain rfl (spec_call rfl Tryz.call35 (ref_ok _) (.cons (Get.cstr (l := [105, 98]) rfl rfl) .nil))) ?_
    refine L.op1 rfl rfl (GSpec.plain rfl (spec_call rfl Tryz.call41 (plus_ok _ _) (.cons (Get.tmp rfl) (.cons (Get.tmp rfl) .nil)))) ?_
    refine L.op1 rfl rfl (GSpec.plain rfl (spec_call rfl Tryz.call35 (ref_ok _) (.cons (Get.cstr (l := [97]) rfl rfl) .nil))) ?_
    refine L.op1 rfl rfl (GSpec.plain rfl (spec_call rfl Tryz.call44 (when_ok _ _ _) (.cons (Get.tmp rfl) (.cons (Get.tmp rfl) (.cons (Get.tmp rfl) .nil))))) ?_
    refine L.call rfl rfl rfl rfl Tryz.call40 (regB_ok _ _ _ _ _ _ (by first | omega | (simp only [addW, addR, pushD, popD, stageD, queue0, delay0, swapW, swap0, beginD, List.length_append, List.length_cons, List.length_nil]; omega) | decide)) (.cons 0 rfl (.cons 0 rfl (.cons 0 rfl .refl))) (.cons (Get.tmp rfl) (.cons (Get.cstr (l := [97]) rfl rfl) (.cons (Get.tmp rfl) (.cons (Get.tmp rfl) .nil)))) (fun v22 => ?_)
    try dsimp only
    refine L.nil ?_
    refine N.thenW ?_
    refine W.keep (.cons (t := 2) rfl (.cons (t := 3) rfl (.cons (t := 4) rfl .nil))) .refl ?_
    refine W.seq ?_
    refine W.region ?_
    refine L.op1 rfl rfl (GSpec.plain rfl (spec_move rfl (Get.tmp rfl))) ?_
    refine L.call rfl rfl rfl rfl Tryz.call47 (end_ok _ _ _) (.cons 0 rfl (.cons 0 rfl (.cons 0 rfl .refl))) (.cons (Get.tmp rfl) .nil) (fun _u => ?_)
    try dsimp only
    refine L.op1 rfl rfl (GSpec.plain rfl (spec_extract rfl (Get.tmp rfl) rfl)) ?_
    refine L.op1 rfl rfl (GSpec.plain rfl (spec_extract rfl (Get.tmp rfl) rfl)) ?_
    refine L.storeW (k := 1) rfl rfl rfl Tryz.sizeOf27 (Get.tmp rfl) (Get.tmp rfl) rfl rfl rfl ?_
    refine L.op1 rfl rfl (GSpec.plain rfl (spec_assign rfl (Get.tmp rfl))) ?_
    refine L.nil ?_
    refine N.thenW ?_
    refine W.keep (.cons (t := 2) rfl (.cons (t := 3) rfl .nil)) .refl ?_
    refine W.ret ?_
    refine N.ret () rfl (.cellA (k := 1) (Get.tmp (t := 2) rfl) rfl Tryz.isAgg27 Tryz.sizeOf27 rfl (.tmp (t := 3) (Get.tmp rfl) .nil)) (res2w (eqA ?_) (eqI ?_)) .nil (fun _ _ h => h)
    all_goals rfl

theorem counter_ok (w : Int) (hw : 1 ≤ w ∧ w ≤ 8) : CallT Tryz.prog 14 [Rp.int .i64 w] [spG] (.one (Rp.tuple [Rp.agg (eD (counterD w)), Rp.int .i64 0])) := by
  refine W.enter (fn := Tryz.f14) (n := 34) Tryz.func14 rfl Tryz.ntmps14 rfl (fun w₀ C₀ => ?_)
  simp only [argS]
  refine W.seq ?_
  refine W.region ?_
  refine L.box rfl rfl (GSpec.plain rfl (spec_alloc rfl ti27 z27)) (fun r2 => ?_)
  refine L.op1 rfl rfl (GSpec.plain rfl (spec_assign rfl (Get.cint rfl))) ?_
  refine L.nil ?_
  refine N.thenW ?_
  refine W.seq ?_
  refine W.seq ?_
  refine W.region ?_
  refine L.op1 rfl rfl (GSpec.plain rfl (spec_move rfl (Get.tmp rfl))) ?_
  refine L.op1 rfl rfl (GSpec.plain rfl (spec_call rfl Tryz.call31 (within_ok _) (.cons (Get.tmp rfl) .nil))) ?_
  refine L.op1 rfl rfl (GSpec.plain rfl (spec_not rfl (Get.tmp rfl))) ?_
  refine L.nil ?_
  refine N.thenW ?_
  refine W.cond (Get.tmp rfl) (fun h1 => ?_) (fun h1 => ?_)
  · exfalso; have h := h1; simp only [show decide (1 ≤ w) = true from decide_eq_true hw.1, show decide (w ≤ 8) = true from decide_eq_true hw.2] at h; revert h; decide
  · have ph1 := h1; try simp only [decide_eq_true_eq, decide_eq_false_iff_not, Bool.and_eq_true, Bool.or_eq_true, Bool.and_eq_false_iff, Bool.or_eq_false_iff, Bool.not_eq_true', Bool.not_eq_false', Bool.not_true, Bool.not_false, Int.not_lt, Int.not_le] at ph1
    refine W.skip ?_
    refine N.thenW ?_
    refine W.seq ?_
    refine W.region ?_
    refine L.op1 rfl rfl (GSpec.plain rfl (spec_move rfl (Get.tmp rfl))) ?_
    refine L.call rfl rfl rfl rfl Tryz.call32 (begin_ok _ _) (.cons 1 rfl .refl) (.cons (Get.cstr (l := [99, 111, 117, 110, 116, 101, 114]) rfl rfl) (.cons (Get.tmp rfl) .nil)) (fun v10 => ?_)
    try dsimp only
    refine L.op1 rfl rfl (GSpec.plain rfl (spec_assign rfl (Get.tmp rfl))) ?_
    refine L.nil ?_
    refine N.thenW ?_
    refine W.keep (.cons (t := 0) rfl (.cons (t := 2) rfl (.cons (t := 3) rfl (.cons (t := 4) rfl .nil)))) .refl ?_
    refine W.seq ?_
    refine W.region ?_
    refine L.op1 rfl rfl (GSpec.plain rfl (spec_move rfl (Get.tmp rfl))) ?_
    refine L.op1 rfl rfl (GSpec.plain rfl (spec_move rfl (Get.tmp rfl))) ?_
    refine L.call rfl rfl rfl rfl Tryz.call54 (stage_ok _ _ _ _ (by first | omega | (simp only [addW, addR, pushD, popD, stageD, queue0, delay0, swapW, swap0, beginD, List.length_append, List.length_cons, List.length_nil]; omega) | decide) (by first | omega | (simp only [addW, addR, pushD, popD, stageD, queue0, delay0, swapW, swap0, beginD, List.length_append, List.length_cons, List.length_nil]; omega) | decide)) (.cons 1 rfl (.cons 1 rfl (.cons 1 rfl .refl))) (.cons (Get.tmp rfl) (.cons (Get.tmp rfl) .nil)) (fun v13 => ?_)
    try dsimp only
    refine L.nil ?_
    refine N.thenW ?_
    refine W.seq ?_
    refine W.region ?_
    refine L.op1 rfl rfl (GSpec.plain rfl (spec_move rfl (Get.tmp rfl))) ?_
    refine L.op1 rfl rfl (GSpec.plain rfl (spec_move rfl (Get.tmp rfl))) ?_
    refine L.op1 rfl rfl (GSpec.plain rfl (spec_call rfl Tryz.call35 (ref_ok _) (.cons (Get.cstr (l := [112, 117, 115, 104]) rfl rfl) .nil))) ?_
    refine L.op1 rfl rfl (GSpec.plain rfl (spec_call rfl Tryz.call35 (ref_ok _) (.cons (Get.cstr (l := [110]) rfl rfl) .nil))) ?_
    refine L.op1 rfl rfl (GSpec.plain rfl (spec_call rfl Tryz.call35 (ref_ok _) (.cons (Get.cstr (l := [97]) rfl rfl) .nil))) ?_
    refine L.op1 rfl rfl (GSpec.plain rfl (spec_call rfl Tryz.call44 (when_ok _ _ _) (.cons (Get.tmp rfl) (.cons (Get.tmp rfl) (.cons (Get.tmp rfl) .nil))))) ?_
    refine L.call rfl rfl rfl rfl Tryz.call40 (regB_ok _ _ _ _ _ _ (by first | omega | (simp only [addW, addR, pushD, popD, stageD, queue0, delay0, swapW, swap0, beginD, List.length_append, List.length_cons, List.length_nil]; omega) | decide)) (.cons 0 rfl (.cons 0 rfl (.cons 0 rfl .refl))) (.cons (Get.tmp rfl) (.cons (Get.cstr (l := [97]) rfl rfl) (.cons (Get.tmp rfl) (.cons (Get.tmp rfl) .nil)))) (fun v20 => ?_)
    try dsimp only
    refine L.nil ?_
    refine N.thenW ?_
    refine W.keep (.cons (t := 0) rfl (.cons (t := 2) rfl (.cons (t := 3) rfl (.cons (t := 4) rfl .nil)))) .refl ?_
    refine W.seq ?_
    refine W.region ?_
    refine L.op1 rfl rfl (GSpec.plain rfl (spec_move rfl (Get.tmp rfl))) ?_
    refine L.op1 rfl rfl (GSpec.plain rfl (spec_move rfl (Get.tmp rfl))) ?_
    refine L.op1 rfl rfl (GSpec.plain rfl (spec_call rfl Tryz.call35 (ref_ok _) (.cons (Get.cstr (l := [112, 117, 115, 104]) rfl rfl) .nil))) ?_
    refine L.op1 rfl rfl (GSpec.plain rfl (spec_call rfl Tryz.call35 (ref_ok _) (.cons (Get.cstr (l := [110]) rfl rfl) .nil))) ?_
    refine L.op1 rfl rfl (GSpec.plain rfl (spec_call rfl Tryz.call36 (num_ok _) (.cons (Get.cint rfl) .nil))) ?_
    refine L.op1 rfl rfl (GSpec.plain rfl (spec_call rfl Tryz.call41 (plus_ok _ _) (.cons (Get.tmp rfl) (.cons (Get.tmp rfl) .nil)))) ?_
    refine L.op1 rfl rfl (GSpec.plain rfl (spec_call rfl Tryz.call35 (ref_ok _) (.cons (Get.cstr (l := [110]) rfl rfl) .nil))) ?_
    refine L.op1 rfl rfl (GSpec.plain rfl (spec_call rfl Tryz.call44 (when_ok _ _ _) (.cons (Get.tmp rfl) (.cons (Get.tmp rfl) (.cons (Get.tmp rfl) .nil))))) ?_
    refine L.call rfl rfl rfl rfl Tryz.call40 (regB_ok _ _ _ _ _ _ (by first | omega | (simp only [addW, addR, pushD, popD, stageD, queue0, delay0, swapW, swap0, beginD, List.length_append, List.length_cons, List.length_nil]; omega) | decide)) (.cons 0 rfl (.cons 0 rfl (.cons 0 rfl .refl))) (.cons (Get.tmp rfl) (.cons (Get.cstr (l := [110]) rfl rfl) (.cons (Get.tmp rfl) (.cons (Get.tmp rfl) .nil)))) (fun v29 => ?_)
    try dsimp only
    refine L.nil ?_
    refine N.thenW ?_
    refine W.keep (.cons (t := 2) rfl (.cons (t := 3) rfl (.cons (t := 4) rfl .nil))) .refl ?_
    refine W.seq ?_
    refine W.region ?_
    refine L.op1 rfl rfl (GSpec.plain rfl (spec_move rfl (Get.tmp rfl))) ?_
    refine L.call rfl rfl rfl rfl Tryz.call47 (end_ok _ _ _) (.cons 0 rfl (.cons 0 rfl (.cons 0 rfl .refl))) (.cons (Get.tmp rfl) .nil) (fun _u => ?_)
    try dsimp only
    refine L.op1 rfl rfl (GSpec.plain rfl (spec_extract rfl (Get.tmp rfl) rfl)) ?_
    refine L.op1 rfl rfl (GSpec.plain rfl (spec_extract rfl (Get.tmp rfl) rfl)) ?_
    refine L.storeW (k := 1) rfl rfl rfl Tryz.sizeOf27 (Get.tmp rfl) (Get.tmp rfl) rfl rfl rfl ?_
    refine L.op1 rfl rfl (GSpec.plain rfl (spec_assign rfl (Get.tmp rfl))) ?_
    refine L.nil ?_
    refine N.thenW ?_
    refine W.keep (.cons (t := 2) rfl (.cons (t := 3) rfl .nil)) .refl ?_
    refine W.ret ?_
    refine N.ret () rfl (.cellA (k := 1) (Get.tmp (t := 2) rfl) rfl Tryz.isAgg27 Tryz.sizeOf27 rfl (.tmp (t := 3) (Get.tmp rfl) .nil)) (res2w (eqA ?_) (eqI ?_)) .nil (fun _ _ h => h)
    all_goals rfl

end Go.Proofs.YthlfacmpjehjmaaGreatDoor
set_option linter.unusedSimpArgs false
set_option maxRecDepth 8000
set_option linter.unusedVariables false
namespace Go.Proofs.YthlfacmpjehjmaaGreatDoor
open Go.Sim
theorem moves_ok (c : Ex) (a b : List UInt8) : CallT Tryz.prog 58 [Rp.agg (eX c), Rp.str a, Rp.str b] [] (.one (Rp.agg (eX (moveE c a b)))) := by
  refine W.enter (fn := Tryz.f58) (n := 13) Tryz.func58 rfl Tryz.ntmps58 rfl (fun w₀ C₀ => ?_)
  simp only [argS]
  refine W.seq ?_
  refine W.region ?_
  refine L.box rfl rfl (GSpec.plain rfl (spec_box rfl (GetC.agg (Get.tmp rfl)))) (fun r3 => ?_)
  refine L.box rfl rfl (GSpec.plain rfl (spec_alloc rfl ti66 z66)) (fun r6 => ?_)
  refine L.nil ?_
  refine N.thenW ?_
  refine W.seq ?_
  apply W.any 6 mixed (by kernel_rfl)
  · apply Head.one rfl rfl (GSpec.plain rfl (spec_loadW (k := 1) rfl Tryz.isAgg66 Tryz.sizeOf66 (Get.tmp rfl) rfl rfl))
    apply Head.one rfl rfl (GSpec.plain rfl (spec_move rfl (Get.tmp rfl)))
    apply Head.one rfl rfl (GSpec.plain rfl (spec_call rfl Tryz.call35 (ref_ok _) (.cons (Get.tmp rfl) .nil)))
    apply Head.one rfl rfl (GSpec.plain rfl (spec_move rfl (Get.tmp rfl)))
    apply Head.one rfl rfl (GSpec.plain rfl (spec_call rfl Tryz.call35 (ref_ok _) (.cons (Get.tmp rfl) .nil)))
    apply Head.one rfl rfl (GSpec.plain rfl (spec_call rfl Tryz.call44 (when_ok _ _ _) (.cons (Get.tmp rfl) (.cons (Get.tmp rfl) (.cons (Get.tmp rfl) .nil)))))
    exact Head.nil
  refine Fin.one ?_
  refine Fin.one ?_
  refine Fin.one ?_
  refine Fin.one ?_
  refine Fin.one ?_
  refine Fin.one ?_
  refine Fin.nil ?_
  refine L.storeW (k := 0) rfl rfl rfl Tryz.sizeOf66 (Get.tmp rfl) (Get.tmp rfl) rfl rfl rfl ?_
  refine L.nil ?_
  refine N.thenW ?_
  refine W.keep (.cons (t := 6) rfl .nil) .refl ?_
  refine W.ret ?_
  refine N.ret () rfl (.cellA (k := 0) (Get.tmp (t := 6) rfl) rfl Tryz.isAgg66 Tryz.sizeOf66 rfl .nil) (res1 (eqA ?_)) .nil (fun _ _ h => h)
  rfl

theorem take_ok (r : Nat) (s : List UInt8) : CallT Tryz.prog 59 [Rp.ptr r 0] [MF.box r 9 [Rp.str s]] (takeX r s) := by
  refine W.enter (fn := Tryz.f59) (n := 6) Tryz.func59 rfl Tryz.ntmps59 rfl (fun w₀ C₀ => ?_)
  simp only [argS]
  refine W.seq ?_
  refine W.region ?_
  refine L.box rfl rfl (GSpec.plain rfl (spec_alloc rfl ti66 z66)) (fun r1 => ?_)
  refine L.nil ?_
  refine N.thenW ?_
  refine W.seq ?_
  apply W.any 4 mixed (by kernel_rfl)
  · apply Head.one rfl rfl (GSpec.plain rfl (spec_call rfl Tryz.call35 (ref_ok _) (.cons (Get.cstr (l := [103, 111]) rfl rfl) .nil)))
    apply Head.one rfl rfl (GSpec.plain rfl (spec_load1 (k := 1) rfl Tryz.isAgg9 (Get.tmp rfl) rfl rfl))
    apply Head.one rfl rfl (GSpec.plain rfl (spec_call rfl Tryz.call35 (ref_ok _) (.cons (Get.tmp rfl) .nil)))
    apply Head.one rfl rfl (GSpec.plain rfl (spec_call rfl Tryz.call45 (both_ok _ _) (.cons (Get.tmp rfl) (.cons (Get.tmp rfl) .nil))))
    exact Head.nil
  refine Fin.one ?_
  refine Fin.one ?_
  refine Fin.one ?_
  refine Fin.one ?_
  refine Fin.nil ?_
  refine L.storeW (k := 0) rfl rfl rfl Tryz.sizeOf66 (Get.tmp rfl) (Get.tmp rfl) rfl rfl rfl ?_
  refine L.nil ?_
  refine N.thenW ?_
  refine W.ret ?_
  refine N.ret (X := (takeX r s)) () rfl (.cellA (k := 0) (Get.tmp (t := 1) rfl) rfl Tryz.isAgg66 Tryz.sizeOf66 rfl .nil) (res1 (eqA ?_)) (.cons 1 rfl .nil) (fun _ _ h => h)
  all_goals first | rfl | skip

theorem delay_ok (k w : Int) (hk : 1 ≤ k ∧ k ≤ 8) (hw : 1 ≤ w ∧ w ≤ 8) : CallT Tryz.prog 16 [Rp.int .i64 k, Rp.int .i64 w] [spG] (.one (Rp.tuple [Rp.agg (eD (delayD k.toNat w)), Rp.int .i64 0])) := by
  refine W.enter (fn := Tryz.f16) (n := 103) Tryz.func16 rfl Tryz.ntmps16 rfl (fun w₀ C₀ => ?_)
  simp only [argS]
  obtain ⟨m, rfl⟩ : ∃ m : Nat, k = (m : Int) := ⟨k.toNat, by omega⟩
  refine W.seq ?_
  refine W.region ?_
  refine L.box rfl rfl (GSpec.plain rfl (spec_alloc rfl ti27 z27)) (fun r4 => ?_)
  refine L.op1 rfl rfl (GSpec.plain rfl (spec_assign rfl (Get.cint rfl))) ?_
  refine L.nil ?_
  refine N.thenW ?_
  refine W.seq ?_
  refine W.seq ?_
  refine W.region ?_
  refine L.op1 rfl rfl (GSpec.plain rfl (spec_move rfl (Get.tmp rfl))) ?_
  refine L.op1 rfl rfl (GSpec.plain rfl (spec_call rfl Tryz.call31 (within_ok _) (.cons (Get.tmp rfl) .nil))) ?_
  refine L.op1 rfl rfl (GSpec.plain rfl (spec_not rfl (Get.tmp rfl))) ?_
  refine L.op1 rfl rfl (GSpec.plain rfl (spec_move rfl (Get.tmp rfl))) ?_
  refine L.op1 rfl rfl (GSpec.guard rfl rfl rfl fun hg => (spec_move rfl (Get.tmp rfl))) ?_
  refine L.op1 rfl rfl (GSpec.guard rfl rfl rfl fun hg => (spec_call rfl Tryz.call31 (within_ok _) (.cons (Get.opt rfl hg) .nil))) ?_
  refine L.op1 rfl rfl (GSpec.guard rfl rfl rfl fun hg => (spec_not rfl (Get.opt rfl hg))) ?_
  refine L.op1 rfl rfl (GSpec.plain rfl (spec_or rfl (Get.tmp rfl) (fun hb => (Get.opt rfl hb)))) ?_
  refine L.nil ?_
  refine N.thenW ?_
  refine W.keep (.cons (t := 0) rfl (.cons (t := 1) rfl (.cons (t := 4) rfl (.cons (t := 5) rfl (.cons (t := 21) rfl .nil))))) .refl ?_
  refine W.cond (Get.tmp rfl) (fun h1 => ?_) (fun h1 => ?_)
  · exfalso; have h := h1; simp only [show decide (1 ≤ (m : Int)) = true from decide_eq_true hk.1, show decide ((m : Int) ≤ 8) = true from decide_eq_true hk.2, show decide (1 ≤ w) = true from decide_eq_true hw.1, show decide (w ≤ 8) = true from decide_eq_true hw.2] at h; revert h; decide
  · have ph1 := h1; try simp only [decide_eq_true_eq, decide_eq_false_iff_not, Bool.and_eq_true, Bool.or_eq_true, Bool.and_eq_false_iff, Bool.or_eq_false_iff, Bool.not_eq_true', Bool.not_eq_false', Bool.not_true, Bool.not_false, Int.not_lt, Int.not_le] at ph1
    refine W.skip ?_
    refine N.thenW ?_
    refine W.seq ?_
    refine W.region ?_
    refine L.op1 rfl rfl (GSpec.plain rfl (spec_move rfl (Get.tmp rfl))) ?_
    refine L.call rfl rfl rfl rfl Tryz.call32 (begin_ok _ _) (.cons 1 rfl .refl) (.cons (Get.cstr (l := [100, 101, 108, 97, 121]) rfl rfl) (.cons (Get.tmp rfl) .nil)) (fun v24 => ?_)
    try dsimp only
    refine L.op1 rfl rfl (GSpec.plain rfl (spec_assign rfl (Get.tmp rfl))) ?_
    refine L.nil ?_
    refine N.thenW ?_
    refine W.seq ?_
    refine W.region ?_
    refine L.op1 rfl rfl (GSpec.plain rfl (spec_move rfl (Get.tmp rfl))) ?_
    first | refine L.op1 rfl rfl (GSpec.plain rfl (fit_i64 (by omega) (by omega) (spec_sub rfl (Get.tmp rfl) (Get.cint rfl)))) ?_ | refine L.op1 rfl rfl (GSpec.plain rfl (spec_sub rfl (Get.tmp rfl) (Get.cint rfl))) ?_
    refine L.op1 rfl rfl (GSpec.plain rfl (spec_call rfl Tryz.call43 (indexed_ok _ _ (by omega) (by omega) (by first | decide | omega | (simp; omega))) (.cons (Get.cstr (l := [118]) rfl rfl) (.cons (Get.tmp rfl) .nil)))) ?_
    refine L.op1 rfl rfl (GSpec.plain rfl (spec_call rfl Tryz.call35 (ref_ok _) (.cons (Get.tmp rfl) .nil))) ?_
    refine L.box rfl rfl (GSpec.plain rfl (spec_alloc rfl ti66 z66)) (fun r7 => ?_)
    refine L.storeW (k := 0) rfl rfl rfl Tryz.sizeOf66 (Get.tmp rfl) (Get.tmp rfl) rfl rfl rfl ?_
    refine L.nil ?_
    refine N.thenW ?_
    refine W.keep (.cons (t := 0) rfl (.cons (t := 1) rfl (.cons (t := 4) rfl (.cons (t := 5) rfl (.cons (t := 6) rfl (.cons (t := 7) rfl .nil)))))) .refl ?_
    refine W.seq ?_
    refine W.region ?_
    refine L.op1 rfl rfl (GSpec.plain rfl (spec_move rfl (Get.tmp rfl))) ?_
    refine L.op1 rfl rfl (GSpec.plain rfl (spec_loadW (k := 0) rfl Tryz.isAgg66 Tryz.sizeOf66 (Get.tmp rfl) rfl rfl)) ?_
    refine L.op1 rfl rfl (GSpec.plain rfl (spec_call rfl Tryz.call57 (not_ok _) (.cons (Get.tmp rfl) .nil))) ?_
    refine L.op1 rfl rfl (GSpec.plain rfl (spec_call rfl Tryz.call35 (ref_ok _) (.cons (Get.cstr (l := [111, 114, 100, 121]) rfl rfl) .nil))) ?_
    refine L.op1 rfl rfl (GSpec.plain rfl (spec_call rfl Tryz.call56 (either_ok _ _) (.cons (Get.tmp rfl) (.cons (Get.tmp rfl) .nil)))) ?_
    refine L.call rfl rfl rfl rfl Tryz.call33 (wireB_ok _ _ _ _ _ _ (by first | omega | (simp only [addW, addR, pushD, popD, stageD, queue0, delay0, swapW, swap0, beginD, List.length_append, List.length_cons, List.length_nil]; omega) | decide)) (.cons 2 rfl (.cons 2 rfl (.cons 2 rfl .refl))) (.cons (Get.tmp rfl) (.cons (Get.cstr (l := [103, 111]) rfl rfl) (.cons (Get.cint rfl) (.cons (Get.tmp rfl) .nil)))) (fun v34 => ?_)
    try dsimp only
    refine L.nil ?_
    refine N.thenW ?_
    refine W.keep (.cons (t := 0) rfl (.cons (t := 1) rfl (.cons (t := 4) rfl (.cons (t := 5) rfl (.cons (t := 6) rfl (.cons (t := 7) rfl .nil)))))) .refl ?_
    refine W.seq ?_
    refine W.region ?_
    refine L.op1 rfl rfl (GSpec.plain rfl (spec_move rfl (Get.tmp rfl))) ?_
    refine L.op1 rfl rfl (GSpec.plain rfl (spec_call rfl Tryz.call35 (ref_ok _) (.cons (Get.cstr (l := [103, 111]) rfl rfl) .nil))) ?_
    refine L.call rfl rfl rfl rfl Tryz.call33 (wireB_ok _ _ _ _ _ _ (by first | omega | (simp only [addW, addR, pushD, popD, stageD, queue0, delay0, swapW, swap0, beginD, List.length_append, List.length_cons, List.length_nil]; omega) | decide)) (.cons 0 rfl (.cons 0 rfl (.cons 0 rfl .refl))) (.cons (Get.tmp rfl) (.cons (Get.cstr (l := [105, 114, 100, 121]) rfl rfl) (.cons (Get.cint rfl) (.cons (Get.tmp rfl) .nil)))) (fun v37 => ?_)
    try dsimp only
    refine L.nil ?_
    refine N.thenW ?_
    refine W.seq ?_
    refine W.region ?_
    refine L.op1 rfl rfl (GSpec.plain rfl (spec_move rfl (Get.tmp rfl))) ?_
    refine L.op1 rfl rfl (GSpec.plain rfl (spec_loadW (k := 3) rfl Tryz.isAgg66 Tryz.sizeOf66 (Get.tmp rfl) rfl rfl)) ?_
    refine L.call rfl rfl rfl rfl Tryz.call33 (wireB_ok _ _ _ _ _ _ (by first | omega | (simp only [addW, addR, pushD, popD, stageD, queue0, delay0, swapW, swap0, beginD, List.length_append, List.length_cons, List.length_nil]; omega) | decide)) (.cons 0 rfl (.cons 0 rfl (.cons 0 rfl .refl))) (.cons (Get.tmp rfl) (.cons (Get.cstr (l := [111, 118]) rfl rfl) (.cons (Get.cint rfl) (.cons (Get.tmp rfl) .nil)))) (fun v40 => ?_)
    try dsimp only
    refine L.nil ?_
    refine N.thenW ?_
    refine W.keep (.cons (t := 0) rfl (.cons (t := 1) rfl (.cons (t := 4) rfl (.cons (t := 5) rfl (.cons (t := 6) rfl .nil))))) .refl ?_
    refine W.seq ?_
    refine W.region ?_
    refine L.op1 rfl rfl (GSpec.plain rfl (spec_move rfl (Get.tmp rfl))) ?_
    refine L.op1 rfl rfl (GSpec.plain rfl (spec_move rfl (Get.tmp rfl))) ?_
    first | refine L.op1 rfl rfl (GSpec.plain rfl (fit_i64 (by omega) (by omega) (spec_sub rfl (Get.tmp rfl) (Get.cint rfl)))) ?_ | refine L.op1 rfl rfl (GSpec.plain rfl (spec_sub rfl (Get.tmp rfl) (Get.cint rfl))) ?_
    refine L.op1 rfl rfl (GSpec.plain rfl (spec_call rfl Tryz.call43 (indexed_ok _ _ (by omega) (by omega) (by first | decide | omega | (simp; omega))) (.cons (Get.cstr (l := [116]) rfl rfl) (.cons (Get.tmp rfl) .nil)))) ?_
    refine L.op1 rfl rfl (GSpec.plain rfl (spec_call rfl Tryz.call35 (ref_ok _) (.cons (Get.tmp rfl) .nil))) ?_
    refine L.call rfl rfl rfl rfl Tryz.call33 (wireB_ok _ _ _ _ _ _ (by first | omega | (simp only [addW, addR, pushD, popD, stageD, queue0, delay0, swapW, swap0, beginD, List.length_append, List.length_cons, List.length_nil]; omega) | decide)) (.cons 0 rfl (.cons 0 rfl (.cons 0 rfl .refl))) (.cons (Get.tmp rfl) (.cons (Get.cstr (l := [111, 116]) rfl rfl) (.cons (Get.cint rfl) (.cons (Get.tmp rfl) .nil)))) (fun v46 => ?_)
    try dsimp only
    refine L.nil ?_
    refine N.thenW ?_
    refine W.keep (.cons (t := 0) rfl (.cons (t := 1) rfl (.cons (t := 4) rfl (.cons (t := 5) rfl (.cons (t := 6) rfl .nil))))) .refl ?_
    refine W.seq ?_
    refine W.region ?_
    refine L.op1 rfl rfl (GSpec.plain rfl (spec_move rfl (Get.tmp rfl))) ?_
    refine L.op1 rfl rfl (GSpec.plain rfl (spec_move rfl (Get.tmp rfl))) ?_
    refine L.op1 rfl rfl (GSpec.plain rfl (spec_move rfl (Get.tmp rfl))) ?_
    first | refine L.op1 rfl rfl (GSpec.plain rfl (fit_i64 (by omega) (by omega) (spec_sub rfl (Get.tmp rfl) (Get.cint rfl)))) ?_ | refine L.op1 rfl rfl (GSpec.plain rfl (spec_sub rfl (Get.tmp rfl) (Get.cint rfl))) ?_
    refine L.op1 rfl rfl (GSpec.plain rfl (spec_call rfl Tryz.call43 (indexed_ok _ _ (by omega) (by omega) (by first | decide | omega | (simp; omega))) (.cons (Get.cstr (l := [97]) rfl rfl) (.cons (Get.tmp rfl) .nil)))) ?_
    refine L.op1 rfl rfl (GSpec.plain rfl (spec_call rfl Tryz.call35 (ref_ok _) (.cons (Get.tmp rfl) .nil))) ?_
    refine L.call rfl rfl rfl rfl Tryz.call33 (wireB_ok _ _ _ _ _ _ (by first | omega | (simp only [addW, addR, pushD, popD, stageD, queue0, delay0, swapW, swap0, beginD, List.length_append, List.length_cons, List.length_nil]; omega) | decide)) (.cons 0 rfl (.cons 0 rfl (.cons 0 rfl .refl))) (.cons (Get.tmp rfl) (.cons (Get.cstr (l := [111, 97]) rfl rfl) (.cons (Get.tmp rfl) (.cons (Get.tmp rfl) .nil)))) (fun v53 => ?_)
    try dsimp only
    refine L.nil ?_
    refine N.thenW ?_
    refine W.keep (.cons (t := 0) rfl (.cons (t := 1) rfl (.cons (t := 4) rfl (.cons (t := 5) rfl (.cons (t := 6) rfl .nil))))) .refl ?_
    refine W.seq ?_
    refine W.region ?_
    refine L.box rfl rfl (GSpec.plain rfl (spec_alloc rfl ti9 z9)) (fun r8 => ?_)
    refine L.storeB (k := 0) rfl rfl rfl Tryz.sizeOf9 (Get.tmp rfl) (Get.cstr (l := [105, 118]) rfl rfl) rfl rfl ?_
    refine L.op1 rfl rfl (GSpec.plain rfl (spec_assign rfl (Get.cstr (l := [105, 116]) rfl rfl))) ?_
    refine L.op1 rfl rfl (GSpec.plain rfl (spec_assign rfl (Get.cstr (l := [105, 97]) rfl rfl))) ?_
    refine L.nil ?_
    refine N.thenW ?_
    refine W.seq ?_
    refine W.seq ?_
    refine W.region ?_
    refine L.op1 rfl rfl (GSpec.plain rfl (spec_move rfl (Get.tmp rfl))) ?_
    refine L.op1 rfl rfl (GSpec.plain rfl (spec_move rfl (Get.cint rfl))) ?_
    refine L.nil ?_
    refine N.thenW ?_
    refine W.block ?_
    refine W.loopK (σ := Nat × (Value × Value)) (.cons (t := 1) rfl (.cons (t := 4) rfl (.cons (t := 5) rfl (.cons (t := 6) rfl (.cons (t := 8) rfl (.cons (t := 54) rfl .nil)))))) (fun z => [(55, Rp.int .i64 (z.1 : Nat)), (9, Rp.str (fromE sT sIt z.1)), (10, Rp.str (fromE sA sIa z.1))]) (fun z => [MF.box v24.1 111 (bdR (stagesD m w z.1) z.2), MF.osl z.2.1 77 6 eWr (stagesD m w z.1).wires, MF.osl z.2.2 81 7 eRg (stagesD m w z.1).regs, MF.box r8 9 [Rp.str (fromE sV sIv z.1)]]) (fun z => z.1 ≤ m) (fun z => m - z.1) (0, v53) (Nat.zero_le _) (.cons (t := 55) rfl (.cons (t := 9) rfl (.cons (t := 10) rfl .nil))) (.cons 1 rfl (.cons 1 rfl (.cons 1 rfl (.cons 0 rfl (.cons 0 rfl (.cons 0 rfl (.cons 0 rfl .nil))))))) ?_
    intro ⟨i, vp⟩ hI S' M' hS hM
    try dsimp only at hS hM
    simp only [List.cons_append, List.nil_append] at hS hM
    subst hS hM
    try dsimp only
    try dsimp only at hI
    have hcl := stages_len m w i
    refine W.seq ?_
    refine W.region ?_
    refine L.op1 rfl rfl (GSpec.plain rfl (spec_lss rfl (Get.tmp rfl) (Get.tmp rfl))) ?_
    refine L.nil ?_
    refine N.thenW ?_
    refine W.seq ?_
    refine W.cond (Get.tmp rfl) (fun h2 => ?_) (fun h2 => ?_)
    · have ph2 := h2; try simp only [decide_eq_true_eq, decide_eq_false_iff_not, Bool.and_eq_true, Bool.or_eq_true, Bool.and_eq_false_iff, Bool.or_eq_false_iff, Bool.not_eq_true', Bool.not_eq_false', Bool.not_true, Bool.not_false, Int.not_lt, Int.not_le] at ph2
      refine W.skip ?_
      refine N.thenW ?_
      refine W.seq ?_
      refine W.block ?_
      refine W.seq ?_
      refine W.region ?_
      refine L.op1 rfl rfl (GSpec.plain rfl (spec_move rfl (Get.tmp rfl))) ?_
      refine L.op1 rfl rfl (GSpec.plain rfl (spec_assign rfl (Get.tmp rfl))) ?_
      refine L.nil ?_
      refine N.thenW ?_
      refine W.seq ?_
      refine W.region ?_
      refine L.op1 rfl rfl (GSpec.plain rfl (spec_assign rfl Get.clo)) ?_
      refine L.nil ?_
      refine N.thenW ?_
      refine W.seq ?_
      refine W.region ?_
      refine L.op1 rfl rfl (GSpec.plain rfl (spec_makeFunc rfl (.cons (Get.tmp rfl) .nil))) ?_
      refine L.op1 rfl rfl (GSpec.plain rfl (spec_assign rfl (Get.tmp rfl))) ?_
      refine L.nil ?_
      refine N.thenW ?_
      refine W.seq ?_
      apply W.any 9 mixed (by kernel_rfl)
      · apply Head.one rfl rfl (GSpec.plain rfl (spec_move rfl (Get.tmp rfl)))
        apply Head.one rfl rfl (GSpec.plain rfl (spec_move rfl (Get.tmp rfl)))
        apply Head.one rfl rfl (GSpec.plain rfl (spec_call rfl Tryz.call43 (indexed_ok _ _ (by omega) (by omega) (by first | decide | omega | (simp; omega))) (.cons (Get.cstr (l := [118]) rfl rfl) (.cons (Get.tmp rfl) .nil))))
        apply Head.one rfl rfl (GSpec.plain rfl (spec_move rfl (Get.tmp rfl)))
        apply Head.one rfl rfl (GSpec.plain rfl (spec_call rfl Tryz.call35 (ref_ok _) (.cons (Get.cstr (l := [103, 111]) rfl rfl) .nil)))
        apply Head.one rfl rfl (GSpec.plain rfl (spec_load1 (k := 3) rfl Tryz.isAgg9 (Get.tmp rfl) rfl rfl))
        apply Head.one rfl rfl (GSpec.plain rfl (spec_move rfl (Get.tmp rfl)))
        apply Head.one rfl rfl (GSpec.plain rfl (spec_call rfl Tryz.call43 (indexed_ok _ _ (by omega) (by omega) (by first | decide | omega | (simp; omega))) (.cons (Get.cstr (l := [118]) rfl rfl) (.cons (Get.tmp rfl) .nil))))
        apply Head.one rfl rfl (GSpec.plain rfl (spec_callC (A := [_, _, _]) rfl (Get.tmp rfl) Tryz.call58 (moves_ok _ _ _) (.cons (Get.tmp rfl) (.cons (Get.tmp rfl) (.cons (Get.tmp rfl) .nil)))))
        exact Head.nil
      refine Fin.one ?_
      refine Fin.one ?_
      refine Fin.one ?_
      refine Fin.one ?_
      refine Fin.one ?_
      refine Fin.one ?_
      refine Fin.one ?_
      refine Fin.one ?_
      refine Fin.one ?_
      refine Fin.nil ?_
      refine L.call rfl rfl rfl rfl Tryz.call40 (regB_ok _ _ _ _ _ _ (by first | omega | (simp only [addW, addR, pushD, popD, stageD, queue0, delay0, swapW, swap0, beginD, List.length_append, List.length_cons, List.length_nil]; omega) | decide)) (.cons 0 rfl (.cons 0 rfl (.cons 0 rfl .refl))) (.cons (Get.tmp rfl) (.cons (Get.tmp rfl) (.cons (Get.cint rfl) (.cons (Get.tmp rfl) .nil)))) (fun v68 => ?_)
      try dsimp only
      refine L.nil ?_
      refine N.thenW ?_
      refine W.seq ?_
      refine W.region ?_
      refine L.op1 rfl rfl (GSpec.plain rfl (spec_move rfl (Get.tmp rfl))) ?_
      refine L.op1 rfl rfl (GSpec.plain rfl (spec_move rfl (Get.tmp rfl))) ?_
      refine L.op1 rfl rfl (GSpec.plain rfl (spec_call rfl Tryz.call43 (indexed_ok _ _ (by omega) (by omega) (by first | decide | omega | (simp; omega))) (.cons (Get.cstr (l := [116]) rfl rfl) (.cons (Get.tmp rfl) .nil)))) ?_
      refine L.op1 rfl rfl (GSpec.plain rfl (spec_move rfl (Get.tmp rfl))) ?_
      refine L.op1 rfl rfl (GSpec.plain rfl (spec_move rfl (Get.tmp rfl))) ?_
      refine L.callC (A := []) rfl rfl rfl rfl (Get.tmp rfl) Tryz.call59 (take_ok _ _) (.cons 3 rfl .refl) .nil (fun _u => ?_)
      try dsimp only
      refine L.op1 rfl rfl (GSpec.plain rfl (spec_move rfl (Get.tmp rfl))) ?_
      refine L.op1 rfl rfl (GSpec.plain rfl (spec_move rfl (Get.tmp rfl))) ?_
      refine L.op1 rfl rfl (GSpec.plain rfl (spec_call rfl Tryz.call43 (indexed_ok _ _ (by omega) (by omega) (by first | decide | omega | (simp; omega))) (.cons (Get.cstr (l := [116]) rfl rfl) (.cons (Get.tmp rfl) .nil)))) ?_
      refine L.op1 rfl rfl (GSpec.plain rfl (spec_callC (A := [_, _, _]) rfl (Get.tmp rfl) Tryz.call58 (moves_ok _ _ _) (.cons (Get.tmp rfl) (.cons (Get.tmp rfl) (.cons (Get.tmp rfl) .nil))))) ?_
      refine L.call rfl rfl rfl rfl Tryz.call40 (regB_ok _ _ _ _ _ _ (by first | omega | (simp only [addW, addR, pushD, popD, stageD, queue0, delay0, swapW, swap0, beginD, List.length_append, List.length_cons, List.length_nil]; omega) | decide)) (.cons 1 rfl (.cons 1 rfl (.cons 1 rfl .refl))) (.cons (Get.tmp rfl) (.cons (Get.tmp rfl) (.cons (Get.cint rfl) (.cons (Get.tmp rfl) .nil)))) (fun v79 => ?_)
      try dsimp only
      refine L.nil ?_
      refine N.thenW ?_
      refine W.seq ?_
      refine W.region ?_
      refine L.op1 rfl rfl (GSpec.plain rfl (spec_move rfl (Get.tmp rfl))) ?_
      refine L.op1 rfl rfl (GSpec.plain rfl (spec_move rfl (Get.tmp rfl))) ?_
      refine L.op1 rfl rfl (GSpec.plain rfl (spec_call rfl Tryz.call43 (indexed_ok _ _ (by omega) (by omega) (by first | decide | omega | (simp; omega))) (.cons (Get.cstr (l := [97]) rfl rfl) (.cons (Get.tmp rfl) .nil)))) ?_
      refine L.op1 rfl rfl (GSpec.plain rfl (spec_move rfl (Get.tmp rfl))) ?_
      refine L.op1 rfl rfl (GSpec.plain rfl (spec_move rfl (Get.tmp rfl))) ?_
      refine L.op1 rfl rfl (GSpec.plain rfl (spec_move rfl (Get.tmp rfl))) ?_
      refine L.callC (A := []) rfl rfl rfl rfl (Get.tmp rfl) Tryz.call59 (take_ok _ _) (.cons 3 rfl .refl) .nil (fun _u => ?_)
      try dsimp only
      refine L.op1 rfl rfl (GSpec.plain rfl (spec_move rfl (Get.tmp rfl))) ?_
      refine L.op1 rfl rfl (GSpec.plain rfl (spec_move rfl (Get.tmp rfl))) ?_
      refine L.op1 rfl rfl (GSpec.plain rfl (spec_call rfl Tryz.call43 (indexed_ok _ _ (by omega) (by omega) (by first | decide | omega | (simp; omega))) (.cons (Get.cstr (l := [97]) rfl rfl) (.cons (Get.tmp rfl) .nil)))) ?_
      refine L.op1 rfl rfl (GSpec.plain rfl (spec_callC (A := [_, _, _]) rfl (Get.tmp rfl) Tryz.call58 (moves_ok _ _ _) (.cons (Get.tmp rfl) (.cons (Get.tmp rfl) (.cons (Get.tmp rfl) .nil))))) ?_
      refine L.call rfl rfl rfl rfl Tryz.call40 (regB_ok _ _ _ _ _ _ (by first | omega | (simp only [addW, addR, pushD, popD, stageD, queue0, delay0, swapW, swap0, beginD, List.length_append, List.length_cons, List.length_nil]; omega) | decide)) (.cons 1 rfl (.cons 1 rfl (.cons 1 rfl .refl))) (.cons (Get.tmp rfl) (.cons (Get.tmp rfl) (.cons (Get.tmp rfl) (.cons (Get.tmp rfl) .nil)))) (fun v91 => ?_)
      try dsimp only
      refine L.nil ?_
      refine N.thenW ?_
      refine W.region ?_
      refine L.op1 rfl rfl (GSpec.plain rfl (spec_move rfl (Get.tmp rfl))) ?_
      refine L.op1 rfl rfl (GSpec.plain rfl (spec_call rfl Tryz.call43 (indexed_ok _ _ (by omega) (by omega) (by first | decide | omega | (simp; omega))) (.cons (Get.cstr (l := [118]) rfl rfl) (.cons (Get.tmp rfl) .nil)))) ?_
      refine L.op1 rfl rfl (GSpec.plain rfl (spec_move rfl (Get.tmp rfl))) ?_
      refine L.op1 rfl rfl (GSpec.plain rfl (spec_call rfl Tryz.call43 (indexed_ok _ _ (by omega) (by omega) (by first | decide | omega | (simp; omega))) (.cons (Get.cstr (l := [116]) rfl rfl) (.cons (Get.tmp rfl) .nil)))) ?_
      refine L.op1 rfl rfl (GSpec.plain rfl (spec_move rfl (Get.tmp rfl))) ?_
      refine L.op1 rfl rfl (GSpec.plain rfl (spec_call rfl Tryz.call43 (indexed_ok _ _ (by omega) (by omega) (by first | decide | omega | (simp; omega))) (.cons (Get.cstr (l := [97]) rfl rfl) (.cons (Get.tmp rfl) .nil)))) ?_
      refine L.storeB (k := 3) rfl rfl rfl Tryz.sizeOf9 (Get.tmp rfl) (Get.tmp rfl) rfl rfl ?_
      refine L.op1 rfl rfl (GSpec.plain rfl (spec_assign rfl (Get.tmp rfl))) ?_
      refine L.op1 rfl rfl (GSpec.plain rfl (spec_assign rfl (Get.tmp rfl))) ?_
      refine L.nil ?_
      refine N.blockNormal ?_
      refine N.thenW ?_
      refine W.region ?_
      first | refine L.op1 rfl rfl (GSpec.plain rfl (fit_i64 (by omega) (by omega) (spec_add rfl (Get.tmp rfl) (Get.cint rfl)))) ?_ | refine L.op1 rfl rfl (GSpec.plain rfl (spec_add rfl (Get.tmp rfl) (Get.cint rfl))) ?_
      refine L.op1 rfl rfl (GSpec.plain rfl (spec_move rfl (Get.tmp rfl))) ?_
      refine L.nil ?_
      refine N.roundK (i + 1, v91) ?hI1 ?hmu1 ?hs1 ?hk1 ?hp1
      case hs1 => exact (.cons (t := 55) rfl (.weak (t := 9) rfl (eqS (by rfl)) (.weak (t := 10) rfl (eqS (by rfl)) .nil)))
      case hk1 => exact (.cons (t := 1) rfl (.cons (t := 4) rfl (.cons (t := 5) rfl (.cons (t := 6) rfl (.cons (t := 8) rfl (.cons (t := 54) rfl .nil))))))
      case hp1 => exact (.cons 0 rfl (.cons 0 rfl (.cons 0 rfl (.cons 0 rfl (.cons 0 rfl (.cons 0 rfl (.cons 0 rfl .nil)))))))
      case hI1 => dsimp only; omega
      case hmu1 => dsimp only; omega
    · have ph2 := h2; try simp only [decide_eq_true_eq, decide_eq_false_iff_not, Bool.and_eq_true, Bool.or_eq_true, Bool.and_eq_false_iff, Bool.or_eq_false_iff, Bool.not_eq_true', Bool.not_eq_false', Bool.not_true, Bool.not_false, Int.not_lt, Int.not_le] at ph2
      refine W.exit ?_
      refine N.thenExit ?_
      refine N.thenExit ?_
      refine N.blockExit ?_
      refine N.thenW ?_
      have hi : i = m := by omega
      subst hi
      have hcl := stages_len i w i
      refine W.keep (.cons (t := 4) rfl (.cons (t := 5) rfl (.cons (t := 6) rfl .nil))) .refl ?_
      refine W.seq ?_
      refine W.region ?_
      refine L.op1 rfl rfl (GSpec.plain rfl (spec_move rfl (Get.tmp rfl))) ?_
      refine L.call rfl rfl rfl rfl Tryz.call47 (end_ok _ _ _) (.cons 0 rfl (.cons 0 rfl (.cons 0 rfl .refl))) (.cons (Get.tmp rfl) .nil) (fun _u => ?_)
      try dsimp only
      refine L.op1 rfl rfl (GSpec.plain rfl (spec_extract rfl (Get.tmp rfl) rfl)) ?_
      refine L.op1 rfl rfl (GSpec.plain rfl (spec_extract rfl (Get.tmp rfl) rfl)) ?_
      refine L.storeW (k := 3) rfl rfl rfl Tryz.sizeOf27 (Get.tmp rfl) (Get.tmp rfl) rfl rfl rfl ?_
      refine L.op1 rfl rfl (GSpec.plain rfl (spec_assign rfl (Get.tmp rfl))) ?_
      refine L.nil ?_
      refine N.thenW ?_
      refine W.keep (.cons (t := 4) rfl (.cons (t := 5) rfl .nil)) .refl ?_
      refine W.ret ?_
      refine N.ret () rfl (.cellA (k := 3) (Get.tmp (t := 4) rfl) rfl Tryz.isAgg27 Tryz.sizeOf27 rfl (.tmp (t := 5) (Get.tmp rfl) .nil)) (res2w (eqA ?_) (eqI ?_)) .nil (fun _ _ h => h)
      all_goals rfl

end Go.Proofs.YthlfacmpjehjmaaGreatDoor
