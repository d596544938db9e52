/- Lemmas for the claim, part 5: rules for walks, contracts of functions, the data they compute. No conditions. -/
import Derived.Test.YtlbhpjigjehffaaDoorP4
import Derived.Test.YtlbhpjigjehffaaDoorP3
set_option linter.unusedSimpArgs false
set_option maxRecDepth 8000
set_option linter.unusedVariables false
namespace Go.Proofs.YtlbhpjigjehffaaDoor
open Go.Sim
theorem rotate_ok (n : Nat) (c : Int → Int → Int) (v : Value) (P Lz Rz S : List Int) (m : Nat) (hm : m = P.length + Lz.length) (hL : 1 ≤ Lz.length) (hR : 1 ≤ Rz.length) (hl : P.length + Lz.length + Rz.length + S.length ≤ 1000000) : CallT Tryd.prog 62 [Rp.val v, Rp.int .i64 (P.length : Nat), Rp.int .i64 (m : Nat), Rp.int .i64 ((m + Rz.length : Nat) : Int), pC n c] [MF.osl v 3 1 eI (P ++ (Lz ++ (Rz ++ S)))] (ownX v (P ++ (Rz ++ (Lz ++ S)))) := by
  refine W.enter (fn := Tryd.f62) (n := 58) Tryd.func62 rfl Tryd.ntmps62 rfl (fun w₀ C₀ => ?_)
  simp only [argS]
  refine W.seq ?_
  refine W.region ?_
  refine L.op1 rfl rfl (GSpec.plain rfl (spec_move rfl (Get.tmp rfl))) ?_
  refine L.op1 rfl rfl (GSpec.plain rfl (spec_move rfl (Get.tmp rfl))) ?_
  first | refine L.op1 rfl rfl (GSpec.plain rfl (fit_i64 (by omega) (by omega) (spec_sub rfl (Get.tmp rfl) (Get.tmp rfl)))) ?_ | refine L.op1 rfl rfl (GSpec.plain rfl (spec_sub rfl (Get.tmp rfl) (Get.tmp rfl))) ?_
  refine L.op1 rfl rfl (GSpec.plain rfl (spec_assign rfl (Get.tmp rfl))) ?_
  refine L.nil ?_
  refine N.thenW ?_
  refine W.seq ?_
  refine W.region ?_
  refine L.op1 rfl rfl (GSpec.plain rfl (spec_move rfl (Get.tmp rfl))) ?_
  refine L.op1 rfl rfl (GSpec.plain rfl (spec_move rfl (Get.tmp rfl))) ?_
  first | refine L.op1 rfl rfl (GSpec.plain rfl (fit_i64 (by omega) (by omega) (spec_sub rfl (Get.tmp rfl) (Get.tmp rfl)))) ?_ | refine L.op1 rfl rfl (GSpec.plain rfl (spec_sub rfl (Get.tmp rfl) (Get.tmp rfl))) ?_
  refine L.op1 rfl rfl (GSpec.plain rfl (spec_assign rfl (Get.tmp rfl))) ?_
  refine L.nil ?_
  refine N.thenW ?_
  refine W.seq ?_
  refine W.block ?_
  refine W.loopK (σ := List Int × List Int × List Int × List Int) (.cons (t := 0) rfl (.cons (t := 2) rfl (.cons (t := 4) rfl .nil))) (fun z => [(10, Rp.int .i64 (z.2.1.length : Nat)), (11, Rp.int .i64 (z.2.2.1.length : Nat))]) (fun z => [MF.osl v 3 1 eI (P ++ (z.1 ++ (z.2.1 ++ (z.2.2.1 ++ (z.2.2.2 ++ S)))))]) (fun z => 1 ≤ z.2.1.length ∧ 1 ≤ z.2.2.1.length ∧ Rz ++ Lz = z.1 ++ (z.2.2.1 ++ (z.2.1 ++ z.2.2.2)) ∧ m = P.length + z.1.length + z.2.1.length) (fun z => z.2.1.length + z.2.2.1.length) ([], Lz, Rz, []) ⟨hL, hR, by simp, by simpa using hm⟩ (.weak (t := 10) rfl (eqI (by dsimp only; omega)) (.weak (t := 11) rfl (eqI (by dsimp only; omega)) .nil)) (.cons 0 rfl .nil) ?_
  intro ⟨R1, X, Y, L2⟩ hI S' M' hS hM
  obtain ⟨hX, hY, he, hmm⟩ := hI
  try dsimp only at hS hM
  simp only [List.cons_append, List.nil_append] at hS hM
  subst hS hM
  try dsimp only
  try dsimp only at hX hY he hmm
  have hle := congrArg List.length he
  simp only [List.length_append] at hle
  refine W.seq ?_
  refine W.seq ?_
  refine W.region ?_
  refine L.op1 rfl rfl (GSpec.plain rfl (spec_move rfl (Get.tmp rfl))) ?_
  refine L.op1 rfl rfl (GSpec.plain rfl (spec_move rfl (Get.tmp rfl))) ?_
  refine L.op1 rfl rfl (GSpec.plain rfl (spec_neq rfl (Get.tmp rfl) (Get.tmp rfl))) ?_
  refine L.nil ?_
  refine N.thenW ?_
  refine W.cond (Get.tmp rfl) (fun h1 => ?_) (fun h1 => ?_)
  · have ph1 := h1; simp only [decide_eq_true_eq, decide_eq_false_iff_not, Bool.and_eq_true, Bool.or_eq_true, Bool.and_eq_false_iff, Bool.or_eq_false_iff, Bool.not_eq_true', Bool.not_eq_false', Bool.not_true, Bool.not_false, Int.not_lt, Int.not_le] at ph1
    refine W.skip ?_
    refine N.thenW ?_
    refine W.block ?_
    refine W.seq ?_
    refine W.region ?_
    refine L.op1 rfl rfl (GSpec.plain rfl (spec_move rfl (Get.tmp rfl))) ?_
    refine L.op1 rfl rfl (GSpec.plain rfl (spec_move rfl (Get.tmp rfl))) ?_
    refine L.op1 rfl rfl (GSpec.plain rfl (spec_gtr rfl (Get.tmp rfl) (Get.tmp rfl))) ?_
    refine L.nil ?_
    refine N.thenW ?_
    refine W.cond (Get.tmp rfl) (fun h2 => ?_) (fun h2 => ?_)
    · have ph2 := h2; try simp only [decide_eq_true_eq, decide_eq_false_iff_not, Bool.and_eq_true, Bool.or_eq_true, Bool.and_eq_false_iff, Bool.or_eq_false_iff, Bool.not_eq_true', Bool.not_eq_false', Bool.not_true, Bool.not_false, Int.not_lt, Int.not_le] at ph2
      refine W.seq ?_
      refine W.region ?_
      refine L.op1 rfl rfl (GSpec.plain rfl (spec_move rfl (Get.tmp rfl))) ?_
      refine L.op1 rfl rfl (GSpec.plain rfl (spec_move rfl (Get.tmp rfl))) ?_
      refine L.op1 rfl rfl (GSpec.plain rfl (spec_move rfl (Get.tmp rfl))) ?_
      first | refine L.op1 rfl rfl (GSpec.plain rfl (fit_i64 (by omega) (by omega) (spec_sub rfl (Get.tmp rfl) (Get.tmp rfl)))) ?_ | refine L.op1 rfl rfl (GSpec.plain rfl (spec_sub rfl (Get.tmp rfl) (Get.tmp rfl))) ?_
      refine L.op1 rfl rfl (GSpec.plain rfl (spec_move rfl (Get.tmp rfl))) ?_
      refine L.op1 rfl rfl (GSpec.plain rfl (spec_move rfl (Get.tmp rfl))) ?_
      refine L.op1 rfl rfl (GSpec.plain rfl (spec_move rfl (Get.tmp rfl))) ?_
      rw [show ((m : Nat) - (X.length : Nat) : Int) = ((P.length + R1.length : Nat) : Int) by omega]
      refine L.call rfl rfl rfl rfl Tryd.call63 (swapRange_ok _ _ _ _ _ _ _ (by omega) (by simp only [List.length_append]; omega) (by simp only [List.length_append]; omega)) (.cons 0 rfl .refl) (.cons (Get.tmp rfl) (.cons (Get.tmp rfl) (.cons (Get.tmp rfl) (.cons (Get.tmp rfl) (.cons (Get.tmp rfl) .nil))))) (fun _ => ?_)
      try dsimp only
      rw [rot1 hmm (by omega)]
      refine L.nil ?_
      refine N.thenW ?_
      refine W.region ?_
      refine L.op1 rfl rfl (GSpec.plain rfl (spec_move rfl (Get.tmp rfl))) ?_
      refine L.op1 rfl rfl (GSpec.plain rfl (spec_move rfl (Get.tmp rfl))) ?_
      first | refine L.op1 rfl rfl (GSpec.plain rfl (fit_i64 (by omega) (by omega) (spec_sub rfl (Get.tmp rfl) (Get.tmp rfl)))) ?_ | refine L.op1 rfl rfl (GSpec.plain rfl (spec_sub rfl (Get.tmp rfl) (Get.tmp rfl))) ?_
      refine L.op1 rfl rfl (GSpec.plain rfl (spec_assign rfl (Get.tmp rfl))) ?_
      refine L.nil ?_
      refine N.blockNormal ?_
      refine N.roundK (R1 ++ Y, X.drop Y.length, X.take Y.length, L2) ?hI1 ?hmu1 ?hs1 ?hk1 ?hp1
      case hs1 => exact (.weak (t := 10) rfl (eqI (by simp; omega)) (.weak (t := 11) rfl (eqI (by simp; omega)) .nil))
      case hk1 => exact (.cons (t := 0) rfl (.cons (t := 2) rfl (.cons (t := 4) rfl .nil)))
      case hp1 => exact (.cons 0 rfl .nil)
      case hI1 => exact ⟨by simp; omega, by simp; omega, rot_eq1 he, by simp; omega⟩
      case hmu1 => simp; omega
    · have ph2 := h2; try simp only [decide_eq_true_eq, decide_eq_false_iff_not, Bool.and_eq_true, Bool.or_eq_true, Bool.and_eq_false_iff, Bool.or_eq_false_iff, Bool.not_eq_true', Bool.not_eq_false', Bool.not_true, Bool.not_false, Int.not_lt, Int.not_le] at ph2
      refine W.seq ?_
      refine W.region ?_
      refine L.op1 rfl rfl (GSpec.plain rfl (spec_move rfl (Get.tmp rfl))) ?_
      refine L.op1 rfl rfl (GSpec.plain rfl (spec_move rfl (Get.tmp rfl))) ?_
      refine L.op1 rfl rfl (GSpec.plain rfl (spec_move rfl (Get.tmp rfl))) ?_
      first | refine L.op1 rfl rfl (GSpec.plain rfl (fit_i64 (by omega) (by omega) (spec_sub rfl (Get.tmp rfl) (Get.tmp rfl)))) ?_ | refine L.op1 rfl rfl (GSpec.plain rfl (spec_sub rfl (Get.tmp rfl) (Get.tmp rfl))) ?_
      refine L.op1 rfl rfl (GSpec.plain rfl (spec_move rfl (Get.tmp rfl))) ?_
      refine L.op1 rfl rfl (GSpec.plain rfl (spec_move rfl (Get.tmp rfl))) ?_
      first | refine L.op1 rfl rfl (GSpec.plain rfl (fit_i64 (by omega) (by omega) (spec_add rfl (Get.tmp rfl) (Get.tmp rfl)))) ?_ | refine L.op1 rfl rfl (GSpec.plain rfl (spec_add rfl (Get.tmp rfl) (Get.tmp rfl))) ?_
      refine L.op1 rfl rfl (GSpec.plain rfl (spec_move rfl (Get.tmp rfl))) ?_
      first | refine L.op1 rfl rfl (GSpec.plain rfl (fit_i64 (by omega) (by omega) (spec_sub rfl (Get.tmp rfl) (Get.tmp rfl)))) ?_ | refine L.op1 rfl rfl (GSpec.plain rfl (spec_sub rfl (Get.tmp rfl) (Get.tmp rfl))) ?_
      refine L.op1 rfl rfl (GSpec.plain rfl (spec_move rfl (Get.tmp rfl))) ?_
      refine L.op1 rfl rfl (GSpec.plain rfl (spec_move rfl (Get.tmp rfl))) ?_
      rw [show ((m : Nat) - (X.length : Nat) : Int) = ((P.length + R1.length : Nat) : Int) by omega]
      rw [show ((m : Nat) + (Y.length : Nat) - (X.length : Nat) : Int) = ((m + (Y.length - X.length) : Nat) : Int) by omega]
      refine L.call rfl rfl rfl rfl Tryd.call63 (swapRange_ok _ _ _ _ _ _ _ (by omega) (by simp only [List.length_append]; omega) (by simp only [List.length_append]; omega)) (.cons 0 rfl .refl) (.cons (Get.tmp rfl) (.cons (Get.tmp rfl) (.cons (Get.tmp rfl) (.cons (Get.tmp rfl) (.cons (Get.tmp rfl) .nil))))) (fun _ => ?_)
      try dsimp only
      rw [rot2 hmm (by omega)]
      refine L.nil ?_
      refine N.thenW ?_
      refine W.region ?_
      refine L.op1 rfl rfl (GSpec.plain rfl (spec_move rfl (Get.tmp rfl))) ?_
      refine L.op1 rfl rfl (GSpec.plain rfl (spec_move rfl (Get.tmp rfl))) ?_
      first | refine L.op1 rfl rfl (GSpec.plain rfl (fit_i64 (by omega) (by omega) (spec_sub rfl (Get.tmp rfl) (Get.tmp rfl)))) ?_ | refine L.op1 rfl rfl (GSpec.plain rfl (spec_sub rfl (Get.tmp rfl) (Get.tmp rfl))) ?_
      refine L.op1 rfl rfl (GSpec.plain rfl (spec_assign rfl (Get.tmp rfl))) ?_
      refine L.nil ?_
      refine N.blockNormal ?_
      refine N.roundK (R1, Y.drop (Y.length - X.length), Y.take (Y.length - X.length), X ++ L2) ?hI2 ?hmu2 ?hs2 ?hk2 ?hp2
      case hs2 => exact (.weak (t := 10) rfl (eqI (by simp; omega)) (.weak (t := 11) rfl (eqI (by simp; omega)) .nil))
      case hk2 => exact (.cons (t := 0) rfl (.cons (t := 2) rfl (.cons (t := 4) rfl .nil)))
      case hp2 => exact (.cons 0 rfl .nil)
      case hI2 => exact ⟨by simp; omega, by simp; omega, rot_eq2 he, by simp; omega⟩
      case hmu2 => simp; omega
  · have ph1 := h1; simp only [decide_eq_true_eq, decide_eq_false_iff_not, Bool.and_eq_true, Bool.or_eq_true, Bool.and_eq_false_iff, Bool.or_eq_false_iff, Bool.not_eq_true', Bool.not_eq_false', Bool.not_true, Bool.not_false, Int.not_lt, Int.not_le] at ph1
    refine W.exit ?_
    refine N.thenExit ?_
    refine N.thenExit ?_
    refine N.blockExit ?_
    refine N.thenW ?_
    refine W.region ?_
    refine L.op1 rfl rfl (GSpec.plain rfl (spec_move rfl (Get.tmp rfl))) ?_
    refine L.op1 rfl rfl (GSpec.plain rfl (spec_move rfl (Get.tmp rfl))) ?_
    refine L.op1 rfl rfl (GSpec.plain rfl (spec_move rfl (Get.tmp rfl))) ?_
    first | refine L.op1 rfl rfl (GSpec.plain rfl (fit_i64 (by omega) (by omega) (spec_sub rfl (Get.tmp rfl) (Get.tmp rfl)))) ?_ | refine L.op1 rfl rfl (GSpec.plain rfl (spec_sub rfl (Get.tmp rfl) (Get.tmp rfl))) ?_
    refine L.op1 rfl rfl (GSpec.plain rfl (spec_move rfl (Get.tmp rfl))) ?_
    refine L.op1 rfl rfl (GSpec.plain rfl (spec_move rfl (Get.tmp rfl))) ?_
    refine L.op1 rfl rfl (GSpec.plain rfl (spec_move rfl (Get.tmp rfl))) ?_
    rw [show ((m : Nat) - (X.length : Nat) : Int) = ((P.length + R1.length : Nat) : Int) by omega]
    refine L.call rfl rfl rfl rfl Tryd.call63 (swapRange_ok _ _ _ _ _ _ _ (by omega) (by simp only [List.length_append]; omega) (by simp only [List.length_append]; omega)) (.cons 0 rfl .refl) (.cons (Get.tmp rfl) (.cons (Get.tmp rfl) (.cons (Get.tmp rfl) (.cons (Get.tmp rfl) (.cons (Get.tmp rfl) .nil))))) (fun _ => ?_)
    try dsimp only
    rw [rot3 hmm (by omega), rot_end he]
    refine L.nil ?_
    refine N.ret () rfl .nil res0 (.cons 0 rfl .nil) (fun _ _ h => h)
    skip

end Go.Proofs.YtlbhpjigjehffaaDoor
/- For the walk of a merge. -/
namespace Go.Proofs.YtlbhpjigjehffaaDoor
open Go.Sim
section
variable {P : Program} {M : List MF} {o : Oper} {σ : Nat → Option Rp}
theorem spec_half {T T' : TypeId} {x y : Operand} {m : Int} (h : o.op = .binOp .shr T x y T') (hx : Get σ x (Rp.int .u64 m)) (hy : Get σ y (Rp.int .u64 1)) : Go.Sim.Spec P σ M o (.one (Rp.int .u64 (m / 2))) := by
  have := spec_shrF (P := P) (M := M) h hx hy (by decide) (by decide)
  exact this
end
theorem drop_cons' {a : List Int} {i : Nat} (h : i < a.length) : a.drop i = a.getD i default :: a.drop (i + 1) := by
  rw [List.drop_eq_getElem_cons h, List.getD, List.getElem?_eq_getElem h]; rfl
theorem swp_eq' {ys : List Int} {j p q : Nat} (hp : p = j) (hq : q = j + 1) : swp ys j = (ys.set p (ys.getD q default)).set q (ys.getD p default) := by
  subst hp hq
  unfold swp
  rw [List.set_comm _ _ (by omega)]
theorem swp_back {P B S : List Int} {x : Int} {t : Nat} (h0 : 0 < t) (h : t ≤ B.length) : swp (P ++ (B.take t ++ (x :: (B.drop t ++ S)))) (P.length + (t - 1)) = P ++ (B.take (t - 1) ++ (x :: (B.drop (t - 1) ++ S))) := by
  obtain ⟨k, rfl⟩ : ∃ k, t = k + 1 := ⟨t - 1, by omega⟩
  rw [show k + 1 - 1 = k by omega]
  have hk : k < B.length := by omega
  have hlt : (B.take k).length = k := by simp; omega
  have e1 : B.drop k = B.getD k default :: B.drop (k + 1) := drop_cons' hk
  rw [e1, take_succ hk]
  have key : ∀ (Q : List Int) (y : Int) (Z : List Int), swp (Q ++ (y :: (x :: Z))) Q.length = Q ++ (x :: (y :: Z)) := by
    intro Q y Z
    unfold swp
    simp [List.getD]
  have := key (P ++ B.take k) (B.getD k default) (B.drop (k + 1) ++ S)
  rw [List.length_append, hlt] at this
  simp only [List.append_assoc, List.cons_append, List.nil_append] at this ⊢
  exact this
theorem at_mid {P B S : List Int} {i : Nat} (hi : i < B.length) : (P ++ (B ++ S)).getD (P.length + i) default = B.getD i default := by
  rw [getD_app, if_neg (by omega), getD_app, if_pos (by omega)]
  congr 1; omega
section
variable {c : Int → Int → Int} {lt : Int → Int → Prop} {D : Int → Prop}
/-- The search in the second list: what is known before i and from j on. -/
def BsR (lt : Int → Int → Prop) (B : List Int) (x : Int) (i j : Nat) : Prop := i ≤ j ∧ j ≤ B.length ∧ (∀ t, t < i → t < B.length → lt (B.getD t default) x) ∧ ∀ t, j ≤ t → t < B.length → ¬ lt (B.getD t default) x
theorem bsR_0 {B : List Int} {x : Int} : BsR lt B x 0 B.length := ⟨Nat.zero_le _, Nat.le_refl _, fun t h => by omega, fun t h h2 => by omega⟩
theorem bsR_up (ho : Ord lt D) {B : List Int} {x : Int} {i j : Nat} (hD : ∀ y ∈ B, D y) (hx : D x) (hs : Srt lt B) (h : BsR lt B x i j) (hij : i < j) (hc : lt (B.getD ((i + j) / 2) default) x) : BsR lt B x ((i + j) / 2 + 1) j := by
  obtain ⟨h1, h2, h3, h4⟩ := h
  refine ⟨by omega, h2, fun t ht htl => ?_, h4⟩
  by_cases e : t = (i + j) / 2
  · rw [e]; exact hc
  · exact ho.tr _ _ _ (hD _ (getD_mem' htl)) (hD _ (getD_mem' (by omega))) hx (srt_lt hs (show t < (i + j) / 2 by omega) (by omega)) hc
theorem bsR_dn (ho : Ord lt D) {B : List Int} {x : Int} {i j : Nat} (hD : ∀ y ∈ B, D y) (hx : D x) (hs : Srt lt B) (h : BsR lt B x i j) (hij : i < j) (hc : ¬ lt (B.getD ((i + j) / 2) default) x) : BsR lt B x i ((i + j) / 2) := by
  obtain ⟨h1, h2, h3, h4⟩ := h
  refine ⟨by omega, by omega, h3, fun t ht htl hlt => ?_⟩
  by_cases e : t = (i + j) / 2
  · rw [e] at hlt; exact hc hlt
  · exact hc (ho.tr _ _ _ (hD _ (getD_mem' (by omega))) (hD _ (getD_mem' htl)) hx (srt_lt hs (show (i + j) / 2 < t by omega) htl) hlt)
/-- The search in the first list. -/
def BsL (lt : Int → Int → Prop) (A : List Int) (y : Int) (i j : Nat) : Prop := i ≤ j ∧ j ≤ A.length ∧ (∀ t, t < i → t < A.length → ¬ lt y (A.getD t default)) ∧ ∀ t, j ≤ t → t < A.length → lt y (A.getD t default)
theorem bsL_0 {A : List Int} {y : Int} : BsL lt A y 0 A.length := ⟨Nat.zero_le _, Nat.le_refl _, fun t h => by omega, fun t h h2 => by omega⟩
theorem bsL_up (ho : Ord lt D) {A : List Int} {y : Int} {i j : Nat} (hD : ∀ x ∈ A, D x) (hy : D y) (hs : Srt lt A) (h : BsL lt A y i j) (hij : i < j) (hc : ¬ lt y (A.getD ((i + j) / 2) default)) : BsL lt A y ((i + j) / 2 + 1) j := by
  obtain ⟨h1, h2, h3, h4⟩ := h
  refine ⟨by omega, h2, fun t ht htl hlt => ?_, h4⟩
  by_cases e : t = (i + j) / 2
  · rw [e] at hlt; exact hc hlt
  · exact hc (ho.tr _ _ _ hy (hD _ (getD_mem' htl)) (hD _ (getD_mem' (by omega))) hlt (srt_lt hs (show t < (i + j) / 2 by omega) (by omega)))
theorem bsL_dn (ho : Ord lt D) {A : List Int} {y : Int} {i j : Nat} (hD : ∀ x ∈ A, D x) (hy : D y) (hs : Srt lt A) (h : BsL lt A y i j) (hij : i < j) (hc : lt y (A.getD ((i + j) / 2) default)) : BsL lt A y i ((i + j) / 2) := by
  obtain ⟨h1, h2, h3, h4⟩ := h
  refine ⟨by omega, by omega, h3, fun t ht htl => ?_⟩
  by_cases e : t = (i + j) / 2
  · rw [e]; exact hc
  · exact ho.tr _ _ _ hy (hD _ (getD_mem' (by omega))) (hD _ (getD_mem' htl)) hc (srt_lt hs (show (i + j) / 2 < t by omega) htl)
theorem into_left (ho : Ord lt D) {A : List Int} {y : Int} {q : Nat} (hD : ∀ x ∈ A, D x) (hy : D y) (hs : Srt lt A) (hne : ∀ x ∈ A, x ≠ y) (h : BsL lt A y q q) : Srt lt (A.take q ++ y :: A.drop q) ∧ (A.take q ++ y :: A.drop q).Perm (A ++ [y]) := by
  obtain ⟨_, _, h3, h4⟩ := h
  have h5 := into ho (B := A) (x := y) (q := q) hD hy hs (fun x hx => (hne x hx).symm) (fun i hi hil => (ho.tot _ _ (hD _ (getD_mem' hil)) hy (hne _ (getD_mem' hil))).resolve_right (h3 i hi hil)) (fun i hi hil hlt => ho.irr y hy (ho.tr _ _ _ hy (hD _ (getD_mem' hil)) hy (h4 i hi hil) hlt))
  exact ⟨h5.1, h5.2.trans (List.perm_append_comm (l₁ := [y]) (l₂ := A))⟩
end
end Go.Proofs.YtlbhpjigjehffaaDoor
/- Insertion sort leaves a sorted list. -/
namespace Go.Proofs.YtlbhpjigjehffaaDoor
open Go.Sim
theorem at_hole {P A S : List Int} {y : Int} {k : Nat} (hk : k ≤ A.length) : (P ++ (A.take k ++ (y :: (A.drop k ++ S)))).getD (P.length + k) default = y := by
  rw [getD_app, if_neg (by omega), getD_app, if_neg (by simp; omega), show P.length + k - P.length - (A.take k).length = 0 by simp; omega]
  rfl
theorem before_hole {P A S : List Int} {y : Int} {k : Nat} (hk : k + 1 ≤ A.length) : (P ++ (A.take (k + 1) ++ (y :: (A.drop (k + 1) ++ S)))).getD (P.length + k) default = A.getD k default := by
  rw [getD_app, if_neg (by omega), getD_app, if_pos (by simp; omega), show P.length + k - P.length = k by omega]
  simp [List.getD_eq_getElem?_getD]
theorem sink_to (c : Int → Int → Int) {P A S : List Int} {y : Int} : ∀ k, k ≤ A.length → ∃ q, q ≤ k ∧ sink c P.length k (P ++ (A.take k ++ (y :: (A.drop k ++ S)))) = P ++ (A.take q ++ (y :: (A.drop q ++ S))) ∧ (∀ i, q ≤ i → i < k → c y (A.getD i default) < 0) ∧ (q = 0 ∨ ¬ c y (A.getD (q - 1) default) < 0)
  | 0, _ => ⟨0, Nat.le_refl _, rfl, fun i h h2 => by omega, .inl rfl⟩
  | k + 1, hk => by
    have e1 := at_hole (P := P) (A := A) (S := S) (y := y) hk
    have e2 := before_hole (P := P) (A := A) (S := S) (y := y) hk
    rw [sink, show P.length + k + 1 = P.length + (k + 1) from rfl, e1, e2]
    split
    · next h =>
      obtain ⟨q, h1, h2, h3, h4⟩ := sink_to c (P := P) (A := A) (S := S) (y := y) k (by omega)
      refine ⟨q, by omega, ?_, fun i a b => ?_, h4⟩
      · have hs := swp_back (P := P) (B := A) (S := S) (x := y) (t := k + 1) (by omega) hk
        rw [show k + 1 - 1 = k from rfl] at hs
        rw [hs]; exact h2
      · by_cases e : i = k
        · rw [e]; exact h
        · exact h3 i a (by omega)
    · next h => exact ⟨k + 1, Nat.le_refl _, rfl, fun i a b => by omega, .inr h⟩
theorem sink_sorts {c : Int → Int → Int} {lt : Int → Int → Prop} {D : Int → Prop} (ho : Ord lt D) {P A S : List Int} {y : Int} (hD : ∀ x ∈ A, D x) (hy : D y) (hs : Srt lt A) (hcr : Cross c lt A [y]) :
    ∃ Y, sink c P.length A.length (P ++ (A ++ (y :: S))) = P ++ (Y ++ S) ∧ Srt lt Y ∧ Y.Perm (A ++ [y]) := by
  obtain ⟨q, h1, h2, h3, h4⟩ := sink_to c (P := P) (A := A) (S := S) (y := y) A.length (Nat.le_refl _)
  rw [List.take_length, List.drop_length, List.nil_append] at h2
  have hb : BsL lt A y q q := by
    refine ⟨Nat.le_refl _, h1, fun t ht hl => ?_, fun t ht htl => (hcr _ (getD_mem' htl) y (by simp)).2.1 (h3 t ht htl)⟩
    rcases h4 with h4 | h4
    · omega
    · have hq : q - 1 < A.length := by omega
      intro hlt
      have hn : ¬ lt y (A.getD (q - 1) default) := fun h => h4 ((hcr _ (getD_mem' hq) y (by simp)).2.2 h)
      by_cases e : t = q - 1
      · rw [e] at hlt; exact hn hlt
      · exact hn (ho.tr _ _ _ hy (hD _ (getD_mem' hl)) (hD _ (getD_mem' hq)) hlt (srt_lt hs (show t < q - 1 by omega) hq))
  obtain ⟨a, b⟩ := into_left ho hD hy hs (fun x hx => (hcr x hx y (by simp)).1) hb
  exact ⟨A.take q ++ y :: A.drop q, by rw [h2]; simp, a, b⟩
/-- Insertion sort of a block whose later numbers the comparison sets against the earlier ones. -/
theorem insD_sorts {c : Int → Int → Int} {lt : Int → Int → Prop} {D : Int → Prop} (ho : Ord lt D) {P X S : List Int} (hD : ∀ x ∈ X, D x) (hcr : ∀ k, k < X.length → Cross c lt (X.take k) [X.getD k default]) : ∀ m, m < X.length →
    ∃ Y, insD c P.length m (P ++ (X ++ S)) = P ++ (Y ++ (X.drop (m + 1) ++ S)) ∧ Srt lt Y ∧ Y.Perm (X.take (m + 1))
  | 0, h => by
    refine ⟨X.take 1, ?_, ?_, .refl _⟩
    · rw [insD, ← List.append_assoc (X.take 1), List.take_append_drop]
    · match X with
      | [] => simp at h
      | x :: X => simp [Srt]
  | m + 1, h => by
    obtain ⟨Y, h1, h2, h3⟩ := insD_sorts ho (P := P) (S := S) hD hcr m (by omega)
    have hl : Y.length = m + 1 := by rw [h3.length_eq]; simp; omega
    have hY : ∀ x ∈ Y, x ∈ X := fun x hx => List.mem_of_mem_take (h3.mem_iff.1 hx)
    have hc := hcr (m + 1) h
    obtain ⟨Z, a, b, d⟩ := sink_sorts (c := c) ho (P := P) (A := Y) (S := X.drop (m + 1 + 1) ++ S) (y := X.getD (m + 1) default) (fun x hx => hD x (hY x hx)) (hD _ (getD_mem' h)) h2 (cross_sub hc (fun x hx => h3.mem_iff.1 hx) (fun _ hx => hx))
    refine ⟨Z, ?_, b, ?_⟩
    · rw [insD, h1, drop_cons' h, ← hl, List.cons_append]
      rw [hl] at a ⊢
      exact a
    · refine d.trans ?_
      rw [List.take_succ_eq_append_getElem h]
      have : X.getD (m + 1) default = X[m + 1] := by simp [List.getD_eq_getElem?_getD, h]
      rw [this]
      exact List.Perm.append_right _ h3
end Go.Proofs.YtlbhpjigjehffaaDoor
set_option linter.unusedSimpArgs false
set_option maxRecDepth 8000
set_option linter.unusedVariables false
namespace Go.Proofs.YtlbhpjigjehffaaDoor
open Go.Sim
theorem insertE_ok (n : Nat) (c : Int → Int → Int) (v : Value) (a : Nat) (xs : List Int) (hl : a ≤ 1000000) : CallT Tryd.prog 57 [Rp.val v, Rp.int .i64 (a : Nat), Rp.int .i64 (a : Nat), pC n c] [MF.osl v 3 1 eI xs] (ownX v xs) := by
  refine W.enter (fn := Tryd.f57) (n := 53) Tryd.func57 rfl Tryd.ntmps57 rfl (fun w₀ C₀ => ?_)
  simp only [argS]
  refine W.seq ?_
  refine W.region ?_
  refine L.op1 rfl rfl (GSpec.plain rfl (spec_move rfl (Get.tmp rfl))) ?_
  first | refine L.op1 rfl rfl (GSpec.plain rfl (fit_i64 (by omega) (by omega) (spec_add rfl (Get.tmp rfl) (Get.cint rfl)))) ?_ | refine L.op1 rfl rfl (GSpec.plain rfl (spec_add rfl (Get.tmp rfl) (Get.cint rfl))) ?_
  refine L.op1 rfl rfl (GSpec.plain rfl (spec_assign rfl (Get.tmp rfl))) ?_
  refine L.nil ?_
  refine N.thenW ?_
  refine W.block ?_
  refine W.loopK (σ := Unit) (.cons (t := 0) rfl (.cons (t := 1) rfl (.cons (t := 2) rfl (.cons (t := 3) rfl .nil)))) (fun z => [(8, Rp.int .i64 ((a + 1 : Nat) : Int))]) (fun z => [MF.osl v 3 1 eI (xs)]) (fun z => True) (fun z => 0) () trivial (.weak (t := 8) rfl (eqI (by omega)) .nil) (.cons 0 rfl .nil) ?_
  intro _ hI S' M' hS hM
  try dsimp only at hS hM
  simp only [List.cons_append, List.nil_append] at hS hM
  subst hS hM
  try dsimp only
  refine W.seq ?_
  refine W.seq ?_
  refine W.region ?_
  refine L.op1 rfl rfl (GSpec.plain rfl (spec_move rfl (Get.tmp rfl))) ?_
  refine L.op1 rfl rfl (GSpec.plain rfl (spec_move rfl (Get.tmp rfl))) ?_
  refine L.op1 rfl rfl (GSpec.plain rfl (spec_lss rfl (Get.tmp rfl) (Get.tmp rfl))) ?_
  refine L.nil ?_
  refine N.thenW ?_
  refine W.cond (Get.tmp rfl) (fun h1 => ?_) (fun h1 => ?_)
  · exfalso; have h := of_decide_eq_true h1; omega
  · have ph1 := h1; try simp only [decide_eq_true_eq, decide_eq_false_iff_not, Bool.and_eq_true, Bool.or_eq_true, Bool.and_eq_false_iff, Bool.or_eq_false_iff, Bool.not_eq_true', Bool.not_eq_false', Bool.not_true, Bool.not_false, Int.not_lt, Int.not_le] at ph1
    refine W.exit ?_
    refine N.thenExit ?_
    refine N.thenExit ?_
    refine N.blockExit ?_
    refine N.ret () rfl .nil res0 (.cons 0 rfl .nil) (fun _ _ h => h)
    skip

end Go.Proofs.YtlbhpjigjehffaaDoor
/- Sorting a short list of numbers of jobs. -/
namespace Go.Proofs.YtlbhpjigjehffaaDoor
open Go.Sim
/-- Insertion of a block that may be empty. -/
theorem insert2_ok (n : Nat) (c : Int → Int → Int) (v : Value) (a m : Nat) (xs : List Int) (hx : inR n xs) (hm : m = xs.length) (ha : a ≤ m) (hl : m ≤ 1000000) : CallT Tryd.prog 57 [Rp.val v, Rp.int .i64 (a : Nat), Rp.int .i64 (m : Nat), pC n c] [MF.osl v 3 1 eI xs] (ownX v (insD c a (m - a - 1) xs)) := by
  subst hm
  by_cases e : a = xs.length
  · have h := insertE_ok n c v a xs (by omega)
    rw [show xs.length - a - 1 = 0 by omega, ← e]
    exact h
  · have h := insert_ok n c v a (xs.length - a - 1) xs hx (by omega) hl
    rw [show a + (xs.length - a - 1) + 1 = xs.length by omega] at h
    exact h
theorem insert0_ok (n : Nat) (c : Int → Int → Int) (v : Value) (xs : List Int) (hx : inR n xs) (hl : xs.length ≤ 1000000) : CallT Tryd.prog 57 [Rp.val v, Rp.int .i64 0, Rp.int .i64 (xs.length : Nat), pC n c] [MF.osl v 3 1 eI xs] (ownX v (insD c 0 (xs.length - 1) xs)) :=
  insert2_ok n c v 0 xs.length xs hx rfl (Nat.zero_le _) hl
def iota (n z : Nat) : List Int := (List.range n).map fun i => if i < z then (i : Int) else 0
theorem iota_len (n z : Nat) : (iota n z).length = n := by simp [iota]
theorem iota_zero (n : Nat) : iota n 0 = List.replicate n 0 := by
  apply List.ext_getElem
  · simp [iota]
  · intro i h1 h2; simp [iota]
theorem iota_set {n z : Nat} : iota n (z + 1) = (iota n z).set z (z : Int) := by
  apply List.ext_getElem
  · simp [iota]
  · intro i h1 h2
    simp only [iota, List.getElem_map, List.getElem_range, List.getElem_set]
    by_cases e : z = i
    · subst e; simp
    · rw [if_neg e]
      by_cases h : i < z
      · rw [if_pos (by omega), if_pos h]
      · rw [if_neg (by omega), if_neg h]
theorem iota_in (n : Nat) : inR n (iota n n) := by
  intro x hx
  simp only [iota, List.mem_map, List.mem_range] at hx
  obtain ⟨i, hi, rfl⟩ := hx
  rw [if_pos hi]; omega
def ordS (l : List Jb) : List Int := insD (cmpF l) 0 (l.length - 1) (iota l.length l.length)
theorem ordS_len (l : List Jb) : (ordS l).length = l.length := by unfold ordS; rw [insD_len, iota_len]
theorem ordS_in (l : List Jb) : inR l.length (ordS l) := by
  by_cases h : 1 ≤ l.length
  · exact insD_in _ 0 _ (iota_in _) (by rw [iota_len]; omega)
  · intro x hx
    have : ordS l = [] := List.length_eq_zero_iff.1 (by rw [ordS_len]; omega)
    rw [this] at hx; cases hx
def nextE (l : List Jb) : Int × Bool := if l.length = 0 then (0, false) else ((ordS l).getD 0 default, true)
theorem next_no {l : List Jb} (h : l.length = 0) : nextE l = (0, false) := by unfold nextE; rw [if_pos h]
theorem next_yes {l : List Jb} (h : l.length ≠ 0) : nextE l = ((ordS l).getD 0 default, true) := by unfold nextE; rw [if_neg h]
end Go.Proofs.YtlbhpjigjehffaaDoor
set_option linter.unusedSimpArgs false
set_option maxRecDepth 8000
set_option linter.unusedVariables false
namespace Go.Proofs.YtlbhpjigjehffaaDoor
open Go.Sim
theorem stable_ok (n : Nat) (c : Int → Int → Int) (v : Value) (xs : List Int) (hx : inR n xs) (h19 : xs.length ≤ 19) : CallT Tryd.prog 47 [Rp.val v, Rp.int .i64 (xs.length : Nat), pC n c] [MF.osl v 3 1 eI xs] (ownX v (insD c 0 (xs.length - 1) xs)) := by
  refine W.enter (fn := Tryd.f47) (n := 63) Tryd.func47 rfl Tryd.ntmps47 rfl (fun w₀ C₀ => ?_)
  simp only [argS]
  refine W.seq ?_
  refine W.region ?_
  refine L.op1 rfl rfl (GSpec.plain rfl (spec_assign rfl (Get.cint rfl))) ?_
  refine L.nil ?_
  refine N.thenW ?_
  refine W.seq ?_
  refine W.region ?_
  refine L.op1 rfl rfl (GSpec.plain rfl (spec_move rfl (Get.tmp rfl))) ?_
  refine L.op1 rfl rfl (GSpec.plain rfl (spec_assign rfl (Get.cint rfl))) ?_
  refine L.op1 rfl rfl (GSpec.plain rfl (spec_assign rfl (Get.tmp rfl))) ?_
  refine L.nil ?_
  refine N.thenW ?_
  refine W.seq ?_
  refine W.block ?_
  refine W.loopK (σ := Unit) (.cons (t := 0) rfl (.cons (t := 1) rfl (.cons (t := 2) rfl (.cons (t := 6) rfl .nil)))) (fun z => [(7, Rp.int .i64 0), (8, Rp.int .i64 20)]) (fun z => []) (fun z => True) (fun z => 0) () trivial (.cons (t := 7) rfl (.cons (t := 8) rfl .nil)) (.cons 0 rfl .nil) ?_
  intro _ hI S' M' hS hM
  try dsimp only at hS hM
  simp only [List.cons_append, List.nil_append] at hS hM
  subst hS hM
  try dsimp only
  refine W.seq ?_
  refine W.seq ?_
  refine W.region ?_
  refine L.op1 rfl rfl (GSpec.plain rfl (spec_move rfl (Get.tmp rfl))) ?_
  refine L.op1 rfl rfl (GSpec.plain rfl (spec_move rfl (Get.tmp rfl))) ?_
  refine L.op1 rfl rfl (GSpec.plain rfl (spec_leq rfl (Get.tmp rfl) (Get.tmp rfl))) ?_
  refine L.nil ?_
  refine N.thenW ?_
  refine W.cond (Get.tmp rfl) (fun h1 => ?_) (fun h1 => ?_)
  · exfalso; have h := of_decide_eq_true h1; omega
  · have ph1 := h1; try simp only [decide_eq_true_eq, decide_eq_false_iff_not, Bool.and_eq_true, Bool.or_eq_true, Bool.and_eq_false_iff, Bool.or_eq_false_iff, Bool.not_eq_true', Bool.not_eq_false', Bool.not_true, Bool.not_false, Int.not_lt, Int.not_le] at ph1
    refine W.exit ?_
    refine N.thenExit ?_
    refine N.thenExit ?_
    refine N.blockExit ?_
    refine N.thenW ?_
    refine W.seq ?_
    refine W.region ?_
    refine L.op1 rfl rfl (GSpec.plain rfl (spec_move rfl (Get.tmp rfl))) ?_
    refine L.op1 rfl rfl (GSpec.plain rfl (spec_move rfl (Get.tmp rfl))) ?_
    refine L.op1 rfl rfl (GSpec.plain rfl (spec_move rfl (Get.tmp rfl))) ?_
    refine L.op1 rfl rfl (GSpec.plain rfl (spec_move rfl (Get.tmp rfl))) ?_
    refine L.call rfl rfl rfl rfl Tryd.call57 (insert0_ok _ _ _ _ (by assumption) (by omega)) (.cons 0 rfl .refl) (.cons (Get.tmp rfl) (.cons (Get.tmp rfl) (.cons (Get.tmp rfl) (.cons (Get.tmp rfl) .nil)))) (fun _ => ?_)
    try dsimp only
    refine L.nil ?_
    refine N.thenW ?_
    refine W.keep (.cons (t := 0) rfl (.cons (t := 1) rfl (.cons (t := 2) rfl (.cons (t := 6) rfl (.cons (t := 7) rfl (.cons (t := 8) rfl .nil)))))) .refl ?_
    refine W.block ?_
    -- assigned in the loop, not kept: [7, 8]
    refine W.loopK (σ := Unit) (.cons (t := 0) rfl (.cons (t := 1) rfl (.cons (t := 2) rfl .nil))) (fun z => [(6, Rp.int .i64 20)]) (fun z => []) (fun z => True) (fun z => 0) () trivial (.cons (t := 6) rfl .nil) (.cons 0 rfl .nil) ?_
    intro _ hI S' M' hS hM
    try dsimp only at hS hM
    simp only [List.cons_append, List.nil_append] at hS hM
    subst hS hM
    try dsimp only
    refine W.seq ?_
    refine W.seq ?_
    refine W.region ?_
    refine L.op1 rfl rfl (GSpec.plain rfl (spec_move rfl (Get.tmp rfl))) ?_
    refine L.op1 rfl rfl (GSpec.plain rfl (spec_move rfl (Get.tmp rfl))) ?_
    refine L.op1 rfl rfl (GSpec.plain rfl (spec_lss rfl (Get.tmp rfl) (Get.tmp rfl))) ?_
    refine L.nil ?_
    refine N.thenW ?_
    refine W.cond (Get.tmp rfl) (fun h2 => ?_) (fun h2 => ?_)
    · exfalso; have h := of_decide_eq_true h2; omega
    · have ph2 := h2; try simp only [decide_eq_true_eq, decide_eq_false_iff_not, Bool.and_eq_true, Bool.or_eq_true, Bool.and_eq_false_iff, Bool.or_eq_false_iff, Bool.not_eq_true', Bool.not_eq_false', Bool.not_true, Bool.not_false, Int.not_lt, Int.not_le] at ph2
      refine W.exit ?_
      refine N.thenExit ?_
      refine N.thenExit ?_
      refine N.blockExit ?_
      refine N.ret () rfl .nil res0 (.cons 0 rfl .nil) (fun _ _ h => h)
      skip

end Go.Proofs.YtlbhpjigjehffaaDoor
set_option linter.unusedSimpArgs false
set_option maxRecDepth 8000
set_option linter.unusedVariables false
namespace Go.Proofs.YtlbhpjigjehffaaDoor
open Go.Sim
theorem merge1_ok (n : Nat) (c : Int → Int → Int) (lt : Int → Int → Prop) (ho : Ord lt (fun x => 0 ≤ x ∧ x < n)) (v : Value) (P B0 S : List Int) (x : Int) (pl : Nat) (hpl : pl = P.length) (hin : inR n (P ++ (x :: (B0 ++ S)))) (hsB : Srt lt B0) (hcr : Cross c lt [x] B0) (hl : P.length + B0.length + S.length ≤ 999999) : CallT Tryd.prog 58 [Rp.val v, Rp.int .i64 (pl : Nat), Rp.int .i64 ((pl + 1 : Nat) : Int), Rp.int .i64 ((pl + 1 + B0.length : Nat) : Int), pC n c] [MF.osl v 3 1 eI (P ++ (x :: (B0 ++ S)))] (mrgX v lt P [x] B0 S) := by
  refine W.enter (fn := Tryd.f58) (n := 220) Tryd.func58 rfl Tryd.ntmps58 rfl (fun w₀ C₀ => ?_)
  simp only [argS]
  have hx : 0 ≤ x ∧ x < n := hin x (by simp)
  have hD : ∀ y ∈ B0, 0 ≤ y ∧ y < n := fun y hy => hin y (by simp [hy])
  have hne : ∀ y ∈ B0, x ≠ y := fun y hy => (hcr x (by simp) y hy).1
  refine W.seq ?_
  refine W.seq ?_
  refine W.region ?_
  refine L.op1 rfl rfl (GSpec.plain rfl (spec_move rfl (Get.tmp rfl))) ?_
  refine L.op1 rfl rfl (GSpec.plain rfl (spec_move rfl (Get.tmp rfl))) ?_
  first | refine L.op1 rfl rfl (GSpec.plain rfl (fit_i64 (by (first | omega | (simp only [List.length_set]; omega) | (simp only [List.length_append, List.length_cons]; omega))) (by (first | omega | (simp only [List.length_set]; omega) | (simp only [List.length_append, List.length_cons]; omega))) (spec_sub rfl (Get.tmp rfl) (Get.tmp rfl)))) ?_ | refine L.op1 rfl rfl (GSpec.plain rfl (spec_sub rfl (Get.tmp rfl) (Get.tmp rfl))) ?_
  refine L.op1 rfl rfl (GSpec.plain rfl (spec_eql rfl (Get.tmp rfl) (Get.cint rfl))) ?_
  refine L.nil ?_
  refine N.thenW ?_
  refine W.cond (Get.tmp rfl) (fun h1 => ?_) (fun h1 => ?_)
  · have ph1 := h1; try simp only [decide_eq_true_eq, decide_eq_false_iff_not, Bool.and_eq_true, Bool.or_eq_true, Bool.and_eq_false_iff, Bool.or_eq_false_iff, Bool.not_eq_true', Bool.not_eq_false', Bool.not_true, Bool.not_false, Int.not_lt, Int.not_le] at ph1
    refine W.seq ?_
    refine W.region ?_
    refine L.op1 rfl rfl (GSpec.plain rfl (spec_move rfl (Get.tmp rfl))) ?_
    refine L.op1 rfl rfl (GSpec.plain rfl (spec_assign rfl (Get.tmp rfl))) ?_
    refine L.nil ?_
    refine N.thenW ?_
    refine W.seq ?_
    refine W.region ?_
    refine L.op1 rfl rfl (GSpec.plain rfl (spec_move rfl (Get.tmp rfl))) ?_
    refine L.op1 rfl rfl (GSpec.plain rfl (spec_assign rfl (Get.tmp rfl))) ?_
    refine L.nil ?_
    refine N.thenW ?_
    refine W.seq ?_
    refine W.block ?_
    refine W.loopK (σ := Nat × Nat) (.cons (t := 0) rfl (.cons (t := 1) rfl (.cons (t := 2) rfl (.cons (t := 3) rfl (.cons (t := 4) rfl .nil))))) (fun z => [(10, Rp.int .i64 ((pl + 1 + z.1 : Nat) : Int)), (11, Rp.int .i64 ((pl + 1 + z.2 : Nat) : Int))]) (fun z => []) (fun z => BsR lt B0 x z.1 z.2 ∧ True) (fun z => z.2 - z.1) (0, B0.length) ⟨bsR_0, trivial⟩ (.weak (t := 10) rfl (eqI (by (try dsimp only) <;> omega)) (.weak (t := 11) rfl (eqI (by (try dsimp only) <;> omega)) .nil)) (.cons 0 rfl .nil) ?_
    intro ⟨i, j⟩ hI S' M' hS hM
    obtain ⟨hb, _⟩ := hI
    try dsimp only at hS hM
    simp only [List.cons_append, List.nil_append] at hS hM
    subst hS hM
    try dsimp only
    try dsimp only at hb
    have hb01 := hb.1
    have hb02 := hb.2.1
    refine W.seq ?_
    refine W.seq ?_
    refine W.region ?_
    refine L.op1 rfl rfl (GSpec.plain rfl (spec_move rfl (Get.tmp rfl))) ?_
    refine L.op1 rfl rfl (GSpec.plain rfl (spec_move rfl (Get.tmp rfl))) ?_
    refine L.op1 rfl rfl (GSpec.plain rfl (spec_lss rfl (Get.tmp rfl) (Get.tmp rfl))) ?_
    refine L.nil ?_
    refine N.thenW ?_
    refine W.cond (Get.tmp rfl) (fun h2 => ?_) (fun h2 => ?_)
    · have ph2 := h2; try simp only [decide_eq_true_eq, decide_eq_false_iff_not, Bool.and_eq_true, Bool.or_eq_true, Bool.and_eq_false_iff, Bool.or_eq_false_iff, Bool.not_eq_true', Bool.not_eq_false', Bool.not_true, Bool.not_false, Int.not_lt, Int.not_le] at ph2
      refine W.skip ?_
      refine N.thenW ?_
      refine W.block ?_
      refine W.seq ?_
      refine W.region ?_
      refine L.op1 rfl rfl (GSpec.plain rfl (spec_move rfl (Get.tmp rfl))) ?_
      refine L.op1 rfl rfl (GSpec.plain rfl (spec_move rfl (Get.tmp rfl))) ?_
      first | refine L.op1 rfl rfl (GSpec.plain rfl (fit_i64 (by (first | omega | (simp only [List.length_set]; omega) | (simp only [List.length_append, List.length_cons]; omega))) (by (first | omega | (simp only [List.length_set]; omega) | (simp only [List.length_append, List.length_cons]; omega))) (spec_add rfl (Get.tmp rfl) (Get.tmp rfl)))) ?_ | refine L.op1 rfl rfl (GSpec.plain rfl (spec_add rfl (Get.tmp rfl) (Get.tmp rfl))) ?_
      first | refine L.op1 rfl rfl (GSpec.plain rfl (fit_u64 (by (first | omega | (simp only [List.length_set]; omega) | (simp only [List.length_append, List.length_cons]; omega))) (by (first | omega | (simp only [List.length_set]; omega) | (simp only [List.length_append, List.length_cons]; omega))) (spec_conv rfl Tryd.underlying71 ⟨_, Tryd.underlying3⟩ (Get.tmp rfl)))) ?_ | refine L.op1 rfl rfl (GSpec.plain rfl (spec_conv rfl Tryd.underlying71 ⟨_, Tryd.underlying3⟩ (Get.tmp rfl))) ?_
      refine L.op1 rfl rfl (GSpec.plain rfl (spec_half rfl (Get.tmp rfl) (Get.cint rfl))) ?_
      first | refine L.op1 rfl rfl (GSpec.plain rfl (fit_i64 (by (first | omega | (simp only [List.length_set]; omega) | (simp only [List.length_append, List.length_cons]; omega))) (by (first | omega | (simp only [List.length_set]; omega) | (simp only [List.length_append, List.length_cons]; omega))) (spec_conv rfl Tryd.underlying3 ⟨_, Tryd.underlying71⟩ (Get.tmp rfl)))) ?_ | refine L.op1 rfl rfl (GSpec.plain rfl (spec_conv rfl Tryd.underlying3 ⟨_, Tryd.underlying71⟩ (Get.tmp rfl))) ?_
      refine L.op1 rfl rfl (GSpec.plain rfl (spec_assign rfl (Get.tmp rfl))) ?_
      refine L.nil ?_
      refine N.thenW ?_
      obtain ⟨hb1, hb2, hb3, hb4⟩ := hb
      rw [show (((pl + 1 + i : Nat) : Int) + ((pl + 1 + j : Nat) : Int)) / 2 = ((pl + 1 + (i + j) / 2 : Nat) : Int) by omega]
      have hkl : (i + j) / 2 < B0.length := by omega
      have e1 : (P ++ (x :: (B0 ++ S))).getD (((pl + 1 + (i + j) / 2 : Nat) : Int)).toNat default = B0.getD ((i + j) / 2) default := by rw [show (((pl + 1 + (i + j) / 2 : Nat) : Int)).toNat = P.length + (1 + (i + j) / 2) by omega, getD_app, if_neg (by omega), show P.length + (1 + (i + j) / 2) - P.length = (i + j) / 2 + 1 by omega]; show (B0 ++ S).getD _ _ = _; rw [getD_app, if_pos hkl]
      have e2 : (P ++ (x :: (B0 ++ S))).getD ((pl : Nat) : Int).toNat default = x := by rw [show ((pl : Nat) : Int).toNat = P.length by omega, getD_app, if_neg (by omega), Nat.sub_self]; rfl
      refine W.seq ?_
      apply W.any 11 mixed (by kernel_rfl)
      · apply Head.one rfl rfl (GSpec.plain rfl (spec_move rfl (Get.tmp rfl)))
        apply Head.one rfl rfl (GSpec.plain rfl (spec_move rfl (Get.tmp rfl)))
        apply Head.one rfl rfl (GSpec.plain rfl (spec_move rfl (Get.tmp rfl)))
        apply Head.one rfl rfl (GSpec.plain rfl (spec_indexAddrO (k := 0) (E := eI) rfl Tryd.underlying32 Tryd.sizeOf3 (Get.tmp rfl) (Get.tmp rfl) rfl (by (first | omega | (simp only [List.length_set]; omega) | (simp only [List.length_append, List.length_cons]; omega)))))
        apply Head.one rfl rfl (GSpec.plain rfl (spec_loadO1 (k := 0) (j := 0) (E := eI) rfl Tryd.isAgg3 (fun _ => rfl) (Get.tmp rfl) rfl rfl (getD_some (by (first | omega | (simp only [List.length_set]; omega) | (simp only [List.length_append, List.length_cons]; omega)))) rfl))
        apply Head.one rfl rfl (GSpec.plain rfl (spec_move rfl (Get.tmp rfl)))
        apply Head.one rfl rfl (GSpec.plain rfl (spec_move rfl (Get.tmp rfl)))
        apply Head.one rfl rfl (GSpec.plain rfl (spec_indexAddrO (k := 0) (E := eI) rfl Tryd.underlying32 Tryd.sizeOf3 (Get.tmp rfl) (Get.tmp rfl) rfl (by (first | omega | (simp only [List.length_set]; omega) | (simp only [List.length_append, List.length_cons]; omega)))))
        apply Head.one rfl rfl (GSpec.plain rfl (spec_loadO1 (k := 0) (j := 0) (E := eI) rfl Tryd.isAgg3 (fun _ => rfl) (Get.tmp rfl) rfl rfl (getD_some (by (first | omega | (simp only [List.length_set]; omega) | (simp only [List.length_append, List.length_cons]; omega)))) rfl))
        apply Head.one rfl rfl (GSpec.plain rfl (spec_callF (A := fun i : In2 n => [Rp.int .i64 i.1.1, Rp.int .i64 i.1.2]) (X := fun i : In2 n => .one (Rp.int .i64 (c i.1.1 i.1.2))) (⟨((P ++ (x :: (B0 ++ S))).getD (((pl + 1 + (i + j) / 2 : Nat) : Int)).toNat default, (P ++ (x :: (B0 ++ S))).getD ((pl : Nat) : Int).toNat default), hin _ (getD_mem' (by simp only [List.length_append, List.length_cons]; omega)), hin _ (getD_mem' (by simp only [List.length_append, List.length_cons]; omega))⟩ : In2 n) rfl (Get.tmp rfl) (.cons (Get.tmp rfl) (.cons (Get.tmp rfl) .nil))))
        apply Head.one rfl rfl (GSpec.plain rfl (spec_lss rfl (Get.tmp rfl) (Get.cint rfl)))
        exact Head.nil
      refine Fin.one ?_
      refine Fin.one ?_
      refine Fin.one ?_
      refine Fin.one ?_
      refine Fin.one ?_
      refine Fin.one ?_
      refine Fin.one ?_
      refine Fin.one ?_
      refine Fin.one ?_
      refine Fin.one ?_
      refine Fin.one ?_
      refine Fin.nil ?_
      refine L.nil ?_
      refine N.thenW ?_
      refine W.cond (Get.tmp rfl) (fun h3 => ?_) (fun h3 => ?_)
      · have hc : lt (B0.getD ((i + j) / 2) default) x := (hcr x (by simp) _ (getD_mem' hkl)).2.1 (by have h : c ((P ++ (x :: (B0 ++ S))).getD (((pl + 1 + (i + j) / 2 : Nat) : Int)).toNat default) ((P ++ (x :: (B0 ++ S))).getD ((pl : Nat) : Int).toNat default) < 0 := of_decide_eq_true h3; rw [e1, e2] at h; exact h)
        refine W.region ?_
        refine L.op1 rfl rfl (GSpec.plain rfl (spec_move rfl (Get.tmp rfl))) ?_
        first | refine L.op1 rfl rfl (GSpec.plain rfl (fit_i64 (by (first | omega | (simp only [List.length_set]; omega) | (simp only [List.length_append, List.length_cons]; omega))) (by (first | omega | (simp only [List.length_set]; omega) | (simp only [List.length_append, List.length_cons]; omega))) (spec_add rfl (Get.tmp rfl) (Get.cint rfl)))) ?_ | refine L.op1 rfl rfl (GSpec.plain rfl (spec_add rfl (Get.tmp rfl) (Get.cint rfl))) ?_
        refine L.op1 rfl rfl (GSpec.plain rfl (spec_assign rfl (Get.tmp rfl))) ?_
        refine L.nil ?_
        refine N.blockNormal ?_
        refine N.roundK ((i + j) / 2 + 1, j) ?hI1 ?hmu1 ?hs1 ?hk1 ?hp1
        case hs1 => exact (.weak (t := 10) rfl (eqI (by (try dsimp only) <;> omega)) (.weak (t := 11) rfl (eqI (by (try dsimp only) <;> omega)) .nil))
        case hk1 => exact (.cons (t := 0) rfl (.cons (t := 1) rfl (.cons (t := 2) rfl (.cons (t := 3) rfl (.cons (t := 4) rfl .nil)))))
        case hp1 => exact (.cons 0 rfl .nil)
        case hI1 => exact ⟨bsR_up ho hD hx hsB ⟨hb1, hb2, hb3, hb4⟩ (by omega) hc, trivial⟩
        case hmu1 => dsimp only; omega
      · have hc : ¬ lt (B0.getD ((i + j) / 2) default) x := fun q => of_decide_eq_false h3 (by show c ((P ++ (x :: (B0 ++ S))).getD (((pl + 1 + (i + j) / 2 : Nat) : Int)).toNat default) ((P ++ (x :: (B0 ++ S))).getD ((pl : Nat) : Int).toNat default) < 0; rw [e1, e2]; exact (hcr x (by simp) _ (getD_mem' hkl)).2.2 q)
        refine W.region ?_
        refine L.op1 rfl rfl (GSpec.plain rfl (spec_move rfl (Get.tmp rfl))) ?_
        refine L.op1 rfl rfl (GSpec.plain rfl (spec_assign rfl (Get.tmp rfl))) ?_
        refine L.nil ?_
        refine N.blockNormal ?_
        refine N.roundK (i, (i + j) / 2) ?hI2 ?hmu2 ?hs2 ?hk2 ?hp2
        case hs2 => exact (.weak (t := 10) rfl (eqI (by (try dsimp only) <;> omega)) (.weak (t := 11) rfl (eqI (by (try dsimp only) <;> omega)) .nil))
        case hk2 => exact (.cons (t := 0) rfl (.cons (t := 1) rfl (.cons (t := 2) rfl (.cons (t := 3) rfl (.cons (t := 4) rfl .nil)))))
        case hp2 => exact (.cons 0 rfl .nil)
        case hI2 => exact ⟨bsR_dn ho hD hx hsB ⟨hb1, hb2, hb3, hb4⟩ (by omega) hc, trivial⟩
        case hmu2 => dsimp only; omega
    · have ph2 := h2; try simp only [decide_eq_true_eq, decide_eq_false_iff_not, Bool.and_eq_true, Bool.or_eq_true, Bool.and_eq_false_iff, Bool.or_eq_false_iff, Bool.not_eq_true', Bool.not_eq_false', Bool.not_true, Bool.not_false, Int.not_lt, Int.not_le] at ph2
      refine W.exit ?_
      refine N.thenExit ?_
      refine N.thenExit ?_
      refine N.blockExit ?_
      refine N.thenW ?_
      have hij : i = j := by have := hb.1; omega
      subst hij
      refine W.seq ?_
      refine W.seq ?_
      refine W.region ?_
      refine L.op1 rfl rfl (GSpec.plain rfl (spec_move rfl (Get.tmp rfl))) ?_
      refine L.op1 rfl rfl (GSpec.plain rfl (spec_assign rfl (Get.tmp rfl))) ?_
      refine L.nil ?_
      refine N.thenW ?_
      refine W.block ?_
      refine W.loopK (σ := Nat) (.cons (t := 0) rfl (.cons (t := 1) rfl (.cons (t := 2) rfl (.cons (t := 3) rfl (.cons (t := 4) rfl (.cons (t := 10) rfl .nil)))))) (fun z => [(13, Rp.int .i64 ((pl + z : Nat) : Int))]) (fun z => [MF.osl v 3 1 eI (P ++ (B0.take z ++ (x :: (B0.drop z ++ S))))]) (fun z => z ≤ i) (fun z => i - z) 0 (Nat.zero_le _) (.weak (t := 13) rfl (eqI (by omega)) .nil) (.cons 0 rfl .nil) ?_
      intro z hI S' M' hS hM
      try dsimp only at hS hM
      simp only [List.cons_append, List.nil_append] at hS hM
      subst hS hM
      try dsimp only
      have hzl : (P ++ (B0.take z ++ (x :: (B0.drop z ++ S)))).length = P.length + B0.length + S.length + 1 := by simp; omega
      refine W.seq ?_
      refine W.seq ?_
      refine W.region ?_
      refine L.op1 rfl rfl (GSpec.plain rfl (spec_move rfl (Get.tmp rfl))) ?_
      refine L.op1 rfl rfl (GSpec.plain rfl (spec_move rfl (Get.tmp rfl))) ?_
      first | refine L.op1 rfl rfl (GSpec.plain rfl (fit_i64 (by (first | omega | (simp only [List.length_set]; omega) | (simp only [List.length_append, List.length_cons]; omega))) (by (first | omega | (simp only [List.length_set]; omega) | (simp only [List.length_append, List.length_cons]; omega))) (spec_sub rfl (Get.tmp rfl) (Get.cint rfl)))) ?_ | refine L.op1 rfl rfl (GSpec.plain rfl (spec_sub rfl (Get.tmp rfl) (Get.cint rfl))) ?_
      refine L.op1 rfl rfl (GSpec.plain rfl (spec_lss rfl (Get.tmp rfl) (Get.tmp rfl))) ?_
      refine L.nil ?_
      refine N.thenW ?_
      refine W.cond (Get.tmp rfl) (fun h4 => ?_) (fun h4 => ?_)
      · have ph4 := h4; try simp only [decide_eq_true_eq, decide_eq_false_iff_not, Bool.and_eq_true, Bool.or_eq_true, Bool.and_eq_false_iff, Bool.or_eq_false_iff, Bool.not_eq_true', Bool.not_eq_false', Bool.not_true, Bool.not_false, Int.not_lt, Int.not_le] at ph4
        refine W.skip ?_
        refine N.thenW ?_
        refine W.seq ?_
        refine W.block ?_
        apply W.any1 (bs := [false, false, true, true, true, false, false, false, false, false, false, false, false, false, false]) (Mf := []) 15 mixed (by kernel_rfl) (by kernel_rfl) rfl .nil
        · apply Head1.one rfl rfl (GSpec.plain rfl (spec_move rfl (Get.tmp rfl)))
          apply Head1.one rfl rfl (GSpec.plain rfl (spec_move rfl (Get.tmp rfl)))
          apply Head1.flo rfl rfl (GSpec.plain rfl (spec_move rfl (Get.tmp rfl)))
          apply Head1.flo rfl rfl (GSpec.plain rfl (spec_move rfl (Get.tmp rfl)))
          first | apply Head1.flo rfl rfl (GSpec.plain rfl (fit_i64 (by (first | omega | (simp only [List.length_set]; omega) | (simp only [List.length_append, List.length_cons]; omega))) (by (first | omega | (simp only [List.length_set]; omega) | (simp only [List.length_append, List.length_cons]; omega))) (spec_add rfl (Get.tmp rfl) (Get.cint rfl)))) | apply Head1.flo rfl rfl (GSpec.plain rfl (spec_add rfl (Get.tmp rfl) (Get.cint rfl)))
          apply Head1.one rfl rfl (GSpec.plain rfl (spec_move rfl (Get.tmp rfl)))
          apply Head1.one rfl rfl (GSpec.plain rfl (spec_move rfl (Get.tmp rfl)))
          first | apply Head1.one rfl rfl (GSpec.plain rfl (fit_i64 (by (first | omega | (simp only [List.length_set]; omega) | (simp only [List.length_append, List.length_cons]; omega))) (by (first | omega | (simp only [List.length_set]; omega) | (simp only [List.length_append, List.length_cons]; omega))) (spec_add rfl (Get.tmp rfl) (Get.cint rfl)))) | apply Head1.one rfl rfl (GSpec.plain rfl (spec_add rfl (Get.tmp rfl) (Get.cint rfl)))
          apply Head1.one rfl rfl (GSpec.plain rfl (spec_indexAddrO (k := 0) (E := eI) rfl Tryd.underlying32 Tryd.sizeOf3 (Get.tmp rfl) (Get.tmp rfl) rfl (by (first | omega | (simp only [List.length_set]; omega) | (simp only [List.length_append, List.length_cons]; omega)))))
          apply Head1.one rfl rfl (GSpec.plain rfl (spec_loadO1 (k := 0) (j := 0) (i := (((pl + z : Nat) : Int) + 1).toNat) (E := eI) rfl Tryd.isAgg3 (fun _ => rfl) (Get.tmp rfl) rfl rfl (getD_some (by omega)) rfl))
          apply Head1.one rfl rfl (GSpec.plain rfl (spec_move rfl (Get.tmp rfl)))
          apply Head1.one rfl rfl (GSpec.plain rfl (spec_move rfl (Get.tmp rfl)))
          apply Head1.one rfl rfl (GSpec.plain rfl (spec_indexAddrO (k := 0) (E := eI) rfl Tryd.underlying32 Tryd.sizeOf3 (Get.tmp rfl) (Get.tmp rfl) rfl (by (first | omega | (simp only [List.length_set]; omega) | (simp only [List.length_append, List.length_cons]; omega)))))
          apply Head1.one rfl rfl (GSpec.plain rfl (spec_loadO1 (k := 0) (j := 0) (E := eI) rfl Tryd.isAgg3 (fun _ => rfl) (Get.tmp rfl) rfl rfl (getD_some (by (first | omega | (simp only [List.length_set]; omega) | (simp only [List.length_append, List.length_cons]; omega)))) rfl))
          apply Head1.one rfl rfl (GSpec.plain rfl (spec_indexAddrO (k := 0) (E := eI) rfl Tryd.underlying32 Tryd.sizeOf3 (Get.tmp rfl) (Get.tmp rfl) rfl (by (first | omega | (simp only [List.length_set]; omega) | (simp only [List.length_append, List.length_cons]; omega)))))
          exact Head1.nil
        · rfl
        refine Fin1.one ?_
        refine Fin1.one ?_
        refine Fin1.flo ?_
        refine Fin1.flo ?_
        refine Fin1.flo ?_
        refine Fin1.one ?_
        refine Fin1.one ?_
        refine Fin1.one ?_
        refine Fin1.one ?_
        refine Fin1.one ?_
        refine Fin1.one ?_
        refine Fin1.one ?_
        refine Fin1.one ?_
        refine Fin1.one ?_
        refine Fin1.one ?_
        refine Fin1.nil (fun X => ?_)
        refine L.storeO1 (k := 0) (j := 0) (E := eI) rfl rfl rfl Tryd.sizeOf3 (fun _ => rfl) (Get.tmp rfl) (Get.tmp rfl) rfl rfl (by decide) (getD_some (by (first | omega | (simp only [List.length_set]; omega) | (simp only [List.length_append, List.length_cons]; omega)))) rfl ?_
        refine L.nil ?_
        refine Aft.next _ .refl .nil rfl ?_
        refine L.op1 rfl rfl (GSpec.plain rfl (spec_indexAddrO (k := 0) (E := eI) rfl Tryd.underlying32 Tryd.sizeOf3 (Get.tmp rfl) (Get.tmp rfl) rfl (by (first | omega | (simp only [List.length_set]; omega) | (simp only [List.length_append, List.length_cons]; omega))))) ?_
        refine L.storeO1 (k := 0) (j := 0) (E := eI) (i := (((pl + z : Nat) : Int) + 1).toNat) rfl rfl rfl Tryd.sizeOf3 (fun _ => rfl) (Get.tmp rfl) (Get.tmp rfl) rfl rfl (by decide) (getD_some (by (first | omega | (simp only [List.length_set]; omega) | (simp only [List.length_append, List.length_cons]; omega)))) rfl ?_
        refine L.nil ?_
        refine N.blockNormal ?_
        refine N.thenW ?_
        refine W.region ?_
        refine L.op1 rfl rfl (GSpec.plain rfl (spec_move rfl (Get.tmp rfl))) ?_
        first | refine L.op1 rfl rfl (GSpec.plain rfl (fit_i64 (by (first | omega | (simp only [List.length_set]; omega) | (simp only [List.length_append, List.length_cons]; omega))) (by (first | omega | (simp only [List.length_set]; omega) | (simp only [List.length_append, List.length_cons]; omega))) (spec_add rfl (Get.tmp rfl) (Get.cint rfl)))) ?_ | refine L.op1 rfl rfl (GSpec.plain rfl (spec_add rfl (Get.tmp rfl) (Get.cint rfl))) ?_
        refine L.op1 rfl rfl (GSpec.plain rfl (spec_assign rfl (Get.tmp rfl))) ?_
        refine L.nil ?_
        refine N.roundK (z + 1) ?hI3 ?hmu3 ?hs3 ?hk3 ?hp3
        case hs3 => exact (.weak (t := 13) rfl (eqI (by omega)) .nil)
        case hk3 => exact (.cons (t := 0) rfl (.cons (t := 1) rfl (.cons (t := 2) rfl (.cons (t := 3) rfl (.cons (t := 4) rfl (.cons (t := 10) rfl .nil))))))
        case hp3 => rw [show P ++ (B0.take (z + 1) ++ (x :: (B0.drop (z + 1) ++ S))) = swp (P ++ (B0.take z ++ (x :: (B0.drop z ++ S)))) (P.length + z) from (swp_on (by omega)).symm, swp_eq' (p := ((pl + z : Nat) : Int).toNat) (q := (((pl + z : Nat) : Int) + 1).toNat) (by omega) (by omega)]; exact (.cons 0 rfl .nil)
        all_goals (first | rfl | trivial | omega | (simp_all; done))
      · have ph4 := h4; try simp only [decide_eq_true_eq, decide_eq_false_iff_not, Bool.and_eq_true, Bool.or_eq_true, Bool.and_eq_false_iff, Bool.or_eq_false_iff, Bool.not_eq_true', Bool.not_eq_false', Bool.not_true, Bool.not_false, Int.not_lt, Int.not_le] at ph4
        refine W.exit ?_
        refine N.thenExit ?_
        refine N.thenExit ?_
        refine N.blockExit ?_
        refine N.thenW ?_
        refine W.keep (.cons (t := 0) rfl (.cons (t := 1) rfl (.cons (t := 2) rfl (.cons (t := 3) rfl (.cons (t := 4) rfl .nil))))) .refl ?_
        refine W.ret ?_
        have ez : z = i := by omega
        subst ez
        rw [show P ++ (B0.take z ++ (x :: (B0.drop z ++ S))) = P ++ ((B0.take z ++ x :: B0.drop z) ++ S) by simp]
        refine N.ret (X := (mrgX _ _ _ _ _ _)) ⟨B0.take z ++ x :: B0.drop z, into ho hD hx hsB hne hb.2.2.1 hb.2.2.2⟩ rfl .nil res0 (.cons 0 rfl .nil) (fun _ _ h => h)
        skip
  · exfalso; have h := of_decide_eq_false h1; omega

end Go.Proofs.YtlbhpjigjehffaaDoor
set_option linter.unusedSimpArgs false
set_option maxRecDepth 8000
set_option linter.unusedVariables false
namespace Go.Proofs.YtlbhpjigjehffaaDoor
open Go.Sim
theorem merge2_ok (n : Nat) (c : Int → Int → Int) (lt : Int → Int → Prop) (ho : Ord lt (fun x => 0 ≤ x ∧ x < n)) (v : Value) (P A0 S : List Int) (y : Int) (pl : Nat) (hpl : pl = P.length) (hA2 : 2 ≤ A0.length) (hin : inR n (P ++ (A0 ++ (y :: S)))) (hsA : Srt lt A0) (hcr : Cross c lt A0 [y]) (hl : P.length + A0.length + S.length ≤ 999999) : CallT Tryd.prog 58 [Rp.val v, Rp.int .i64 (pl : Nat), Rp.int .i64 ((pl + A0.length : Nat) : Int), Rp.int .i64 ((pl + A0.length + 1 : Nat) : Int), pC n c] [MF.osl v 3 1 eI (P ++ (A0 ++ (y :: S)))] (mrgX v lt P A0 [y] S) := by
  refine W.enter (fn := Tryd.f58) (n := 220) Tryd.func58 rfl Tryd.ntmps58 rfl (fun w₀ C₀ => ?_)
  simp only [argS]
  have hy : 0 ≤ y ∧ y < n := hin y (by simp)
  have hD : ∀ x ∈ A0, 0 ≤ x ∧ x < n := fun x hx => hin x (by simp [hx])
  have hne : ∀ x ∈ A0, x ≠ y := fun x hx => (hcr x hx y (by simp)).1
  refine W.seq ?_
  refine W.seq ?_
  refine W.region ?_
  refine L.op1 rfl rfl (GSpec.plain rfl (spec_move rfl (Get.tmp rfl))) ?_
  refine L.op1 rfl rfl (GSpec.plain rfl (spec_move rfl (Get.tmp rfl))) ?_
  first | refine L.op1 rfl rfl (GSpec.plain rfl (fit_i64 (by (first | omega | (simp only [List.length_set]; omega) | (simp only [List.length_append, List.length_cons]; omega))) (by (first | omega | (simp only [List.length_set]; omega) | (simp only [List.length_append, List.length_cons]; omega))) (spec_sub rfl (Get.tmp rfl) (Get.tmp rfl)))) ?_ | refine L.op1 rfl rfl (GSpec.plain rfl (spec_sub rfl (Get.tmp rfl) (Get.tmp rfl))) ?_
  refine L.op1 rfl rfl (GSpec.plain rfl (spec_eql rfl (Get.tmp rfl) (Get.cint rfl))) ?_
  refine L.nil ?_
  refine N.thenW ?_
  refine W.cond (Get.tmp rfl) (fun h1 => ?_) (fun h1 => ?_)
  · exfalso; have h := of_decide_eq_true h1; omega
  · have ph1 := h1; try simp only [decide_eq_true_eq, decide_eq_false_iff_not, Bool.and_eq_true, Bool.or_eq_true, Bool.and_eq_false_iff, Bool.or_eq_false_iff, Bool.not_eq_true', Bool.not_eq_false', Bool.not_true, Bool.not_false, Int.not_lt, Int.not_le] at ph1
    refine W.skip ?_
    refine N.thenW ?_
    refine W.seq ?_
    refine W.seq ?_
    refine W.region ?_
    refine L.op1 rfl rfl (GSpec.plain rfl (spec_move rfl (Get.tmp rfl))) ?_
    refine L.op1 rfl rfl (GSpec.plain rfl (spec_move rfl (Get.tmp rfl))) ?_
    first | refine L.op1 rfl rfl (GSpec.plain rfl (fit_i64 (by (first | omega | (simp only [List.length_set]; omega) | (simp only [List.length_append, List.length_cons]; omega))) (by (first | omega | (simp only [List.length_set]; omega) | (simp only [List.length_append, List.length_cons]; omega))) (spec_sub rfl (Get.tmp rfl) (Get.tmp rfl)))) ?_ | refine L.op1 rfl rfl (GSpec.plain rfl (spec_sub rfl (Get.tmp rfl) (Get.tmp rfl))) ?_
    refine L.op1 rfl rfl (GSpec.plain rfl (spec_eql rfl (Get.tmp rfl) (Get.cint rfl))) ?_
    refine L.nil ?_
    refine N.thenW ?_
    refine W.cond (Get.tmp rfl) (fun h2 => ?_) (fun h2 => ?_)
    · have ph2 := h2; try simp only [decide_eq_true_eq, decide_eq_false_iff_not, Bool.and_eq_true, Bool.or_eq_true, Bool.and_eq_false_iff, Bool.or_eq_false_iff, Bool.not_eq_true', Bool.not_eq_false', Bool.not_true, Bool.not_false, Int.not_lt, Int.not_le] at ph2
      refine W.seq ?_
      refine W.region ?_
      refine L.op1 rfl rfl (GSpec.plain rfl (spec_move rfl (Get.tmp rfl))) ?_
      refine L.op1 rfl rfl (GSpec.plain rfl (spec_assign rfl (Get.tmp rfl))) ?_
      refine L.nil ?_
      refine N.thenW ?_
      refine W.seq ?_
      refine W.region ?_
      refine L.op1 rfl rfl (GSpec.plain rfl (spec_move rfl (Get.tmp rfl))) ?_
      refine L.op1 rfl rfl (GSpec.plain rfl (spec_assign rfl (Get.tmp rfl))) ?_
      refine L.nil ?_
      refine N.thenW ?_
      refine W.seq ?_
      refine W.block ?_
      refine W.loopK (σ := Nat × Nat) (.cons (t := 0) rfl (.cons (t := 1) rfl (.cons (t := 2) rfl (.cons (t := 3) rfl (.cons (t := 4) rfl .nil))))) (fun z => [(14, Rp.int .i64 ((pl + z.1 : Nat) : Int)), (15, Rp.int .i64 ((pl + z.2 : Nat) : Int))]) (fun z => []) (fun z => BsL lt A0 y z.1 z.2 ∧ True) (fun z => z.2 - z.1) (0, A0.length) ⟨bsL_0, trivial⟩ (.weak (t := 14) rfl (eqI (by (try dsimp only) <;> omega)) (.weak (t := 15) rfl (eqI (by (try dsimp only) <;> omega)) .nil)) (.cons 0 rfl .nil) ?_
      intro ⟨i, j⟩ hI S' M' hS hM
      obtain ⟨hb, _⟩ := hI
      try dsimp only at hS hM
      simp only [List.cons_append, List.nil_append] at hS hM
      subst hS hM
      try dsimp only
      try dsimp only at hb
      have hb01 := hb.1
      have hb02 := hb.2.1
      refine W.seq ?_
      refine W.seq ?_
      refine W.region ?_
      refine L.op1 rfl rfl (GSpec.plain rfl (spec_move rfl (Get.tmp rfl))) ?_
      refine L.op1 rfl rfl (GSpec.plain rfl (spec_move rfl (Get.tmp rfl))) ?_
      refine L.op1 rfl rfl (GSpec.plain rfl (spec_lss rfl (Get.tmp rfl) (Get.tmp rfl))) ?_
      refine L.nil ?_
      refine N.thenW ?_
      refine W.cond (Get.tmp rfl) (fun h3 => ?_) (fun h3 => ?_)
      · have ph3 := h3; try simp only [decide_eq_true_eq, decide_eq_false_iff_not, Bool.and_eq_true, Bool.or_eq_true, Bool.and_eq_false_iff, Bool.or_eq_false_iff, Bool.not_eq_true', Bool.not_eq_false', Bool.not_true, Bool.not_false, Int.not_lt, Int.not_le] at ph3
        refine W.skip ?_
        refine N.thenW ?_
        refine W.block ?_
        refine W.seq ?_
        refine W.region ?_
        refine L.op1 rfl rfl (GSpec.plain rfl (spec_move rfl (Get.tmp rfl))) ?_
        refine L.op1 rfl rfl (GSpec.plain rfl (spec_move rfl (Get.tmp rfl))) ?_
        first | refine L.op1 rfl rfl (GSpec.plain rfl (fit_i64 (by (first | omega | (simp only [List.length_set]; omega) | (simp only [List.length_append, List.length_cons]; omega))) (by (first | omega | (simp only [List.length_set]; omega) | (simp only [List.length_append, List.length_cons]; omega))) (spec_add rfl (Get.tmp rfl) (Get.tmp rfl)))) ?_ | refine L.op1 rfl rfl (GSpec.plain rfl (spec_add rfl (Get.tmp rfl) (Get.tmp rfl))) ?_
        first | refine L.op1 rfl rfl (GSpec.plain rfl (fit_u64 (by (first | omega | (simp only [List.length_set]; omega) | (simp only [List.length_append, List.length_cons]; omega))) (by (first | omega | (simp only [List.length_set]; omega) | (simp only [List.length_append, List.length_cons]; omega))) (spec_conv rfl Tryd.underlying71 ⟨_, Tryd.underlying3⟩ (Get.tmp rfl)))) ?_ | refine L.op1 rfl rfl (GSpec.plain rfl (spec_conv rfl Tryd.underlying71 ⟨_, Tryd.underlying3⟩ (Get.tmp rfl))) ?_
        refine L.op1 rfl rfl (GSpec.plain rfl (spec_half rfl (Get.tmp rfl) (Get.cint rfl))) ?_
        first | refine L.op1 rfl rfl (GSpec.plain rfl (fit_i64 (by (first | omega | (simp only [List.length_set]; omega) | (simp only [List.length_append, List.length_cons]; omega))) (by (first | omega | (simp only [List.length_set]; omega) | (simp only [List.length_append, List.length_cons]; omega))) (spec_conv rfl Tryd.underlying3 ⟨_, Tryd.underlying71⟩ (Get.tmp rfl)))) ?_ | refine L.op1 rfl rfl (GSpec.plain rfl (spec_conv rfl Tryd.underlying3 ⟨_, Tryd.underlying71⟩ (Get.tmp rfl))) ?_
        refine L.op1 rfl rfl (GSpec.plain rfl (spec_assign rfl (Get.tmp rfl))) ?_
        refine L.nil ?_
        refine N.thenW ?_
        obtain ⟨hb1, hb2, hb3, hb4⟩ := hb
        rw [show (((pl + i : Nat) : Int) + ((pl + j : Nat) : Int)) / 2 = ((pl + (i + j) / 2 : Nat) : Int) by omega]
        have hkl : (i + j) / 2 < A0.length := by omega
        have e1 : (P ++ (A0 ++ (y :: S))).getD (((pl + A0.length : Nat) : Int)).toNat default = y := by rw [show (((pl + A0.length : Nat) : Int)).toNat = P.length + A0.length by omega, getD_app, if_neg (by omega), getD_app, if_neg (by omega), show P.length + A0.length - P.length - A0.length = 0 by omega]; rfl
        have e2 : (P ++ (A0 ++ (y :: S))).getD (((pl + (i + j) / 2 : Nat) : Int)).toNat default = A0.getD ((i + j) / 2) default := by rw [show (((pl + (i + j) / 2 : Nat) : Int)).toNat = P.length + (i + j) / 2 by omega]; exact at_mid hkl
        refine W.seq ?_
        apply W.any 12 mixed (by kernel_rfl)
        · apply Head.one rfl rfl (GSpec.plain rfl (spec_move rfl (Get.tmp rfl)))
          apply Head.one rfl rfl (GSpec.plain rfl (spec_move rfl (Get.tmp rfl)))
          apply Head.one rfl rfl (GSpec.plain rfl (spec_move rfl (Get.tmp rfl)))
          apply Head.one rfl rfl (GSpec.plain rfl (spec_indexAddrO (k := 0) (E := eI) rfl Tryd.underlying32 Tryd.sizeOf3 (Get.tmp rfl) (Get.tmp rfl) rfl (by (first | omega | (simp only [List.length_set]; omega) | (simp only [List.length_append, List.length_cons]; omega)))))
          apply Head.one rfl rfl (GSpec.plain rfl (spec_loadO1 (k := 0) (j := 0) (E := eI) rfl Tryd.isAgg3 (fun _ => rfl) (Get.tmp rfl) rfl rfl (getD_some (by (first | omega | (simp only [List.length_set]; omega) | (simp only [List.length_append, List.length_cons]; omega)))) rfl))
          apply Head.one rfl rfl (GSpec.plain rfl (spec_move rfl (Get.tmp rfl)))
          apply Head.one rfl rfl (GSpec.plain rfl (spec_move rfl (Get.tmp rfl)))
          apply Head.one rfl rfl (GSpec.plain rfl (spec_indexAddrO (k := 0) (E := eI) rfl Tryd.underlying32 Tryd.sizeOf3 (Get.tmp rfl) (Get.tmp rfl) rfl (by (first | omega | (simp only [List.length_set]; omega) | (simp only [List.length_append, List.length_cons]; omega)))))
          apply Head.one rfl rfl (GSpec.plain rfl (spec_loadO1 (k := 0) (j := 0) (E := eI) rfl Tryd.isAgg3 (fun _ => rfl) (Get.tmp rfl) rfl rfl (getD_some (by (first | omega | (simp only [List.length_set]; omega) | (simp only [List.length_append, List.length_cons]; omega)))) rfl))
          apply Head.one rfl rfl (GSpec.plain rfl (spec_callF (A := fun i : In2 n => [Rp.int .i64 i.1.1, Rp.int .i64 i.1.2]) (X := fun i : In2 n => .one (Rp.int .i64 (c i.1.1 i.1.2))) (⟨((P ++ (A0 ++ (y :: S))).getD (((pl + A0.length : Nat) : Int)).toNat default, (P ++ (A0 ++ (y :: S))).getD (((pl + (i + j) / 2 : Nat) : Int)).toNat default), hin _ (getD_mem' (by simp only [List.length_append, List.length_cons]; omega)), hin _ (getD_mem' (by simp only [List.length_append, List.length_cons]; omega))⟩ : In2 n) rfl (Get.tmp rfl) (.cons (Get.tmp rfl) (.cons (Get.tmp rfl) .nil))))
          apply Head.one rfl rfl (GSpec.plain rfl (spec_lss rfl (Get.tmp rfl) (Get.cint rfl)))
          apply Head.one rfl rfl (GSpec.plain rfl (spec_not rfl (Get.tmp rfl)))
          exact Head.nil
        refine Fin.one ?_
        refine Fin.one ?_
        refine Fin.one ?_
        refine Fin.one ?_
        refine Fin.one ?_
        refine Fin.one ?_
        refine Fin.one ?_
        refine Fin.one ?_
        refine Fin.one ?_
        refine Fin.one ?_
        refine Fin.one ?_
        refine Fin.one ?_
        refine Fin.nil ?_
        refine L.nil ?_
        refine N.thenW ?_
        refine W.cond (Get.tmp rfl) (fun h4 => ?_) (fun h4 => ?_)
        · have hc : ¬ lt y (A0.getD ((i + j) / 2) default) := fun q => by have h : (!decide (c ((P ++ (A0 ++ (y :: S))).getD (((pl + A0.length : Nat) : Int)).toNat default) ((P ++ (A0 ++ (y :: S))).getD (((pl + (i + j) / 2 : Nat) : Int)).toNat default) < 0)) = true := h4; rw [e1, e2, decide_eq_true ((hcr _ (getD_mem' hkl) y (by simp)).2.2 q)] at h; cases h
          refine W.region ?_
          refine L.op1 rfl rfl (GSpec.plain rfl (spec_move rfl (Get.tmp rfl))) ?_
          first | refine L.op1 rfl rfl (GSpec.plain rfl (fit_i64 (by (first | omega | (simp only [List.length_set]; omega) | (simp only [List.length_append, List.length_cons]; omega))) (by (first | omega | (simp only [List.length_set]; omega) | (simp only [List.length_append, List.length_cons]; omega))) (spec_add rfl (Get.tmp rfl) (Get.cint rfl)))) ?_ | refine L.op1 rfl rfl (GSpec.plain rfl (spec_add rfl (Get.tmp rfl) (Get.cint rfl))) ?_
          refine L.op1 rfl rfl (GSpec.plain rfl (spec_assign rfl (Get.tmp rfl))) ?_
          refine L.nil ?_
          refine N.blockNormal ?_
          refine N.roundK ((i + j) / 2 + 1, j) ?hI1 ?hmu1 ?hs1 ?hk1 ?hp1
          case hs1 => exact (.weak (t := 14) rfl (eqI (by (try dsimp only) <;> omega)) (.weak (t := 15) rfl (eqI (by (try dsimp only) <;> omega)) .nil))
          case hk1 => exact (.cons (t := 0) rfl (.cons (t := 1) rfl (.cons (t := 2) rfl (.cons (t := 3) rfl (.cons (t := 4) rfl .nil)))))
          case hp1 => exact (.cons 0 rfl .nil)
          case hI1 => exact ⟨bsL_up ho hD hy hsA ⟨hb1, hb2, hb3, hb4⟩ (by omega) hc, trivial⟩
          case hmu1 => dsimp only; omega
        · have hc : lt y (A0.getD ((i + j) / 2) default) := (hcr _ (getD_mem' hkl) y (by simp)).2.1 (by have h : (!decide (c ((P ++ (A0 ++ (y :: S))).getD (((pl + A0.length : Nat) : Int)).toNat default) ((P ++ (A0 ++ (y :: S))).getD (((pl + (i + j) / 2 : Nat) : Int)).toNat default) < 0)) = false := h4; rw [e1, e2] at h; simpa using h)
          refine W.region ?_
          refine L.op1 rfl rfl (GSpec.plain rfl (spec_move rfl (Get.tmp rfl))) ?_
          refine L.op1 rfl rfl (GSpec.plain rfl (spec_assign rfl (Get.tmp rfl))) ?_
          refine L.nil ?_
          refine N.blockNormal ?_
          refine N.roundK (i, (i + j) / 2) ?hI2 ?hmu2 ?hs2 ?hk2 ?hp2
          case hs2 => exact (.weak (t := 14) rfl (eqI (by (try dsimp only) <;> omega)) (.weak (t := 15) rfl (eqI (by (try dsimp only) <;> omega)) .nil))
          case hk2 => exact (.cons (t := 0) rfl (.cons (t := 1) rfl (.cons (t := 2) rfl (.cons (t := 3) rfl (.cons (t := 4) rfl .nil)))))
          case hp2 => exact (.cons 0 rfl .nil)
          case hI2 => exact ⟨bsL_dn ho hD hy hsA ⟨hb1, hb2, hb3, hb4⟩ (by omega) hc, trivial⟩
          case hmu2 => dsimp only; omega
      · have ph3 := h3; try simp only [decide_eq_true_eq, decide_eq_false_iff_not, Bool.and_eq_true, Bool.or_eq_true, Bool.and_eq_false_iff, Bool.or_eq_false_iff, Bool.not_eq_true', Bool.not_eq_false', Bool.not_true, Bool.not_false, Int.not_lt, Int.not_le] at ph3
        refine W.exit ?_
        refine N.thenExit ?_
        refine N.thenExit ?_
        refine N.blockExit ?_
        refine N.thenW ?_
        have hij : i = j := by have := hb.1; omega
        subst hij
        refine W.seq ?_
        refine W.seq ?_
        refine W.region ?_
        refine L.op1 rfl rfl (GSpec.plain rfl (spec_move rfl (Get.tmp rfl))) ?_
        refine L.op1 rfl rfl (GSpec.plain rfl (spec_assign rfl (Get.tmp rfl))) ?_
        refine L.nil ?_
        refine N.thenW ?_
        refine W.block ?_
        refine W.loopK (σ := Nat) (.cons (t := 0) rfl (.cons (t := 1) rfl (.cons (t := 2) rfl (.cons (t := 3) rfl (.cons (t := 4) rfl (.cons (t := 14) rfl .nil)))))) (fun z => [(17, Rp.int .i64 ((pl + z : Nat) : Int))]) (fun z => [MF.osl v 3 1 eI (P ++ (A0.take z ++ (y :: (A0.drop z ++ S))))]) (fun z => i ≤ z ∧ z ≤ A0.length) (fun z => z - i) A0.length ⟨hb02, Nat.le_refl _⟩ (.weak (t := 17) rfl (eqI (by omega)) .nil) (by (try dsimp only); rw [List.take_length, List.drop_length, List.nil_append]; exact (.cons 0 rfl .nil)) ?_
        intro z hI S' M' hS hM
        obtain ⟨hz1, hz2⟩ := hI
        try dsimp only at hS hM
        simp only [List.cons_append, List.nil_append] at hS hM
        subst hS hM
        try dsimp only
        have hzl : (P ++ (A0.take z ++ (y :: (A0.drop z ++ S)))).length = P.length + A0.length + S.length + 1 := by simp; omega
        refine W.seq ?_
        refine W.seq ?_
        refine W.region ?_
        refine L.op1 rfl rfl (GSpec.plain rfl (spec_move rfl (Get.tmp rfl))) ?_
        refine L.op1 rfl rfl (GSpec.plain rfl (spec_move rfl (Get.tmp rfl))) ?_
        refine L.op1 rfl rfl (GSpec.plain rfl (spec_gtr rfl (Get.tmp rfl) (Get.tmp rfl))) ?_
        refine L.nil ?_
        refine N.thenW ?_
        refine W.cond (Get.tmp rfl) (fun h5 => ?_) (fun h5 => ?_)
        · have ph5 := h5; try simp only [decide_eq_true_eq, decide_eq_false_iff_not, Bool.and_eq_true, Bool.or_eq_true, Bool.and_eq_false_iff, Bool.or_eq_false_iff, Bool.not_eq_true', Bool.not_eq_false', Bool.not_true, Bool.not_false, Int.not_lt, Int.not_le] at ph5
          refine W.skip ?_
          refine N.thenW ?_
          refine W.seq ?_
          refine W.block ?_
          apply W.any1 (bs := [false, false, true, true, true, false, false, false, false, false, false, false, false, false, false]) (Mf := []) 15 mixed (by kernel_rfl) (by kernel_rfl) rfl .nil
          · apply Head1.one rfl rfl (GSpec.plain rfl (spec_move rfl (Get.tmp rfl)))
            apply Head1.one rfl rfl (GSpec.plain rfl (spec_move rfl (Get.tmp rfl)))
            apply Head1.flo rfl rfl (GSpec.plain rfl (spec_move rfl (Get.tmp rfl)))
            apply Head1.flo rfl rfl (GSpec.plain rfl (spec_move rfl (Get.tmp rfl)))
            first | apply Head1.flo rfl rfl (GSpec.plain rfl (fit_i64 (by (first | omega | (simp only [List.length_set]; omega) | (simp only [List.length_append, List.length_cons]; omega))) (by (first | omega | (simp only [List.length_set]; omega) | (simp only [List.length_append, List.length_cons]; omega))) (spec_sub rfl (Get.tmp rfl) (Get.cint rfl)))) | apply Head1.flo rfl rfl (GSpec.plain rfl (spec_sub rfl (Get.tmp rfl) (Get.cint rfl)))
            apply Head1.one rfl rfl (GSpec.plain rfl (spec_move rfl (Get.tmp rfl)))
            apply Head1.one rfl rfl (GSpec.plain rfl (spec_move rfl (Get.tmp rfl)))
            first | apply Head1.one rfl rfl (GSpec.plain rfl (fit_i64 (by (first | omega | (simp only [List.length_set]; omega) | (simp only [List.length_append, List.length_cons]; omega))) (by (first | omega | (simp only [List.length_set]; omega) | (simp only [List.length_append, List.length_cons]; omega))) (spec_sub rfl (Get.tmp rfl) (Get.cint rfl)))) | apply Head1.one rfl rfl (GSpec.plain rfl (spec_sub rfl (Get.tmp rfl) (Get.cint rfl)))
            apply Head1.one rfl rfl (GSpec.plain rfl (spec_indexAddrO (k := 0) (E := eI) rfl Tryd.underlying32 Tryd.sizeOf3 (Get.tmp rfl) (Get.tmp rfl) rfl (by (first | omega | (simp only [List.length_set]; omega) | (simp only [List.length_append, List.length_cons]; omega)))))
            apply Head1.one rfl rfl (GSpec.plain rfl (spec_loadO1 (k := 0) (j := 0) (E := eI) rfl Tryd.isAgg3 (fun _ => rfl) (Get.tmp rfl) rfl rfl (getD_some (by (first | omega | (simp only [List.length_set]; omega) | (simp only [List.length_append, List.length_cons]; omega)))) rfl))
            apply Head1.one rfl rfl (GSpec.plain rfl (spec_move rfl (Get.tmp rfl)))
            apply Head1.one rfl rfl (GSpec.plain rfl (spec_move rfl (Get.tmp rfl)))
            apply Head1.one rfl rfl (GSpec.plain rfl (spec_indexAddrO (k := 0) (E := eI) rfl Tryd.underlying32 Tryd.sizeOf3 (Get.tmp rfl) (Get.tmp rfl) rfl (by (first | omega | (simp only [List.length_set]; omega) | (simp only [List.length_append, List.length_cons]; omega)))))
            apply Head1.one rfl rfl (GSpec.plain rfl (spec_loadO1 (k := 0) (j := 0) (E := eI) rfl Tryd.isAgg3 (fun _ => rfl) (Get.tmp rfl) rfl rfl (getD_some (by (first | omega | (simp only [List.length_set]; omega) | (simp only [List.length_append, List.length_cons]; omega)))) rfl))
            apply Head1.one rfl rfl (GSpec.plain rfl (spec_indexAddrO (k := 0) (E := eI) rfl Tryd.underlying32 Tryd.sizeOf3 (Get.tmp rfl) (Get.tmp rfl) rfl (by (first | omega | (simp only [List.length_set]; omega) | (simp only [List.length_append, List.length_cons]; omega)))))
            exact Head1.nil
          · rfl
          refine Fin1.one ?_
          refine Fin1.one ?_
          refine Fin1.flo ?_
          refine Fin1.flo ?_
          refine Fin1.flo ?_
          refine Fin1.one ?_
          refine Fin1.one ?_
          refine Fin1.one ?_
          refine Fin1.one ?_
          refine Fin1.one ?_
          refine Fin1.one ?_
          refine Fin1.one ?_
          refine Fin1.one ?_
          refine Fin1.one ?_
          refine Fin1.one ?_
          refine Fin1.nil (fun X => ?_)
          refine L.storeO1 (k := 0) (j := 0) (E := eI) rfl rfl rfl Tryd.sizeOf3 (fun _ => rfl) (Get.tmp rfl) (Get.tmp rfl) rfl rfl (by decide) (getD_some (by (first | omega | (simp only [List.length_set]; omega) | (simp only [List.length_append, List.length_cons]; omega)))) rfl ?_
          refine L.nil ?_
          refine Aft.next _ .refl .nil rfl ?_
          refine L.op1 rfl rfl (GSpec.plain rfl (spec_indexAddrO (k := 0) (E := eI) rfl Tryd.underlying32 Tryd.sizeOf3 (Get.tmp rfl) (Get.tmp rfl) rfl (by (first | omega | (simp only [List.length_set]; omega) | (simp only [List.length_append, List.length_cons]; omega))))) ?_
          refine L.storeO1 (k := 0) (j := 0) (E := eI) rfl rfl rfl Tryd.sizeOf3 (fun _ => rfl) (Get.tmp rfl) (Get.tmp rfl) rfl rfl (by decide) (getD_some (by (first | omega | (simp only [List.length_set]; omega) | (simp only [List.length_append, List.length_cons]; omega)))) rfl ?_
          refine L.nil ?_
          refine N.blockNormal ?_
          refine N.thenW ?_
          refine W.region ?_
          refine L.op1 rfl rfl (GSpec.plain rfl (spec_move rfl (Get.tmp rfl))) ?_
          first | refine L.op1 rfl rfl (GSpec.plain rfl (fit_i64 (by (first | omega | (simp only [List.length_set]; omega) | (simp only [List.length_append, List.length_cons]; omega))) (by (first | omega | (simp only [List.length_set]; omega) | (simp only [List.length_append, List.length_cons]; omega))) (spec_sub rfl (Get.tmp rfl) (Get.cint rfl)))) ?_ | refine L.op1 rfl rfl (GSpec.plain rfl (spec_sub rfl (Get.tmp rfl) (Get.cint rfl))) ?_
          refine L.op1 rfl rfl (GSpec.plain rfl (spec_assign rfl (Get.tmp rfl))) ?_
          refine L.nil ?_
          refine N.roundK (z - 1) ?hI3 ?hmu3 ?hs3 ?hk3 ?hp3
          case hs3 => exact (.weak (t := 17) rfl (eqI (by omega)) .nil)
          case hk3 => exact (.cons (t := 0) rfl (.cons (t := 1) rfl (.cons (t := 2) rfl (.cons (t := 3) rfl (.cons (t := 4) rfl (.cons (t := 14) rfl .nil))))))
          case hp3 => rw [show P ++ (A0.take (z - 1) ++ (y :: (A0.drop (z - 1) ++ S))) = swp (P ++ (A0.take z ++ (y :: (A0.drop z ++ S)))) (P.length + (z - 1)) from (swp_back (by omega) (by omega)).symm, swp_eq (p := ((pl + z : Nat) : Int).toNat) (q := (((pl + z : Nat) : Int) - 1).toNat) (by omega) (by omega)]; exact (.cons 0 rfl .nil)
          all_goals (first | rfl | trivial | omega | (simp_all; done))
        · have ph5 := h5; try simp only [decide_eq_true_eq, decide_eq_false_iff_not, Bool.and_eq_true, Bool.or_eq_true, Bool.and_eq_false_iff, Bool.or_eq_false_iff, Bool.not_eq_true', Bool.not_eq_false', Bool.not_true, Bool.not_false, Int.not_lt, Int.not_le] at ph5
          refine W.exit ?_
          refine N.thenExit ?_
          refine N.thenExit ?_
          refine N.blockExit ?_
          refine N.thenW ?_
          refine W.ret ?_
          have ez : i = z := by omega
          subst ez
          rw [show P ++ (A0.take i ++ (y :: (A0.drop i ++ S))) = P ++ ((A0.take i ++ y :: A0.drop i) ++ S) by simp]
          refine N.ret (X := (mrgX _ _ _ _ _ _)) ⟨A0.take i ++ y :: A0.drop i, into_left ho hD hy hsA hne hb⟩ rfl .nil res0 (.cons 0 rfl .nil) (fun _ _ h => h)
          skip
    · exfalso; have h := of_decide_eq_false h2; omega

end Go.Proofs.YtlbhpjigjehffaaDoor
/- For the walk of a merge of two long lists. -/
namespace Go.Proofs.YtlbhpjigjehffaaDoor
open Go.Sim
section
variable {lt : Int → Int → Prop} {D : Int → Prop} {A B : List Int} {h s0 r0 s r : Nat}
/-- Where the search begins and ends. -/
def Ends (la lb h s0 r0 : Nat) : Prop := (s0 = h - lb ∧ r0 = h ∧ h < la ∧ lb ≤ h) ∨ (s0 = 0 ∧ r0 = la ∧ la ≤ h ∧ h ≤ lb)
def Bs3 (lt : Int → Int → Prop) (A B : List Int) (h s0 r0 s r : Nat) : Prop :=
  s0 ≤ s ∧ s ≤ r ∧ r ≤ r0 ∧ (s = s0 ∨ ¬ lt (B.getD (h - s) default) (A.getD (s - 1) default)) ∧ (r = r0 ∨ lt (B.getD (h - 1 - r) default) (A.getD r default))
theorem ends_le (he : Ends A.length B.length h s0 r0) : s0 ≤ r0 ∧ r0 ≤ A.length ∧ r0 ≤ h ∧ h - s0 ≤ B.length := by
  unfold Ends at he; omega
theorem bs3_0 (he : Ends A.length B.length h s0 r0) : Bs3 lt A B h s0 r0 s0 r0 := ⟨Nat.le_refl _, (ends_le he).1, Nat.le_refl _, .inl rfl, .inl rfl⟩
theorem bs3_up (hb : Bs3 lt A B h s0 r0 s r) (hsr : s < r) (hc : ¬ lt (B.getD (h - 1 - (s + r) / 2) default) (A.getD ((s + r) / 2) default)) : Bs3 lt A B h s0 r0 ((s + r) / 2 + 1) r := by
  obtain ⟨h1, h2, h3, h4, h5⟩ := hb
  refine ⟨by omega, by omega, h3, .inr ?_, h5⟩
  rw [show h - ((s + r) / 2 + 1) = h - 1 - (s + r) / 2 by omega, show (s + r) / 2 + 1 - 1 = (s + r) / 2 by omega]; exact hc
theorem bs3_dn (hb : Bs3 lt A B h s0 r0 s r) (hsr : s < r) (hc : lt (B.getD (h - 1 - (s + r) / 2) default) (A.getD ((s + r) / 2) default)) : Bs3 lt A B h s0 r0 s ((s + r) / 2) := by
  obtain ⟨h1, h2, h3, h4, h5⟩ := hb
  exact ⟨h1, by omega, by omega, h4, .inr hc⟩
theorem bs3_end (ho : Ord lt D) (hA : ∀ x ∈ A, D x) (hB : ∀ x ∈ B, D x) (hne : ∀ x ∈ A, ∀ y ∈ B, x ≠ y) (he : Ends A.length B.length h s0 r0) (hb : Bs3 lt A B h s0 r0 s s) :
    s ≤ A.length ∧ h - s ≤ B.length ∧ s ≤ h ∧ (s = 0 ∨ h - s = B.length ∨ lt (A.getD (s - 1) default) (B.getD (h - s) default)) ∧ (h - s = 0 ∨ s = A.length ∨ lt (B.getD (h - s - 1) default) (A.getD s default)) := by
  obtain ⟨h1, h2, h3, h4, h5⟩ := hb
  have he' := ends_le he
  refine ⟨by omega, by omega, by omega, ?_, ?_⟩
  · rcases h4 with h4 | h4
    · unfold Ends at he; omega
    · by_cases e1 : s = 0
      · exact .inl e1
      · by_cases e2 : h - s = B.length
        · exact .inr (.inl e2)
        · right; right
          have m1 := getD_mem' (l := A) (show s - 1 < A.length by omega)
          have m2 := getD_mem' (l := B) (show h - s < B.length by omega)
          exact (ho.tot _ _ (hA _ m1) (hB _ m2) (hne _ m1 _ m2)).resolve_right h4
  · rcases h5 with h5 | h5
    · unfold Ends at he; omega
    · right; right
      rw [show h - s - 1 = h - 1 - s by omega]; exact h5
end
theorem at_left {P B S : List Int} {i : Nat} (hi : i < B.length) : (P ++ (B ++ S)).getD (P.length + i) default = B.getD i default := at_mid hi
theorem at_right {P A B S : List Int} {i : Nat} (hi : i < B.length) : (P ++ (A ++ (B ++ S))).getD (P.length + A.length + i) default = B.getD i default := by
  have := at_mid (P := P ++ A) (B := B) (S := S) hi
  rw [List.length_append, List.append_assoc] at this
  exact this
/-- Nothing is to be turned. -/
theorem no_turn {P A B S : List Int} {s e : Nat} (h : A.length ≤ s ∨ e = 0) : P ++ (A ++ (B ++ S)) = P ++ (A.take s ++ (B.take e ++ (A.drop s ++ (B.drop e ++ S)))) := by
  rcases h with h | h
  · rw [List.take_of_length_le h, List.drop_eq_nil_of_le h, List.nil_append, ← List.append_assoc (B.take e), List.take_append_drop]
  · subst h
    rw [List.take_zero, List.nil_append, List.drop_zero, ← List.append_assoc (A.take s), List.take_append_drop]
theorem yes_turn {P A B S : List Int} {s e : Nat} : P ++ (A ++ (B ++ S)) = (P ++ A.take s) ++ (A.drop s ++ (B.take e ++ (B.drop e ++ S))) := by
  rw [List.append_assoc, ← List.append_assoc (B.take e), List.take_append_drop, ← List.append_assoc (A.take s), List.take_append_drop]
theorem in_turn {n : Nat} {P A B S : List Int} {s e : Nat} (h : inR n (P ++ (A ++ (B ++ S)))) : inR n (P ++ (A.take s ++ (B.take e ++ (A.drop s ++ (B.drop e ++ S))))) := by
  intro x hx
  apply h
  simp only [List.mem_append] at hx ⊢
  rcases hx with hx | hx | hx | hx | hx | hx
  · exact .inl hx
  · exact .inr (.inl (List.mem_of_mem_take hx))
  · exact .inr (.inr (.inl (List.mem_of_mem_take hx)))
  · exact .inr (.inl (List.mem_of_mem_drop hx))
  · exact .inr (.inr (.inl (List.mem_of_mem_drop hx)))
  · exact .inr (.inr (.inr hx))
theorem in_merged {n : Nat} {P A1 B1 M1 R : List Int} (h : inR n (P ++ (A1 ++ (B1 ++ R)))) (hp : M1.Perm (A1 ++ B1)) : inR n ((P ++ M1) ++ R) := by
  intro x hx
  apply h
  simp only [List.mem_append] at hx ⊢
  rcases hx with (hx | hx) | hx
  · exact .inl hx
  · rcases List.mem_append.1 (hp.mem_iff.1 hx) with hx | hx
    · exact .inr (.inl hx)
    · exact .inr (.inr (.inl hx))
  · exact .inr (.inr (.inr hx))
theorem one_side {lt : Int → Int → Prop} {X Y : List Int} (hX : Srt lt X) (hY : Srt lt Y) (h : X = [] ∨ Y = []) : Srt lt (X ++ Y) := by
  rcases h with rfl | rfl
  · exact hY
  · rw [List.append_nil]; exact hX
theorem cut_merge' {lt : Int → Int → Prop} {A B M1 M2 : List Int} {s e : Nat} (h1 : Srt lt M1) (p1 : M1.Perm (A.take s ++ B.take e)) (h2 : Srt lt M2) (p2 : M2.Perm (A.drop s ++ B.drop e)) (hx : ∀ x ∈ A.take s ++ B.take e, ∀ y ∈ A.drop s ++ B.drop e, lt x y) : Srt lt (M1 ++ M2) ∧ (M1 ++ M2).Perm (A ++ B) := by
  have h := cut_merge h1 p1 h2 p2 hx
  rw [List.take_append_drop, List.take_append_drop] at h
  exact h
end Go.Proofs.YtlbhpjigjehffaaDoor
set_option linter.unusedSimpArgs false
set_option maxRecDepth 8000
set_option linter.unusedVariables false
namespace Go.Proofs.YtlbhpjigjehffaaDoor
open Go.Sim
theorem merge3_ok (n : Nat) (c : Int → Int → Int) (lt : Int → Int → Prop) (ho : Ord lt (fun x => 0 ≤ x ∧ x < n)) (v : Value) (P A0 B0 S : List Int) (pl : Nat) (hpl : pl = P.length) (hA2 : 2 ≤ A0.length) (hB2 : 2 ≤ B0.length) (hin : inR n (P ++ (A0 ++ (B0 ++ S)))) (hsA : Srt lt A0) (hsB : Srt lt B0) (hcr : Cross c lt A0 B0) (hl : P.length + A0.length + B0.length + S.length ≤ 1000000) (ih : ∀ (P A B S : List Int) (pl : Nat), pl = P.length → A.length + B.length < A0.length + B0.length → 1 ≤ A.length → 1 ≤ B.length → inR n (P ++ (A ++ (B ++ S))) → Srt lt A → Srt lt B → Cross c lt A B → P.length + A.length + B.length + S.length ≤ 1000000 → CallT Tryd.prog 58 [Rp.val v, Rp.int .i64 (pl : Nat), Rp.int .i64 ((pl + A.length : Nat) : Int), Rp.int .i64 ((pl + A.length + B.length : Nat) : Int), pC n c] [MF.osl v 3 1 eI (P ++ (A ++ (B ++ S)))] (mrgX v lt P A B S)) : CallT Tryd.prog 58 [Rp.val v, Rp.int .i64 (pl : Nat), Rp.int .i64 ((pl + A0.length : Nat) : Int), Rp.int .i64 ((pl + A0.length + B0.length : Nat) : Int), pC n c] [MF.osl v 3 1 eI (P ++ (A0 ++ (B0 ++ S)))] (mrgX v lt P A0 B0 S) := by
  refine W.enter (fn := Tryd.f58) (n := 220) Tryd.func58 rfl Tryd.ntmps58 rfl (fun w₀ C₀ => ?_)
  simp only [argS]
  have hDA : ∀ x ∈ A0, 0 ≤ x ∧ x < n := fun x hx => hin x (by simp [hx])
  have hDB : ∀ x ∈ B0, 0 ≤ x ∧ x < n := fun x hx => hin x (by simp [hx])
  have hDAB : ∀ x ∈ A0 ++ B0, 0 ≤ x ∧ x < n := fun x hx => (List.mem_append.1 hx).elim (hDA x) (hDB x)
  have hne : ∀ x ∈ A0, ∀ y ∈ B0, x ≠ y := fun x hx y hy => (hcr x hx y hy).1
  refine W.seq ?_
  refine W.seq ?_
  refine W.region ?_
  refine L.op1 rfl rfl (GSpec.plain rfl (spec_move rfl (Get.tmp rfl))) ?_
  refine L.op1 rfl rfl (GSpec.plain rfl (spec_move rfl (Get.tmp rfl))) ?_
  first | refine L.op1 rfl rfl (GSpec.plain rfl (fit_i64 (by (first | omega | (simp only [List.length_append]; omega))) (by (first | omega | (simp only [List.length_append]; omega))) (spec_sub rfl (Get.tmp rfl) (Get.tmp rfl)))) ?_ | refine L.op1 rfl rfl (GSpec.plain rfl (spec_sub rfl (Get.tmp rfl) (Get.tmp rfl))) ?_
  refine L.op1 rfl rfl (GSpec.plain rfl (spec_eql rfl (Get.tmp rfl) (Get.cint rfl))) ?_
  refine L.nil ?_
  refine N.thenW ?_
  refine W.cond (Get.tmp rfl) (fun h1 => ?_) (fun h1 => ?_)
  · exfalso; have h := of_decide_eq_true h1; omega
  · have ph1 := h1; try simp only [decide_eq_true_eq, decide_eq_false_iff_not, Bool.and_eq_true, Bool.or_eq_true, Bool.and_eq_false_iff, Bool.or_eq_false_iff, Bool.not_eq_true', Bool.not_eq_false', Bool.not_true, Bool.not_false, Int.not_lt, Int.not_le] at ph1
    refine W.skip ?_
    refine N.thenW ?_
    refine W.seq ?_
    refine W.seq ?_
    refine W.region ?_
    refine L.op1 rfl rfl (GSpec.plain rfl (spec_move rfl (Get.tmp rfl))) ?_
    refine L.op1 rfl rfl (GSpec.plain rfl (spec_move rfl (Get.tmp rfl))) ?_
    first | refine L.op1 rfl rfl (GSpec.plain rfl (fit_i64 (by (first | omega | (simp only [List.length_append]; omega))) (by (first | omega | (simp only [List.length_append]; omega))) (spec_sub rfl (Get.tmp rfl) (Get.tmp rfl)))) ?_ | refine L.op1 rfl rfl (GSpec.plain rfl (spec_sub rfl (Get.tmp rfl) (Get.tmp rfl))) ?_
    refine L.op1 rfl rfl (GSpec.plain rfl (spec_eql rfl (Get.tmp rfl) (Get.cint rfl))) ?_
    refine L.nil ?_
    refine N.thenW ?_
    refine W.cond (Get.tmp rfl) (fun h2 => ?_) (fun h2 => ?_)
    · exfalso; have h := of_decide_eq_true h2; omega
    · have ph2 := h2; try simp only [decide_eq_true_eq, decide_eq_false_iff_not, Bool.and_eq_true, Bool.or_eq_true, Bool.and_eq_false_iff, Bool.or_eq_false_iff, Bool.not_eq_true', Bool.not_eq_false', Bool.not_true, Bool.not_false, Int.not_lt, Int.not_le] at ph2
      refine W.skip ?_
      refine N.thenW ?_
      refine W.seq ?_
      refine W.region ?_
      refine L.op1 rfl rfl (GSpec.plain rfl (spec_move rfl (Get.tmp rfl))) ?_
      refine L.op1 rfl rfl (GSpec.plain rfl (spec_move rfl (Get.tmp rfl))) ?_
      first | refine L.op1 rfl rfl (GSpec.plain rfl (fit_i64 (by (first | omega | (simp only [List.length_append]; omega))) (by (first | omega | (simp only [List.length_append]; omega))) (spec_add rfl (Get.tmp rfl) (Get.tmp rfl)))) ?_ | refine L.op1 rfl rfl (GSpec.plain rfl (spec_add rfl (Get.tmp rfl) (Get.tmp rfl))) ?_
      first | refine L.op1 rfl rfl (GSpec.plain rfl (fit_u64 (by (first | omega | (simp only [List.length_append]; omega))) (by (first | omega | (simp only [List.length_append]; omega))) (spec_conv rfl Tryd.underlying71 ⟨_, Tryd.underlying3⟩ (Get.tmp rfl)))) ?_ | refine L.op1 rfl rfl (GSpec.plain rfl (spec_conv rfl Tryd.underlying71 ⟨_, Tryd.underlying3⟩ (Get.tmp rfl))) ?_
      refine L.op1 rfl rfl (GSpec.plain rfl (spec_half rfl (Get.tmp rfl) (Get.cint rfl))) ?_
      first | refine L.op1 rfl rfl (GSpec.plain rfl (fit_i64 (by (first | omega | (simp only [List.length_append]; omega))) (by (first | omega | (simp only [List.length_append]; omega))) (spec_conv rfl Tryd.underlying3 ⟨_, Tryd.underlying71⟩ (Get.tmp rfl)))) ?_ | refine L.op1 rfl rfl (GSpec.plain rfl (spec_conv rfl Tryd.underlying3 ⟨_, Tryd.underlying71⟩ (Get.tmp rfl))) ?_
      refine L.op1 rfl rfl (GSpec.plain rfl (spec_assign rfl (Get.tmp rfl))) ?_
      refine L.nil ?_
      refine N.thenW ?_
      rw [show (((pl : Nat) : Int) + ((pl + A0.length + B0.length : Nat) : Int)) / 2 = ((pl + ((A0.length + B0.length) / 2) : Nat) : Int) by omega]
      refine W.keep (.cons (t := 0) rfl (.cons (t := 1) rfl (.cons (t := 2) rfl (.cons (t := 3) rfl (.cons (t := 4) rfl (.cons (t := 18) rfl .nil)))))) .refl ?_
      refine W.seq ?_
      refine W.region ?_
      refine L.op1 rfl rfl (GSpec.plain rfl (spec_move rfl (Get.tmp rfl))) ?_
      refine L.op1 rfl rfl (GSpec.plain rfl (spec_move rfl (Get.tmp rfl))) ?_
      first | refine L.op1 rfl rfl (GSpec.plain rfl (fit_i64 (by (first | omega | (simp only [List.length_append]; omega))) (by (first | omega | (simp only [List.length_append]; omega))) (spec_add rfl (Get.tmp rfl) (Get.tmp rfl)))) ?_ | refine L.op1 rfl rfl (GSpec.plain rfl (spec_add rfl (Get.tmp rfl) (Get.tmp rfl))) ?_
      refine L.op1 rfl rfl (GSpec.plain rfl (spec_assign rfl (Get.tmp rfl))) ?_
      refine L.nil ?_
      refine N.thenW ?_
      refine W.seq ?_
      refine W.region ?_
      refine L.op1 rfl rfl (GSpec.plain rfl (spec_assign rfl (Get.cint rfl))) ?_
      refine L.op1 rfl rfl (GSpec.plain rfl (spec_assign rfl (Get.cint rfl))) ?_
      refine L.nil ?_
      refine N.thenW ?_
      refine W.cut (σ := {q : Nat × Nat // Ends A0.length B0.length ((A0.length + B0.length) / 2) q.1 q.2}) (fun z => [(0, Rp.val v), (1, Rp.int .i64 (pl : Nat)), (2, Rp.int .i64 ((pl + A0.length : Nat) : Int)), (3, Rp.int .i64 ((pl + A0.length + B0.length : Nat) : Int)), (4, pC n c), (18, Rp.int .i64 ((pl + ((A0.length + B0.length) / 2) : Nat) : Int)), (19, Rp.int .i64 (((pl + ((A0.length + B0.length) / 2) : Nat) : Int) + ((pl + A0.length : Nat) : Int))), (20, Rp.int .i64 ((pl + z.1.1 : Nat) : Int)), (21, Rp.int .i64 ((pl + z.1.2 : Nat) : Int))]) (fun z => [MF.osl v 3 1 eI (P ++ (A0 ++ (B0 ++ S)))]) ?_ ?_
      · refine W.seq ?_
        refine W.region ?_
        refine L.op1 rfl rfl (GSpec.plain rfl (spec_move rfl (Get.tmp rfl))) ?_
        refine L.op1 rfl rfl (GSpec.plain rfl (spec_move rfl (Get.tmp rfl))) ?_
        refine L.op1 rfl rfl (GSpec.plain rfl (spec_gtr rfl (Get.tmp rfl) (Get.tmp rfl))) ?_
        refine L.nil ?_
        refine N.thenW ?_
        refine W.cond (Get.tmp rfl) (fun h3 => ?_) (fun h3 => ?_)
        · have ph3 := h3; try simp only [decide_eq_true_eq, decide_eq_false_iff_not, Bool.and_eq_true, Bool.or_eq_true, Bool.and_eq_false_iff, Bool.or_eq_false_iff, Bool.not_eq_true', Bool.not_eq_false', Bool.not_true, Bool.not_false, Int.not_lt, Int.not_le] at ph3
          refine W.seq ?_
          refine W.region ?_
          refine L.op1 rfl rfl (GSpec.plain rfl (spec_move rfl (Get.tmp rfl))) ?_
          refine L.op1 rfl rfl (GSpec.plain rfl (spec_move rfl (Get.tmp rfl))) ?_
          first | refine L.op1 rfl rfl (GSpec.plain rfl (fit_i64 (by (first | omega | (simp only [List.length_append]; omega))) (by (first | omega | (simp only [List.length_append]; omega))) (spec_sub rfl (Get.tmp rfl) (Get.tmp rfl)))) ?_ | refine L.op1 rfl rfl (GSpec.plain rfl (spec_sub rfl (Get.tmp rfl) (Get.tmp rfl))) ?_
          refine L.op1 rfl rfl (GSpec.plain rfl (spec_assign rfl (Get.tmp rfl))) ?_
          refine L.nil ?_
          refine N.thenW ?_
          refine W.keep (.cons (t := 0) rfl (.cons (t := 1) rfl (.cons (t := 2) rfl (.cons (t := 3) rfl (.cons (t := 4) rfl (.cons (t := 18) rfl (.cons (t := 19) rfl (.cons (t := 20) rfl (.cons (t := 21) rfl .nil))))))))) .refl ?_
          refine W.region ?_
          refine L.op1 rfl rfl (GSpec.plain rfl (spec_move rfl (Get.tmp rfl))) ?_
          refine L.op1 rfl rfl (GSpec.plain rfl (spec_assign rfl (Get.tmp rfl))) ?_
          refine L.nil ?_
          refine N.mid ⟨(((A0.length + B0.length) / 2) - B0.length, ((A0.length + B0.length) / 2)), by unfold Ends; dsimp only; omega⟩ ?hs1 ?hp1
          case hs1 => exact (.cons (t := 0) rfl (.cons (t := 1) rfl (.cons (t := 2) rfl (.cons (t := 3) rfl (.cons (t := 4) rfl (.cons (t := 18) rfl (.cons (t := 19) rfl (.weak (t := 20) rfl (eqI (by (try dsimp only) <;> omega)) (.weak (t := 21) rfl (eqI (by (try dsimp only) <;> omega)) .nil)))))))))
          case hp1 => exact (.cons 0 rfl .nil)
        · have ph3 := h3; try simp only [decide_eq_true_eq, decide_eq_false_iff_not, Bool.and_eq_true, Bool.or_eq_true, Bool.and_eq_false_iff, Bool.or_eq_false_iff, Bool.not_eq_true', Bool.not_eq_false', Bool.not_true, Bool.not_false, Int.not_lt, Int.not_le] at ph3
          refine W.seq ?_
          refine W.region ?_
          refine L.op1 rfl rfl (GSpec.plain rfl (spec_move rfl (Get.tmp rfl))) ?_
          refine L.op1 rfl rfl (GSpec.plain rfl (spec_assign rfl (Get.tmp rfl))) ?_
          refine L.nil ?_
          refine N.thenW ?_
          refine W.keep (.cons (t := 0) rfl (.cons (t := 1) rfl (.cons (t := 2) rfl (.cons (t := 3) rfl (.cons (t := 4) rfl (.cons (t := 18) rfl (.cons (t := 19) rfl (.cons (t := 20) rfl (.cons (t := 21) rfl .nil))))))))) .refl ?_
          refine W.region ?_
          refine L.op1 rfl rfl (GSpec.plain rfl (spec_move rfl (Get.tmp rfl))) ?_
          refine L.op1 rfl rfl (GSpec.plain rfl (spec_assign rfl (Get.tmp rfl))) ?_
          refine L.nil ?_
          refine N.mid ⟨(0, A0.length), by unfold Ends; dsimp only; omega⟩ ?hs2 ?hp2
          case hs2 => exact (.cons (t := 0) rfl (.cons (t := 1) rfl (.cons (t := 2) rfl (.cons (t := 3) rfl (.cons (t := 4) rfl (.cons (t := 18) rfl (.cons (t := 19) rfl (.weak (t := 20) rfl (eqI (by (try dsimp only) <;> omega)) (.weak (t := 21) rfl (eqI (by (try dsimp only) <;> omega)) .nil)))))))))
          case hp2 => exact (.cons 0 rfl .nil)
      intro ⟨⟨s0, r0⟩, he⟩
      try dsimp only
      try dsimp only at he
      refine W.seq ?_
      refine W.region ?_
      refine L.op1 rfl rfl (GSpec.plain rfl (spec_move rfl (Get.tmp rfl))) ?_
      first | refine L.op1 rfl rfl (GSpec.plain rfl (fit_i64 (by (first | omega | (simp only [List.length_append]; omega))) (by (first | omega | (simp only [List.length_append]; omega))) (spec_sub rfl (Get.tmp rfl) (Get.cint rfl)))) ?_ | refine L.op1 rfl rfl (GSpec.plain rfl (spec_sub rfl (Get.tmp rfl) (Get.cint rfl))) ?_
      refine L.op1 rfl rfl (GSpec.plain rfl (spec_assign rfl (Get.tmp rfl))) ?_
      refine L.nil ?_
      refine N.thenW ?_
      refine W.seq ?_
      refine W.block ?_
      refine W.loopK (σ := Nat × Nat) (.cons (t := 0) rfl (.cons (t := 1) rfl (.cons (t := 2) rfl (.cons (t := 3) rfl (.cons (t := 4) rfl (.cons (t := 18) rfl (.cons (t := 19) rfl (.cons (t := 22) rfl .nil)))))))) (fun z => [(20, Rp.int .i64 ((pl + z.1 : Nat) : Int)), (21, Rp.int .i64 ((pl + z.2 : Nat) : Int))]) (fun z => []) (fun z => Bs3 lt A0 B0 ((A0.length + B0.length) / 2) s0 r0 z.1 z.2 ∧ True) (fun z => z.2 - z.1) (s0, r0) ⟨bs3_0 he, trivial⟩ (.weak (t := 20) rfl (eqI (by (try dsimp only) <;> omega)) (.weak (t := 21) rfl (eqI (by (try dsimp only) <;> omega)) .nil)) (.cons 0 rfl .nil) ?_
      intro ⟨s, r⟩ hI S' M' hS hM
      obtain ⟨hbs, _⟩ := hI
      try dsimp only at hS hM
      simp only [List.cons_append, List.nil_append] at hS hM
      subst hS hM
      try dsimp only
      try dsimp only at hbs
      have hbs1 := hbs.1
      have hbs2 := hbs.2.1
      have hbs3 := hbs.2.2.1
      have hen := ends_le he
      refine W.seq ?_
      refine W.seq ?_
      refine W.region ?_
      refine L.op1 rfl rfl (GSpec.plain rfl (spec_move rfl (Get.tmp rfl))) ?_
      refine L.op1 rfl rfl (GSpec.plain rfl (spec_move rfl (Get.tmp rfl))) ?_
      refine L.op1 rfl rfl (GSpec.plain rfl (spec_lss rfl (Get.tmp rfl) (Get.tmp rfl))) ?_
      refine L.nil ?_
      refine N.thenW ?_
      refine W.cond (Get.tmp rfl) (fun h4 => ?_) (fun h4 => ?_)
      · have ph4 := h4; try simp only [decide_eq_true_eq, decide_eq_false_iff_not, Bool.and_eq_true, Bool.or_eq_true, Bool.and_eq_false_iff, Bool.or_eq_false_iff, Bool.not_eq_true', Bool.not_eq_false', Bool.not_true, Bool.not_false, Int.not_lt, Int.not_le] at ph4
        refine W.skip ?_
        refine N.thenW ?_
        refine W.block ?_
        refine W.seq ?_
        refine W.region ?_
        refine L.op1 rfl rfl (GSpec.plain rfl (spec_move rfl (Get.tmp rfl))) ?_
        refine L.op1 rfl rfl (GSpec.plain rfl (spec_move rfl (Get.tmp rfl))) ?_
        first | refine L.op1 rfl rfl (GSpec.plain rfl (fit_i64 (by (first | omega | (simp only [List.length_append]; omega))) (by (first | omega | (simp only [List.length_append]; omega))) (spec_add rfl (Get.tmp rfl) (Get.tmp rfl)))) ?_ | refine L.op1 rfl rfl (GSpec.plain rfl (spec_add rfl (Get.tmp rfl) (Get.tmp rfl))) ?_
        first | refine L.op1 rfl rfl (GSpec.plain rfl (fit_u64 (by (first | omega | (simp only [List.length_append]; omega))) (by (first | omega | (simp only [List.length_append]; omega))) (spec_conv rfl Tryd.underlying71 ⟨_, Tryd.underlying3⟩ (Get.tmp rfl)))) ?_ | refine L.op1 rfl rfl (GSpec.plain rfl (spec_conv rfl Tryd.underlying71 ⟨_, Tryd.underlying3⟩ (Get.tmp rfl))) ?_
        refine L.op1 rfl rfl (GSpec.plain rfl (spec_half rfl (Get.tmp rfl) (Get.cint rfl))) ?_
        first | refine L.op1 rfl rfl (GSpec.plain rfl (fit_i64 (by (first | omega | (simp only [List.length_append]; omega))) (by (first | omega | (simp only [List.length_append]; omega))) (spec_conv rfl Tryd.underlying3 ⟨_, Tryd.underlying71⟩ (Get.tmp rfl)))) ?_ | refine L.op1 rfl rfl (GSpec.plain rfl (spec_conv rfl Tryd.underlying3 ⟨_, Tryd.underlying71⟩ (Get.tmp rfl))) ?_
        refine L.op1 rfl rfl (GSpec.plain rfl (spec_assign rfl (Get.tmp rfl))) ?_
        refine L.nil ?_
        refine N.thenW ?_
        rw [show (((pl + s : Nat) : Int) + ((pl + r : Nat) : Int)) / 2 = ((pl + (s + r) / 2 : Nat) : Int) by omega]
        have e1 : (P ++ (A0 ++ (B0 ++ S))).getD ((((pl + ((A0.length + B0.length) / 2) : Nat) : Int) + ((pl + A0.length : Nat) : Int) - 1 - ((pl + (s + r) / 2 : Nat) : Int))).toNat default = B0.getD (((A0.length + B0.length) / 2) - 1 - (s + r) / 2) default := by rw [show ((((pl + ((A0.length + B0.length) / 2) : Nat) : Int) + ((pl + A0.length : Nat) : Int) - 1 - ((pl + (s + r) / 2 : Nat) : Int))).toNat = P.length + A0.length + (((A0.length + B0.length) / 2) - 1 - (s + r) / 2) by omega]; exact at_right (by omega)
        have e2 : (P ++ (A0 ++ (B0 ++ S))).getD (((pl + (s + r) / 2 : Nat) : Int)).toNat default = A0.getD ((s + r) / 2) default := by rw [show (((pl + (s + r) / 2 : Nat) : Int)).toNat = P.length + (s + r) / 2 by omega]; exact at_left (by omega)
        have hkA : (s + r) / 2 < A0.length := by have := hbs.2.2.1; have := ends_le he; omega
        have hkB : ((A0.length + B0.length) / 2) - 1 - (s + r) / 2 < B0.length := by have := hbs.1; have := hbs.2.2.1; have := ends_le he; omega
        refine W.seq ?_
        apply W.any 14 mixed (by kernel_rfl)
        · apply Head.one rfl rfl (GSpec.plain rfl (spec_move rfl (Get.tmp rfl)))
          apply Head.one rfl rfl (GSpec.plain rfl (spec_move rfl (Get.tmp rfl)))
          apply Head.one rfl rfl (GSpec.plain rfl (spec_move rfl (Get.tmp rfl)))
          apply Head.one rfl rfl (GSpec.plain rfl (spec_move rfl (Get.tmp rfl)))
          first | apply Head.one rfl rfl (GSpec.plain rfl (fit_i64 (by (first | omega | (simp only [List.length_append]; omega))) (by (first | omega | (simp only [List.length_append]; omega))) (spec_sub rfl (Get.tmp rfl) (Get.tmp rfl)))) | apply Head.one rfl rfl (GSpec.plain rfl (spec_sub rfl (Get.tmp rfl) (Get.tmp rfl)))
          apply Head.one rfl rfl (GSpec.plain rfl (spec_indexAddrO (k := 0) (E := eI) rfl Tryd.underlying32 Tryd.sizeOf3 (Get.tmp rfl) (Get.tmp rfl) rfl (by (first | omega | (simp only [List.length_append]; omega)))))
          apply Head.one rfl rfl (GSpec.plain rfl (spec_loadO1 (k := 0) (j := 0) (E := eI) rfl Tryd.isAgg3 (fun _ => rfl) (Get.tmp rfl) rfl rfl (getD_some (by (first | omega | (simp only [List.length_append]; omega)))) rfl))
          apply Head.one rfl rfl (GSpec.plain rfl (spec_move rfl (Get.tmp rfl)))
          apply Head.one rfl rfl (GSpec.plain rfl (spec_move rfl (Get.tmp rfl)))
          apply Head.one rfl rfl (GSpec.plain rfl (spec_indexAddrO (k := 0) (E := eI) rfl Tryd.underlying32 Tryd.sizeOf3 (Get.tmp rfl) (Get.tmp rfl) rfl (by (first | omega | (simp only [List.length_append]; omega)))))
          apply Head.one rfl rfl (GSpec.plain rfl (spec_loadO1 (k := 0) (j := 0) (E := eI) rfl Tryd.isAgg3 (fun _ => rfl) (Get.tmp rfl) rfl rfl (getD_some (by (first | omega | (simp only [List.length_append]; omega)))) rfl))
          apply Head.one rfl rfl (GSpec.plain rfl (spec_callF (A := fun i : In2 n => [Rp.int .i64 i.1.1, Rp.int .i64 i.1.2]) (X := fun i : In2 n => .one (Rp.int .i64 (c i.1.1 i.1.2))) (⟨((P ++ (A0 ++ (B0 ++ S))).getD ((((pl + ((A0.length + B0.length) / 2) : Nat) : Int) + ((pl + A0.length : Nat) : Int) - 1 - ((pl + (s + r) / 2 : Nat) : Int))).toNat default, (P ++ (A0 ++ (B0 ++ S))).getD (((pl + (s + r) / 2 : Nat) : Int)).toNat default), hin _ (getD_mem' (by simp only [List.length_append]; omega)), hin _ (getD_mem' (by simp only [List.length_append]; omega))⟩ : In2 n) rfl (Get.tmp rfl) (.cons (Get.tmp rfl) (.cons (Get.tmp rfl) .nil))))
          apply Head.one rfl rfl (GSpec.plain rfl (spec_lss rfl (Get.tmp rfl) (Get.cint rfl)))
          apply Head.one rfl rfl (GSpec.plain rfl (spec_not rfl (Get.tmp rfl)))
          exact Head.nil
        refine Fin.one ?_
        refine Fin.one ?_
        refine Fin.one ?_
        refine Fin.one ?_
        refine Fin.one ?_
        refine Fin.one ?_
        refine Fin.one ?_
        refine Fin.one ?_
        refine Fin.one ?_
        refine Fin.one ?_
        refine Fin.one ?_
        refine Fin.one ?_
        refine Fin.one ?_
        refine Fin.one ?_
        refine Fin.nil ?_
        refine L.nil ?_
        refine N.thenW ?_
        refine W.cond (Get.tmp rfl) (fun h5 => ?_) (fun h5 => ?_)
        · have hc : ¬ lt (B0.getD (((A0.length + B0.length) / 2) - 1 - (s + r) / 2) default) (A0.getD ((s + r) / 2) default) := fun q => by have h : (!decide (c ((P ++ (A0 ++ (B0 ++ S))).getD ((((pl + ((A0.length + B0.length) / 2) : Nat) : Int) + ((pl + A0.length : Nat) : Int) - 1 - ((pl + (s + r) / 2 : Nat) : Int))).toNat default) ((P ++ (A0 ++ (B0 ++ S))).getD (((pl + (s + r) / 2 : Nat) : Int)).toNat default) < 0)) = true := h5; rw [e1, e2, decide_eq_true ((hcr _ (getD_mem' hkA) _ (getD_mem' hkB)).2.2 q)] at h; cases h
          refine W.region ?_
          refine L.op1 rfl rfl (GSpec.plain rfl (spec_move rfl (Get.tmp rfl))) ?_
          first | refine L.op1 rfl rfl (GSpec.plain rfl (fit_i64 (by (first | omega | (simp only [List.length_append]; omega))) (by (first | omega | (simp only [List.length_append]; omega))) (spec_add rfl (Get.tmp rfl) (Get.cint rfl)))) ?_ | refine L.op1 rfl rfl (GSpec.plain rfl (spec_add rfl (Get.tmp rfl) (Get.cint rfl))) ?_
          refine L.op1 rfl rfl (GSpec.plain rfl (spec_assign rfl (Get.tmp rfl))) ?_
          refine L.nil ?_
          refine N.blockNormal ?_
          refine N.roundK ((s + r) / 2 + 1, r) ?hI3 ?hmu3 ?hs3 ?hk3 ?hp3
          case hs3 => exact (.weak (t := 20) rfl (eqI (by (try dsimp only) <;> omega)) (.weak (t := 21) rfl (eqI (by (try dsimp only) <;> omega)) .nil))
          case hk3 => exact (.cons (t := 0) rfl (.cons (t := 1) rfl (.cons (t := 2) rfl (.cons (t := 3) rfl (.cons (t := 4) rfl (.cons (t := 18) rfl (.cons (t := 19) rfl (.cons (t := 22) rfl .nil))))))))
          case hp3 => exact (.cons 0 rfl .nil)
          case hI3 => exact ⟨bs3_up hbs (by omega) hc, trivial⟩
          case hmu3 => dsimp only; omega
        · have hc : lt (B0.getD (((A0.length + B0.length) / 2) - 1 - (s + r) / 2) default) (A0.getD ((s + r) / 2) default) := (hcr _ (getD_mem' hkA) _ (getD_mem' hkB)).2.1 (by have h : (!decide (c ((P ++ (A0 ++ (B0 ++ S))).getD ((((pl + ((A0.length + B0.length) / 2) : Nat) : Int) + ((pl + A0.length : Nat) : Int) - 1 - ((pl + (s + r) / 2 : Nat) : Int))).toNat default) ((P ++ (A0 ++ (B0 ++ S))).getD (((pl + (s + r) / 2 : Nat) : Int)).toNat default) < 0)) = false := h5; rw [e1, e2] at h; simpa using h)
          refine W.region ?_
          refine L.op1 rfl rfl (GSpec.plain rfl (spec_move rfl (Get.tmp rfl))) ?_
          refine L.op1 rfl rfl (GSpec.plain rfl (spec_assign rfl (Get.tmp rfl))) ?_
          refine L.nil ?_
          refine N.blockNormal ?_
          refine N.roundK (s, (s + r) / 2) ?hI4 ?hmu4 ?hs4 ?hk4 ?hp4
          case hs4 => exact (.weak (t := 20) rfl (eqI (by (try dsimp only) <;> omega)) (.weak (t := 21) rfl (eqI (by (try dsimp only) <;> omega)) .nil))
          case hk4 => exact (.cons (t := 0) rfl (.cons (t := 1) rfl (.cons (t := 2) rfl (.cons (t := 3) rfl (.cons (t := 4) rfl (.cons (t := 18) rfl (.cons (t := 19) rfl (.cons (t := 22) rfl .nil))))))))
          case hp4 => exact (.cons 0 rfl .nil)
          case hI4 => exact ⟨bs3_dn hbs (by omega) hc, trivial⟩
          case hmu4 => dsimp only; omega
      · have ph4 := h4; try simp only [decide_eq_true_eq, decide_eq_false_iff_not, Bool.and_eq_true, Bool.or_eq_true, Bool.and_eq_false_iff, Bool.or_eq_false_iff, Bool.not_eq_true', Bool.not_eq_false', Bool.not_true, Bool.not_false, Int.not_lt, Int.not_le] at ph4
        refine W.exit ?_
        refine N.thenExit ?_
        refine N.thenExit ?_
        refine N.blockExit ?_
        refine N.thenW ?_
        have hsr : s = r := by have := hbs.2.1; omega
        subst hsr
        obtain ⟨f1, f2, f3, f4, f5⟩ := bs3_end ho hDA hDB hne he hbs
        refine W.seq ?_
        refine W.region ?_
        refine L.op1 rfl rfl (GSpec.plain rfl (spec_move rfl (Get.tmp rfl))) ?_
        refine L.op1 rfl rfl (GSpec.plain rfl (spec_move rfl (Get.tmp rfl))) ?_
        first | refine L.op1 rfl rfl (GSpec.plain rfl (fit_i64 (by (first | omega | (simp only [List.length_append]; omega))) (by (first | omega | (simp only [List.length_append]; omega))) (spec_sub rfl (Get.tmp rfl) (Get.tmp rfl)))) ?_ | refine L.op1 rfl rfl (GSpec.plain rfl (spec_sub rfl (Get.tmp rfl) (Get.tmp rfl))) ?_
        refine L.op1 rfl rfl (GSpec.plain rfl (spec_assign rfl (Get.tmp rfl))) ?_
        refine L.nil ?_
        refine N.thenW ?_
        rw [show ((pl + ((A0.length + B0.length) / 2) : Nat) : Int) + ((pl + A0.length : Nat) : Int) - ((pl + s : Nat) : Int) = ((pl + A0.length + (((A0.length + B0.length) / 2) - s) : Nat) : Int) by omega]
        refine W.keep (.cons (t := 0) rfl (.cons (t := 1) rfl (.cons (t := 2) rfl (.cons (t := 3) rfl (.cons (t := 4) rfl (.cons (t := 18) rfl (.cons (t := 20) rfl (.cons (t := 24) rfl .nil)))))))) .refl ?_
        refine W.cut (σ := Unit) (fun z => [(0, Rp.val v), (1, Rp.int .i64 (pl : Nat)), (2, Rp.int .i64 ((pl + A0.length : Nat) : Int)), (3, Rp.int .i64 ((pl + A0.length + B0.length : Nat) : Int)), (4, pC n c), (18, Rp.int .i64 ((pl + ((A0.length + B0.length) / 2) : Nat) : Int)), (20, Rp.int .i64 ((pl + s : Nat) : Int)), (24, Rp.int .i64 ((pl + A0.length + (((A0.length + B0.length) / 2) - s) : Nat) : Int))]) (fun z => [MF.osl v 3 1 eI (P ++ (A0.take s ++ (B0.take (((A0.length + B0.length) / 2) - s) ++ (A0.drop s ++ (B0.drop (((A0.length + B0.length) / 2) - s) ++ S)))))]) ?_ ?_
        · refine W.seq ?_
          refine W.region ?_
          refine L.op1 rfl rfl (GSpec.plain rfl (spec_move rfl (Get.tmp rfl))) ?_
          refine L.op1 rfl rfl (GSpec.plain rfl (spec_move rfl (Get.tmp rfl))) ?_
          refine L.op1 rfl rfl (GSpec.plain rfl (spec_lss rfl (Get.tmp rfl) (Get.tmp rfl))) ?_
          refine L.op1 rfl rfl (GSpec.plain rfl (spec_move rfl (Get.tmp rfl))) ?_
          refine L.op1 rfl rfl (GSpec.guard rfl rfl rfl fun hg => (spec_move rfl (Get.tmp rfl))) ?_
          refine L.op1 rfl rfl (GSpec.guard rfl rfl rfl fun hg => (spec_move rfl (Get.tmp rfl))) ?_
          refine L.op1 rfl rfl (GSpec.guard rfl rfl rfl fun hg => (spec_lss rfl (Get.opt rfl hg) (Get.opt rfl hg))) ?_
          refine L.op1 rfl rfl (GSpec.plain rfl (spec_and rfl (Get.tmp rfl) (fun hb => (Get.opt rfl hb)))) ?_
          refine L.nil ?_
          refine N.thenW ?_
          refine W.keep (.cons (t := 0) rfl (.cons (t := 1) rfl (.cons (t := 2) rfl (.cons (t := 3) rfl (.cons (t := 4) rfl (.cons (t := 18) rfl (.cons (t := 20) rfl (.cons (t := 24) rfl (.cons (t := 185) rfl .nil))))))))) .refl ?_
          refine W.cond (Get.tmp rfl) (fun h6 => ?_) (fun h6 => ?_)
          · have ph6 := h6; try simp only [decide_eq_true_eq, decide_eq_false_iff_not, Bool.and_eq_true, Bool.or_eq_true, Bool.and_eq_false_iff, Bool.or_eq_false_iff, Bool.not_eq_true', Bool.not_eq_false', Bool.not_true, Bool.not_false, Int.not_lt, Int.not_le] at ph6
            refine W.region ?_
            refine L.op1 rfl rfl (GSpec.plain rfl (spec_move rfl (Get.tmp rfl))) ?_
            refine L.op1 rfl rfl (GSpec.plain rfl (spec_move rfl (Get.tmp rfl))) ?_
            refine L.op1 rfl rfl (GSpec.plain rfl (spec_move rfl (Get.tmp rfl))) ?_
            refine L.op1 rfl rfl (GSpec.plain rfl (spec_move rfl (Get.tmp rfl))) ?_
            refine L.op1 rfl rfl (GSpec.plain rfl (spec_move rfl (Get.tmp rfl))) ?_
            rw [yes_turn (s := s) (e := (((A0.length + B0.length) / 2) - s))]
            rw [show ((pl + s : Nat) : Int) = (((P ++ A0.take s).length : Nat) : Int) by simp; omega, show ((pl + A0.length + (((A0.length + B0.length) / 2) - s) : Nat) : Int) = ((pl + A0.length + (B0.take (((A0.length + B0.length) / 2) - s)).length : Nat) : Int) by simp; omega]
            refine L.call rfl rfl rfl rfl Tryd.call62 (rotate_ok n c v (P ++ A0.take s) (A0.drop s) (B0.take (((A0.length + B0.length) / 2) - s)) (B0.drop (((A0.length + B0.length) / 2) - s) ++ S) (pl + A0.length) (by simp; omega) (by simp; omega) (by simp; omega) (by simp; omega)) (.cons 0 rfl .refl) (.cons (Get.tmp rfl) (.cons (Get.tmp rfl) (.cons (Get.tmp rfl) (.cons (Get.tmp rfl) (.cons (Get.tmp rfl) .nil))))) (fun _ => ?_)
            try dsimp only
            dsimp only [ownX]
            simp only [List.append_assoc, List.append_nil]
            refine L.nil ?_
            refine N.mid () ?hs5 ?hp5
            case hs5 => exact (.cons (t := 0) rfl (.cons (t := 1) rfl (.cons (t := 2) rfl (.cons (t := 3) rfl (.cons (t := 4) rfl (.cons (t := 18) rfl (.weak (t := 20) rfl (eqI (by first | rfl | omega | (simp only [List.length_append, List.length_take]; omega))) (.weak (t := 24) rfl (eqI (by first | rfl | omega | (simp only [List.length_append, List.length_take]; omega))) .nil))))))))
            case hp5 => exact (.cons 0 rfl .nil)
          · have ph6 := h6; simp only [decide_eq_true_eq, decide_eq_false_iff_not, Bool.and_eq_true, Bool.or_eq_true, Bool.and_eq_false_iff, Bool.or_eq_false_iff, Bool.not_eq_true', Bool.not_eq_false', Bool.not_true, Bool.not_false, Int.not_lt, Int.not_le] at ph6
            rw [no_turn (s := s) (e := (((A0.length + B0.length) / 2) - s)) (by omega)]
            refine W.skip ?_
            refine N.mid () ?hs6 ?hp6
            case hs6 => exact (.cons (t := 0) rfl (.cons (t := 1) rfl (.cons (t := 2) rfl (.cons (t := 3) rfl (.cons (t := 4) rfl (.cons (t := 18) rfl (.weak (t := 20) rfl (eqI (by first | rfl | omega | (simp only [List.length_append, List.length_take]; omega))) (.weak (t := 24) rfl (eqI (by first | rfl | omega | (simp only [List.length_append, List.length_take]; omega))) .nil))))))))
            case hp6 => exact (.cons 0 rfl .nil)
        intro _
        try dsimp only
        have hinT := in_turn (s := s) (e := (((A0.length + B0.length) / 2) - s)) hin
        refine W.cut (σ := {ys : List Int // Srt lt ys ∧ ys.Perm (A0.take s ++ B0.take (((A0.length + B0.length) / 2) - s))}) (fun z => [(0, Rp.val v), (3, Rp.int .i64 ((pl + A0.length + B0.length : Nat) : Int)), (4, pC n c), (18, Rp.int .i64 ((pl + ((A0.length + B0.length) / 2) : Nat) : Int)), (24, Rp.int .i64 ((pl + A0.length + (((A0.length + B0.length) / 2) - s) : Nat) : Int))]) (fun z => [MF.osl v 3 1 eI (P ++ (z.1 ++ (A0.drop s ++ (B0.drop (((A0.length + B0.length) / 2) - s) ++ S))))]) ?_ ?_
        · refine W.seq ?_
          refine W.region ?_
          refine L.op1 rfl rfl (GSpec.plain rfl (spec_move rfl (Get.tmp rfl))) ?_
          refine L.op1 rfl rfl (GSpec.plain rfl (spec_move rfl (Get.tmp rfl))) ?_
          refine L.op1 rfl rfl (GSpec.plain rfl (spec_lss rfl (Get.tmp rfl) (Get.tmp rfl))) ?_
          refine L.op1 rfl rfl (GSpec.plain rfl (spec_move rfl (Get.tmp rfl))) ?_
          refine L.op1 rfl rfl (GSpec.guard rfl rfl rfl fun hg => (spec_move rfl (Get.tmp rfl))) ?_
          refine L.op1 rfl rfl (GSpec.guard rfl rfl rfl fun hg => (spec_move rfl (Get.tmp rfl))) ?_
          refine L.op1 rfl rfl (GSpec.guard rfl rfl rfl fun hg => (spec_lss rfl (Get.opt rfl hg) (Get.opt rfl hg))) ?_
          refine L.op1 rfl rfl (GSpec.plain rfl (spec_and rfl (Get.tmp rfl) (fun hb => (Get.opt rfl hb)))) ?_
          refine L.nil ?_
          refine N.thenW ?_
          refine W.keep (.cons (t := 0) rfl (.cons (t := 1) rfl (.cons (t := 3) rfl (.cons (t := 4) rfl (.cons (t := 18) rfl (.cons (t := 20) rfl (.cons (t := 24) rfl (.cons (t := 199) rfl .nil)))))))) .refl ?_
          refine W.cond (Get.tmp rfl) (fun h7 => ?_) (fun h7 => ?_)
          · have ph7 := h7; try simp only [decide_eq_true_eq, decide_eq_false_iff_not, Bool.and_eq_true, Bool.or_eq_true, Bool.and_eq_false_iff, Bool.or_eq_false_iff, Bool.not_eq_true', Bool.not_eq_false', Bool.not_true, Bool.not_false, Int.not_lt, Int.not_le] at ph7
            refine W.region ?_
            refine L.op1 rfl rfl (GSpec.plain rfl (spec_move rfl (Get.tmp rfl))) ?_
            refine L.op1 rfl rfl (GSpec.plain rfl (spec_move rfl (Get.tmp rfl))) ?_
            refine L.op1 rfl rfl (GSpec.plain rfl (spec_move rfl (Get.tmp rfl))) ?_
            refine L.op1 rfl rfl (GSpec.plain rfl (spec_move rfl (Get.tmp rfl))) ?_
            refine L.op1 rfl rfl (GSpec.plain rfl (spec_move rfl (Get.tmp rfl))) ?_
            rw [show ((pl + s : Nat) : Int) = ((pl + (A0.take s).length : Nat) : Int) by simp; omega, show ((pl + ((A0.length + B0.length) / 2) : Nat) : Int) = ((pl + (A0.take s).length + (B0.take (((A0.length + B0.length) / 2) - s)).length : Nat) : Int) by simp; omega]
            refine L.call rfl rfl rfl rfl Tryd.call58 (ih P (A0.take s) (B0.take (((A0.length + B0.length) / 2) - s)) (A0.drop s ++ (B0.drop (((A0.length + B0.length) / 2) - s) ++ S)) pl hpl (by simp; omega) (by simp; omega) (by simp; omega) hinT (srt_take hsA s).1 (srt_take hsB _).1 (cross_sub hcr (fun _ h => List.mem_of_mem_take h) (fun _ h => List.mem_of_mem_take h)) (by simp; omega)) (.cons 0 rfl .refl) (.cons (Get.tmp rfl) (.cons (Get.tmp rfl) (.cons (Get.tmp rfl) (.cons (Get.tmp rfl) (.cons (Get.tmp rfl) .nil))))) (fun M205 => ?_)
            try dsimp only
            refine L.nil ?_
            refine N.mid M205 ?hs7 ?hp7
            case hs7 => exact (.cons (t := 0) rfl (.cons (t := 3) rfl (.cons (t := 4) rfl (.cons (t := 18) rfl (.cons (t := 24) rfl .nil)))))
            case hp7 => exact (.cons 0 rfl .nil)
          · have ph7 := h7; simp only [decide_eq_true_eq, decide_eq_false_iff_not, Bool.and_eq_true, Bool.or_eq_true, Bool.and_eq_false_iff, Bool.or_eq_false_iff, Bool.not_eq_true', Bool.not_eq_false', Bool.not_true, Bool.not_false, Int.not_lt, Int.not_le] at ph7
            have hside : A0.take s = [] ∨ B0.take (((A0.length + B0.length) / 2) - s) = [] := by by_cases q : s = 0; (left; rw [q]; rfl); (right; rw [show (((A0.length + B0.length) / 2) - s) = 0 by omega]; rfl)
            rw [show P ++ (A0.take s ++ (B0.take (((A0.length + B0.length) / 2) - s) ++ (A0.drop s ++ (B0.drop (((A0.length + B0.length) / 2) - s) ++ S)))) = P ++ ((A0.take s ++ B0.take (((A0.length + B0.length) / 2) - s)) ++ (A0.drop s ++ (B0.drop (((A0.length + B0.length) / 2) - s) ++ S))) by simp]
            refine W.skip ?_
            refine N.mid ⟨A0.take s ++ B0.take (((A0.length + B0.length) / 2) - s), one_side (srt_take hsA s).1 (srt_take hsB _).1 hside, .refl _⟩ ?hs8 ?hp8
            case hs8 => exact (.cons (t := 0) rfl (.cons (t := 3) rfl (.cons (t := 4) rfl (.cons (t := 18) rfl (.cons (t := 24) rfl .nil)))))
            case hp8 => exact (.cons 0 rfl .nil)
        intro ⟨M1, hs1, hp1⟩
        try dsimp only
        have hM1 : M1.length = ((A0.length + B0.length) / 2) := by rw [hp1.length_eq]; simp; omega
        have hinM := in_merged hinT hp1
        refine W.seq ?_
        refine W.region ?_
        refine L.op1 rfl rfl (GSpec.plain rfl (spec_move rfl (Get.tmp rfl))) ?_
        refine L.op1 rfl rfl (GSpec.plain rfl (spec_move rfl (Get.tmp rfl))) ?_
        refine L.op1 rfl rfl (GSpec.plain rfl (spec_lss rfl (Get.tmp rfl) (Get.tmp rfl))) ?_
        refine L.op1 rfl rfl (GSpec.plain rfl (spec_move rfl (Get.tmp rfl))) ?_
        refine L.op1 rfl rfl (GSpec.guard rfl rfl rfl fun hg => (spec_move rfl (Get.tmp rfl))) ?_
        refine L.op1 rfl rfl (GSpec.guard rfl rfl rfl fun hg => (spec_move rfl (Get.tmp rfl))) ?_
        refine L.op1 rfl rfl (GSpec.guard rfl rfl rfl fun hg => (spec_lss rfl (Get.opt rfl hg) (Get.opt rfl hg))) ?_
        refine L.op1 rfl rfl (GSpec.plain rfl (spec_and rfl (Get.tmp rfl) (fun hb => (Get.opt rfl hb)))) ?_
        refine L.nil ?_
        refine N.thenW ?_
        refine W.keep (.cons (t := 0) rfl (.cons (t := 3) rfl (.cons (t := 4) rfl (.cons (t := 18) rfl (.cons (t := 24) rfl (.cons (t := 213) rfl .nil)))))) .refl ?_
        refine W.cond (Get.tmp rfl) (fun h8 => ?_) (fun h8 => ?_)
        · have ph8 := h8; try simp only [decide_eq_true_eq, decide_eq_false_iff_not, Bool.and_eq_true, Bool.or_eq_true, Bool.and_eq_false_iff, Bool.or_eq_false_iff, Bool.not_eq_true', Bool.not_eq_false', Bool.not_true, Bool.not_false, Int.not_lt, Int.not_le] at ph8
          refine W.region ?_
          refine L.op1 rfl rfl (GSpec.plain rfl (spec_move rfl (Get.tmp rfl))) ?_
          refine L.op1 rfl rfl (GSpec.plain rfl (spec_move rfl (Get.tmp rfl))) ?_
          refine L.op1 rfl rfl (GSpec.plain rfl (spec_move rfl (Get.tmp rfl))) ?_
          refine L.op1 rfl rfl (GSpec.plain rfl (spec_move rfl (Get.tmp rfl))) ?_
          refine L.op1 rfl rfl (GSpec.plain rfl (spec_move rfl (Get.tmp rfl))) ?_
          rw [← List.append_assoc P M1]
          rw [show ((pl + A0.length + (((A0.length + B0.length) / 2) - s) : Nat) : Int) = ((pl + ((A0.length + B0.length) / 2) + (A0.drop s).length : Nat) : Int) by simp; omega, show ((pl + A0.length + B0.length : Nat) : Int) = ((pl + ((A0.length + B0.length) / 2) + (A0.drop s).length + (B0.drop (((A0.length + B0.length) / 2) - s)).length : Nat) : Int) by simp; omega]
          refine L.call rfl rfl rfl rfl Tryd.call58 (ih (P ++ M1) (A0.drop s) (B0.drop (((A0.length + B0.length) / 2) - s)) S (pl + ((A0.length + B0.length) / 2)) (by simp; omega) (by simp; omega) (by simp; omega) (by simp; omega) hinM (srt_take hsA s).2 (srt_take hsB _).2 (cross_sub hcr (fun _ h => List.mem_of_mem_drop h) (fun _ h => List.mem_of_mem_drop h)) (by simp; omega)) (.cons 0 rfl .refl) (.cons (Get.tmp rfl) (.cons (Get.tmp rfl) (.cons (Get.tmp rfl) (.cons (Get.tmp rfl) (.cons (Get.tmp rfl) .nil))))) (fun M219 => ?_)
          try dsimp only
          refine L.nil ?_
          rw [show (mrgX v lt (P ++ M1) (A0.drop s) (B0.drop (((A0.length + B0.length) / 2) - s)) S).F M219 = [MF.osl v 3 1 eI (P ++ ((M1 ++ M219.1) ++ S))] from congrArg (fun x => [MF.osl v 3 1 eI x]) (by simp)]
          refine N.ret (X := (mrgX _ _ _ _ _ _)) ⟨M1 ++ M219.1, cut_merge' hs1 hp1 M219.2.1 M219.2.2 (cut_apart ho hDAB hsA hsB f1 f2 f4 f5)⟩ rfl .nil res0 (.cons 0 rfl .nil) (fun _ _ h => h)
          skip
        · have ph8 := h8; simp only [decide_eq_true_eq, decide_eq_false_iff_not, Bool.and_eq_true, Bool.or_eq_true, Bool.and_eq_false_iff, Bool.or_eq_false_iff, Bool.not_eq_true', Bool.not_eq_false', Bool.not_true, Bool.not_false, Int.not_lt, Int.not_le] at ph8
          have hside : A0.drop s = [] ∨ B0.drop (((A0.length + B0.length) / 2) - s) = [] := by by_cases q : A0.length ≤ s; (left; exact List.drop_eq_nil_of_le q); (right; exact List.drop_eq_nil_of_le (by omega))
          refine W.skip ?_
          rw [show P ++ (M1 ++ (A0.drop s ++ (B0.drop (((A0.length + B0.length) / 2) - s) ++ S))) = P ++ ((M1 ++ (A0.drop s ++ B0.drop (((A0.length + B0.length) / 2) - s))) ++ S) by simp]
          refine N.ret (X := (mrgX _ _ _ _ _ _)) ⟨M1 ++ (A0.drop s ++ B0.drop (((A0.length + B0.length) / 2) - s)), cut_merge' hs1 hp1 (one_side (srt_take hsA s).2 (srt_take hsB _).2 hside) (.refl _) (cut_apart ho hDAB hsA hsB f1 f2 f4 f5)⟩ rfl .nil res0 (.cons 0 rfl .nil) (fun _ _ h => h)
          all_goals (first | rfl | (simp_all []; done) | omega)

end Go.Proofs.YtlbhpjigjehffaaDoor
set_option maxRecDepth 8000
set_option linter.unusedVariables false
namespace Go.Proofs.YtlbhpjigjehffaaDoor
open Go.Sim
theorem merge_at (n : Nat) (c : Int → Int → Int) (lt : Int → Int → Prop) (ho : Ord lt (fun x => 0 ≤ x ∧ x < n)) (v : Value) : ∀ (m : Nat) (P A B S : List Int) (pl : Nat), A.length + B.length < m → pl = P.length → 1 ≤ A.length → 1 ≤ B.length → inR n (P ++ (A ++ (B ++ S))) → Srt lt A → Srt lt B → Cross c lt A B → P.length + A.length + B.length + S.length ≤ 1000000 → CallT Tryd.prog 58 [Rp.val v, Rp.int .i64 (pl : Nat), Rp.int .i64 ((pl + A.length : Nat) : Int), Rp.int .i64 ((pl + A.length + B.length : Nat) : Int), pC n c] [MF.osl v 3 1 eI (P ++ (A ++ (B ++ S)))] (mrgX v lt P A B S) := by
  intro m
  induction m with
  | zero => intro P A B S pl h; omega
  | succ m ih =>
    intro P A B S pl hm hpl hA hB hin hsA hsB hcr hl
    by_cases a1 : A.length = 1
    · match A, a1 with
      | [x], _ => exact merge1_ok n c lt ho v P B S x pl hpl hin hsB hcr (by simp only [List.length_cons, List.length_nil] at hl; omega)
    · by_cases b1 : B.length = 1
      · match B, b1 with
        | [y], _ => exact merge2_ok n c lt ho v P A S y pl hpl (by omega) hin hsA hcr (by simp only [List.length_cons, List.length_nil] at hl; omega)
      · exact merge3_ok n c lt ho v P A B S pl hpl (by omega) (by omega) hin hsA hsB hcr hl
          (fun P' A' B' S' pl' e hlt => ih P' A' B' S' pl' (by omega) e)
theorem merge_ok (n : Nat) (c : Int → Int → Int) (lt : Int → Int → Prop) (ho : Ord lt (fun x => 0 ≤ x ∧ x < n)) (v : Value) (P A B S : List Int) (pl : Nat) (hpl : pl = P.length) (hA : 1 ≤ A.length) (hB : 1 ≤ B.length) (hin : inR n (P ++ (A ++ (B ++ S)))) (hsA : Srt lt A) (hsB : Srt lt B) (hcr : Cross c lt A B) (hl : P.length + A.length + B.length + S.length ≤ 1000000) : CallT Tryd.prog 58 [Rp.val v, Rp.int .i64 (pl : Nat), Rp.int .i64 ((pl + A.length : Nat) : Int), Rp.int .i64 ((pl + A.length + B.length : Nat) : Int), pC n c] [MF.osl v 3 1 eI (P ++ (A ++ (B ++ S)))] (mrgX v lt P A B S) :=
  merge_at n c lt ho v _ P A B S pl (Nat.lt_succ_self _) hpl hA hB hin hsA hsB hcr hl
end Go.Proofs.YtlbhpjigjehffaaDoor
/- Sorting twenty and more numbers: two blocks, one merge; as data. -/
namespace Go.Proofs.YtlbhpjigjehffaaDoor
open Go.Sim
/-- A comparison with the order that it makes of numbers with their places. -/
structure Cmp (n : Nat) (c : Int → Int → Int) (lt : Int → Int → Prop) : Prop where
  ord : Ord lt (fun x => 0 ≤ x ∧ x < n)
  cr : ∀ x y : Int, 0 ≤ x → x < y → y < n → (c y x < 0 ↔ lt y x)
theorem iota_at {n i : Nat} (h : i < n) : (iota n n).getD i default = (i : Int) := by
  simp [iota, List.getD, h]
/-- The two blocks, sorted each by itself. -/
def two1 (c : Int → Int → Int) (n : Nat) : List Int := insD c 0 19 (iota n n)
def two2 (c : Int → Int → Int) (n : Nat) : List Int := insD c 20 (n - 20 - 1) (two1 c n)
def allS (c : Int → Int → Int) (n : Nat) : List Int := insD c 0 (n - 1) (iota n n)
def at1 (c : Int → Int → Int) (n z : Nat) : List Int := if z = 0 then iota n n else two1 c n
def at2 (c : Int → Int → Int) (n z : Nat) : List Int := if z = 0 then two2 c n else allS c n
theorem at1_0 (c : Int → Int → Int) (n : Nat) : at1 c n 0 = iota n n := if_pos rfl
theorem at1_1 (c : Int → Int → Int) (n : Nat) : at1 c n 1 = two1 c n := if_neg (by decide)
theorem at2_0 (c : Int → Int → Int) (n : Nat) : at2 c n 0 = two2 c n := if_pos rfl
theorem at2_1 (c : Int → Int → Int) (n : Nat) : at2 c n 1 = allS c n := if_neg (by decide)
theorem two1_len (c : Int → Int → Int) (n : Nat) : (two1 c n).length = n := by unfold two1; rw [insD_len, iota_len]
theorem two2_len (c : Int → Int → Int) (n : Nat) : (two2 c n).length = n := by unfold two2; rw [insD_len, two1_len]
theorem allS_len (c : Int → Int → Int) (n : Nat) : (allS c n).length = n := by unfold allS; rw [insD_len, iota_len]
theorem two1_in (c : Int → Int → Int) {n : Nat} (h : 20 ≤ n) : inR n (two1 c n) := insD_in c 0 19 (iota_in n) (by rw [iota_len]; omega)
theorem two2_in (c : Int → Int → Int) {n : Nat} (h : 20 ≤ n) : inR n (two2 c n) := by
  unfold two2
  by_cases e : n = 20
  · rw [show n - 20 - 1 = 0 by omega]; exact two1_in c h
  · exact insD_in c 20 _ (two1_in c h) (by rw [two1_len]; omega)
section
variable {c : Int → Int → Int} {lt : Int → Int → Prop} {n : Nat}
theorem iota_mem {x : Int} (h : x ∈ iota n n) : 0 ≤ x ∧ x < n := iota_in n x h
theorem iota_take_mem {k : Nat} {x : Int} (h : x ∈ (iota n n).take k) : 0 ≤ x ∧ x < k ∧ x < n := by
  obtain ⟨i, hi, hil, rfl⟩ := mem_take h
  rw [iota_len] at hil
  rw [iota_at hil]; omega
theorem iota_drop_mem {k : Nat} {x : Int} (h : x ∈ (iota n n).drop k) : (k : Int) ≤ x ∧ x < n := by
  obtain ⟨i, hi, hil, rfl⟩ := mem_drop h
  rw [iota_len] at hil
  rw [iota_at hil]; omega
theorem cross_of (hc : Cmp n c lt) {A B : List Int} (hA : ∀ x ∈ A, 0 ≤ x) (hB : ∀ x ∈ B, x < n) (h : ∀ x ∈ A, ∀ y ∈ B, x < y) : Cross c lt A B :=
  fun x hx y hy => ⟨by have := h x hx y hy; omega, hc.cr x y (hA x hx) (h x hx y hy) (hB y hy)⟩
/-- Insertion over all leaves the sorted numbers. -/
theorem allS_is (hc : Cmp n c lt) (h : 1 ≤ n) : Srt lt (allS c n) ∧ (allS c n).Perm (iota n n) := by
  obtain ⟨Y, h1, h2, h3⟩ := insD_sorts hc.ord (P := []) (S := []) (X := iota n n) (c := c) (fun x hx => iota_in n x hx)
    (fun k hk => by
      rw [iota_len] at hk
      refine cross_of hc (fun x hx => (iota_take_mem hx).1) (fun x hx => ?_) (fun x hx y hy => ?_)
      · rw [List.mem_singleton] at hx; rw [hx, iota_at hk]; omega
      · rw [List.mem_singleton] at hy; rw [hy, iota_at hk]; exact (iota_take_mem hx).2.1)
    (n - 1) (by rw [iota_len]; omega)
  have e : allS c n = Y := by
    have h4 := h1
    rw [show n - 1 + 1 = n by omega, List.drop_of_length_le (by rw [iota_len]; exact Nat.le_refl _)] at h4
    simpa [allS] using h4
  rw [e]
  refine ⟨h2, ?_⟩
  rw [show n - 1 + 1 = n by omega, List.take_of_length_le (by rw [iota_len]; exact Nat.le_refl _)] at h3
  exact h3
/-- What lies there after both blocks. -/
theorem two2_is (hc : Cmp n c lt) (h : 20 ≤ n) : ∃ A B, two2 c n = A ++ B ∧ A.length = 20 ∧ Srt lt A ∧ Srt lt B ∧ (A ++ B).Perm (iota n n) ∧ Cross c lt A B := by
  have hcr : ∀ k, k < n → Cross c lt ((iota n n).take k) [(iota n n).getD k default] := fun k hk => by
    refine cross_of hc (fun x hx => (iota_take_mem hx).1) (fun x hx => ?_) (fun x hx y hy => ?_)
    · rw [List.mem_singleton] at hx; rw [hx, iota_at hk]; omega
    · rw [List.mem_singleton] at hy; rw [hy, iota_at hk]; exact (iota_take_mem hx).2.1
  have l20 : ((iota n n).take 20).length = 20 := by rw [List.length_take, iota_len]; omega
  obtain ⟨A, a1, a2, a3⟩ := insD_sorts hc.ord (P := []) (S := (iota n n).drop 20) (X := (iota n n).take 20) (c := c) (fun x hx => ⟨(iota_take_mem hx).1, (iota_take_mem hx).2.2⟩)
    (fun k hk => by
      rw [l20] at hk
      rw [List.take_take, Nat.min_eq_left (by omega), getD_take (by omega)]
      exact hcr k (by omega))
    19 (by omega)
  rw [List.take_of_length_le (show ((iota n n).take 20).length ≤ 19 + 1 by omega)] at a3
  have e1 : two1 c n = A ++ (iota n n).drop 20 := by
    have h4 := a1
    rw [List.drop_of_length_le (show ((iota n n).take 20).length ≤ 19 + 1 by omega), List.nil_append, List.nil_append, List.take_append_drop, List.nil_append] at h4
    exact h4
  have lA : A.length = 20 := by rw [a3.length_eq, l20]
  by_cases e : n = 20
  · refine ⟨A, [], ?_, lA, a2, trivial, ?_, fun x _ y hy => by simp at hy⟩
    · unfold two2
      rw [show n - 20 - 1 = 0 by omega, insD, e1, List.drop_of_length_le (by rw [iota_len]; omega)]
    · rw [List.append_nil]
      rw [List.take_of_length_le (by rw [iota_len]; omega)] at a3
      exact a3
  · have lX : ((iota n n).drop 20).length = n - 20 := by rw [List.length_drop, iota_len]
    obtain ⟨B, b1, b2, b3⟩ := insD_sorts hc.ord (P := A) (S := []) (X := (iota n n).drop 20) (c := c) (fun x hx => ⟨by have := (iota_drop_mem hx).1; omega, (iota_drop_mem hx).2⟩)
      (fun k hk => by
        rw [lX] at hk
        have eg : ((iota n n).drop 20).getD k default = ((20 + k : Nat) : Int) := by
          rw [← iota_at (show 20 + k < n by omega)]; simp [List.getD]
        refine cross_of hc (fun x hx => ?_) (fun x hx => ?_) (fun x hx y hy => ?_)
        · have := (iota_drop_mem (List.mem_of_mem_take hx)).1; omega
        · rw [List.mem_singleton] at hx; rw [hx, eg]; omega
        · rw [List.mem_singleton] at hy; rw [hy, eg]
          obtain ⟨i, hi, hil, rfl⟩ := mem_take hx
          rw [lX] at hil
          rw [show ((iota n n).drop 20).getD i default = ((20 + i : Nat) : Int) by rw [← iota_at (show 20 + i < n by omega)]; simp [List.getD]]
          omega)
      (n - 20 - 1) (by rw [lX]; omega)
    rw [show n - 20 - 1 + 1 = n - 20 by omega, List.take_of_length_le (by rw [lX]; exact Nat.le_refl _)] at b3
    rw [show n - 20 - 1 + 1 = n - 20 by omega, List.drop_of_length_le (show ((iota n n).drop 20).length ≤ n - 20 by rw [lX]; exact Nat.le_refl _), List.append_nil, List.append_nil, List.append_nil, lA] at b1
    refine ⟨A, B, ?_, lA, a2, b2, ?_, cross_of hc (fun x hx => ?_) (fun x hx => ?_) (fun x hx y hy => ?_)⟩
    · unfold two2; rw [e1, b1]
    · have := a3.append b3
      rw [List.take_append_drop] at this
      exact this
    · exact (iota_take_mem (a3.mem_iff.1 hx)).1
    · exact (iota_drop_mem (b3.mem_iff.1 hx)).2
    · have h1 := (iota_take_mem (a3.mem_iff.1 hx)).2.1
      have h2 := (iota_drop_mem (b3.mem_iff.1 hy)).1
      omega
theorem all_unique (hc : Cmp n c lt) (h : 1 ≤ n) {ys : List Int} (hs : Srt lt ys) (hp : ys.Perm (iota n n)) : ys = allS c n :=
  srt_unique hc.ord (fun x hx => iota_in n x (hp.mem_iff.1 hx)) (hp.trans (allS_is hc h).2.symm) hs (allS_is hc h).1
theorem two2_20 (hc : Cmp n c lt) (h : n = 20) : two2 c n = allS c n := by
  obtain ⟨A, B, e, l, s1, s2, p, _⟩ := two2_is hc (by omega)
  have : B = [] := by
    have hl := p.length_eq
    rw [List.length_append, iota_len] at hl
    exact List.length_eq_zero_iff.1 (by omega)
  subst this
  rw [List.append_nil] at e p
  rw [e]; exact all_unique hc (by omega) s1 p
end
/-- The merge of both blocks. -/
theorem merge2b_ok (n : Nat) (c : Int → Int → Int) (lt : Int → Int → Prop) (hc : Cmp n c lt) (v : Value) (h : 21 ≤ n) (h2 : n ≤ 39) : CallT Tryd.prog 58 [Rp.val v, Rp.int .i64 0, Rp.int .i64 20, Rp.int .i64 (n : Nat), pC n c] [MF.osl v 3 1 eI (two2 c n)] (ownX v (allS c n)) := by
  obtain ⟨A, B, e, l, s1, s2, p, cr⟩ := two2_is hc (show 20 ≤ n by omega)
  have hl := p.length_eq
  rw [List.length_append, iota_len] at hl
  have hm := merge_ok n c lt hc.ord v [] A B [] 0 rfl (by omega) (by omega) (by rw [List.nil_append, List.append_nil]; exact fun x hx => iota_in n x (p.mem_iff.1 hx)) s1 s2 cr (by simp; omega)
  rw [List.nil_append, List.append_nil, ← e, show ((0 : Nat) : Int) = 0 from rfl, show ((0 + A.length : Nat) : Int) = 20 by omega, show 0 + A.length + B.length = n by omega] at hm
  intro w C args hA hM
  refine Calls.mono (hm w C args hA hM) fun e' w' he => ?_
  obtain ⟨i, v', C', h1, h2, h3, h4, h5⟩ := he
  refine ⟨(), v', C', h1, h2, h3, ?_, ?_⟩
  · have := h4
    simp only [mrgX, List.nil_append, List.append_nil, all_unique hc (by omega) i.2.1 (i.2.2.trans p)] at this
    exact this
  · have := h5
    simp only [mrgX, List.nil_append, List.append_nil, all_unique hc (by omega) i.2.1 (i.2.2.trans p)] at this
    exact this
end Go.Proofs.YtlbhpjigjehffaaDoor
set_option linter.unusedSimpArgs false
set_option maxRecDepth 8000
set_option linter.unusedVariables false
namespace Go.Proofs.YtlbhpjigjehffaaDoor
open Go.Sim
theorem stable20_ok (n : Nat) (c : Int → Int → Int) (lt : Int → Int → Prop) (hc : Cmp n c lt) (v : Value) (h20 : 20 ≤ n) (h39 : n ≤ 39) : CallT Tryd.prog 47 [Rp.val v, Rp.int .i64 (n : Nat), pC n c] [MF.osl v 3 1 eI (iota n n)] (ownX v (allS c n)) := by
  refine W.enter (fn := Tryd.f47) (n := 63) Tryd.func47 rfl Tryd.ntmps47 rfl (fun w₀ C₀ => ?_)
  simp only [argS]
  have hl0 := iota_len n n
  have hi0 := iota_in n
  have hl1 := two1_len c n
  have hi1 := two1_in c h20
  refine W.seq ?_
  refine W.region ?_
  refine L.op1 rfl rfl (GSpec.plain rfl (spec_assign rfl (Get.cint rfl))) ?_
  refine L.nil ?_
  refine N.thenW ?_
  refine W.seq ?_
  refine W.region ?_
  refine L.op1 rfl rfl (GSpec.plain rfl (spec_move rfl (Get.tmp rfl))) ?_
  refine L.op1 rfl rfl (GSpec.plain rfl (spec_assign rfl (Get.cint rfl))) ?_
  refine L.op1 rfl rfl (GSpec.plain rfl (spec_assign rfl (Get.tmp rfl))) ?_
  refine L.nil ?_
  refine N.thenW ?_
  refine W.seq ?_
  refine W.block ?_
  refine W.loopK (σ := Nat) (.cons (t := 0) rfl (.cons (t := 1) rfl (.cons (t := 2) rfl (.cons (t := 6) rfl .nil)))) (fun z => [(7, Rp.int .i64 ((20 * z : Nat) : Int)), (8, Rp.int .i64 ((20 * (z + 1) : Nat) : Int))]) (fun z => [MF.osl v 3 1 eI (at1 c n z)]) (fun z => z ≤ 1) (fun z => 1 - z) 0 (by omega) (.weak (t := 7) rfl (eqI (by omega)) (.weak (t := 8) rfl (eqI (by omega)) .nil)) (.cons 0 rfl .nil) ?_
  intro z hI S' M' hS hM
  try dsimp only at hS hM
  simp only [List.cons_append, List.nil_append] at hS hM
  subst hS hM
  try dsimp only
  refine W.seq ?_
  refine W.seq ?_
  refine W.region ?_
  refine L.op1 rfl rfl (GSpec.plain rfl (spec_move rfl (Get.tmp rfl))) ?_
  refine L.op1 rfl rfl (GSpec.plain rfl (spec_move rfl (Get.tmp rfl))) ?_
  refine L.op1 rfl rfl (GSpec.plain rfl (spec_leq rfl (Get.tmp rfl) (Get.tmp rfl))) ?_
  refine L.nil ?_
  refine N.thenW ?_
  refine W.cond (Get.tmp rfl) (fun h1 => ?_) (fun h1 => ?_)
  · have ph1 := h1; simp only [decide_eq_true_eq, decide_eq_false_iff_not, Bool.and_eq_true, Bool.or_eq_true, Bool.and_eq_false_iff, Bool.or_eq_false_iff, Bool.not_eq_true', Bool.not_eq_false', Bool.not_true, Bool.not_false, Int.not_lt, Int.not_le] at ph1
    have hz : z = 0 := by omega
    subst hz
    rw [at1_0]
    refine W.skip ?_
    refine N.thenW ?_
    refine W.block ?_
    refine W.seq ?_
    refine W.region ?_
    refine L.op1 rfl rfl (GSpec.plain rfl (spec_move rfl (Get.tmp rfl))) ?_
    refine L.op1 rfl rfl (GSpec.plain rfl (spec_move rfl (Get.tmp rfl))) ?_
    refine L.op1 rfl rfl (GSpec.plain rfl (spec_move rfl (Get.tmp rfl))) ?_
    refine L.op1 rfl rfl (GSpec.plain rfl (spec_move rfl (Get.tmp rfl))) ?_
    refine L.call rfl rfl rfl rfl Tryd.call57 (insert_ok n c v 0 19 (iota n n) hi0 (by omega) (by omega)) (.cons 0 rfl .refl) (.cons (Get.tmp rfl) (.cons (Get.tmp rfl) (.cons (Get.tmp rfl) (.cons (Get.tmp rfl) .nil)))) (fun _ => ?_)
    try dsimp only
    refine L.nil ?_
    refine N.thenW ?_
    refine W.seq ?_
    refine W.region ?_
    refine L.op1 rfl rfl (GSpec.plain rfl (spec_move rfl (Get.tmp rfl))) ?_
    refine L.op1 rfl rfl (GSpec.plain rfl (spec_assign rfl (Get.tmp rfl))) ?_
    refine L.nil ?_
    refine N.thenW ?_
    refine W.region ?_
    refine L.op1 rfl rfl (GSpec.plain rfl (spec_move rfl (Get.tmp rfl))) ?_
    refine L.op1 rfl rfl (GSpec.plain rfl (spec_move rfl (Get.tmp rfl))) ?_
    first | refine L.op1 rfl rfl (GSpec.plain rfl (fit_i64 (by omega) (by omega) (spec_add rfl (Get.tmp rfl) (Get.tmp rfl)))) ?_ | refine L.op1 rfl rfl (GSpec.plain rfl (spec_add rfl (Get.tmp rfl) (Get.tmp rfl))) ?_
    refine L.op1 rfl rfl (GSpec.plain rfl (spec_assign rfl (Get.tmp rfl))) ?_
    refine L.nil ?_
    refine N.blockNormal ?_
    refine N.roundK (0 + 1) ?hI1 ?hmu1 ?hs1 ?hk1 ?hp1
    case hs1 => exact (.weak (t := 7) rfl (eqI (by omega)) (.weak (t := 8) rfl (eqI (by omega)) .nil))
    case hk1 => exact (.cons (t := 0) rfl (.cons (t := 1) rfl (.cons (t := 2) rfl (.cons (t := 6) rfl .nil))))
    case hp1 => rw [show at1 c n (0 + 1) = insD c 0 19 (iota n n) from at1_1 c n]; exact (.cons 0 rfl .nil)
    all_goals (first | rfl | trivial | omega | (simp_all; done))
  · have ph1 := h1; simp only [decide_eq_true_eq, decide_eq_false_iff_not, Bool.and_eq_true, Bool.or_eq_true, Bool.and_eq_false_iff, Bool.or_eq_false_iff, Bool.not_eq_true', Bool.not_eq_false', Bool.not_true, Bool.not_false, Int.not_lt, Int.not_le] at ph1
    have hz : z = 1 := by omega
    subst hz
    rw [at1_1]
    refine W.exit ?_
    refine N.thenExit ?_
    refine N.thenExit ?_
    refine N.blockExit ?_
    refine N.thenW ?_
    refine W.seq ?_
    refine W.region ?_
    refine L.op1 rfl rfl (GSpec.plain rfl (spec_move rfl (Get.tmp rfl))) ?_
    refine L.op1 rfl rfl (GSpec.plain rfl (spec_move rfl (Get.tmp rfl))) ?_
    refine L.op1 rfl rfl (GSpec.plain rfl (spec_move rfl (Get.tmp rfl))) ?_
    refine L.op1 rfl rfl (GSpec.plain rfl (spec_move rfl (Get.tmp rfl))) ?_
    refine L.call rfl rfl rfl rfl Tryd.call57 (insert2_ok n c v 20 n (two1 c n) hi1 (by omega) (by omega) (by omega)) (.cons 0 rfl .refl) (.cons (Get.tmp rfl) (.cons (Get.tmp rfl) (.cons (Get.tmp rfl) (.cons (Get.tmp rfl) .nil)))) (fun _ => ?_)
    try dsimp only
    refine L.nil ?_
    refine N.thenW ?_
    rw [show insD c 20 (n - 20 - 1) (two1 c n) = at2 c n 0 from (at2_0 c n).symm]
    refine W.keep (.cons (t := 0) rfl (.cons (t := 1) rfl (.cons (t := 2) rfl (.cons (t := 6) rfl (.cons (t := 7) rfl (.cons (t := 8) rfl .nil)))))) .refl ?_
    refine W.block ?_
    -- assigned in the loop, not kept: [7, 8]
    refine W.loopK (σ := Nat) (.cons (t := 0) rfl (.cons (t := 1) rfl (.cons (t := 2) rfl .nil))) (fun z => [(6, Rp.int .i64 ((20 * (z + 1) : Nat) : Int))]) (fun z => [MF.osl v 3 1 eI (at2 c n z)]) (fun z => z ≤ 1) (fun z => 1 - z) 0 (by omega) (.weak (t := 6) rfl (eqI (by omega)) .nil) (.cons 0 rfl .nil) ?_
    intro z hI S' M' hS hM
    try dsimp only at hS hM
    simp only [List.cons_append, List.nil_append] at hS hM
    subst hS hM
    try dsimp only
    refine W.seq ?_
    refine W.seq ?_
    refine W.region ?_
    refine L.op1 rfl rfl (GSpec.plain rfl (spec_move rfl (Get.tmp rfl))) ?_
    refine L.op1 rfl rfl (GSpec.plain rfl (spec_move rfl (Get.tmp rfl))) ?_
    refine L.op1 rfl rfl (GSpec.plain rfl (spec_lss rfl (Get.tmp rfl) (Get.tmp rfl))) ?_
    refine L.nil ?_
    refine N.thenW ?_
    refine W.cond (Get.tmp rfl) (fun h2 => ?_) (fun h2 => ?_)
    · have ph2 := h2; simp only [decide_eq_true_eq, decide_eq_false_iff_not, Bool.and_eq_true, Bool.or_eq_true, Bool.and_eq_false_iff, Bool.or_eq_false_iff, Bool.not_eq_true', Bool.not_eq_false', Bool.not_true, Bool.not_false, Int.not_lt, Int.not_le] at ph2
      have hz : z = 0 := by omega
      subst hz
      rw [at2_0]
      refine W.skip ?_
      refine N.thenW ?_
      refine W.block ?_
      refine W.seq ?_
      refine W.region ?_
      refine L.op1 rfl rfl (GSpec.plain rfl (spec_move rfl (Get.tmp rfl))) ?_
      first | refine L.op1 rfl rfl (GSpec.plain rfl (fit_i64 (by omega) (by omega) (spec_mul rfl (Get.cint rfl) (Get.tmp rfl)))) ?_ | refine L.op1 rfl rfl (GSpec.plain rfl (spec_mul rfl (Get.cint rfl) (Get.tmp rfl))) ?_
      refine L.op1 rfl rfl (GSpec.plain rfl (spec_assign rfl (Get.cint rfl))) ?_
      refine L.op1 rfl rfl (GSpec.plain rfl (spec_assign rfl (Get.tmp rfl))) ?_
      refine L.nil ?_
      refine N.thenW ?_
      refine W.seq ?_
      refine W.block ?_
      refine W.loopK (σ := Unit) (.cons (t := 0) rfl (.cons (t := 1) rfl (.cons (t := 2) rfl (.cons (t := 6) rfl (.cons (t := 28) rfl (.cons (t := 29) rfl (.cons (t := 30) rfl (.cons (t := 31) rfl (.cons (t := 32) rfl .nil))))))))) (fun z => [(7, Rp.int .i64 0), (8, Rp.int .i64 40)]) (fun z => []) (fun z => True) (fun z => 0) () trivial (.weak (t := 7) rfl (eqI (by omega)) (.weak (t := 8) rfl (eqI (by omega)) .nil)) (.cons 0 rfl .nil) ?_
      intro _ hI S' M' hS hM
      try dsimp only at hS hM
      simp only [List.cons_append, List.nil_append] at hS hM
      subst hS hM
      try dsimp only
      refine W.seq ?_
      refine W.seq ?_
      refine W.region ?_
      refine L.op1 rfl rfl (GSpec.plain rfl (spec_move rfl (Get.tmp rfl))) ?_
      refine L.op1 rfl rfl (GSpec.plain rfl (spec_move rfl (Get.tmp rfl))) ?_
      refine L.op1 rfl rfl (GSpec.plain rfl (spec_leq rfl (Get.tmp rfl) (Get.tmp rfl))) ?_
      refine L.nil ?_
      refine N.thenW ?_
      refine W.cond (Get.tmp rfl) (fun h3 => ?_) (fun h3 => ?_)
      · exfalso; have h := of_decide_eq_true h3; omega
      · have ph3 := h3; try simp only [decide_eq_true_eq, decide_eq_false_iff_not, Bool.and_eq_true, Bool.or_eq_true, Bool.and_eq_false_iff, Bool.or_eq_false_iff, Bool.not_eq_true', Bool.not_eq_false', Bool.not_true, Bool.not_false, Int.not_lt, Int.not_le] at ph3
        refine W.exit ?_
        refine N.thenExit ?_
        refine N.thenExit ?_
        refine N.blockExit ?_
        refine N.thenW ?_
        refine W.seq ?_
        refine W.seq ?_
        refine W.region ?_
        refine L.op1 rfl rfl (GSpec.plain rfl (spec_move rfl (Get.tmp rfl))) ?_
        refine L.op1 rfl rfl (GSpec.plain rfl (spec_move rfl (Get.tmp rfl))) ?_
        first | refine L.op1 rfl rfl (GSpec.plain rfl (fit_i64 (by omega) (by omega) (spec_add rfl (Get.tmp rfl) (Get.tmp rfl)))) ?_ | refine L.op1 rfl rfl (GSpec.plain rfl (spec_add rfl (Get.tmp rfl) (Get.tmp rfl))) ?_
        refine L.op1 rfl rfl (GSpec.plain rfl (spec_assign rfl (Get.tmp rfl))) ?_
        refine L.nil ?_
        refine N.thenW ?_
        refine W.seq ?_
        refine W.region ?_
        refine L.op1 rfl rfl (GSpec.plain rfl (spec_move rfl (Get.tmp rfl))) ?_
        refine L.op1 rfl rfl (GSpec.plain rfl (spec_move rfl (Get.tmp rfl))) ?_
        refine L.op1 rfl rfl (GSpec.plain rfl (spec_lss rfl (Get.tmp rfl) (Get.tmp rfl))) ?_
        refine L.nil ?_
        refine N.thenW ?_
        refine W.cond (Get.tmp rfl) (fun h4 => ?_) (fun h4 => ?_)
        · have ph4 := h4; try simp only [decide_eq_true_eq, decide_eq_false_iff_not, Bool.and_eq_true, Bool.or_eq_true, Bool.and_eq_false_iff, Bool.or_eq_false_iff, Bool.not_eq_true', Bool.not_eq_false', Bool.not_true, Bool.not_false, Int.not_lt, Int.not_le] at ph4
          refine W.region ?_
          refine L.op1 rfl rfl (GSpec.plain rfl (spec_move rfl (Get.tmp rfl))) ?_
          refine L.op1 rfl rfl (GSpec.plain rfl (spec_move rfl (Get.tmp rfl))) ?_
          refine L.op1 rfl rfl (GSpec.plain rfl (spec_move rfl (Get.tmp rfl))) ?_
          refine L.op1 rfl rfl (GSpec.plain rfl (spec_move rfl (Get.tmp rfl))) ?_
          refine L.op1 rfl rfl (GSpec.plain rfl (spec_move rfl (Get.tmp rfl))) ?_
          rw [show (0 : Int) + ((20 * (0 + 1) : Nat) : Int) = 20 by omega]
          refine L.call rfl rfl rfl rfl Tryd.call58 (merge2b_ok n c lt hc v (by omega) h39) (.cons 0 rfl .refl) (.cons (Get.tmp rfl) (.cons (Get.tmp rfl) (.cons (Get.tmp rfl) (.cons (Get.tmp rfl) (.cons (Get.tmp rfl) .nil))))) (fun M60 => ?_)
          try dsimp only
          refine L.nil ?_
          refine N.thenW ?_
          refine W.region ?_
          refine L.op1 rfl rfl (GSpec.plain rfl (spec_move rfl (Get.tmp rfl))) ?_
          first | refine L.op1 rfl rfl (GSpec.plain rfl (fit_i64 (by omega) (by omega) (spec_mul rfl (Get.tmp rfl) (Get.cint rfl)))) ?_ | refine L.op1 rfl rfl (GSpec.plain rfl (spec_mul rfl (Get.tmp rfl) (Get.cint rfl))) ?_
          refine L.op1 rfl rfl (GSpec.plain rfl (spec_assign rfl (Get.tmp rfl))) ?_
          refine L.nil ?_
          refine N.blockNormal ?_
          refine N.roundK (0 + 1) ?hI2 ?hmu2 ?hs2 ?hk2 ?hp2
          case hs2 => exact (.weak (t := 6) rfl (eqI (by omega)) .nil)
          case hk2 => exact (.cons (t := 0) rfl (.cons (t := 1) rfl (.cons (t := 2) rfl .nil)))
          case hp2 => rw [show at2 c n (0 + 1) = allS c n from at2_1 c n]; exact (.cons 0 rfl .nil)
          all_goals (first | rfl | trivial | omega | (simp_all; done))
        · exfalso; have h := of_decide_eq_false h4; omega
    · have ph2 := h2; simp only [decide_eq_true_eq, decide_eq_false_iff_not, Bool.and_eq_true, Bool.or_eq_true, Bool.and_eq_false_iff, Bool.or_eq_false_iff, Bool.not_eq_true', Bool.not_eq_false', Bool.not_true, Bool.not_false, Int.not_lt, Int.not_le] at ph2
      have hfin : at2 c n z = allS c n := by by_cases hz : z = 0; (subst hz; exact two2_20 hc (by omega)); (rw [show z = 1 by omega]; exact at2_1 c n)
      rw [hfin]
      refine W.exit ?_
      refine N.thenExit ?_
      refine N.thenExit ?_
      refine N.blockExit ?_
      refine N.ret () rfl .nil res0 (.cons 0 rfl .nil) (fun _ _ h => h)
      skip

end Go.Proofs.YtlbhpjigjehffaaDoor
/- The order of jobs is an order; sorting up to 39 of them. -/
namespace Go.Proofs.YtlbhpjigjehffaaDoor
open Go.Sim
def priOf (l : List Jb) (x : Int) : Int := (l.getD x.toNat default).pri
def aheadP (l : List Jb) (x y : Int) : Prop := priOf l y < priOf l x ∨ (priOf l x = priOf l y ∧ (costAt l y < costAt l x ∨ (costAt l x = costAt l y ∧ x < y)))
theorem cmpI_is (x y : Int) : (cmpI x y = -1 ∧ x < y) ∨ (cmpI x y = 1 ∧ y < x) ∨ (cmpI x y = 0 ∧ x = y) := by
  unfold cmpI
  by_cases h : x < y
  · rw [if_pos h]; exact .inl ⟨rfl, h⟩
  · by_cases h2 : y < x
    · rw [if_neg h, if_pos h2]; exact .inr (.inl ⟨rfl, h2⟩)
    · rw [if_neg h, if_neg h2]; exact .inr (.inr ⟨rfl, by omega⟩)
theorem orD2 (a b : Int) : (a ≠ 0 ∧ orD [a, b] = a) ∨ (a = 0 ∧ orD [a, b] = b) := by
  by_cases h : a = 0
  · right
    refine ⟨h, ?_⟩
    by_cases h2 : b = 0
    · simp [orD, h, h2]
    · simp [orD, h, h2]
  · left; exact ⟨h, by simp [orD, h]⟩
theorem cmpF_neg (l : List Jb) (a b : Int) : cmpF l a b < 0 ↔ priOf l b < priOf l a ∨ (priOf l a = priOf l b ∧ costAt l b < costAt l a) := by
  have h1 := cmpI_is (priOf l b) (priOf l a)
  have h2 := cmpI_is (costAt l b) (costAt l a)
  have h3 := orD2 (cmpI (priOf l b) (priOf l a)) (cmpI (costAt l b) (costAt l a))
  have h4 : cmpF l a b = orD [cmpI (priOf l b) (priOf l a), cmpI (costAt l b) (costAt l a)] := rfl
  omega
/-- The jobs' comparison makes an order. -/
theorem cmp_jobs (l : List Jb) (n : Nat) : Cmp n (cmpF l) (aheadP l) where
  ord := { irr := fun x _ h => by unfold aheadP at h; omega
           tr := fun x y z _ _ _ h1 h2 => by unfold aheadP at *; omega
           tot := fun x y _ _ h => by unfold aheadP; omega }
  cr := fun x y _ h _ => by rw [cmpF_neg]; unfold aheadP; omega
/-- The sort of numbers in their order. -/
theorem stableA_ok (n : Nat) (c : Int → Int → Int) (lt : Int → Int → Prop) (hc : Cmp n c lt) (v : Value) (h39 : n ≤ 39) : CallT Tryd.prog 47 [Rp.val v, Rp.int .i64 (n : Nat), pC n c] [MF.osl v 3 1 eI (iota n n)] (ownX v (allS c n)) := by
  by_cases e : n ≤ 19
  · have h1 := stable_ok n c v (iota n n) (iota_in n) (by rw [iota_len]; omega)
    rw [iota_len] at h1
    exact h1
  · exact stable20_ok n c lt hc v (by omega) h39
theorem ordS_all (l : List Jb) : ordS l = allS (cmpF l) l.length := rfl
end Go.Proofs.YtlbhpjigjehffaaDoor
set_option linter.unusedSimpArgs false
set_option maxRecDepth 8000
set_option linter.unusedVariables false
namespace Go.Proofs.YtlbhpjigjehffaaDoor
open Go.Sim
theorem sortStable_ok (n : Nat) (c : Int → Int → Int) (lt : Int → Int → Prop) (hc : Cmp n c lt) (v : Value) (h39 : n ≤ 39) : CallT Tryd.prog 28 [Rp.val v, pC n c] [MF.osl v 3 1 eI (iota n n)] (ownX v (allS c n)) := by
  refine W.enter (fn := Tryd.f28) (n := 9) Tryd.func28 rfl Tryd.ntmps28 rfl (fun w₀ C₀ => ?_)
  simp only [argS]
  have hl0 := iota_len n n
  refine W.region ?_
  refine L.op1 rfl rfl (GSpec.plain rfl (spec_move rfl (Get.tmp rfl))) ?_
  refine L.op1 rfl rfl (GSpec.plain rfl (spec_move rfl (Get.tmp rfl))) ?_
  refine L.op1 rfl rfl (GSpec.plain rfl (spec_lenO (k := 0) rfl Tryd.underlying32 (Get.tmp rfl) rfl)) ?_
  rw [hl0]
  refine L.op1 rfl rfl (GSpec.plain rfl (spec_move rfl (Get.tmp rfl))) ?_
  refine L.call rfl rfl rfl rfl Tryd.call47 (stableA_ok _ _ _ hc _ h39) (.cons 0 rfl .refl) (.cons (Get.tmp rfl) (.cons (Get.tmp rfl) (.cons (Get.tmp rfl) .nil))) (fun _ => ?_)
  try dsimp only
  refine L.nil ?_
  refine N.ret () rfl .nil res0 (.cons 0 rfl .nil) (fun _ _ h => h)
  skip

theorem order_ok (l : List Jb) (h39 : l.length ≤ 39) : CallT Tryd.prog 16 [Rp.slice eJ l] [] (.one (Rp.slice eI (ordS l))) := by
  refine W.enter (fn := Tryd.f16) (n := 22) Tryd.func16 rfl Tryd.ntmps16 rfl (fun w₀ C₀ => ?_)
  simp only [argS]
  have hin := iota_in l.length
  have hil := iota_len l.length l.length
  have hz0 := iota_len l.length 0
  refine W.seq ?_
  refine W.region ?_
  refine L.box rfl rfl (GSpec.plain rfl (spec_box rfl (GetC.one (Get.tmp rfl)))) (fun r1 => ?_)
  refine L.op1 rfl rfl (GSpec.plain rfl (spec_assign rfl (Get.cnil (E := eI)))) ?_
  refine L.nil ?_
  refine N.thenW ?_
  refine W.seq ?_
  refine W.region ?_
  refine L.op1 rfl rfl (GSpec.plain rfl (spec_load1 (k := 0) rfl Tryd.isAgg22 (Get.tmp rfl) rfl rfl)) ?_
  refine L.op1 rfl rfl (GSpec.plain rfl (spec_len rfl Tryd.underlying22 (Get.tmp rfl))) ?_
  refine L.op rfl rfl (GSpec.plain rfl (spec_makeSlice (z₀ := (0 : Int)) (E := eI) rfl Tryd.underlying32 ti3 z3 (fun _ => rfl) (Get.tmp rfl) (Get.tmp rfl) (by omega) (by omega) (by omega))) (fun v7 => ?_)
  refine L.op1 rfl rfl (GSpec.plain rfl (spec_assign rfl (Get.tmp rfl))) ?_
  refine L.nil ?_
  refine N.thenW ?_
  refine W.keep (.cons (t := 1) rfl (.cons (t := 2) rfl (.cons (t := 3) rfl .nil))) .refl ?_
  refine W.seq ?_
  refine W.seq ?_
  refine W.region ?_
  refine L.op1 rfl rfl (GSpec.plain rfl (spec_move rfl (Get.tmp rfl))) ?_
  refine L.op1 rfl rfl (GSpec.plain rfl (spec_lenO (k := 0) rfl Tryd.underlying32 (Get.tmp rfl) rfl)) ?_
  refine L.op1 rfl rfl (GSpec.plain rfl (spec_move rfl (Get.cint rfl))) ?_
  refine L.nil ?_
  refine N.thenW ?_
  rw [show List.replicate ((l.length : Nat) : Int).toNat (0 : Int) = iota l.length 0 by rw [iota_zero]; rfl]
  refine W.block ?_
  refine W.loopK (σ := Nat) (.cons (t := 1) rfl (.cons (t := 2) rfl (.cons (t := 3) rfl (.cons (t := 9) rfl .nil)))) (fun z => [(10, Rp.int .i64 (z : Nat))]) (fun z => [MF.osl v7 3 1 eI (iota l.length z)]) (fun z => z ≤ l.length) (fun z => l.length - z) 0 (Nat.zero_le _) (.cons (t := 10) rfl .nil) (.cons 0 rfl (.cons 0 rfl .nil)) ?_
  intro i hI S' M' hS hM
  try dsimp only at hS hM
  simp only [List.cons_append, List.nil_append] at hS hM
  subst hS hM
  try dsimp only
  have hzl := iota_len l.length i
  refine W.seq ?_
  refine W.region ?_
  refine L.op1 rfl rfl (GSpec.plain rfl (spec_lss rfl (Get.tmp rfl) (Get.tmp rfl))) ?_
  refine L.nil ?_
  refine N.thenW ?_
  refine W.seq ?_
  refine W.cond (Get.tmp rfl) (fun h1 => ?_) (fun h1 => ?_)
  · have ph1 := h1; try simp only [decide_eq_true_eq, decide_eq_false_iff_not, Bool.and_eq_true, Bool.or_eq_true, Bool.and_eq_false_iff, Bool.or_eq_false_iff, Bool.not_eq_true', Bool.not_eq_false', Bool.not_true, Bool.not_false, Int.not_lt, Int.not_le] at ph1
    refine W.skip ?_
    refine N.thenW ?_
    refine W.seq ?_
    refine W.block ?_
    refine W.seq ?_
    refine W.region ?_
    refine L.op1 rfl rfl (GSpec.plain rfl (spec_move rfl (Get.tmp rfl))) ?_
    refine L.op1 rfl rfl (GSpec.plain rfl (spec_assign rfl (Get.tmp rfl))) ?_
    refine L.nil ?_
    refine N.thenW ?_
    refine W.region ?_
    refine L.op1 rfl rfl (GSpec.plain rfl (spec_move rfl (Get.tmp rfl))) ?_
    refine L.op1 rfl rfl (GSpec.plain rfl (spec_move rfl (Get.tmp rfl))) ?_
    refine L.op1 rfl rfl (GSpec.plain rfl (spec_move rfl (Get.tmp rfl))) ?_
    refine L.op1 rfl rfl (GSpec.plain rfl (spec_indexAddrO (k := 0) (E := eI) rfl Tryd.underlying32 Tryd.sizeOf3 (Get.tmp rfl) (Get.tmp rfl) rfl (by omega))) ?_
    refine L.storeO1 (k := 0) (j := 0) (E := eI) rfl rfl rfl Tryd.sizeOf3 (fun _ => rfl) (Get.tmp rfl) (Get.tmp rfl) rfl rfl (by decide) (getD_some (by omega)) rfl ?_
    refine L.nil ?_
    refine N.blockNormal ?_
    refine N.thenW ?_
    refine W.region ?_
    first | refine L.op1 rfl rfl (GSpec.plain rfl (fit_i64 (by omega) (by omega) (spec_add rfl (Get.tmp rfl) (Get.cint rfl)))) ?_ | refine L.op1 rfl rfl (GSpec.plain rfl (spec_add rfl (Get.tmp rfl) (Get.cint rfl))) ?_
    refine L.op1 rfl rfl (GSpec.plain rfl (spec_move rfl (Get.tmp rfl))) ?_
    refine L.nil ?_
    refine N.roundK (i + 1) ?hI1 ?hmu1 ?hs1 ?hk1 ?hp1
    case hs1 => exact (.cons (t := 10) rfl .nil)
    case hk1 => exact (.cons (t := 1) rfl (.cons (t := 2) rfl (.cons (t := 3) rfl (.cons (t := 9) rfl .nil))))
    case hp1 => rw [iota_set]; exact (.cons 0 rfl (.cons 0 rfl .nil))
    all_goals (first | rfl | trivial | omega | (simp_all; done))
  · have ph1 := h1; try simp only [decide_eq_true_eq, decide_eq_false_iff_not, Bool.and_eq_true, Bool.or_eq_true, Bool.and_eq_false_iff, Bool.or_eq_false_iff, Bool.not_eq_true', Bool.not_eq_false', Bool.not_true, Bool.not_false, Int.not_lt, Int.not_le] at ph1
    refine W.exit ?_
    refine N.thenExit ?_
    refine N.thenExit ?_
    refine N.blockExit ?_
    refine N.thenW ?_
    refine W.pubB 1 1 rfl rfl ?_
    have ei : i = l.length := by omega
    rw [ei]
    refine W.seq ?_
    refine W.region ?_
    refine L.op1 rfl rfl (GSpec.plain rfl (spec_move rfl (Get.tmp rfl))) ?_
    refine L.op1 rfl rfl (GSpec.plain rfl (spec_makeFunc rfl (.cons (Get.tmp rfl) .nil))) ?_
    refine L.call rfl rfl rfl rfl Tryd.call28 (sortStable_ok l.length (cmpF l) (aheadP l) (cmp_jobs l l.length) _ h39) (.cons 0 rfl .refl) (.cons (Get.tmp rfl) (.cons (Get.weak (Get.tmp rfl) (fn_of_clo Tryd.call29 (fun i => cmpF_ok l _ _ i.2.1 i.2.2))) .nil)) (fun _ => ?_)
    try dsimp only
    refine L.nil ?_
    refine N.thenW ?_
    rw [show allS (cmpF l) l.length = ordS l from rfl]
    refine W.pub (t := 3) (k := 0) rfl rfl (fun _ => rfl) ?_
    refine W.keep (.cons (t := 2) rfl (.cons (t := 3) rfl .nil)) .refl ?_
    refine W.seq ?_
    refine W.region ?_
    refine L.op1 rfl rfl (GSpec.plain rfl (spec_move rfl (Get.tmp rfl))) ?_
    refine L.op1 rfl rfl (GSpec.plain rfl (spec_assign rfl (Get.tmp rfl))) ?_
    refine L.nil ?_
    refine N.thenW ?_
    refine W.ret ?_
    refine N.ret () rfl (.tmp (t := 2) (Get.tmp rfl) .nil) (res1 (eqSl ?_)) .nil (fun _ _ h => h)
    rfl

theorem next_ok (l : List Jb) (h39 : l.length ≤ 39) : CallT Tryd.prog 13 [Rp.slice eJ l] [] (.one (Rp.tuple [Rp.int .i64 (nextE l).1, Rp.bool (nextE l).2])) := by
  refine W.enter (fn := Tryd.f13) (n := 11) Tryd.func13 rfl Tryd.ntmps13 rfl (fun w₀ C₀ => ?_)
  simp only [argS]
  refine W.seq ?_
  refine W.region ?_
  refine L.op1 rfl rfl (GSpec.plain rfl (spec_assign rfl (Get.cint rfl))) ?_
  refine L.op1 rfl rfl (GSpec.plain rfl (spec_assign rfl Get.cbool)) ?_
  refine L.nil ?_
  refine N.thenW ?_
  refine W.seq ?_
  refine W.seq ?_
  refine W.region ?_
  refine L.op1 rfl rfl (GSpec.plain rfl (spec_move rfl (Get.tmp rfl))) ?_
  refine L.op1 rfl rfl (GSpec.plain rfl (spec_len rfl Tryd.underlying22 (Get.tmp rfl))) ?_
  refine L.op1 rfl rfl (GSpec.plain rfl (spec_eql rfl (Get.tmp rfl) (Get.cint rfl))) ?_
  refine L.nil ?_
  refine N.thenW ?_
  refine W.cond (Get.tmp rfl) (fun h1 => ?_) (fun h1 => ?_)
  · have ph1 := h1; try simp only [decide_eq_true_eq, decide_eq_false_iff_not, Bool.and_eq_true, Bool.or_eq_true, Bool.and_eq_false_iff, Bool.or_eq_false_iff, Bool.not_eq_true', Bool.not_eq_false', Bool.not_true, Bool.not_false, Int.not_lt, Int.not_le] at ph1
    refine W.seq ?_
    refine W.region ?_
    refine L.op1 rfl rfl (GSpec.plain rfl (spec_assign rfl (Get.cint rfl))) ?_
    refine L.op1 rfl rfl (GSpec.plain rfl (spec_assign rfl Get.cbool)) ?_
    refine L.nil ?_
    refine N.thenW ?_
    refine W.keep (.cons (t := 0) rfl (.cons (t := 2) rfl (.cons (t := 3) rfl .nil))) .refl ?_
    refine W.ret ?_
    refine N.ret () rfl (.tmp (t := 2) (Get.tmp rfl) (.tmp (t := 3) (Get.tmp rfl) .nil)) (res2w (eqI ?_) (eqB ?_)) .nil (fun _ _ h => h)
    all_goals rw [next_no (by omega)]
  · have ph1 := h1; simp only [decide_eq_true_eq, decide_eq_false_iff_not, Bool.and_eq_true, Bool.or_eq_true, Bool.and_eq_false_iff, Bool.or_eq_false_iff, Bool.not_eq_true', Bool.not_eq_false', Bool.not_true, Bool.not_false, Int.not_lt, Int.not_le] at ph1
    have hol := ordS_len l
    refine W.skip ?_
    refine N.thenW ?_
    refine W.keep (.cons (t := 0) rfl (.cons (t := 2) rfl (.cons (t := 3) rfl .nil))) .refl ?_
    refine W.seq ?_
    refine W.region ?_
    refine L.op1 rfl rfl (GSpec.plain rfl (spec_move rfl (Get.tmp rfl))) ?_
    refine L.op1 rfl rfl (GSpec.plain rfl (spec_call rfl Tryd.call16 (order_ok _ (by omega)) (.cons (Get.tmp rfl) .nil))) ?_
    refine L.op1 rfl rfl (GSpec.plain rfl (spec_indexAddrD (E := eI) rfl Tryd.underlying32 Tryd.sizeOf3 (fun _ => rfl) (Get.tmp rfl) (Get.cint rfl) (by omega))) ?_
    refine L.op1 rfl rfl (GSpec.plain rfl (spec_loadP1 rfl Tryd.isAgg3 (Get.tmp rfl))) ?_
    refine L.op1 rfl rfl (GSpec.plain rfl (spec_assign rfl (Get.tmp rfl))) ?_
    refine L.op1 rfl rfl (GSpec.plain rfl (spec_assign rfl Get.cbool)) ?_
    refine L.nil ?_
    refine N.thenW ?_
    refine W.keep (.cons (t := 2) rfl (.cons (t := 3) rfl .nil)) .refl ?_
    refine W.ret ?_
    refine N.ret () rfl (.tmp (t := 2) (Get.tmp rfl) (.tmp (t := 3) (Get.tmp rfl) .nil)) (res2w (eqI ?_) (eqB ?_)) .nil (fun _ _ h => h)
    all_goals rw [next_yes (by omega)]
    all_goals rfl

end Go.Proofs.YtlbhpjigjehffaaDoor
/- Assigning jobs as data. -/
namespace Go.Proofs.YtlbhpjigjehffaaDoor
open Go.Sim
def minL : List Int → Int
  | [] => 0
  | x :: l => l.foldl min x
structure AS where
  rows : List (List Int)
  busy : List Int
def wAt (b : List Int) : Nat := (idxI (fun x => decide (minL b = x)) b).toNat
def stepA (l : List Jb) (s : AS) (i : Int) : AS := ⟨s.rows.set (wAt s.busy) (s.rows.getD (wAt s.busy) default ++ [i]), s.busy.set (wAt s.busy) (s.busy.getD (wAt s.busy) default + costAt l i)⟩
def runA (l : List Jb) (w : Nat) (ix : List Int) : AS := ix.foldl (stepA l) ⟨List.replicate w [], List.replicate w 0⟩
def assignE (l : List Jb) (w : Int) : List (List Int) × Int := if askedE l w ≠ 0 then ([], askedE l w) else ((runA l w.toNat (ordS l)).rows, 0)
theorem assign_no {l : List Jb} {w : Int} (h : askedE l w ≠ 0) : assignE l w = ([], askedE l w) := by unfold assignE; rw [if_pos h]
theorem assign_yes {l : List Jb} {w : Int} (h : askedE l w = 0) : assignE l w = ((runA l w.toNat (ordS l)).rows, 0) := by unfold assignE; rw [if_neg (by omega)]
theorem runA_step {l : List Jb} {w : Nat} {ix : List Int} {k : Nat} (hk : k < ix.length) : runA l w (ix.take (k + 1)) = stepA l (runA l w (ix.take k)) (ix.getD k default) := by
  unfold runA; rw [fold_take _ _ hk]
theorem foldmin_mem : ∀ (l : List Int) (x : Int), l.foldl min x = x ∨ l.foldl min x ∈ l
  | [], x => .inl rfl
  | y :: l, x => by
    rw [List.foldl_cons]
    rcases foldmin_mem l (min x y) with h | h
    · rw [h]
      by_cases e : x ≤ y
      · left; omega
      · right; rw [show min x y = y by omega]; exact List.mem_cons_self
    · right; exact List.mem_cons_of_mem _ h
theorem minL_mem {b : List Int} (h : 1 ≤ b.length) : minL b ∈ b := by
  cases b with
  | nil => simp at h
  | cons x l =>
    rcases foldmin_mem l x with h | h
    · show l.foldl min x ∈ _; rw [h]; exact List.mem_cons_self
    · exact List.mem_cons_of_mem _ h
theorem min_take {x : Int} {l : List Int} {k : Nat} (hk : k < l.length) : (l.take (k + 1)).foldl min x = min ((l.take k).foldl min x) (l.getD k default) := by rw [fold_take _ _ hk]
theorem wAt_eq {b : List Int} (h : 1 ≤ b.length) : idxI (fun x => decide (minL b = x)) b = ((wAt b : Nat) : Int) ∧ wAt b < b.length := by
  unfold wAt
  have hm := minL_mem h
  have hany : b.any (fun x => decide (minL b = x)) = true := List.any_eq_true.2 ⟨_, hm, by simp⟩
  have h1 := idx_any (fun x => decide (minL b = x)) b
  rw [hany, decide_eq_true_eq] at h1
  rcases idx_cases (fun x => decide (minL b = x)) b with ⟨i, h2, _, _, h4⟩ | ⟨_, h4⟩
  · rw [h4]; exact ⟨by omega, by omega⟩
  · omega
theorem runA_len (l : List Jb) (w : Nat) (ix : List Int) : (runA l w ix).rows.length = w ∧ (runA l w ix).busy.length = w := by
  unfold runA
  have key : ∀ (ix : List Int) (s : AS), s.rows.length = w ∧ s.busy.length = w → (ix.foldl (stepA l) s).rows.length = w ∧ (ix.foldl (stepA l) s).busy.length = w := by
    intro ix
    induction ix with
    | nil => intro s h; exact h
    | cons i ix ih => intro s h; exact ih _ ⟨by simp [stepA, h.1], by simp [stepA, h.2]⟩
  exact key ix _ ⟨by simp, by simp⟩
theorem busy_range {l : List Jb} (hl : jobsE l = 0) {w : Nat} {ix : List Int} (h : inR l.length ix) : ∀ k, k ≤ ix.length → ∀ j : Nat, 0 ≤ (runA l w (ix.take k)).busy.getD j default ∧ (runA l w (ix.take k)).busy.getD j default ≤ 1048576 * k
  | 0, _, j => by
    simp only [List.take_zero, runA, List.foldl_nil]
    have : (List.replicate w (0 : Int)).getD j default = 0 := by
      simp only [List.getD, List.getElem?_replicate]
      split <;> rfl
    rw [this]; omega
  | k + 1, hk, j => by
    have h1 := busy_range hl (w := w) h k (by omega)
    have h2 := h _ (getD_mem' (show k < ix.length by omega))
    have h3 := jobs_cost hl (show (ix.getD k default).toNat < l.length by omega)
    rw [runA_step (by omega)]
    show 0 ≤ (List.set _ _ _).getD j default ∧ _
    have e : ∀ (b : List Int) (u : Nat) (y : Int), (b.set u y).getD j default = if u = j ∧ u < b.length then y else b.getD j default := by
      intro b u y
      simp only [List.getD, List.getElem?_set]
      by_cases e : u = j
      · by_cases e2 : u < b.length
        · subst e; simp [e2]
        · subst e; simp [e2]
      · simp [e]
    unfold stepA
    dsimp only
    rw [e]
    have h4 := h1 (wAt (runA l w (ix.take k)).busy)
    have h5 := h1 j
    unfold costAt
    split <;> omega
theorem rows_range (l : List Jb) (w : Nat) (ix : List Int) : ∀ k, k ≤ ix.length → ∀ j : Nat, ((runA l w (ix.take k)).rows.getD j default).length ≤ k
  | 0, _, j => by
    simp only [List.take_zero, runA, List.foldl_nil]
    have : (List.replicate w ([] : List Int)).getD j default = [] := by
      simp only [List.getD, List.getElem?_replicate]
      split <;> rfl
    rw [this]; exact Nat.zero_le _
  | k + 1, hk, j => by
    have h1 := rows_range l w ix k (by omega)
    rw [runA_step (by omega)]
    have e : ∀ (b : List (List Int)) (u : Nat) (y : List Int), (b.set u y).getD j default = if u = j ∧ u < b.length then y else b.getD j default := by
      intro b u y
      simp only [List.getD, List.getElem?_set]
      by_cases e : u = j
      · by_cases e2 : u < b.length
        · subst e; simp [e2]
        · subst e; simp [e2]
      · simp [e]
    unfold stepA
    dsimp only
    rw [e]
    have h4 := h1 (wAt (runA l w (ix.take k)).busy)
    have h5 := h1 j
    split
    · rw [List.length_append, List.length_singleton]; omega
    · omega
theorem rows_nil (w : Nat) : feet (rowsM 3 1 eI (List.replicate w (Value.slice none 0 0)) (List.replicate w ([] : List Int))) = [] ∧ ∀ W C, ∀ F ∈ rowsM 3 1 eI (List.replicate w (Value.slice none 0 0)) (List.replicate w ([] : List Int)), F.p W C := by
  have e : rowsM 3 1 eI (List.replicate w (Value.slice none 0 0)) (List.replicate w ([] : List Int)) = List.replicate w (MF.osl (.slice none 0 0) 3 1 eI []) := by
    unfold rowsM
    apply List.ext_getElem?
    intro i
    simp only [List.getElem?_zipWith, List.getElem?_replicate]
    by_cases h : i < w <;> simp [h]
  rw [e]
  constructor
  · unfold feet
    rw [List.flatMap_eq_nil_iff]
    intro F hF
    rw [List.eq_of_mem_replicate hF]; rfl
  · intro W C F hF
    rw [List.eq_of_mem_replicate hF]
    exact ⟨[], World.ownsRow_nil W 0 3 1, by simp [AllR, AllP], by simp⟩
end Go.Proofs.YtlbhpjigjehffaaDoor
/- The document's order (by counting who is ahead) and its choice of workers, as data. -/
namespace Go.Proofs.YtlbhpjigjehffaaDoor
open Go.Sim
instance (l : List Jb) (x y : Int) : Decidable (aheadP l x y) := by unfold aheadP; infer_instance
/-- How many of the first m numbers are ahead. -/
def cntA (l : List Jb) (i : Int) (m : Nat) : Nat := ((List.range m).filter fun k => decide (aheadP l (k : Nat) i)).length
theorem cntA_yes {l : List Jb} {i : Int} {m : Nat} (h : aheadP l (m : Nat) i) : cntA l i (m + 1) = cntA l i m + 1 := by
  unfold cntA; rw [List.range_succ, List.filter_append]; simp [h]
theorem cntA_no {l : List Jb} {i : Int} {m : Nat} (h : ¬ aheadP l (m : Nat) i) : cntA l i (m + 1) = cntA l i m := by
  unfold cntA; rw [List.range_succ, List.filter_append]; simp [h]
theorem cntA_le (l : List Jb) (i : Int) (m : Nat) : cntA l i m ≤ m := by
  unfold cntA; exact Nat.le_trans (List.length_filter_le _ _) (by simp)
def rankA (l : List Jb) (i : Int) : Nat := cntA l i l.length
theorem iota_cast (n : Nat) : iota n n = (List.range n).map fun i : Nat => (i : Int) := by
  apply List.ext_getElem
  · simp [iota]
  · intro i h1 h2
    simp only [iota, List.length_map, List.length_range] at h1
    simp [iota, h1]
theorem ordS_srt {l : List Jb} (h : 1 ≤ l.length) : Srt (aheadP l) (ordS l) ∧ (ordS l).Perm (iota l.length l.length) := allS_is (cmp_jobs l l.length) h
theorem ordS_at {l : List Jb} {p : Nat} (h : p < l.length) : 0 ≤ (ordS l).getD p default ∧ (ordS l).getD p default < l.length :=
  ordS_in l _ (getD_mem' (by rw [ordS_len]; exact h))
theorem ahead_irr (l : List Jb) (x : Int) : ¬ aheadP l x x := by unfold aheadP; omega
theorem ahead_asy {l : List Jb} {x y : Int} (h : aheadP l x y) : ¬ aheadP l y x := by unfold aheadP at *; omega
/-- As many are ahead of the p-th as its place says. -/
theorem rank_at {l : List Jb} {p : Nat} (h : p < l.length) : rankA l ((ordS l).getD p default) = p := by
  obtain ⟨hs, hp⟩ := ordS_srt (l := l) (by omega)
  have hlen := ordS_len l
  generalize hy : (ordS l).getD p default = y
  have e1 : rankA l y = (iota l.length l.length).countP (fun x => decide (aheadP l x y)) := by
    unfold rankA cntA
    rw [iota_cast, List.countP_map, List.countP_eq_length_filter]
    rfl
  rw [e1, ← hp.countP_eq]
  have e2 : ordS l = (ordS l).take p ++ y :: (ordS l).drop (p + 1) := by rw [← hy]; exact split_at (by omega)
  rw [e2] at hs
  rw [e2, List.countP_append, List.countP_cons]
  have hs2 := srt_app.1 hs
  have c1 : ((ordS l).take p).countP (fun x => decide (aheadP l x y)) = p := by
    have : ((ordS l).take p).countP (fun x => decide (aheadP l x y)) = ((ordS l).take p).length := List.countP_eq_length.2 fun x hx => decide_eq_true (hs2.2.2 x hx y List.mem_cons_self)
    rw [this, List.length_take]; omega
  have c2 : ((ordS l).drop (p + 1)).countP (fun x => decide (aheadP l x y)) = 0 := List.countP_eq_zero.2 fun x hx => by
    have := ahead_asy (hs2.2.1.1 x hx)
    simpa using this
  rw [c1, c2, decide_eq_false (ahead_irr l y)]
  simp
theorem rank_lt {l : List Jb} {z : Nat} (h : z < l.length) : rankA l (z : Nat) < l.length ∧ (ordS l).getD (rankA l (z : Nat)) default = (z : Nat) := by
  obtain ⟨_, hp⟩ := ordS_srt (l := l) (by omega)
  have hm : ((z : Nat) : Int) ∈ ordS l := by
    rw [hp.mem_iff, ← iota_at h]; exact getD_mem' (by rw [iota_len]; exact h)
  obtain ⟨q, hq, he⟩ := mem_getD hm
  rw [ordS_len] at hq
  have := rank_at hq
  rw [he] at this
  rw [this]; exact ⟨hq, he⟩
/-- The result under construction: the numbers below z are in their places. -/
def outZ (l : List Jb) (z : Nat) : List Int := (ordS l).map fun x : Int => if x < (z : Nat) then x else 0
theorem outZ_len (l : List Jb) (z : Nat) : (outZ l z).length = l.length := by simp [outZ, ordS_len]
theorem outZ_0 (l : List Jb) : outZ l 0 = List.replicate l.length 0 := by
  apply ext_get
  · simp [outZ_len]
  · intro j hj
    rw [outZ_len] at hj
    have := ordS_at hj
    have hl : j < (ordS l).length := by rw [ordS_len]; exact hj
    unfold outZ
    rw [List.getD, List.getElem?_map, List.getElem?_eq_getElem hl]
    rw [List.getD, List.getElem?_eq_getElem hl] at this
    simp only [Option.getD_some] at this
    simp only [Option.map_some, Option.getD_some]
    rw [if_neg (by omega), List.getD, List.getElem?_replicate, if_pos hj]; rfl
theorem outZ_step {l : List Jb} {z : Nat} (h : z < l.length) : outZ l (z + 1) = (outZ l z).set (rankA l (z : Nat)) (z : Nat) := by
  obtain ⟨hr, he⟩ := rank_lt h
  apply ext_get
  · simp [outZ_len]
  · intro j hj
    rw [outZ_len] at hj
    have hl : j < (ordS l).length := by rw [ordS_len]; exact hj
    have hat := rank_at hj
    unfold outZ
    rw [List.getD, List.getD, List.getElem?_set, List.getElem?_map, List.getElem?_map, List.getElem?_eq_getElem hl]
    rw [List.getD, List.getElem?_eq_getElem hl, Option.getD_some] at hat
    by_cases e : rankA l (z : Nat) = j
    · subst e
      rw [List.getD, List.getElem?_eq_getElem hl, Option.getD_some] at he
      rw [if_pos rfl, if_pos (by simpa using hl)]
      simp only [Option.map_some, Option.getD_some]
      rw [if_pos (by omega), he]
    · rw [if_neg e]
      simp only [Option.map_some, Option.getD_some]
      have hne : (ordS l)[j] ≠ (z : Nat) := fun q => by rw [q] at hat; exact e hat
      by_cases e2 : (ordS l)[j] < (z : Nat)
      · rw [if_pos e2, if_pos (by omega)]
      · rw [if_neg e2, if_neg (by omega)]
theorem outZ_end (l : List Jb) : outZ l l.length = ordS l := by
  apply ext_get
  · simp [outZ_len, ordS_len]
  · intro j hj
    rw [outZ_len] at hj
    have hl : j < (ordS l).length := by rw [ordS_len]; exact hj
    have := ordS_at hj
    unfold outZ
    rw [List.getD, List.getElem?_map, List.getElem?_eq_getElem hl, List.getD, List.getElem?_eq_getElem hl]
    rw [List.getD, List.getElem?_eq_getElem hl, Option.getD_some] at this
    simp only [Option.map_some, Option.getD_some]
    rw [if_pos this.2]
/-! The worker with the least work. -/
theorem sumC_app (l : List Jb) (x : List Int) (i : Int) : sumC l (x ++ [i]) = sumC l x + costAt l i := by simp [sumC, List.foldl_append]
theorem busy_rows (l : List Jb) (w : Nat) (ix : List Int) : (runA l w ix).busy = (runA l w ix).rows.map (sumC l) := by
  unfold runA
  have key : ∀ (ix : List Int) (s : AS), s.busy = s.rows.map (sumC l) → (ix.foldl (stepA l) s).busy = (ix.foldl (stepA l) s).rows.map (sumC l) := by
    intro ix
    induction ix with
    | nil => intro s h; exact h
    | cons i ix ih =>
      intro s h
      refine ih _ ?_
      unfold stepA
      dsimp only
      rw [List.map_set, ← h, sumC_app]
      congr 2
      generalize wAt s.busy = j
      rw [h, List.getD, List.getD, List.getElem?_map]
      cases s.rows[j]? <;> rfl
  exact key ix _ (by simp [sumC])
/-- The first of the least ones among the first k + 1. -/
def bestN (b : List Int) : Nat → Nat
  | 0 => 0
  | k + 1 => if b.getD (k + 1) default < b.getD (bestN b k) default then k + 1 else bestN b k
theorem bestN_is (b : List Int) : ∀ k, bestN b k ≤ k ∧ (∀ j, j ≤ k → b.getD (bestN b k) default ≤ b.getD j default) ∧ (∀ j, j < bestN b k → b.getD (bestN b k) default < b.getD j default)
  | 0 => ⟨Nat.le_refl _, fun j hj => by rw [show j = 0 by omega]; exact Int.le_refl _, fun j hj => absurd hj (Nat.not_lt_zero _)⟩
  | k + 1 => by
    obtain ⟨h1, h2, h3⟩ := bestN_is b k
    rw [bestN]
    split
    · next h =>
      refine ⟨Nat.le_refl _, fun j hj => ?_, fun j hj => ?_⟩
      · by_cases e : j = k + 1
        · rw [e]; exact Int.le_refl _
        · have := h2 j (by omega); omega
      · have := h2 j (by omega); omega
    · next h =>
      refine ⟨by omega, fun j hj => ?_, h3⟩
      by_cases e : j = k + 1
      · rw [e]; omega
      · exact h2 j (by omega)
theorem foldmin_le : ∀ (l : List Int) (x : Int), l.foldl min x ≤ x ∧ ∀ y ∈ l, l.foldl min x ≤ y
  | [], x => ⟨Int.le_refl _, by simp⟩
  | y :: l, x => by
    obtain ⟨h1, h2⟩ := foldmin_le l (min x y)
    rw [List.foldl_cons]
    refine ⟨by omega, fun z hz => ?_⟩
    rcases List.mem_cons.1 hz with rfl | hz
    · omega
    · exact h2 z hz
theorem minL_le {b : List Int} : ∀ y ∈ b, minL b ≤ y := by
  cases b with
  | nil => simp
  | cons x l =>
    intro y hy
    obtain ⟨h1, h2⟩ := foldmin_le l x
    rcases List.mem_cons.1 hy with rfl | hy
    · exact h1
    · exact h2 y hy
theorem best_w {b : List Int} (h : 1 ≤ b.length) : bestN b (b.length - 1) = wAt b := by
  obtain ⟨h1, h2, h3⟩ := bestN_is b (b.length - 1)
  have hb : bestN b (b.length - 1) < b.length := by omega
  have hmin : minL b = b.getD (bestN b (b.length - 1)) default := by
    have q1 := minL_le _ (getD_mem' hb)
    obtain ⟨j, hj, e⟩ := mem_getD (minL_mem h)
    have q2 := h2 j (by omega)
    omega
  have := idx_yes (p := fun x => decide (minL b = x)) hb (by simpa using hmin) (fun j hj => by
    have := h3 j hj
    exact decide_eq_false (by omega))
  unfold wAt
  rw [this]; rfl
end Go.Proofs.YtlbhpjigjehffaaDoor
