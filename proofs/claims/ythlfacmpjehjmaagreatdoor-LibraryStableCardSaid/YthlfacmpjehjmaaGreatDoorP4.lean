/- Lemmas for the claim, part 4: rules for walks, contracts of functions, the data they compute. No conditions. -/
import Derived.Test.YthlfacmpjehjmaaGreatDoorP3
import Derived.Test.YthlfacmpjehjmaaGreatDoorP2
import Derived.SizedLaws
import Derived.Test.YthlfacmpjehjmaaGreatDoorRows
/- The law's helpers, as data. -/
set_option linter.unusedSimpArgs false
set_option linter.unusedVariables false
namespace Go.Proofs.YthlfacmpjehjmaaGreatDoor
open Go.Sim
/-- The inputs of a row. -/
def sgR (x : Rw) : List Sg := [⟨sIv, truthE x.v⟩, ⟨sIt, IntKind.i64.wrap x.t⟩, ⟨sIa, IntKind.i64.wrap x.a⟩, ⟨sIb, IntKind.i64.wrap x.b⟩, ⟨sOrdy, truthE x.ready⟩]
def rowsS (l : List Rw) : List (List Sg) := (l.take 60).map sgR
def seeP (w : Wv) (s : List UInt8) (t : Int) (i : Nat) : Bool := w.names.getD i default == s && decide (t < w.rows.length) && decide ((i : Int) < (w.rows.getD t.toNat default).length)
def seeI (w : Wv) (s : List UInt8) (t : Int) : Int := idxI (seeP w s t) (List.range w.names.length)
def seeV (w : Wv) (s : List UInt8) (t : Int) : Int := if 0 ≤ seeI w s t then (w.rows.getD t.toNat default).getD (seeI w s t).toNat default else 0
theorem see_yes {w : Wv} {s : List UInt8} {t : Int} {i : Nat} (hi : i < w.names.length) (h : seeP w s t i = true) (hn : ∀ j, j < i → seeP w s t j = false) : seeV w s t = (w.rows.getD t.toNat default).getD i default := by
  have e : seeI w s t = i := idx_yes (by simpa using hi) (by rw [range_getD hi]; exact h) (fun j hj => by rw [range_getD (by omega)]; exact hn j hj)
  unfold seeV
  rw [e, if_pos (by omega)]; simp
theorem see_no {w : Wv} {s : List UInt8} {t : Int} (hn : ∀ j, j < w.names.length → seeP w s t j = false) : seeV w s t = 0 := by
  have e : seeI w s t = -1 := idx_no fun j hj => by
    have hj' : j < w.names.length := by simpa using hj
    rw [range_getD hj']; exact hn j hj'
  unfold seeV
  rw [e]; rfl
def pickD (kind n w : Int) : Ds :=
  if kind % 5 = 0 then queueD (1 + n % 8).toNat (1 + w % 8) else if kind % 5 = 1 then adderD (1 + w % 8) else if kind % 5 = 2 then counterD (1 + w % 8) else if kind % 5 = 3 then delayD (1 + n % 8).toNat (1 + w % 8) else swapD (1 + w % 8)
structure Ent where
  name : List UInt8
  d : Ds
  deriving Inhabited
def ents : List Ent := [⟨[113, 117, 101, 117, 101], queueD 4 8⟩, ⟨[97, 100, 100, 101, 114], adderD 8⟩, ⟨[99, 111, 117, 110, 116, 101, 114], counterD 8⟩, ⟨[100, 101, 108, 97, 121], delayD 2 8⟩, ⟨[115, 119, 97, 112], swapD 8⟩]
def fnG (d : Ds) : Rp := Rp.fnM Tryz.prog (fun _ : Unit => []) (fun _ => [spG]) (fun _ => .one (Rp.tuple [Rp.agg (eD d), Rp.int .i64 0]))
def eEn (x : Ent) : List Rp := [Rp.str x.name, fnG x.d]
def getI (s : List UInt8) : Int := idxI (fun x : Ent => x.name == s) ents
def noD : Ds := ⟨[], [], [], [], []⟩
def getD1 (s : List UInt8) : Ds := if 0 ≤ getI s then (ents.getD (getI s).toNat default).d else noD
def getE1 (s : List UInt8) : Int := if 0 ≤ getI s then 0 else 7
theorem get_yes {s : List UInt8} {i : Nat} (hi : i < 5) (h : (ents.getD i default).name = s) (hn : ∀ j, j < i → (ents.getD j default).name ≠ s) : getI s = i :=
  idx_yes (p := fun x : Ent => x.name == s) hi (by simpa using h) (fun j hj => by simpa using hn j hj)
theorem get_no {s : List UInt8} (hn : ∀ j, j < 5 → (ents.getD j default).name ≠ s) : getI s = -1 :=
  idx_no (p := fun x : Ent => x.name == s) fun j hj => by simpa using hn j hj
def W1 : Wv := waveE (queueD 2 8) (rowsS [⟨true, false, 0, 0, 0⟩, ⟨true, false, 0, 0, 0⟩, ⟨true, false, 0, 0, 0⟩])
def W2 : Wv := waveE (swapD 8) (rowsS [⟨true, true, 1, 0, 0⟩, ⟨true, true, 2, 0, 0⟩, ⟨false, true, 0, 0, 0⟩, ⟨false, true, 0, 0, 0⟩])
theorem awake_1 : seeV W1 sIrdy 0 = 1 ∧ seeV W1 sIrdy 1 = 1 ∧ seeV W1 sIrdy 2 = 0 := ⟨by kernel_rfl, by kernel_rfl, by kernel_rfl⟩
theorem awake_2 : seeV W2 sOv 1 = 0 ∧ seeV W2 sOv 2 = 1 ∧ seeV W2 sOt 2 = 2 ∧ seeV W2 sOv 3 = 1 ∧ seeV W2 sOt 3 = 1 := ⟨by kernel_rfl, by kernel_rfl, by kernel_rfl, by kernel_rfl, by kernel_rfl⟩
end Go.Proofs.YthlfacmpjehjmaaGreatDoor
/- What the laws compute, as data. -/
set_option linter.unusedSimpArgs false
set_option linter.unusedVariables false
namespace Go.Proofs.YthlfacmpjehjmaaGreatDoor
open Go.Sim
section
variable {M : List MF} {o : Oper} {σ : Nat → Option Rp}
theorem eql54 {x y : Operand} {n m : Int × Int} {T' : TypeId} (h : o.op = .binOp .eql 54 x y T') (hx : Get σ x (Rp.agg (eI2 n))) (hy : Get σ y (Rp.agg (eI2 m))) : Go.Sim.Spec Tryz.prog σ M o (.one (Rp.bool (decide (n = m)))) :=
  spec_eqlP h Tryz.underlying54 Tryz.underlying3 Tryz.sizeOf3 Tryz.isAgg3 (by kernel_rfl) hx hy
theorem neq54 {x y : Operand} {n m : Int × Int} {T' : TypeId} (h : o.op = .binOp .neq 54 x y T') (hx : Get σ x (Rp.agg (eI2 n))) (hy : Get σ y (Rp.agg (eI2 m))) : Go.Sim.Spec Tryz.prog σ M o (.one (Rp.bool (!decide (n = m)))) :=
  spec_neqP h Tryz.underlying54 Tryz.underlying3 Tryz.sizeOf3 Tryz.isAgg3 (by kernel_rfl) hx hy
end
theorem pl_fact {x : Pl} (w : World) (C : Nat → Prop) (v : Value) (h : (Rp.agg (ePl x)).p w C v) : InR .u8 x.kind ∧ InR .u8 x.n ∧ InR .u8 x.width ∧ x.rows.length ≤ 9223372036854775807 :=
  agg_fact (fun w C vs h => by
    match vs, h with
    | [a, b, c, d], ⟨h1, h2, h3, h4, _⟩ => exact ⟨h1.2, h2.2, h3.2, h4.1⟩) w C v h
def plD (x : Pl) : Ds := pickD x.kind x.n x.width
def StableP (w : Wv) : Prop := ∀ t : Nat, 1 ≤ t → t < w.rows.length → seeV w sOv ((t : Int) - 1) ≠ 0 → seeV w sOrdy ((t : Int) - 1) ≠ 1 → seeV w sOv t ≠ 0 ∧ seeV w sOt t = seeV w sOt ((t : Int) - 1) ∧ seeV w sOa t = seeV w sOa ((t : Int) - 1)
/-- The number that a transfer at the input is expected to send. -/
def trV (w : Wv) (kind : Int) (t n : Nat) : Int := if kind = 1 then IntKind.i64.wrap (seeV w sIa t + seeV w sIb t) else if kind = 2 then (n : Int) else seeV w sIa t
def inE (w : Wv) (kind width : Int) : Nat → List (Int × Int)
  | 0 => []
  | t + 1 => if seeV w sIv t = 1 ∧ seeV w sIrdy t = 1 then inE w kind width t ++ [(seeV w sIt t, bitsOf .and .i64 (trV w kind t (inE w kind width t).length) (maskE width))] else inE w kind width t
def outE (w : Wv) : Nat → List (Int × Int)
  | 0 => []
  | t + 1 => if seeV w sOv t = 1 ∧ seeV w sOrdy t = 1 then outE w t ++ [(seeV w sOt t, seeV w sOa t)] else outE w t
theorem in_yes {w : Wv} {kind width : Int} {t : Nat} (h : seeV w sIv t = 1 ∧ seeV w sIrdy t = 1) : inE w kind width (t + 1) = inE w kind width t ++ [(seeV w sIt t, bitsOf .and .i64 (trV w kind t (inE w kind width t).length) (maskE width))] := by rw [inE, if_pos h]
theorem in_no {w : Wv} {kind width : Int} {t : Nat} (h : ¬ (seeV w sIv t = 1 ∧ seeV w sIrdy t = 1)) : inE w kind width (t + 1) = inE w kind width t := by rw [inE, if_neg h]
theorem out_yes {w : Wv} {t : Nat} (h : seeV w sOv t = 1 ∧ seeV w sOrdy t = 1) : outE w (t + 1) = outE w t ++ [(seeV w sOt t, seeV w sOa t)] := by rw [outE, if_pos h]
theorem out_no {w : Wv} {t : Nat} (h : ¬ (seeV w sOv t = 1 ∧ seeV w sOrdy t = 1)) : outE w (t + 1) = outE w t := by rw [outE, if_neg h]
theorem in_len (w : Wv) (kind width : Int) : ∀ t, (inE w kind width t).length ≤ t
  | 0 => Nat.le_refl _
  | t + 1 => by
    have := in_len w kind width t
    by_cases h : seeV w sIv t = 1 ∧ seeV w sIrdy t = 1
    · rw [in_yes h]; simp; exact this
    · rw [in_no h]; omega
theorem out_len (w : Wv) : ∀ t, (outE w t).length ≤ t
  | 0 => Nat.le_refl _
  | t + 1 => by
    have := out_len w t
    by_cases h : seeV w sOv t = 1 ∧ seeV w sOrdy t = 1
    · rw [out_yes h]; simp; exact this
    · rw [out_no h]; omega
/-- The greedy matching of what leaves with what has entered. -/
def canU (ins : List (Int × Int)) (used : List Bool) (o : Int × Int) (k : Nat) : Bool := !(used.getD k default) && decide (ins.getD k default = o)
def matI (ins : List (Int × Int)) (used : List Bool) (o : Int × Int) : Int := idxI (canU ins used o) (List.range ins.length)
def markU (ins : List (Int × Int)) (used : List Bool) (o : Int × Int) (k : Nat) : List Bool := if 0 ≤ matI ins used o ∧ matI ins used o < k then used.set (matI ins used o).toNat true else used
def fndU (ins : List (Int × Int)) (used : List Bool) (o : Int × Int) (k : Nat) : Bool := decide (0 ≤ matI ins used o ∧ matI ins used o < k)
def useN (kind : Int) (ins outs : List (Int × Int)) : Nat → List Bool
  | 0 => List.replicate ins.length false
  | i + 1 => if kind < 4 then useN kind ins outs i else markU ins (useN kind ins outs i) (outs.getD i default) ins.length
theorem mark_len (ins : List (Int × Int)) (used : List Bool) (o : Int × Int) (k : Nat) : (markU ins used o k).length = used.length := by unfold markU; split <;> simp
theorem use_len (kind : Int) (ins outs : List (Int × Int)) : ∀ i, (useN kind ins outs i).length = ins.length
  | 0 => by simp [useN]
  | i + 1 => by
    rw [useN]; split
    · exact use_len kind ins outs i
    · rw [mark_len]; exact use_len kind ins outs i
theorem mat_lt (ins : List (Int × Int)) (used : List Bool) (o : Int × Int) : matI ins used o < ins.length := by
  have := (idx_ge (canU ins used o) (List.range ins.length)).2
  rw [List.length_range] at this; exact this
theorem mat_at {ins : List (Int × Int)} {used : List Bool} {o : Int × Int} {k : Nat} (hk : k < ins.length) (h : fndU ins used o k = false) : (canU ins used o k = true ↔ matI ins used o = k) := by
  unfold fndU at h
  rw [decide_eq_false_iff_not] at h
  have hr : (List.range ins.length).length = ins.length := by simp
  rcases idx_cases (canU ins used o) (List.range ins.length) with ⟨i, h1, h2, h3, h4⟩ | ⟨h1, h2⟩
  · have e : matI ins used o = i := h4
    rw [hr] at h1
    rw [range_getD h1] at h2
    rw [e] at h ⊢
    constructor
    · intro hc
      by_cases hlt : k < i
      · have := h3 k hlt
        rw [range_getD hk] at this
        rw [this] at hc; cases hc
      · omega
    · intro he
      have : i = k := by omega
      rw [← this]; exact h2
  · have e : matI ins used o = -1 := h2
    rw [e]
    constructor
    · intro hc
      have := h1 k (by omega)
      rw [range_getD hk, hc] at this; cases this
    · intro he; omega
theorem mark_next {ins : List (Int × Int)} {used : List Bool} {o : Int × Int} {k : Nat} (hf : fndU ins used o k = false) (h : matI ins used o = k) : markU ins used o (k + 1) = (markU ins used o k).set k true ∧ fndU ins used o (k + 1) = true := by
  unfold fndU markU at *
  rw [decide_eq_false_iff_not] at hf
  rw [if_pos (by omega), if_neg hf]
  exact ⟨by rw [h]; simp, decide_eq_true (by omega)⟩
theorem mark_same {ins : List (Int × Int)} {used : List Bool} {o : Int × Int} {k : Nat} (h : matI ins used o ≠ k) : markU ins used o (k + 1) = markU ins used o k ∧ fndU ins used o (k + 1) = fndU ins used o k := by
  unfold fndU markU
  have e : (0 ≤ matI ins used o ∧ matI ins used o < ((k + 1 : Nat) : Int)) ↔ (0 ≤ matI ins used o ∧ matI ins used o < (k : Int)) := by omega
  exact ⟨by simp only [e], by simp only [e]⟩
theorem mark_not {ins : List (Int × Int)} {used : List Bool} {o : Int × Int} {k : Nat} (h : fndU ins used o k = false) : markU ins used o k = used := by
  unfold fndU at h; rw [decide_eq_false_iff_not] at h
  unfold markU; rw [if_neg h]
theorem fnd_zero (ins : List (Int × Int)) (used : List Bool) (o : Int × Int) : fndU ins used o 0 = false := by
  unfold fndU; rw [decide_eq_false_iff_not]; omega
theorem mark_zero (ins : List (Int × Int)) (used : List Bool) (o : Int × Int) : markU ins used o 0 = used := mark_not (fnd_zero ins used o)
theorem mat_step {ins : List (Int × Int)} {used : List Bool} {o : Int × Int} {k : Nat} (hk : k < ins.length) : ((!(fndU ins used o k) && !((markU ins used o k).getD k default)) && decide (ins.getD k default = o)) = decide (matI ins used o = k) := by
  cases hf : fndU ins used o k with
  | true =>
    have h : matI ins used o < k := by unfold fndU at hf; exact (of_decide_eq_true hf).2
    simp only [Bool.not_true, Bool.false_and]
    exact (decide_eq_false (by omega)).symm
  | false =>
    rw [mark_not hf]
    have h := mat_at hk hf
    unfold canU at h
    rw [Bool.eq_iff_iff, decide_eq_true_eq, ← h]; simp
theorem mat_end {ins : List (Int × Int)} {used : List Bool} {o : Int × Int} (h : 0 ≤ matI ins used o) : fndU ins used o ins.length = true := by
  unfold fndU; exact decide_eq_true ⟨h, mat_lt _ _ _⟩
structure BehP (kind : Int) (ins outs : List (Int × Int)) : Prop where
  le : outs.length ≤ ins.length
  d8 : ins.length ≤ outs.length + 8
  d2 : kind = 4 → ins.length ≤ outs.length + 2
  eq : kind < 4 → ∀ i, i < outs.length → ins.getD i default = outs.getD i default
  mt : kind = 4 → ∀ i, i < outs.length → 0 ≤ matI ins (useN kind ins outs i) (outs.getD i default)
def drN (l : List Rw) (i : Nat) : List Rw := l.take 40 ++ List.replicate i ⟨false, true, 0, 0, 0⟩
theorem dr_next (l : List Rw) (i : Nat) : drN l (i + 1) = drN l i ++ [⟨false, true, 0, 0, 0⟩] := by
  unfold drN; rw [List.replicate_succ', List.append_assoc]
theorem dr_len (l : List Rw) (i : Nat) : (drN l i).length = min l.length 40 + i := by unfold drN; simp [Nat.min_comm]
theorem wave_len (d : Ds) (rows : List (List Sg)) : (waveE d rows).rows.length = rows.length := rows_len d rows _
theorem rowsS_len (l : List Rw) : (rowsS l).length = min l.length 60 := by rw [rowsS, List.length_map, List.length_take, Nat.min_comm]
end Go.Proofs.YthlfacmpjehjmaaGreatDoor
/- The arguments of the laws, opened; the laid table. -/
set_option linter.unusedSimpArgs false
set_option linter.unusedVariables false
namespace Go.Proofs.YthlfacmpjehjmaaGreatDoor
open Go.Sim Go.ChangeShapes Go.WideShapes
theorem laid_tail {P : Program} {x : String × DataW Unit} {r : List (String × DataW Unit)} {W : World} (h : laidMet P (x :: r) W) : laidMet P r W := by
  obtain ⟨ps, ⟨g, t, cs, fuel, p, q, _, _, _, _, h, rfl⟩, hn, hc⟩ := h
  exact ⟨q, h, (List.nodup_append.1 hn).2.1, fun b off hm => hc b off (List.mem_append.2 (.inr hm))⟩
theorem tab_datum : (Rows.laid_strings_asciiSpace : DataW Unit) = Lib.tabData .u8 spTab := by kernel_rfl
theorem tab_in : ∀ z ∈ spTab, InR .u8 z := by
  have h : spTab.all (fun z => decide (0 ≤ z ∧ z ≤ 255)) = true := by kernel_rfl
  intro z hz
  have := of_decide_eq_true (List.all_eq_true.1 h z hz)
  simp only [InR]; omega
theorem sp_laid {W : World} (h : laidMetH Tryz.prog [("math/bits.deBruijn32tab", Rows.laid_math_bits_deBruijn32tab), ("math/bits.deBruijn64tab", Rows.laid_math_bits_deBruijn64tab), ("internal/strconv.uint64pow10", Rows.laid_internal_strconv_uint64pow10), ("unicode.White_Space", Rows.laid_unicode_White_Space), ("strings.asciiSpace", Rows.laid_strings_asciiSpace)] W) : ∀ F ∈ [spG], F.p W (old W) := fun F hF => by
  rw [List.mem_singleton.1 hF]
  rw [MakeChecks.laidMetH_plain _ _ _ (by kernel_rfl)] at h
  have h3 := laid_tail (laid_tail (laid_tail (laid_tail h)))
  have hg : Tryz.prog.globalNamed "strings.asciiSpace" = some 0 := by kernel_rfl
  rw [tab_datum] at h3
  exact glob_tab hg (Lib.tabIs_of_head (rest := []) hg (by kernel_rfl) Tryz.underlying123 Tryz.underlying5 (by kernel_rfl) (by kernel_rfl) h3) tab_in
theorem ov_u8 : OpensVS Tryz.prog 5 (fun n : Int => Rp.int .u8 n) (fun _ => True) := OpensVS.one (fun N => OpensS.of (Opens.int Tryz.underlying5)) (cells_int Tryz.underlying5)
theorem op_u8 (N : Nat) : OpensS Tryz.prog 5 N (fun n : Int => [Rp.int .u8 n]) (fun _ => True) := OpensS.of (Opens.int Tryz.underlying5)
theorem op_rw (N : Nat) : OpensS Tryz.prog 56 N eRw (fun _ => True) :=
  OpensS.map (OpensS.struct Tryz.underlying56 rfl (.cons (c := 1) rfl (by kernel_rfl) (OpensS.of (Opens.bool Tryz.underlying4)) (.cons (c := 1) rfl (by kernel_rfl) (OpensS.of (Opens.bool Tryz.underlying4)) (.cons (c := 1) rfl (by kernel_rfl) (op_u8 N) (.cons (c := 1) rfl (by kernel_rfl) (op_u8 N) (.cons (c := 1) rfl (by kernel_rfl) (op_u8 N) .nil))))) (by kernel_rfl))
    fun ⟨a, b, c, d, e, _⟩ _ => ⟨⟨a, b, c, d, e⟩, rfl, trivial⟩
theorem op_pl (N : Nat) : OpensS Tryz.prog 42 N ePl (fun _ => True) := by
  refine OpensS.map (OpensS.struct Tryz.underlying42 rfl (.cons (c := 1) rfl (by kernel_rfl) (op_u8 N) (.cons (c := 1) rfl (by kernel_rfl) (op_u8 N) (.cons (c := 1) rfl (by kernel_rfl) (op_u8 N)
    (.cons (c := 1) rfl (by kernel_rfl) (OpensS.slice (E := eRw) (c := 5) (b := 5) Tryz.underlying40 (by kernel_rfl) (by kernel_rfl) (by decide) (fun _ => rfl) (fun n _ => op_rw n)) .nil)))) (by kernel_rfl)) ?_
  rintro ⟨a, b, c, d, u⟩ _
  exact ⟨⟨a, b, c, d⟩, rfl, trivial⟩
end Go.Proofs.YthlfacmpjehjmaaGreatDoor
/- The designs of the library are right: decided by the kernel. -/
set_option linter.unusedSimpArgs false
set_option linter.unusedVariables false
namespace Go.Proofs.YthlfacmpjehjmaaGreatDoor
open Go.Sim
instance (op : Int) (n : Nat) : Decidable (OpOk op n) := by unfold OpOk BinOp; infer_instance
def nodeB (ok : List UInt8 → Bool) (op n : Int) (name : List UInt8) (k : Nat) : Bool :=
  (decide (op = 1) && decide (k = 0) && decide (0 ≤ n) && decide (n ≤ 65535) && decide (name = [])) || (decide (op = 2) && decide (k = 0) && decide (n = 0) && nameB name && ok name) || (decide (OpOk op k) && decide (n = 0) && decide (name = []))
mutual
def exB (ok : List UInt8 → Bool) : Ex → Bool
  | .mk op n name args => nodeB ok op n name args.length && exBs ok args
def exBs (ok : List UInt8 → Bool) : List Ex → Bool
  | [] => true
  | a :: r => exB ok a && exBs ok r
end
theorem exBs_mem {ok : List UInt8 → Bool} : ∀ {l : List Ex}, exBs ok l = true → ∀ a ∈ l, exB ok a = true
  | [], _, a, h => by cases h
  | x :: r, h, a, ha => by
    rw [exBs, Bool.and_eq_true] at h
    rcases List.mem_cons.1 ha with rfl | ha
    · exact h.1
    · exact exBs_mem h.2 a ha
theorem exB_ok (ok : List UInt8 → Bool) : ∀ e : Ex, exB ok e = true → GN e ∧ GX (fun s => ok s = true) e := by
  refine Ex.ind fun e ih h => ?_
  obtain ⟨op, n, name, args⟩ := e
  rw [exB, Bool.and_eq_true] at h
  have hs := exBs_mem h.2
  have h1 := h.1
  unfold nodeB at h1
  simp only [Bool.or_eq_true, Bool.and_eq_true, decide_eq_true_eq] at h1
  constructor
  · refine GN.mk _ ?_ fun a ha => (ih a ha (hs a ha)).1
    rcases h1 with (⟨⟨⟨⟨a, b⟩, c⟩, d⟩, e⟩ | ⟨⟨⟨⟨a, b⟩, c⟩, d⟩, e⟩) | ⟨⟨a, b⟩, c⟩
    · exact .inl ⟨a, List.length_eq_zero_iff.1 b, c, d, e⟩
    · exact .inr (.inl ⟨a, List.length_eq_zero_iff.1 b, c, d⟩)
    · exact .inr (.inr ⟨a, b, c⟩)
  · refine GX.mk _ ?_ fun a ha => (ih a ha (hs a ha)).2
    rcases h1 with (⟨⟨⟨⟨a, b⟩, c⟩, d⟩, e⟩ | ⟨⟨⟨⟨a, b⟩, c⟩, d⟩, e⟩) | ⟨⟨a, b⟩, c⟩
    · exact .inl ⟨a, List.length_eq_zero_iff.1 b⟩
    · exact .inr (.inl ⟨a, List.length_eq_zero_iff.1 b, e⟩)
    · exact .inr (.inr a)
def memB (l : List (List UInt8)) (s : List UInt8) : Bool := decide (s ∈ l)
def sigL (d : Ds) (i : Nat) : List (List UInt8) := d.inputs.map Pt.name ++ d.regs.map Rg.name ++ (d.wires.take i).map Wr.name
def xB (d : Ds) (e : Ex) : Bool := exB (memB (namesD d)) e && decide (szX e ≤ 1000000) && decide ((seeE e).d ≤ 24) && decide ((seeE e).n ≤ 400) && (List.range (seeE e).vs.length).all fun j => decide (0 ≤ indexE (namesD d) ((seeE e).vs.getD j default))
def dsB (d : Ds) : Bool :=
  decide (d.inputs.length + d.wires.length + d.regs.length ≤ 48) && decide (d.outputs.length ≤ 1000) && nameB d.name
    && ((List.range (namesD d).length).all fun i => nameB ((namesD d).getD i default) && decide (indexE (namesD d) ((namesD d).getD i default) = i))
    && ((List.range (widthsD d).length).all fun i => decide (1 ≤ (widthsD d).getD i default ∧ (widthsD d).getD i default ≤ 16))
    && ((List.range d.regs.length).all fun i => decide ((d.regs.getD i default).init = 0 ∧ 1 ≤ (d.regs.getD i default).width ∧ (d.regs.getD i default).width ≤ 16))
    && ((List.range (exprsD d).length).all fun i => xB d ((exprsD d).getD i default))
    && ((List.range d.outputs.length).all fun i => decide (0 ≤ indexE ((namesD d).drop d.inputs.length) (d.outputs.getD i default) ∧ indexE d.outputs (d.outputs.getD i default) = i))
    && decide (orderE d = (List.range d.wires.length).map fun i : Nat => (i : Int))
    && decide ((d.inputs.map Pt.name ++ d.regs.map Rg.name ++ d.wires.map Wr.name).Nodup)
    && ((List.range d.wires.length).all fun i => exB (memB (sigL d i)) (d.wires.getD i default).expr)
    && ((List.range d.regs.length).all fun i => exB (memB (sigL d d.wires.length)) (d.regs.getD i default).next)
theorem range_all {p : Nat → Bool} {n : Nat} (h : (List.range n).all p = true) : ∀ i, i < n → p i = true := fun i hi => List.all_eq_true.1 h i (List.mem_range.2 hi)
theorem ds_ok {d : Ds} (h : dsB d = true) : DsQ d := by
  unfold dsB at h
  simp only [Bool.and_eq_true, decide_eq_true_eq] at h
  obtain ⟨⟨⟨⟨⟨⟨⟨⟨⟨⟨⟨h1, h2⟩, h3⟩, h4⟩, h5⟩, h6⟩, h7⟩, h8⟩, h9⟩, h10⟩, h11⟩, h12⟩ := h
  have hx : ∀ i, i < (exprsD d).length → XOk ((exprsD d).getD i default) ∧ ∀ j, j < (seeE ((exprsD d).getD i default)).vs.length → 0 ≤ indexE (namesD d) ((seeE ((exprsD d).getD i default)).vs.getD j default) := fun i hi => by
    have := range_all h7 i hi
    unfold xB at this
    simp only [Bool.and_eq_true, decide_eq_true_eq] at this
    obtain ⟨⟨⟨⟨a, b⟩, c⟩, e⟩, f⟩ := this
    exact ⟨⟨(exB_ok _ _ a).1, b, c, e⟩, fun j hj => of_decide_eq_true (range_all f j hj)⟩
  have h4' := fun i hi => Bool.and_eq_true_iff.1 (range_all h4 i hi)
  have h8' := fun i hi => of_decide_eq_true (range_all h8 i hi)
  exact {
    v := {
      ok := {
        n := h1
        o := h2
        nm := h3
        nms := fun i hi => (h4' i hi).1
        ix := fun i hi => of_decide_eq_true (h4' i hi).2
        wd := fun i hi => of_decide_eq_true (range_all h5 i hi)
        ini := fun i hi => of_decide_eq_true (range_all h6 i hi)
        xs := fun i hi => (hx i hi).1
        vs := fun i hi => (hx i hi).2
        out1 := fun i hi => (h8' i hi).1
        out2 := fun i hi => (h8' i hi).2 }
      ord := by rw [h9]; simp }
    ord := h9
    nd := h10
    wx := fun i hi => gx_mono (fun s hs => of_decide_eq_true hs) _ (exB_ok _ _ (range_all h11 i hi)).2
    rx := fun i hi => by
      have := gx_mono (fun s hs => of_decide_eq_true hs) _ (exB_ok _ _ (range_all h12 i hi)).2
      unfold sigL at this
      rwa [List.take_length] at this }
def all8 (p : Nat → Bool) : Bool := (List.range 8).all p
theorem queues : (all8 fun k => all8 fun w => dsB (queueD (k + 1) ((w : Int) + 1))) = true := by kernel_rfl
theorem delays : (all8 fun k => all8 fun w => dsB (delayD (k + 1) ((w : Int) + 1))) = true := by kernel_rfl
theorem others : (all8 fun w => dsB (adderD ((w : Int) + 1)) && dsB (counterD ((w : Int) + 1)) && dsB (swapD ((w : Int) + 1))) = true := by kernel_rfl
theorem queue_q {k : Nat} {w : Int} (hk : 1 ≤ k ∧ k ≤ 8) (hw : 1 ≤ w ∧ w ≤ 8) : DsQ (queueD k w) := by
  have h := range_all (range_all queues (k - 1) (by omega)) (w.toNat - 1) (by omega)
  rw [show k - 1 + 1 = k by omega, show ((w.toNat - 1 : Nat) : Int) + 1 = w by omega] at h
  exact ds_ok h
theorem delay_q {k : Nat} {w : Int} (hk : 1 ≤ k ∧ k ≤ 8) (hw : 1 ≤ w ∧ w ≤ 8) : DsQ (delayD k w) := by
  have h := range_all (range_all delays (k - 1) (by omega)) (w.toNat - 1) (by omega)
  rw [show k - 1 + 1 = k by omega, show ((w.toNat - 1 : Nat) : Int) + 1 = w by omega] at h
  exact ds_ok h
theorem others_q {w : Int} (hw : 1 ≤ w ∧ w ≤ 8) : DsQ (adderD w) ∧ DsQ (counterD w) ∧ DsQ (swapD w) := by
  have h := range_all others (w.toNat - 1) (by omega)
  rw [show ((w.toNat - 1 : Nat) : Int) + 1 = w by omega, Bool.and_eq_true, Bool.and_eq_true] at h
  exact ⟨ds_ok h.1.1, ds_ok h.1.2, ds_ok h.2⟩
theorem q28 : DsQ (queueD 2 8) := queue_q (by omega) (by omega)
theorem s8 : DsQ (swapD 8) := (others_q (by omega)).2.2
theorem pick_q {kind n w : Int} (hk : 0 ≤ kind) (hn : 0 ≤ n) (hw : 0 ≤ w) : DsQ (pickD kind n w) := by
  have h1 : 1 ≤ 1 + w % 8 ∧ 1 + w % 8 ≤ 8 := by omega
  have h2 : 1 ≤ (1 + n % 8).toNat ∧ (1 + n % 8).toNat ≤ 8 := by omega
  unfold pickD
  split
  · exact queue_q h2 h1
  · split
    · exact (others_q h1).1
    · split
      · exact (others_q h1).2.1
      · split
        · exact delay_q h2 h1
        · exact (others_q h1).2.2
end Go.Proofs.YthlfacmpjehjmaaGreatDoor
/- What is seen of a run: the signals of each cycle. -/
set_option linter.unusedSimpArgs false
set_option linter.unusedVariables false
namespace Go.Proofs.YthlfacmpjehjmaaGreatDoor
open Go.Sim
/-- The value of a signal in the cycle t of a run. -/
def sigV (d : Ds) (R : List (List Sg)) (t : Nat) (s : List UInt8) : Int := envE d (stN d R t) (R.getD t default) s
theorem see_env {d : Ds} {R : List (List Sg)} {s : List UInt8} {t : Nat} (hs : s ∈ namesD d) (ht : t < R.length) : seeV (waveE d R) s (t : Int) = sigV d R t s := by
  rcases idx_cases (fun x : List UInt8 => x == s) (namesD d) with ⟨i, h1, h2, h3, _⟩ | ⟨h1, _⟩
  · have hrow : ((waveE d R).rows.getD ((t : Nat) : Int).toNat default) = rowN d R t := by
      show (rowsN d R R.length).getD t default = _
      unfold rowsN
      rw [map_getD' _ (by simpa using ht), range_getD ht]
    have hl : (rowN d R t).length = (namesD d).length := row_len d R t
    have hn : (waveE d R).rows.length = R.length := rows_len d R _
    have e := see_yes (w := waveE d R) (s := s) (t := (t : Int)) (i := i) h1 (by
      unfold seeP
      rw [hrow, hl, hn]
      simp only [Bool.and_eq_true, decide_eq_true_eq]
      exact ⟨⟨h2, by omega⟩, by omega⟩) (fun j hj => by
      have := h3 j hj
      unfold seeP
      show (((namesD d).getD j default == s && _) && _) = false
      rw [this]; rfl)
    rw [e, hrow]
    show (rowE d _ _).getD i default = _
    rw [row_at d _ _ h1]
    unfold sigV
    rw [show (namesD d).getD i default = s from by simpa using h2]
  · obtain ⟨i, hi, e⟩ := mem_getD hs
    have := h1 i hi
    rw [e] at this
    simp at this
theorem mask_mono {a b : Int} (ha : 1 ≤ a) (hab : a ≤ b) (hb : b ≤ 8) : maskE a ≤ maskE b := by
  have h : ∀ a : Nat, a < 9 → ∀ b : Nat, b < 9 → a ≤ b → maskE a ≤ maskE b := by decide
  have := h a.toNat (by omega) b.toNat (by omega) (by omega)
  rwa [show ((a.toNat : Nat) : Int) = a by omega, show ((b.toNat : Nat) : Int) = b by omega] at this
theorem mask_1 : maskE 1 = 1 := by decide
theorem mask_2 : maskE 2 = 3 := by decide
theorem mask_4 : maskE 4 = 15 := by decide
theorem cut_id {n w : Int} (h0 : 0 ≤ n) (h1 : n ≤ maskE w) : cutE n w = n := by
  have h := mask_le w
  unfold cutE
  rw [wrap_id h0 (by omega), Int.emod_eq_of_lt h0 (by omega)]
theorem cut_truth (b : Bool) : cutE (truthE b) 1 = truthE b := by cases b <;> decide
/-- a & mask. -/
theorem and_mask {a w : Int} (h0 : 0 ≤ a) (h1 : a ≤ 1000000) (hw : 1 ≤ w ∧ w ≤ 8) : bitsOf .and .i64 a (maskE w) = a % (maskE w + 1) := by
  have hm : ∀ w : Nat, w < 9 → maskE w = ((2 ^ w - 1 : Nat) : Int) := by decide
  obtain ⟨n, rfl⟩ : ∃ n : Nat, a = (n : Int) := ⟨a.toNat, by omega⟩
  obtain ⟨k, rfl⟩ : ∃ k : Nat, w = (k : Int) := ⟨w.toNat, by omega⟩
  have hk : k < 9 := by omega
  have hp : ∀ k : Nat, k < 9 → 2 ^ k < 9223372036854775808 ∧ 0 < 2 ^ k := by decide
  have := hp k hk
  rw [hm k hk, and_nat (by omega) (by omega), Nat.and_two_pow_sub_one_eq_mod]
  have e : ((2 ^ k - 1 : Nat) : Int) + 1 = ((2 ^ k : Nat) : Int) := by omega
  rw [e]; rfl
theorem cut_eq {a w : Int} (h0 : 0 ≤ a) (h1 : a < 65536) : cutE a w = a % (maskE w + 1) := by unfold cutE; rw [wrap_id h0 h1]
/-- All signals are numbers of 16 bits. -/
theorem value_bd {l : List Sg} (h : ∀ x ∈ l, 0 ≤ x.val ∧ x.val ≤ 65535) (s : List UInt8) : 0 ≤ valueE l s ∧ valueE l s ≤ 65535 := by
  unfold valueE
  split
  · rename_i h2
    have := (idx_ge (fun x : Sg => x.name == s) l).2
    exact h _ (getD_mem' (by unfold atS at *; omega))
  · omega
theorem input_bd (p : Pt) (l : List Sg) : 0 ≤ inputE p l ∧ inputE p l ≤ 65535 := by
  unfold inputE
  split
  · have := cut_bd (l.getD (atS l p.name).toNat default).val p.width
    have := mask_le p.width; omega
  · omega
theorem sig_bd {d : Ds} {st : List Int} (hst : StOk d st) (l : List Sg) : ∀ n, ∀ x ∈ sigN d st l n, 0 ≤ x.val ∧ x.val ≤ 65535
  | 0, x, hx => by
    rw [sigN, List.mem_append] at hx
    rcases hx with hx | hx
    · obtain ⟨p, _, rfl⟩ := List.mem_map.1 hx
      exact input_bd p l
    · obtain ⟨i, hi, rfl⟩ := List.mem_map.1 hx
      have h1 := hst.2 i (by have := List.mem_range.1 hi; have := hst.1; omega)
      have := mask_le (d.regs.getD i default).width
      exact ⟨h1.1, by show st.getD i default ≤ _; omega⟩
  | n + 1, x, hx => by
    rw [sigN, wireS, List.mem_append] at hx
    rcases hx with hx | hx
    · exact sig_bd hst l n x hx
    · rw [List.mem_singleton.1 hx]
      have := cut_bd (valX (sigN d st l n) (d.wires.getD ((n : Nat) : Int).toNat default).expr) (d.wires.getD ((n : Nat) : Int).toNat default).width
      have h2 := mask_le (d.wires.getD ((n : Nat) : Int).toNat default).width
      exact ⟨this.1, by show cutE _ _ ≤ _; omega⟩
theorem env_bd {d : Ds} (h : DsQ d) {st : List Int} (hst : StOk d st) (l : List Sg) (s : List UInt8) : 0 ≤ envE d st l s ∧ envE d st l s ≤ 65535 := by
  unfold envE
  rw [sig_all h]
  exact value_bd (sig_bd hst l _) s
theorem val_ref {d : Ds} (h : DsQ d) {st : List Int} (hst : StOk d st) (l : List Sg) (s : List UInt8) : valF (envE d st l) (refE s) = envE d st l s := by
  have := env_bd h hst l s
  show wrapE _ = _
  exact wrap_id this.1 (by omega)
theorem val_num (f : List UInt8 → Int) (n : Int) : valF f (numE n) = n := rfl
theorem val_not (f : List UInt8 → Int) (a : Ex) : valF f (notE a) = truthE (decide (valF f a = 0)) := rfl
theorem val_both (f : List UInt8 → Int) (a b : Ex) : valF f (bothE a b) = truthE (!decide (valF f a = 0) && !decide (valF f b = 0)) := rfl
theorem val_either (f : List UInt8 → Int) (a b : Ex) : valF f (eitherE a b) = truthE (!decide (valF f a = 0) || !decide (valF f b = 0)) := rfl
theorem val_plus (f : List UInt8 → Int) (a b : Ex) : valF f (plusE a b) = addE (valF f a) (valF f b) := rfl
theorem val_minus (f : List UInt8 → Int) (a b : Ex) : valF f (minusE a b) = subE (valF f a) (valF f b) := rfl
theorem val_equal (f : List UInt8 → Int) (a : Ex) (n : Int) : valF f (equalE a n) = truthE (decide (valF f a = n)) := rfl
theorem val_less (f : List UInt8 → Int) (a b : Ex) : valF f (lessE a b) = truthE (decide (valF f a < valF f b)) := rfl
theorem val_when (f : List UInt8 → Int) (c a b : Ex) : valF f (whenE c a b) = if valF f c ≠ 0 then valF f a else valF f b := rfl
theorem val_ne (f : List UInt8 → Int) (a b : Ex) : valF f (nodeE 16 [a, b]) = truthE (!decide (valF f a = valF f b)) := rfl
theorem add_id {a b : Int} (h0 : 0 ≤ a) (h1 : 0 ≤ b) (h2 : a + b < 65536) : addE a b = a + b := by
  unfold addE; rw [wrap_id h0 (by omega), wrap_id h1 (by omega), wrap_id (by omega) h2]
theorem sub_id {a b : Int} (h1 : 0 ≤ b) (h2 : b ≤ a) (h3 : a < 65536) : subE a b = a - b := by
  unfold subE; rw [wrap_id (by omega) h3, wrap_id h1 (by omega), wrap_id (by omega) (by omega)]
theorem truth_01 (b : Bool) : truthE b = 0 ∨ truthE b = 1 := by cases b <;> simp [truthE]
theorem truth_1 {p : Prop} [Decidable p] : truthE (decide p) = 1 ↔ p := by unfold truthE; by_cases h : p <;> simp [h]
theorem truth_b {b : Bool} : truthE b = 1 ↔ b = true := by cases b <;> simp [truthE]
theorem truth_z {b : Bool} : truthE b = 0 ↔ b = false := by cases b <;> simp [truthE]
end Go.Proofs.YthlfacmpjehjmaaGreatDoor
/- First in, first out: from cycles to the laws. -/
set_option linter.unusedSimpArgs false
set_option linter.unusedVariables false
namespace Go.Proofs.YthlfacmpjehjmaaGreatDoor
open Go.Sim
/-- The transfers that are inside after each cycle. -/
structure Fifo (w : Wv) (kind width : Int) (n : Nat) (Q : Nat → List (Int × Int)) : Prop where
  z : Q 0 = []
  hd : ∀ t, t < n → seeV w sOv t = 1 → ∃ r, Q t = (seeV w sOt t, seeV w sOa t) :: r
  nx : ∀ t, t < n → Q (t + 1) = (if seeV w sOv t = 1 ∧ seeV w sOrdy t = 1 then (Q t).tail else Q t) ++ (if seeV w sIv t = 1 ∧ seeV w sIrdy t = 1 then [(seeV w sIt t, bitsOf .and .i64 (trV w kind t (inE w kind width t).length) (maskE width))] else [])
  len : ∀ t, t ≤ n → (Q t).length ≤ 8
theorem fifo_law {w : Wv} {kind width : Int} {n : Nat} {Q : Nat → List (Int × Int)} (F : Fifo w kind width n Q) : ∀ t, t ≤ n → inE w kind width t = outE w t ++ Q t
  | 0, _ => by rw [F.z]; rfl
  | t + 1, h => by
    have ih := fifo_law F t (by omega)
    rw [F.nx t (by omega)]
    by_cases h1 : seeV w sOv t = 1 ∧ seeV w sOrdy t = 1
    · obtain ⟨r, hr⟩ := F.hd t (by omega) h1.1
      rw [out_yes h1, if_pos h1, hr]
      rw [hr] at ih
      by_cases h2 : seeV w sIv t = 1 ∧ seeV w sIrdy t = 1
      · rw [in_yes h2, if_pos h2, ih]; simp
      · rw [in_no h2, if_neg h2, ih]; simp
    · rw [out_no h1, if_neg h1]
      by_cases h2 : seeV w sIv t = 1 ∧ seeV w sIrdy t = 1
      · rw [in_yes h2, if_pos h2, ih]; simp
      · rw [in_no h2, if_neg h2, ih]; simp
theorem fifo_beh {w : Wv} {kind width : Int} {Q : Nat → List (Int × Int)} (F : Fifo w kind width w.rows.length Q) (hk : kind < 4) : BehP kind (inE w kind width w.rows.length) (outE w w.rows.length) := by
  have h := fifo_law F _ (Nat.le_refl _)
  have hl := F.len _ (Nat.le_refl _)
  have h2 : (inE w kind width w.rows.length).length = (outE w w.rows.length).length + (Q w.rows.length).length := by rw [h, List.length_append]
  exact {
    le := by omega
    d8 := by omega
    d2 := fun h4 => by omega
    eq := fun _ i hi => by rw [h, getD_left hi]
    mt := fun h4 => by omega }
theorem fifo_stable {w : Wv} {kind width : Int} {Q : Nat → List (Int × Int)} (F : Fifo w kind width w.rows.length Q) (h01 : ∀ t, t < w.rows.length → seeV w sOv (t : Nat) = 0 ∨ seeV w sOv (t : Nat) = 1)
    (keep : ∀ t, t + 1 < w.rows.length → seeV w sOv (t : Nat) = 1 → seeV w sOrdy (t : Nat) ≠ 1 → seeV w sOv ((t + 1 : Nat) : Int) = 1) : StableP w := by
  intro t h1 h2 h3 h4
  obtain ⟨u, rfl⟩ : ∃ u, t = u + 1 := ⟨t - 1, by omega⟩
  rw [show (((u + 1 : Nat) : Int) - 1) = (u : Int) by omega] at h3 h4 ⊢
  have hov : seeV w sOv (u : Int) = 1 := (h01 u (by omega)).resolve_left h3
  have hk := keep u h2 hov h4
  obtain ⟨r, hr⟩ := F.hd u (by omega) hov
  obtain ⟨r2, hr2⟩ := F.hd (u + 1) h2 hk
  have hn := F.nx u (by omega)
  rw [if_neg (fun hc => h4 hc.2), hr, hr2, List.cons_append] at hn
  injection hn with he _
  injection he with e1 e2
  exact ⟨by omega, e1, e2⟩
theorem in_same (w : Wv) (k1 w1 k2 w2 : Int) : ∀ t, (inE w k1 w1 t).length = (inE w k2 w2 t).length
  | 0 => rfl
  | t + 1 => by
    have := in_same w k1 w1 k2 w2 t
    by_cases h : seeV w sIv t = 1 ∧ seeV w sIrdy t = 1
    · rw [in_yes h, in_yes h]; simp [this]
    · rw [in_no h, in_no h]; exact this
/-- The inputs and wires that the laws look at. -/
structure Face (d : Ds) (w : Int) : Prop where
  q : DsQ d
  ins : d.inputs = [⟨sIv, 1⟩, ⟨sIt, 4⟩, ⟨sIa, w⟩, ⟨sIb, w⟩, ⟨sOrdy, 1⟩]
  wires : ∀ s ∈ [sIrdy, sOv, sOt, sOa], s ∈ d.wires.map Wr.name
theorem Face.mem {d : Ds} {w : Int} (h : Face d w) {s : List UInt8} (hs : s ∈ [sIv, sIt, sIa, sIb, sOrdy] ∨ s ∈ [sIrdy, sOv, sOt, sOa]) : s ∈ namesD d := by
  unfold namesD
  rw [List.mem_append, List.mem_append]
  rcases hs with hs | hs
  · left; left; rw [h.ins]; exact hs
  · left; right; exact h.wires s hs
theorem env_input {d : Ds} {w : Int} (h : Face d w) (st : List Int) (x : Rw) :
    envE d st (sgR x) sIv = truthE x.v ∧ envE d st (sgR x) sOrdy = truthE x.ready ∧ (0 ≤ envE d st (sgR x) sIt ∧ envE d st (sgR x) sIt ≤ 15) ∧ (0 ≤ envE d st (sgR x) sIa ∧ envE d st (sgR x) sIa ≤ maskE w) ∧ (0 ≤ envE d st (sgR x) sIb ∧ envE d st (sgR x) sIb ≤ maskE w) := by
  have hl : d.inputs.length = 5 := by rw [h.ins]; rfl
  have h0 := env_in h.q st (sgR x) (i := 0) (by omega)
  have h1 := env_in h.q st (sgR x) (i := 1) (by omega)
  have h2 := env_in h.q st (sgR x) (i := 2) (by omega)
  have h3 := env_in h.q st (sgR x) (i := 3) (by omega)
  have h4 := env_in h.q st (sgR x) (i := 4) (by omega)
  simp only [h.ins] at h0 h1 h2 h3 h4
  have e0 : envE d st (sgR x) sIv = cutE (truthE x.v) 1 := h0
  have e1 : envE d st (sgR x) sIt = cutE (IntKind.i64.wrap x.t) 4 := h1
  have e2 : envE d st (sgR x) sIa = cutE (IntKind.i64.wrap x.a) w := h2
  have e3 : envE d st (sgR x) sIb = cutE (IntKind.i64.wrap x.b) w := h3
  have e4 : envE d st (sgR x) sOrdy = cutE (truthE x.ready) 1 := h4
  rw [e0, e1, e2, e3, e4, cut_truth, cut_truth]
  have b1 := cut_bd (IntKind.i64.wrap x.t) 4
  rw [mask_4] at b1
  exact ⟨rfl, rfl, b1, cut_bd _ _, cut_bd _ _⟩
end Go.Proofs.YthlfacmpjehjmaaGreatDoor
/- The queue, cycle by cycle. -/
set_option linter.unusedSimpArgs false
set_option linter.unusedVariables false
namespace Go.Proofs.YthlfacmpjehjmaaGreatDoor
open Go.Sim
theorem truth_nz (b : Bool) : (!decide (truthE b = 0)) = b := by cases b <;> decide
theorem truth_ne (b : Bool) : (truthE b ≠ 0) = (b = true) := by cases b <;> simp [truthE]
theorem val_if (f : List UInt8 → Int) {p : Prop} [Decidable p] (a b : Ex) : valF f (if p then a else b) = if p then valF f a else valF f b := by split <;> rfl
/-- A row, moved. -/
theorem shift_list {α : Type} {f g : Nat → α} {e : α} {c : Nat} {push pop : Bool} (hpop : pop = true → 0 < c) (h1 : ∀ j, j < c - pop.toNat → g j = if pop then f (j + 1) else f j) (h2 : push = true → g (c - pop.toNat) = e) :
    (List.range (c - pop.toNat + push.toNat)).map g = (if pop then ((List.range c).map f).tail else (List.range c).map f) ++ (if push then [e] else []) := by
  have A : (List.range (c - pop.toNat)).map g = (if pop then ((List.range c).map f).tail else (List.range c).map f) := by
    cases pop with
    | false =>
      simp only [Bool.toNat_false, Nat.sub_zero, Bool.false_eq_true, if_false] at h1 ⊢
      exact List.map_congr_left fun j hj => h1 j (List.mem_range.1 hj)
    | true =>
      obtain ⟨m, rfl⟩ : ∃ m, c = m + 1 := ⟨c - 1, by have := hpop rfl; omega⟩
      simp only [Bool.toNat_true, Nat.add_sub_cancel, if_true] at h1 ⊢
      rw [List.range_succ_eq_map, List.map_cons, List.tail_cons, List.map_map]
      exact List.map_congr_left fun j hj => h1 j (List.mem_range.1 hj)
  cases push with
  | false => simp only [Bool.toNat_false, Nat.add_zero, Bool.false_eq_true, if_false, List.append_nil]; exact A
  | true =>
    simp only [Bool.toNat_true, if_true]
    rw [List.range_succ, List.map_append, A]
    simp only [List.map_cons, List.map_nil]
    rw [h2 rfl]
def rowX (l : List Rw) (t : Nat) : Rw := (l.take 60).getD t default
theorem rows_at {l : List Rw} {t : Nat} (h : t < (rowsS l).length) : (rowsS l).getD t default = sgR (rowX l t) := by
  unfold rowsS at *
  exact map_getD' sgR (by simpa using h)
theorem st_next {d : Ds} {l : List Rw} {t : Nat} (h : t < (rowsS l).length) : stN d (rowsS l) (t + 1) = stepE d (stN d (rowsS l) t) (sgR (rowX l t)) := by
  rw [stN, rows_at h]
theorem see_x {d : Ds} {w : Int} (F : Face d w) {l : List Rw} {s : List UInt8} {t : Nat} (hs : s ∈ [sIv, sIt, sIa, sIb, sOrdy] ∨ s ∈ [sIrdy, sOv, sOt, sOa]) (h : t < (rowsS l).length) : seeV (waveE d (rowsS l)) s (t : Int) = envE d (stN d (rowsS l) t) (sgR (rowX l t)) s := by
  rw [see_env (F.mem hs) h, sigV, rows_at h]
theorem cells_wires (k w : Int) : ∀ i, (cellsD k w i).wires = (queue0 k w).wires ∧ (cellsD k w i).inputs = (queue0 k w).inputs
  | 0 => ⟨rfl, rfl⟩
  | i + 1 => cells_wires k w i
theorem cells_reg (k w : Int) : ∀ i, (cellsD k w i).regs.getD 0 default = ⟨sN, 4, 0, plusE (refE sK) (refE sPush)⟩ ∧ ∀ j, j < i → (cellsD k w i).regs.getD (1 + 2 * j) default = ⟨ixN sT j, 4, 0, cellE k sT sIt j⟩ ∧ (cellsD k w i).regs.getD (2 + 2 * j) default = ⟨ixN sA j, w, 0, cellE k sA sIa j⟩
  | 0 => ⟨rfl, fun j hj => absurd hj (Nat.not_lt_zero _)⟩
  | i + 1 => by
    have ih := cells_reg k w i
    have hl := (cells_len k w i).2
    have e : (cellsD k w (i + 1)).regs = ((cellsD k w i).regs ++ [⟨ixN sT i, 4, 0, cellE k sT sIt i⟩]) ++ [⟨ixN sA i, w, 0, cellE k sA sIa i⟩] := rfl
    rw [e]
    refine ⟨by rw [getD_left (by simp <;> omega), getD_left (by omega)]; exact ih.1, fun j hj => ?_⟩
    by_cases hji : j < i
    · rw [getD_left (by simp <;> omega), getD_left (by omega), getD_left (by simp <;> omega), getD_left (by omega)]
      exact ih.2 j hji
    · obtain rfl : j = i := by omega
      constructor
      · rw [getD_left (by simp <;> omega), show 1 + 2 * j = (cellsD k w j).regs.length + 0 by omega, getD_right]; rfl
      · rw [show 2 + 2 * j = ((cellsD k w j).regs ++ ([⟨ixN sT j, 4, 0, cellE k sT sIt j⟩] : List Rg)).length + 0 by simp <;> omega, getD_right]; rfl
theorem queue_face {k : Nat} {w : Int} (hk : 1 ≤ k ∧ k ≤ 8) (hw : 1 ≤ w ∧ w ≤ 8) : Face (queueD k w) w where
  q := queue_q hk hw
  ins := (cells_wires k w k).2
  wires := by
    unfold queueD
    rw [(cells_wires k w k).1]
    intro s hs
    simp only [List.mem_cons, List.not_mem_nil, or_false] at hs
    show s ∈ [sIrdy, sOv, sOt, sOa, sPush, sPop, sK]
    rcases hs with rfl | rfl | rfl | rfl <;> simp
/-- A cycle of the queue. -/
structure QC (k : Nat) (w : Int) (st : List Int) (x : Rw) (push pop : Bool) : Prop where
  hpush : push = (x.v && decide (st.getD 0 default < k))
  hpop : pop = (decide (0 < st.getD 0 default) && x.ready)
  irdy : envE (queueD k w) st (sgR x) sIrdy = truthE (decide (st.getD 0 default < k))
  ov : envE (queueD k w) st (sgR x) sOv = truthE (decide (0 < st.getD 0 default))
  ot : envE (queueD k w) st (sgR x) sOt = st.getD 1 default
  oa : envE (queueD k w) st (sgR x) sOa = st.getD 2 default
  n0 : (stepE (queueD k w) st (sgR x)).getD 0 default = st.getD 0 default - truthE pop + truthE push
  nt : ∀ j, j < k → (stepE (queueD k w) st (sgR x)).getD (1 + 2 * j) default = if push = true ∧ st.getD 0 default - truthE pop = j then envE (queueD k w) st (sgR x) sIt else if pop = true then (if j + 1 < k then st.getD (1 + 2 * (j + 1)) default else 0) else st.getD (1 + 2 * j) default
  na : ∀ j, j < k → (stepE (queueD k w) st (sgR x)).getD (2 + 2 * j) default = if push = true ∧ st.getD 0 default - truthE pop = j then envE (queueD k w) st (sgR x) sIa else if pop = true then (if j + 1 < k then st.getD (2 + 2 * (j + 1)) default else 0) else st.getD (2 + 2 * j) default
theorem queue_cycle {k : Nat} {w : Int} (hk : 1 ≤ k ∧ k ≤ 8) (hw : 1 ≤ w ∧ w ≤ 8) {st : List Int} (hst : StOk (queueD k w) st) (x : Rw) (hc : st.getD 0 default ≤ k) : QC k w st x (x.v && decide (st.getD 0 default < k)) (decide (0 < st.getD 0 default) && x.ready) := by
  have F := queue_face hk hw
  have hq := F.q
  obtain ⟨i1, i2, i3, i4, i5⟩ := env_input F st x
  have wl : (queueD k w).wires.length = 7 := (cells_len k w k).1
  have rl : (queueD k w).regs.length = 1 + 2 * k := (cells_len k w k).2
  have g : ∀ i, (queueD k w).wires.getD i default = (queue0 k w).wires.getD i default := fun i => by unfold queueD; rw [(cells_wires k w k).1]
  have gr0 : (queueD k w).regs.getD 0 default = _ := (cells_reg k w k).1
  have gr := (cells_reg k w k).2
  have href := val_ref hq hst (sgR x)
  have W0 := env_wire hq st (sgR x) (i := 0) (by omega)
  have W1 := env_wire hq st (sgR x) (i := 1) (by omega)
  have W2 := env_wire hq st (sgR x) (i := 2) (by omega)
  have W3 := env_wire hq st (sgR x) (i := 3) (by omega)
  have W4 := env_wire hq st (sgR x) (i := 4) (by omega)
  have W5 := env_wire hq st (sgR x) (i := 5) (by omega)
  have W6 := env_wire hq st (sgR x) (i := 6) (by omega)
  rw [g] at W0 W1 W2 W3 W4 W5 W6
  have R0 := env_reg hq st (sgR x) (i := 0) (by omega)
  rw [gr0] at R0
  have RT : ∀ j, j < k → envE (queueD k w) st (sgR x) (ixN sT j) = st.getD (1 + 2 * j) default := fun j hj => by
    have := env_reg hq st (sgR x) (i := 1 + 2 * j) (by omega)
    rwa [show (queueD k w).regs.getD (1 + 2 * j) default = _ from (gr j hj).1] at this
  have RA : ∀ j, j < k → envE (queueD k w) st (sgR x) (ixN sA j) = st.getD (2 + 2 * j) default := fun j hj => by
    have := env_reg hq st (sgR x) (i := 2 + 2 * j) (by omega)
    rwa [show (queueD k w).regs.getD (2 + 2 * j) default = _ from (gr j hj).2] at this
  have bT : ∀ j, j < k → 0 ≤ st.getD (1 + 2 * j) default ∧ st.getD (1 + 2 * j) default ≤ maskE 4 := fun j hj => by
    have := hst.2 (1 + 2 * j) (by have := hst.1; omega)
    rwa [show (queueD k w).regs.getD (1 + 2 * j) default = _ from (gr j hj).1] at this
  have bA : ∀ j, j < k → 0 ≤ st.getD (2 + 2 * j) default ∧ st.getD (2 + 2 * j) default ≤ maskE w := fun j hj => by
    have := hst.2 (2 + 2 * j) (by have := hst.1; omega)
    rwa [show (queueD k w).regs.getD (2 + 2 * j) default = _ from (gr j hj).2] at this
  have b0 := hst.2 0 (by have := hst.1; omega)
  have S0 := step_at hq st (sgR x) (i := 0) (by omega)
  rw [gr0] at S0
  have ST : ∀ j, j < k → (stepE (queueD k w) st (sgR x)).getD (1 + 2 * j) default = cutE (valF (envE (queueD k w) st (sgR x)) (cellE k sT sIt j)) 4 := fun j hj => by
    have := step_at hq st (sgR x) (i := 1 + 2 * j) (by omega)
    rwa [show (queueD k w).regs.getD (1 + 2 * j) default = _ from (gr j hj).1] at this
  have SA : ∀ j, j < k → (stepE (queueD k w) st (sgR x)).getD (2 + 2 * j) default = cutE (valF (envE (queueD k w) st (sgR x)) (cellE k sA sIa j)) w := fun j hj => by
    have := step_at hq st (sgR x) (i := 2 + 2 * j) (by omega)
    rwa [show (queueD k w).regs.getD (2 + 2 * j) default = _ from (gr j hj).2] at this
  generalize hV : envE (queueD k w) st (sgR x) = V at *
  generalize hN : stepE (queueD k w) st (sgR x) = N at *
  replace R0 : V sN = st.getD 0 default := R0
  replace W0 : V sIrdy = cutE (valF V (lessE (refE sN) (numE k))) 1 := W0
  replace W1 : V sOv = cutE (valF V (lessE (numE 0) (refE sN))) 1 := W1
  replace W2 : V sOt = cutE (valF V (refE (ixN sT 0))) 4 := W2
  replace W3 : V sOa = cutE (valF V (refE (ixN sA 0))) w := W3
  replace W4 : V sPush = cutE (valF V (bothE (refE sIv) (refE sIrdy))) 1 := W4
  replace W5 : V sPop = cutE (valF V (bothE (refE sOv) (refE sOrdy))) 1 := W5
  replace W6 : V sK = cutE (valF V (minusE (refE sN) (refE sPop))) 4 := W6
  replace S0 : N.getD 0 default = cutE (valF V (plusE (refE sK) (refE sPush))) 4 := S0
  rw [val_less, val_num, href, cut_truth, R0] at W0
  rw [val_less, val_num, href, cut_truth, R0] at W1
  rw [href, RT 0 (by omega), cut_id (bT 0 (by omega)).1 (bT 0 (by omega)).2] at W2
  rw [href, RA 0 (by omega), cut_id (bA 0 (by omega)).1 (bA 0 (by omega)).2] at W3
  rw [val_both, href, href, cut_truth, i1, W0, truth_nz, truth_nz] at W4
  rw [val_both, href, href, cut_truth, i2, W1, truth_nz, truth_nz] at W5
  rw [val_minus, href, href, W5, R0] at W6
  rw [val_plus, href, href, W4] at S0
  generalize hpu : (x.v && decide (st.getD 0 default < (k : Int))) = push at *
  generalize hpo : (decide (0 < st.getD 0 default) && x.ready) = pop at *
  have hpo1 : pop = true → 0 < st.getD 0 default := fun h => by
    rw [h, Bool.and_eq_true] at hpo
    exact of_decide_eq_true hpo.1
  have hpu1 : push = true → st.getD 0 default < k := fun h => by
    rw [h, Bool.and_eq_true] at hpu
    exact of_decide_eq_true hpu.2
  have tp : (pop = true ∧ truthE pop = 1) ∨ (pop = false ∧ truthE pop = 0) := by cases pop <;> simp [truthE]
  have tu : (push = true ∧ truthE push = 1) ∨ (push = false ∧ truthE push = 0) := by cases push <;> simp [truthE]
  have hK : V sK = st.getD 0 default - truthE pop := by
    rw [W6, sub_id (by omega) (by rcases tp with h | h; (have := hpo1 h.1; omega); omega) (by omega), cut_id (by rcases tp with h | h; (have := hpo1 h.1; omega); omega) (by rw [mask_4]; omega)]
  have cell : ∀ (s inp : List UInt8) (wd : Int) (q : Nat) (j : Nat), j < k → (∀ j, j < k → V (ixN s j) = st.getD (q + 2 * j) default) → (∀ j, j < k → 0 ≤ st.getD (q + 2 * j) default ∧ st.getD (q + 2 * j) default ≤ maskE wd) → (0 ≤ V inp ∧ V inp ≤ maskE wd) →
      cutE (valF V (cellE k s inp j)) wd = if push = true ∧ st.getD 0 default - truthE pop = j then V inp else if pop = true then (if j + 1 < k then st.getD (q + 2 * (j + 1)) default else 0) else st.getD (q + 2 * j) default := by
    intro s inp wd q j hj h1 h2 h3
    unfold cellE
    rw [val_when, val_both, val_equal, val_when, href, href, href, href, href, val_if, val_num, href, W4, W5, hK, truth_nz, truth_nz, h1 j hj]
    simp only [truth_ne, Bool.and_eq_true, decide_eq_true_eq]
    split
    · rw [cut_id h3.1 h3.2]
    · split
      · by_cases hj1 : j + 1 < k
        · rw [if_pos (by omega), if_pos hj1, h1 (j + 1) hj1, cut_id (h2 (j + 1) hj1).1 (h2 (j + 1) hj1).2]
        · rw [if_neg (by omega), if_neg hj1, cut_id (by omega) (mask_le wd).1]
      · rw [cut_id (h2 j hj).1 (h2 j hj).2]
  have hm4 := mask_4
  exact {
    hpush := hpu.symm
    hpop := hpo.symm
    irdy := hV ▸ W0
    ov := hV ▸ W1
    ot := hV ▸ W2
    oa := hV ▸ W3
    n0 := by
      rw [hN, S0, hK, add_id (by rcases tp with h | h; (have := hpo1 h.1; omega); omega) (by omega) (by omega), cut_id (by rcases tp with h | h; (have := hpo1 h.1; omega); omega) (by rw [mask_4]; omega)]
    nt := fun j hj => by rw [hN, hV, ST j hj]; exact cell sT sIt 4 1 j hj RT bT ⟨i3.1, by rw [mask_4]; exact i3.2⟩
    na := fun j hj => by rw [hN, hV, SA j hj]; exact cell sA sIa w 2 j hj RA bA i4 }
end Go.Proofs.YthlfacmpjehjmaaGreatDoor
/- The queue is first in, first out. -/
set_option linter.unusedSimpArgs false
set_option linter.unusedVariables false
namespace Go.Proofs.YthlfacmpjehjmaaGreatDoor
open Go.Sim
theorem truth_and (a b : Bool) : (truthE a = 1 ∧ truthE b = 1) ↔ (a && b) = true := by cases a <;> cases b <;> simp [truthE]
theorem new_plain {w : Wv} {kind width : Int} {t n : Nat} (h1 : kind ≠ 1) (h2 : kind ≠ 2) (hw : 1 ≤ width ∧ width ≤ 8) (ha : 0 ≤ seeV w sIa t ∧ seeV w sIa t ≤ maskE width) : bitsOf .and .i64 (trV w kind t n) (maskE width) = seeV w sIa t := by
  have := mask_le width
  rw [trV, if_neg h1, if_neg h2, and_mask ha.1 (by omega) hw, Int.emod_eq_of_lt ha.1 (by omega)]
/-- What a law needs of a run. -/
structure Good (w : Wv) (kind width : Int) : Prop where
  fifo : ∃ Q, Fifo w kind width w.rows.length Q
  ov : ∀ t, t < w.rows.length → seeV w sOv (t : Nat) = 0 ∨ seeV w sOv (t : Nat) = 1
  keep : ∀ t, t + 1 < w.rows.length → seeV w sOv (t : Nat) = 1 → seeV w sOrdy (t : Nat) ≠ 1 → seeV w sOv ((t + 1 : Nat) : Int) = 1
def Idle (l : List Rw) (m n : Nat) : Prop := ∀ t, m ≤ t → t < n → (rowX l t).v = false ∧ (rowX l t).ready = true
def fQ (st : List Int) (i : Nat) : Int × Int := (st.getD (1 + 2 * i) default, st.getD (2 + 2 * i) default)
def qOf (st : List Int) : List (Int × Int) := (List.range (st.getD 0 default).toNat).map (fQ st)
theorem reset_at {d : Ds} (h : DsQ d) {i : Nat} (hi : i < d.regs.length) : (resetE d).getD i default = 0 := by
  unfold resetE
  rw [map_getD' _ hi, (h.v.ok.ini i hi).1]
section
variable {k : Nat} {w : Int}
theorem queue_c (hk : 1 ≤ k ∧ k ≤ 8) (hw : 1 ≤ w ∧ w ≤ 8) (l : List Rw) : ∀ t, t ≤ (rowsS l).length → 0 ≤ (stN (queueD k w) (rowsS l) t).getD 0 default ∧ (stN (queueD k w) (rowsS l) t).getD 0 default ≤ k
  | 0, _ => by
    have hq := queue_q hk hw
    have rl : (queueD k w).regs.length = 1 + 2 * k := (cells_len k w k).2
    have := reset_at hq (i := 0) (by omega)
    rw [stN, this]; omega
  | t + 1, h => by
    have ih := queue_c hk hw l t (by omega)
    have C := queue_cycle hk hw (st_ok (queue_q hk hw).v (rowsS l) t) (rowX l t) ih.2
    rw [st_next (by omega), C.n0]
    clear C
    generalize hpu : ((rowX l t).v && decide ((stN (queueD k w) (rowsS l) t).getD 0 default < (k : Int))) = push
    generalize hpo : (decide (0 < (stN (queueD k w) (rowsS l) t).getD 0 default) && (rowX l t).ready) = pop
    have h1 : push = true → (stN (queueD k w) (rowsS l) t).getD 0 default < k := fun h => by
      rw [h] at hpu; exact of_decide_eq_true (Bool.and_eq_true_iff.1 hpu).2
    have h2 : pop = true → 0 < (stN (queueD k w) (rowsS l) t).getD 0 default := fun h => by
      rw [h] at hpo; exact of_decide_eq_true (Bool.and_eq_true_iff.1 hpo).1
    have t1 := truth_01 push
    have t2 := truth_01 pop
    have t3 := truth_b (b := push)
    have t4 := truth_b (b := pop)
    rcases t1 with e1 | e1
    · rcases t2 with e2 | e2
      · rw [e1, e2]; omega
      · have := h2 (t4.1 e2); rw [e1, e2]; omega
    · rcases t2 with e2 | e2
      · have := h1 (t3.1 e1); rw [e1, e2]; omega
      · have := h1 (t3.1 e1); have := h2 (t4.1 e2); rw [e1, e2]; omega
theorem queue_at (hk : 1 ≤ k ∧ k ≤ 8) (hw : 1 ≤ w ∧ w ≤ 8) (l : List Rw) {t : Nat} (h : t < (rowsS l).length) : QC k w (stN (queueD k w) (rowsS l) t) (rowX l t) ((rowX l t).v && decide ((stN (queueD k w) (rowsS l) t).getD 0 default < k)) (decide (0 < (stN (queueD k w) (rowsS l) t).getD 0 default) && (rowX l t).ready) :=
  queue_cycle hk hw (st_ok (queue_q hk hw).v (rowsS l) t) (rowX l t) (queue_c hk hw l t (by omega)).2
theorem queue_fifo (hk : 1 ≤ k ∧ k ≤ 8) (hw : 1 ≤ w ∧ w ≤ 8) (l : List Rw) (kind : Int) (h1 : kind ≠ 1) (h2 : kind ≠ 2) : Fifo (waveE (queueD k w) (rowsS l)) kind w (rowsS l).length fun t => qOf (stN (queueD k w) (rowsS l) t) where
  z := by
    have rl : (queueD k w).regs.length = 1 + 2 * k := (cells_len k w k).2
    show qOf (resetE _) = []
    unfold qOf
    rw [reset_at (queue_q hk hw) (i := 0) (by omega)]; rfl
  hd := fun t ht hov => by
    have F := queue_face hk hw
    have C := queue_at hk hw l ht
    have hc := queue_c hk hw l t (by omega)
    rw [see_x F (.inr (by simp)) ht, C.ov, truth_b, decide_eq_true_eq] at hov
    rw [see_x F (.inr (by simp)) ht, see_x F (.inr (by simp)) ht, C.ot, C.oa]
    unfold qOf
    obtain ⟨m, hm⟩ : ∃ m, ((stN (queueD k w) (rowsS l) t).getD 0 default).toNat = m + 1 := ⟨((stN (queueD k w) (rowsS l) t).getD 0 default).toNat - 1, by omega⟩
    rw [hm, List.range_succ_eq_map, List.map_cons]
    exact ⟨_, rfl⟩
  nx := fun t ht => by
    have F := queue_face hk hw
    have C := queue_at hk hw l ht
    have hc := queue_c hk hw l t (by omega)
    obtain ⟨i1, i2, i3, i4, i5⟩ := env_input F (stN (queueD k w) (rowsS l) t) (rowX l t)
    have e1 : seeV (waveE (queueD k w) (rowsS l)) sIa t = _ := see_x F (.inl (by simp)) ht
    have e2 := new_plain (w := waveE (queueD k w) (rowsS l)) (kind := kind) (width := w) (t := t) (n := (inE (waveE (queueD k w) (rowsS l)) kind w t).length) h1 h2 hw (by rw [e1]; exact i4)
    rw [e2, e1, see_x F (.inr (by simp)) ht, see_x F (.inl (by simp)) ht, see_x F (.inl (by simp)) ht, see_x F (.inr (by simp)) ht, see_x F (.inl (by simp)) ht, C.ov, C.irdy, i1, i2]
    simp only [truth_and]
    have hpu := C.hpush
    have hpo := C.hpop
    have n0 := C.n0
    have nt := C.nt
    have na := C.na
    rw [← st_next ht] at n0 nt na
    unfold qOf
    generalize hS : stN (queueD k w) (rowsS l) t = S at *
    generalize hN : stN (queueD k w) (rowsS l) (t + 1) = N at *
    generalize hpu2 : ((rowX l t).v && decide (S.getD 0 default < (k : Int))) = push at *
    generalize hpo2 : (decide (0 < S.getD 0 default) && (rowX l t).ready) = pop at *
    have hpo1 : pop = true → 0 < S.getD 0 default := fun h => by
      rw [h] at hpo2; exact of_decide_eq_true (Bool.and_eq_true_iff.1 hpo2).1
    have hpu1 : push = true → S.getD 0 default < k := fun h => by
      rw [h] at hpu2; exact of_decide_eq_true (Bool.and_eq_true_iff.1 hpu2).2
    have tp : truthE pop = ((pop.toNat : Nat) : Int) := by cases pop <;> rfl
    have tu : truthE push = ((push.toNat : Nat) : Int) := by cases push <;> rfl
    have lp : pop.toNat ≤ (S.getD 0 default).toNat := by
      cases hp : pop with
      | false => exact Nat.zero_le _
      | true => have := hpo1 hp; show (1 : Nat) ≤ _; omega
    rw [tp] at n0 nt na
    rw [tu] at n0
    have hlen : (N.getD 0 default).toNat = (S.getD 0 default).toNat - pop.toNat + push.toNat := by omega
    rw [hlen]
    refine shift_list (f := fQ S) (g := fQ N) (fun h => by have := hpo1 h; omega) (fun j hj => ?_) (fun h => ?_)
    · have hne : ¬ (push = true ∧ S.getD 0 default - ((pop.toNat : Nat) : Int) = (j : Int)) := fun hc2 => by omega
      have hjk : j < k := by omega
      unfold fQ
      rw [nt j hjk, na j hjk, if_neg hne, if_neg hne]
      cases pop with
      | false => rfl
      | true =>
        have : j + 1 < k := by change j < _ - 1 at hj; omega
        simp only [if_true, if_pos this]
    · have hjk : (S.getD 0 default).toNat - pop.toNat < k := by have := hpu1 h; omega
      have he : push = true ∧ S.getD 0 default - ((pop.toNat : Nat) : Int) = (((S.getD 0 default).toNat - pop.toNat : Nat) : Int) := ⟨h, by omega⟩
      unfold fQ
      rw [nt _ hjk, na _ hjk, if_pos he, if_pos he]
  len := fun t ht => by
    have hc := queue_c hk hw l t ht
    unfold qOf
    rw [List.length_map, List.length_range]; omega
theorem queue_good (hk : 1 ≤ k ∧ k ≤ 8) (hw : 1 ≤ w ∧ w ≤ 8) (l : List Rw) (kind : Int) (h1 : kind ≠ 1) (h2 : kind ≠ 2) : Good (waveE (queueD k w) (rowsS l)) kind w where
  fifo := ⟨_, by rw [wave_len]; exact queue_fifo hk hw l kind h1 h2⟩
  ov := fun t ht => by
    rw [wave_len] at ht
    rw [see_x (queue_face hk hw) (.inr (by simp)) ht, (queue_at hk hw l ht).ov]
    exact truth_01 _
  keep := fun t ht h3 h4 => by
    rw [wave_len] at ht
    have ht2 : t < (rowsS l).length := by omega
    have F := queue_face hk hw
    have C := queue_at hk hw l ht2
    have C2 := queue_at hk hw l ht
    rw [see_x F (.inr (by simp)) ht2, C.ov, truth_b, decide_eq_true_eq] at h3
    rw [see_x F (.inl (by simp)) ht2, (env_input F (stN (queueD k w) (rowsS l) t) (rowX l t)).2.1, Ne, truth_b] at h4
    rw [see_x F (.inr (by simp)) ht, C2.ov, truth_b, decide_eq_true_eq, st_next ht2, C.n0]
    have e : (decide (0 < (stN (queueD k w) (rowsS l) t).getD 0 default) && (rowX l t).ready) = false := by
      cases h : (rowX l t).ready with
      | false => simp
      | true => exact absurd h h4
    rw [e]
    have := truth_01 ((rowX l t).v && decide ((stN (queueD k w) (rowsS l) t).getD 0 default < (k : Int)))
    show 0 < _ - truthE false + _
    rw [show truthE false = 0 from rfl]; omega
theorem queue_idle (hk : 1 ≤ k ∧ k ≤ 8) (hw : 1 ≤ w ∧ w ≤ 8) (l : List Rw) {m : Nat} (hi : Idle l m (rowsS l).length) : ∀ j, m + j ≤ (rowsS l).length → (stN (queueD k w) (rowsS l) (m + j)).getD 0 default ≤ max 0 (8 - (j : Int))
  | 0, h => by have := queue_c hk hw l m (by omega); simp only [Nat.add_zero]; omega
  | j + 1, h => by
    have ih := queue_idle hk hw l hi j (by omega)
    have ht : m + j < (rowsS l).length := by omega
    have C := queue_at hk hw l ht
    have hc := queue_c hk hw l (m + j) (by omega)
    have hr := hi (m + j) (by omega) ht
    rw [show m + (j + 1) = (m + j) + 1 by omega, st_next ht, C.n0, hr.1, hr.2, Bool.false_and, Bool.and_true, show truthE false = 0 from rfl]
    by_cases h0 : 0 < (stN (queueD k w) (rowsS l) (m + j)).getD 0 default
    · rw [decide_eq_true h0, show truthE true = 1 from rfl]; omega
    · rw [decide_eq_false h0, show truthE false = 0 from rfl]; omega
theorem queue_dry (hk : 1 ≤ k ∧ k ≤ 8) (hw : 1 ≤ w ∧ w ≤ 8) (l : List Rw) {m : Nat} (hi : Idle l m (rowsS l).length) (hm : m + 12 = (rowsS l).length) : ∃ Q, Fifo (waveE (queueD k w) (rowsS l)) 0 w (rowsS l).length Q ∧ Q (rowsS l).length = [] := by
  refine ⟨_, queue_fifo hk hw l 0 (by omega) (by omega), ?_⟩
  have h := queue_idle hk hw l hi 12 (by omega)
  have hc := queue_c hk hw l (rowsS l).length (Nat.le_refl _)
  rw [hm] at h
  show qOf _ = []
  unfold qOf
  rw [show ((stN (queueD k w) (rowsS l) (rowsS l).length).getD 0 default).toNat = 0 by omega]; rfl
end
end Go.Proofs.YthlfacmpjehjmaaGreatDoor
/- The designs of one stage, cycle by cycle. -/
set_option linter.unusedSimpArgs false
set_option linter.unusedVariables false
namespace Go.Proofs.YthlfacmpjehjmaaGreatDoor
open Go.Sim
/-- A design of one stage; nx is what the data register takes over. -/
structure StageF (d : Ds) (w : Int) (nx : Ex) : Prop where
  f : Face d w
  wl : 5 ≤ d.wires.length
  rl : 3 ≤ d.regs.length
  w0 : d.wires.getD 0 default = ⟨sIrdy, 1, eitherE (notE (refE sV)) (refE sOrdy)⟩
  w1 : d.wires.getD 1 default = ⟨sOv, 1, refE sV⟩
  w2 : d.wires.getD 2 default = ⟨sOt, 4, refE sT⟩
  w3 : d.wires.getD 3 default = ⟨sOa, w, refE sA⟩
  w4 : d.wires.getD 4 default = ⟨sPush, 1, bothE (refE sIv) (refE sIrdy)⟩
  r0 : d.regs.getD 0 default = ⟨sV, 1, 0, whenE (refE sPush) (numE 1) (whenE (refE sOrdy) (numE 0) (refE sV))⟩
  r1 : d.regs.getD 1 default = ⟨sT, 4, 0, whenE (refE sPush) (refE sIt) (refE sT)⟩
  r2 : d.regs.getD 2 default = ⟨sA, w, 0, whenE (refE sPush) nx (refE sA)⟩
theorem adder_f {w : Int} (hw : 1 ≤ w ∧ w ≤ 8) : StageF (adderD w) w (plusE (refE sIa) (refE sIb)) where
  f := ⟨(others_q hw).1, rfl, by intro s hs; simp only [List.mem_cons, List.not_mem_nil, or_false] at hs; show s ∈ [sIrdy, sOv, sOt, sOa, sPush]; rcases hs with rfl | rfl | rfl | rfl <;> simp⟩
  wl := Nat.le_refl 5
  rl := Nat.le_refl 3
  w0 := rfl
  w1 := rfl
  w2 := rfl
  w3 := rfl
  w4 := rfl
  r0 := rfl
  r1 := rfl
  r2 := rfl
theorem counter_f {w : Int} (hw : 1 ≤ w ∧ w ≤ 8) : StageF (counterD w) w (refE sN) where
  f := ⟨(others_q hw).2.1, rfl, by intro s hs; simp only [List.mem_cons, List.not_mem_nil, or_false] at hs; show s ∈ [sIrdy, sOv, sOt, sOa, sPush]; rcases hs with rfl | rfl | rfl | rfl <;> simp⟩
  wl := Nat.le_refl 5
  rl := Nat.le_succ 3
  w0 := rfl
  w1 := rfl
  w2 := rfl
  w3 := rfl
  w4 := rfl
  r0 := rfl
  r1 := rfl
  r2 := rfl
/-- A cycle of a stage. -/
structure SC (d : Ds) (w : Int) (nx : Ex) (st : List Int) (x : Rw) (vb push : Bool) : Prop where
  v0 : st.getD 0 default = truthE vb
  irdy : envE d st (sgR x) sIrdy = truthE (!vb || x.ready)
  ov : envE d st (sgR x) sOv = truthE vb
  ot : envE d st (sgR x) sOt = st.getD 1 default
  oa : envE d st (sgR x) sOa = st.getD 2 default
  pu : envE d st (sgR x) sPush = truthE push
  n0 : (stepE d st (sgR x)).getD 0 default = truthE (push || (!x.ready && vb))
  n1 : (stepE d st (sgR x)).getD 1 default = if push = true then envE d st (sgR x) sIt else st.getD 1 default
  n2 : (stepE d st (sgR x)).getD 2 default = if push = true then cutE (valF (envE d st (sgR x)) nx) w else st.getD 2 default
theorem stage_cycle {d : Ds} {w : Int} {nx : Ex} (G : StageF d w nx) {st : List Int} (hst : StOk d st) (x : Rw) : SC d w nx st x (decide (st.getD 0 default = 1)) (x.v && (!decide (st.getD 0 default = 1) || x.ready)) := by
  have F := G.f
  have hq := F.q
  have h5 := G.wl
  have h3 := G.rl
  obtain ⟨i1, i2, i3, i4, i5⟩ := env_input F st x
  have href := val_ref hq hst (sgR x)
  have W0 := env_wire hq st (sgR x) (i := 0) (by omega)
  have W1 := env_wire hq st (sgR x) (i := 1) (by omega)
  have W2 := env_wire hq st (sgR x) (i := 2) (by omega)
  have W3 := env_wire hq st (sgR x) (i := 3) (by omega)
  have W4 := env_wire hq st (sgR x) (i := 4) (by omega)
  rw [G.w0] at W0
  rw [G.w1] at W1
  rw [G.w2] at W2
  rw [G.w3] at W3
  rw [G.w4] at W4
  have R0 := env_reg hq st (sgR x) (i := 0) (by omega)
  have R1 := env_reg hq st (sgR x) (i := 1) (by omega)
  have R2 := env_reg hq st (sgR x) (i := 2) (by omega)
  rw [G.r0] at R0
  rw [G.r1] at R1
  rw [G.r2] at R2
  have b0 := hst.2 0 (by have := hst.1; omega)
  have b1 := hst.2 1 (by have := hst.1; omega)
  have b2 := hst.2 2 (by have := hst.1; omega)
  rw [G.r0] at b0
  rw [G.r1] at b1
  rw [G.r2] at b2
  have S0 := step_at hq st (sgR x) (i := 0) (by omega)
  have S1 := step_at hq st (sgR x) (i := 1) (by omega)
  have S2 := step_at hq st (sgR x) (i := 2) (by omega)
  rw [G.r0] at S0
  rw [G.r1] at S1
  rw [G.r2] at S2
  have hz : st.getD 0 default = truthE (decide (st.getD 0 default = 1)) := by
    have : st.getD 0 default ≤ 1 := b0.2
    unfold truthE
    by_cases h : st.getD 0 default = 1
    · rw [if_pos (decide_eq_true h)]; exact h
    · rw [if_neg (by simpa using h)]; omega
  generalize hV : envE d st (sgR x) = V at *
  generalize hN : stepE d st (sgR x) = N at *
  replace W0 : V sIrdy = cutE (valF V (eitherE (notE (refE sV)) (refE sOrdy))) 1 := W0
  replace W1 : V sOv = cutE (valF V (refE sV)) 1 := W1
  replace W2 : V sOt = cutE (valF V (refE sT)) 4 := W2
  replace W3 : V sOa = cutE (valF V (refE sA)) w := W3
  replace W4 : V sPush = cutE (valF V (bothE (refE sIv) (refE sIrdy))) 1 := W4
  replace R0 : V sV = st.getD 0 default := R0
  replace R1 : V sT = st.getD 1 default := R1
  replace R2 : V sA = st.getD 2 default := R2
  replace S0 : N.getD 0 default = cutE (valF V (whenE (refE sPush) (numE 1) (whenE (refE sOrdy) (numE 0) (refE sV)))) 1 := S0
  replace S1 : N.getD 1 default = cutE (valF V (whenE (refE sPush) (refE sIt) (refE sT))) 4 := S1
  replace S2 : N.getD 2 default = cutE (valF V (whenE (refE sPush) nx (refE sA))) w := S2
  generalize hvb : decide (st.getD 0 default = 1) = vb at *
  have e0 : ∀ b : Bool, decide (truthE b = 0) = !b := fun b => by cases b <;> decide
  have e1 : ∀ b : Bool, (!decide (truthE b = 0)) = b := truth_nz
  rw [val_either, val_not, href, href, cut_truth, R0, hz, i2, e0, e1, e1] at W0
  rw [href, R0, hz, cut_truth] at W1
  rw [href, R1, cut_id b1.1 b1.2] at W2
  rw [href, R2, cut_id b2.1 b2.2] at W3
  rw [val_both, href, href, cut_truth, i1, W0, e1, e1] at W4
  rw [val_when, val_when, href, href, href, val_num, val_num, W4, i2, R0, hz] at S0
  rw [val_when, href, href, href, W4, R1] at S1
  rw [val_when, href, href, W4, R2] at S2
  generalize hpu : (x.v && (!vb || x.ready)) = push at *
  simp only [truth_ne] at S0 S1 S2
  exact {
    v0 := hz
    irdy := hV ▸ W0
    ov := hV ▸ W1
    ot := hV ▸ W2
    oa := hV ▸ W3
    pu := hV ▸ W4
    n0 := by
      rw [hN, S0]
      cases push <;> cases x.ready <;> cases vb <;> decide
    n1 := by
      rw [hN, hV, S1]
      split
      · exact cut_id i3.1 (by rw [mask_4]; exact i3.2)
      · exact cut_id b1.1 b1.2
    n2 := by
      rw [hN, hV, S2]
      split
      · rfl
      · exact cut_id b2.1 b2.2 }
def sQ (st : List Int) : List (Int × Int) := if st.getD 0 default = 1 then [(st.getD 1 default, st.getD 2 default)] else []
/-- What the register of the data takes over is what the law expects. -/
def NextOk (d : Ds) (w kind : Int) (nx : Ex) (l : List Rw) : Prop := ∀ t, t < (rowsS l).length → cutE (valF (envE d (stN d (rowsS l) t) (sgR (rowX l t))) nx) w = bitsOf .and .i64 (trV (waveE d (rowsS l)) kind t (inE (waveE d (rowsS l)) kind w t).length) (maskE w)
theorem stage_fifo {d : Ds} {w : Int} {nx : Ex} (G : StageF d w nx) (kind : Int) (l : List Rw) (hn : NextOk d w kind nx l) : Fifo (waveE d (rowsS l)) kind w (rowsS l).length fun t => sQ (stN d (rowsS l) t) where
  z := by
    show sQ (resetE _) = []
    unfold sQ
    rw [reset_at G.f.q (i := 0) (by have := G.rl; omega)]; rfl
  hd := fun t ht hov => by
    have C := stage_cycle G (st_ok G.f.q.v (rowsS l) t) (rowX l t)
    rw [see_x G.f (.inr (by simp)) ht, C.ov, truth_b, decide_eq_true_eq] at hov
    rw [see_x G.f (.inr (by simp)) ht, see_x G.f (.inr (by simp)) ht, C.ot, C.oa]
    show ∃ r, sQ _ = _
    unfold sQ
    rw [if_pos hov]
    exact ⟨[], rfl⟩
  nx := fun t ht => by
    have C := stage_cycle G (st_ok G.f.q.v (rowsS l) t) (rowX l t)
    obtain ⟨i1, i2, i3, i4, i5⟩ := env_input G.f (stN d (rowsS l) t) (rowX l t)
    rw [← hn t ht, see_x G.f (.inr (by simp)) ht, see_x G.f (.inl (by simp)) ht, see_x G.f (.inl (by simp)) ht, see_x G.f (.inr (by simp)) ht, see_x G.f (.inl (by simp)) ht, C.ov, C.irdy, i1, i2]
    simp only [truth_and]
    have n0 := C.n0
    have n1 := C.n1
    have n2 := C.n2
    rw [← st_next ht] at n0 n1 n2
    show sQ _ = (if _ then (sQ _).tail else sQ _) ++ _
    unfold sQ
    rw [n0, n1, n2, C.v0]
    generalize decide ((stN d (rowsS l) t).getD 0 default = 1) = vb
    generalize (rowX l t).v = iv
    generalize (rowX l t).ready = rdy
    cases vb <;> cases iv <;> cases rdy <;> simp [truthE]
  len := fun t ht => by
    show (sQ _).length ≤ 8
    unfold sQ; split <;> simp
theorem stage_good {d : Ds} {w : Int} {nx : Ex} (G : StageF d w nx) (kind : Int) (l : List Rw) (hn : NextOk d w kind nx l) : Good (waveE d (rowsS l)) kind w where
  fifo := ⟨_, by rw [wave_len]; exact stage_fifo G kind l hn⟩
  ov := fun t ht => by
    rw [wave_len] at ht
    rw [see_x G.f (.inr (by simp)) ht, (stage_cycle G (st_ok G.f.q.v (rowsS l) t) (rowX l t)).ov]
    exact truth_01 _
  keep := fun t ht h3 h4 => by
    rw [wave_len] at ht
    have ht2 : t < (rowsS l).length := by omega
    have C := stage_cycle G (st_ok G.f.q.v (rowsS l) t) (rowX l t)
    have C2 := stage_cycle G (st_ok G.f.q.v (rowsS l) (t + 1)) (rowX l (t + 1))
    rw [see_x G.f (.inr (by simp)) ht2, C.ov, truth_b, decide_eq_true_eq] at h3
    rw [see_x G.f (.inl (by simp)) ht2, (env_input G.f (stN d (rowsS l) t) (rowX l t)).2.1, Ne, truth_b, Bool.not_eq_true] at h4
    rw [see_x G.f (.inr (by simp)) ht, C2.ov, truth_b, decide_eq_true_eq, st_next ht2, C.n0, h4, decide_eq_true h3]
    simp [truthE]
theorem stage_dry {d : Ds} {w : Int} {nx : Ex} (G : StageF d w nx) (kind : Int) (l : List Rw) (hn : NextOk d w kind nx l) {m : Nat} (hi : Idle l m (rowsS l).length) (hm : m + 12 = (rowsS l).length) : ∃ Q, Fifo (waveE d (rowsS l)) kind w (rowsS l).length Q ∧ Q (rowsS l).length = [] := by
  refine ⟨_, stage_fifo G kind l hn, ?_⟩
  have hr := hi (m + 11) (by omega) (by omega)
  have C := stage_cycle G (st_ok G.f.q.v (rowsS l) (m + 11)) (rowX l (m + 11))
  have n0 := C.n0
  rw [← st_next (by omega), show m + 11 + 1 = (rowsS l).length by omega, hr.1, hr.2] at n0
  show sQ _ = []
  unfold sQ
  rw [n0]; rfl
theorem adder_next {w : Int} (hw : 1 ≤ w ∧ w ≤ 8) (l : List Rw) : NextOk (adderD w) w 1 (plusE (refE sIa) (refE sIb)) l := by
  intro t ht
  have G := adder_f hw
  obtain ⟨i1, i2, i3, i4, i5⟩ := env_input G.f (stN (adderD w) (rowsS l) t) (rowX l t)
  have hm := mask_mono hw.1 hw.2 (Int.le_refl 8)
  have h8 : maskE 8 = 255 := by decide
  rw [trV, if_pos rfl, see_x G.f (.inl (by simp)) ht, see_x G.f (.inl (by simp)) ht, val_plus, val_ref G.f.q (st_ok G.f.q.v (rowsS l) t), val_ref G.f.q (st_ok G.f.q.v (rowsS l) t), add_id i4.1 i5.1 (by omega), cut_eq (by omega) (by omega), wrap_in (by simp only [InR]; omega), and_mask (by omega) (by omega) hw]
theorem counter_n {w : Int} (hw : 1 ≤ w ∧ w ≤ 8) (l : List Rw) : ∀ t, t ≤ (rowsS l).length → (stN (counterD w) (rowsS l) t).getD 3 default = ((inE (waveE (counterD w) (rowsS l)) 2 w t).length : Int) % (maskE w + 1)
  | 0, _ => by
    have G := counter_f hw
    rw [stN, reset_at G.f.q (i := 3) (Nat.lt_succ_self 3)]
    simp [inE]
  | t + 1, h => by
    have ih := counter_n hw l t (by omega)
    have ht : t < (rowsS l).length := by omega
    have G := counter_f hw
    have hst := st_ok G.f.q.v (rowsS l) t
    have C := stage_cycle G hst (rowX l t)
    obtain ⟨i1, i2, i3, i4, i5⟩ := env_input G.f (stN (counterD w) (rowsS l) t) (rowX l t)
    have hm := mask_le w
    have hm8 := mask_mono hw.1 hw.2 (Int.le_refl 8)
    have h8 : maskE 8 = 255 := by decide
    have S3 := step_at G.f.q (stN (counterD w) (rowsS l) t) (sgR (rowX l t)) (i := 3) (Nat.lt_succ_self 3)
    have R3 := env_reg G.f.q (stN (counterD w) (rowsS l) t) (sgR (rowX l t)) (i := 3) (Nat.lt_succ_self 3)
    have e3 : (counterD w).regs.getD 3 default = ⟨sN, w, 0, whenE (refE sPush) (plusE (refE sN) (numE 1)) (refE sN)⟩ := rfl
    rw [e3] at S3 R3
    have b3 := hst.2 3 (by rw [hst.1]; exact Nat.lt_succ_self 3)
    rw [e3] at b3
    have R3' : envE (counterD w) (stN (counterD w) (rowsS l) t) (sgR (rowX l t)) sN = (stN (counterD w) (rowsS l) t).getD 3 default := R3
    have S3' : (stepE (counterD w) (stN (counterD w) (rowsS l) t) (sgR (rowX l t))).getD 3 default = cutE (valF (envE (counterD w) (stN (counterD w) (rowsS l) t) (sgR (rowX l t))) (whenE (refE sPush) (plusE (refE sN) (numE 1)) (refE sN))) w := S3
    have b3' : 0 ≤ (stN (counterD w) (rowsS l) t).getD 3 default ∧ (stN (counterD w) (rowsS l) t).getD 3 default ≤ maskE w := b3
    have href := val_ref G.f.q hst (sgR (rowX l t))
    rw [val_when, val_plus, href, href, val_num, C.pu, R3'] at S3'
    simp only [truth_ne] at S3'
    rw [st_next ht, S3']
    have hc : (seeV (waveE (counterD w) (rowsS l)) sIv t = 1 ∧ seeV (waveE (counterD w) (rowsS l)) sIrdy t = 1) ↔ ((rowX l t).v && (!decide ((stN (counterD w) (rowsS l) t).getD 0 default = 1) || (rowX l t).ready)) = true := by
      rw [see_x G.f (.inl (by simp)) ht, see_x G.f (.inr (by simp)) ht, C.irdy, i1, truth_and]
    by_cases hp : ((rowX l t).v && (!decide ((stN (counterD w) (rowsS l) t).getD 0 default = 1) || (rowX l t).ready)) = true
    · rw [if_pos hp, in_yes (hc.2 hp), add_id b3'.1 (by omega) (by omega), cut_eq (by omega) (by omega), ih]
      simp only [List.length_append, List.length_cons, List.length_nil, Nat.zero_add, Int.natCast_add]
      rw [Int.emod_add_emod]; rfl
    · rw [if_neg hp, in_no (fun h => hp (hc.1 h)), cut_id b3'.1 b3'.2, ih]
theorem counter_next {w : Int} (hw : 1 ≤ w ∧ w ≤ 8) (l : List Rw) : NextOk (counterD w) w 2 (refE sN) l := by
  intro t ht
  have G := counter_f hw
  have hst := st_ok G.f.q.v (rowsS l) t
  have e3 : (counterD w).regs.getD 3 default = ⟨sN, w, 0, whenE (refE sPush) (plusE (refE sN) (numE 1)) (refE sN)⟩ := rfl
  have R3 := env_reg G.f.q (stN (counterD w) (rowsS l) t) (sgR (rowX l t)) (i := 3) (Nat.lt_succ_self 3)
  rw [e3] at R3
  have R3' : envE (counterD w) (stN (counterD w) (rowsS l) t) (sgR (rowX l t)) sN = (stN (counterD w) (rowsS l) t).getD 3 default := R3
  have b3 := hst.2 3 (by rw [hst.1]; exact Nat.lt_succ_self 3)
  rw [e3] at b3
  have hl := in_len (waveE (counterD w) (rowsS l)) 2 w t
  have hr := rowsS_len l
  rw [trV, if_neg (by omega), if_pos rfl, val_ref G.f.q hst, R3', cut_id b3.1 b3.2, counter_n hw l t (by omega), and_mask (by omega) (by omega) hw]
end Go.Proofs.YthlfacmpjehjmaaGreatDoor
/- The pipeline, cycle by cycle. -/
set_option linter.unusedSimpArgs false
set_option linter.unusedVariables false
namespace Go.Proofs.YthlfacmpjehjmaaGreatDoor
open Go.Sim
theorem stages_wires (k : Nat) (w : Int) : ∀ i, (stagesD k w i).wires = (delay0 k w).wires ∧ (stagesD k w i).inputs = (delay0 k w).inputs
  | 0 => ⟨rfl, rfl⟩
  | i + 1 => stages_wires k w i
theorem stages_reg (k : Nat) (w : Int) : ∀ i, ∀ j, j < i → (stagesD k w i).regs.getD (3 * j) default = ⟨ixN sV j, 1, 0, moveE (refE sGo) (fromE sV sIv j) (ixN sV j)⟩ ∧ (stagesD k w i).regs.getD (1 + 3 * j) default = ⟨ixN sT j, 4, 0, moveE (takeE j) (fromE sT sIt j) (ixN sT j)⟩ ∧ (stagesD k w i).regs.getD (2 + 3 * j) default = ⟨ixN sA j, w, 0, moveE (takeE j) (fromE sA sIa j) (ixN sA j)⟩
  | 0, j, hj => absurd hj (Nat.not_lt_zero _)
  | i + 1, j, hj => by
    have hl := (stages_len k w i).2
    have e : (stagesD k w (i + 1)).regs = (((stagesD k w i).regs ++ ([⟨ixN sV i, 1, 0, moveE (refE sGo) (fromE sV sIv i) (ixN sV i)⟩] : List Rg)) ++ ([⟨ixN sT i, 4, 0, moveE (takeE i) (fromE sT sIt i) (ixN sT i)⟩] : List Rg)) ++ ([⟨ixN sA i, w, 0, moveE (takeE i) (fromE sA sIa i) (ixN sA i)⟩] : List Rg) := rfl
    rw [e]
    by_cases hji : j < i
    · have ih := stages_reg k w i j hji
      rw [List.append_assoc, List.append_assoc, getD_left (by omega), getD_left (by omega), getD_left (by omega)]
      exact ih
    · obtain rfl : j = i := by omega
      rw [List.append_assoc, List.append_assoc]
      refine ⟨?_, ?_, ?_⟩
      · rw [show 3 * j = (stagesD k w j).regs.length + 0 by omega, getD_right]; rfl
      · rw [show 1 + 3 * j = (stagesD k w j).regs.length + 1 by omega, getD_right]; rfl
      · rw [show 2 + 3 * j = (stagesD k w j).regs.length + 2 by omega, getD_right]; rfl
theorem delay_face {k : Nat} {w : Int} (hk : 1 ≤ k ∧ k ≤ 8) (hw : 1 ≤ w ∧ w ≤ 8) : Face (delayD k w) w where
  q := delay_q hk hw
  ins := (stages_wires k w k).2
  wires := by
    unfold delayD
    rw [(stages_wires k w k).1]
    intro s hs
    simp only [List.mem_cons, List.not_mem_nil, or_false] at hs
    show s ∈ [sGo, sIrdy, sOv, sOt, sOa]
    rcases hs with rfl | rfl | rfl | rfl <;> simp
/-- A cycle of the pipeline. -/
structure DC (m : Nat) (w : Int) (st : List Int) (x : Rw) (go : Bool) : Prop where
  bv : ∀ j, j < m + 1 → st.getD (3 * j) default = 0 ∨ st.getD (3 * j) default = 1
  hgo : go = (!decide (st.getD (3 * m) default = 1) || x.ready)
  irdy : envE (delayD (m + 1) w) st (sgR x) sIrdy = truthE go
  ov : envE (delayD (m + 1) w) st (sgR x) sOv = st.getD (3 * m) default
  ot : envE (delayD (m + 1) w) st (sgR x) sOt = st.getD (1 + 3 * m) default
  oa : envE (delayD (m + 1) w) st (sgR x) sOa = st.getD (2 + 3 * m) default
  v0 : (stepE (delayD (m + 1) w) st (sgR x)).getD 0 default = if go = true then truthE x.v else st.getD 0 default
  vs : ∀ j, j < m → (stepE (delayD (m + 1) w) st (sgR x)).getD (3 * (j + 1)) default = if go = true then st.getD (3 * j) default else st.getD (3 * (j + 1)) default
  t0 : (stepE (delayD (m + 1) w) st (sgR x)).getD 1 default = if go = true ∧ x.v = true then envE (delayD (m + 1) w) st (sgR x) sIt else st.getD 1 default
  ts : ∀ j, j < m → (stepE (delayD (m + 1) w) st (sgR x)).getD (1 + 3 * (j + 1)) default = if go = true ∧ st.getD (3 * j) default = 1 then st.getD (1 + 3 * j) default else st.getD (1 + 3 * (j + 1)) default
  a0 : (stepE (delayD (m + 1) w) st (sgR x)).getD 2 default = if go = true ∧ x.v = true then envE (delayD (m + 1) w) st (sgR x) sIa else st.getD 2 default
  a1 : ∀ j, j < m → (stepE (delayD (m + 1) w) st (sgR x)).getD (2 + 3 * (j + 1)) default = if go = true ∧ st.getD (3 * j) default = 1 then st.getD (2 + 3 * j) default else st.getD (2 + 3 * (j + 1)) default
theorem delay_cycle {m : Nat} {w : Int} (hk : m + 1 ≤ 8) (hw : 1 ≤ w ∧ w ≤ 8) {st : List Int} (hst : StOk (delayD (m + 1) w) st) (x : Rw) : DC m w st x (!decide (st.getD (3 * m) default = 1) || x.ready) := by
  have F := delay_face (k := m + 1) ⟨by omega, hk⟩ hw
  have hq := F.q
  obtain ⟨i1, i2, i3, i4, i5⟩ := env_input F st x
  have wl : (delayD (m + 1) w).wires.length = 5 := (stages_len (m + 1) w (m + 1)).1
  have rl : (delayD (m + 1) w).regs.length = 3 * (m + 1) := (stages_len (m + 1) w (m + 1)).2
  have g : ∀ i, (delayD (m + 1) w).wires.getD i default = (delay0 (m + 1) w).wires.getD i default := fun i => by unfold delayD; rw [(stages_wires (m + 1) w (m + 1)).1]
  have hm : lastN (m + 1) = m := by unfold lastN; omega
  have gr := stages_reg (m + 1) w (m + 1)
  have href := val_ref hq hst (sgR x)
  have W0 := env_wire hq st (sgR x) (i := 0) (by omega)
  have W1 := env_wire hq st (sgR x) (i := 1) (by omega)
  have W2 := env_wire hq st (sgR x) (i := 2) (by omega)
  have W3 := env_wire hq st (sgR x) (i := 3) (by omega)
  have W4 := env_wire hq st (sgR x) (i := 4) (by omega)
  rw [g] at W0 W1 W2 W3 W4
  have RV : ∀ j, j < m + 1 → envE (delayD (m + 1) w) st (sgR x) (ixN sV j) = st.getD (3 * j) default := fun j hj => by
    have := env_reg hq st (sgR x) (i := 3 * j) (by omega)
    rwa [show (delayD (m + 1) w).regs.getD (3 * j) default = _ from (gr j hj).1] at this
  have RT : ∀ j, j < m + 1 → envE (delayD (m + 1) w) st (sgR x) (ixN sT j) = st.getD (1 + 3 * j) default := fun j hj => by
    have := env_reg hq st (sgR x) (i := 1 + 3 * j) (by omega)
    rwa [show (delayD (m + 1) w).regs.getD (1 + 3 * j) default = _ from (gr j hj).2.1] at this
  have RA : ∀ j, j < m + 1 → envE (delayD (m + 1) w) st (sgR x) (ixN sA j) = st.getD (2 + 3 * j) default := fun j hj => by
    have := env_reg hq st (sgR x) (i := 2 + 3 * j) (by omega)
    rwa [show (delayD (m + 1) w).regs.getD (2 + 3 * j) default = _ from (gr j hj).2.2] at this
  have bV : ∀ j, j < m + 1 → 0 ≤ st.getD (3 * j) default ∧ st.getD (3 * j) default ≤ maskE 1 := fun j hj => by
    have := hst.2 (3 * j) (by have := hst.1; omega)
    rwa [show (delayD (m + 1) w).regs.getD (3 * j) default = _ from (gr j hj).1] at this
  have bT : ∀ j, j < m + 1 → 0 ≤ st.getD (1 + 3 * j) default ∧ st.getD (1 + 3 * j) default ≤ maskE 4 := fun j hj => by
    have := hst.2 (1 + 3 * j) (by have := hst.1; omega)
    rwa [show (delayD (m + 1) w).regs.getD (1 + 3 * j) default = _ from (gr j hj).2.1] at this
  have bA : ∀ j, j < m + 1 → 0 ≤ st.getD (2 + 3 * j) default ∧ st.getD (2 + 3 * j) default ≤ maskE w := fun j hj => by
    have := hst.2 (2 + 3 * j) (by have := hst.1; omega)
    rwa [show (delayD (m + 1) w).regs.getD (2 + 3 * j) default = _ from (gr j hj).2.2] at this
  have SV : ∀ j, j < m + 1 → (stepE (delayD (m + 1) w) st (sgR x)).getD (3 * j) default = cutE (valF (envE (delayD (m + 1) w) st (sgR x)) (moveE (refE sGo) (fromE sV sIv j) (ixN sV j))) 1 := fun j hj => by
    have := step_at hq st (sgR x) (i := 3 * j) (by omega)
    rwa [show (delayD (m + 1) w).regs.getD (3 * j) default = _ from (gr j hj).1] at this
  have ST : ∀ j, j < m + 1 → (stepE (delayD (m + 1) w) st (sgR x)).getD (1 + 3 * j) default = cutE (valF (envE (delayD (m + 1) w) st (sgR x)) (moveE (takeE j) (fromE sT sIt j) (ixN sT j))) 4 := fun j hj => by
    have := step_at hq st (sgR x) (i := 1 + 3 * j) (by omega)
    rwa [show (delayD (m + 1) w).regs.getD (1 + 3 * j) default = _ from (gr j hj).2.1] at this
  have SA : ∀ j, j < m + 1 → (stepE (delayD (m + 1) w) st (sgR x)).getD (2 + 3 * j) default = cutE (valF (envE (delayD (m + 1) w) st (sgR x)) (moveE (takeE j) (fromE sA sIa j) (ixN sA j))) w := fun j hj => by
    have := step_at hq st (sgR x) (i := 2 + 3 * j) (by omega)
    rwa [show (delayD (m + 1) w).regs.getD (2 + 3 * j) default = _ from (gr j hj).2.2] at this
  generalize hV : envE (delayD (m + 1) w) st (sgR x) = V at *
  generalize hN : stepE (delayD (m + 1) w) st (sgR x) = N at *
  replace W0 : V sGo = cutE (valF V (eitherE (notE (refE (ixN sV (lastN (m + 1))))) (refE sOrdy))) 1 := W0
  replace W1 : V sIrdy = cutE (valF V (refE sGo)) 1 := W1
  replace W2 : V sOv = cutE (valF V (refE (ixN sV (lastN (m + 1))))) 1 := W2
  replace W3 : V sOt = cutE (valF V (refE (ixN sT (lastN (m + 1))))) 4 := W3
  replace W4 : V sOa = cutE (valF V (refE (ixN sA (lastN (m + 1))))) w := W4
  have b01 : ∀ j, j < m + 1 → st.getD (3 * j) default = 0 ∨ st.getD (3 * j) default = 1 := fun j hj => by
    have := bV j hj
    rw [mask_1] at this; omega
  have tb : ∀ j, j < m + 1 → st.getD (3 * j) default = truthE (decide (st.getD (3 * j) default = 1)) := fun j hj => by
    rcases b01 j hj with h | h <;> rw [h] <;> rfl
  have e0 : ∀ b : Bool, decide (truthE b = 0) = !b := fun b => by cases b <;> decide
  rw [hm] at W0 W2 W3 W4
  rw [val_either, val_not, href, href, cut_truth, RV m (by omega), tb m (by omega), i2, e0, truth_nz, truth_nz] at W0
  generalize hgo : (!decide (st.getD (3 * m) default = 1) || x.ready) = go at *
  rw [href, W0, cut_truth] at W1
  rw [href, RV m (by omega), cut_id (bV m (by omega)).1 (bV m (by omega)).2] at W2
  rw [href, RT m (by omega), cut_id (bT m (by omega)).1 (bT m (by omega)).2] at W3
  rw [href, RA m (by omega), cut_id (bA m (by omega)).1 (bA m (by omega)).2] at W4
  have mv : ∀ (s inp : List UInt8) (wd : Int) (q j : Nat), j < m → (∀ j, j < m + 1 → V (ixN s j) = st.getD (q + 3 * j) default) → (∀ j, j < m + 1 → 0 ≤ st.getD (q + 3 * j) default ∧ st.getD (q + 3 * j) default ≤ maskE wd) →
      cutE (valF V (moveE (takeE (j + 1)) (fromE s inp (j + 1)) (ixN s (j + 1)))) wd = if go = true ∧ st.getD (3 * j) default = 1 then st.getD (q + 3 * j) default else st.getD (q + 3 * (j + 1)) default := by
    intro s inp wd q j hj h1 h2
    unfold moveE takeE fromE
    rw [val_when, val_both, href, href, href, href, W0, RV j (by omega), tb j (by omega), truth_nz, truth_nz, h1 j (by omega), h1 (j + 1) (by omega)]
    simp only [truth_ne, Bool.and_eq_true, decide_eq_true_eq]
    have e : (truthE (decide (st.getD (3 * j) default = 1)) = 1) = (st.getD (3 * j) default = 1) := by rw [← tb j (by omega)]
    simp only [e]
    split
    · exact cut_id (h2 j (by omega)).1 (h2 j (by omega)).2
    · exact cut_id (h2 (j + 1) (by omega)).1 (h2 (j + 1) (by omega)).2
  have m0 : ∀ (s inp : List UInt8) (wd : Int) (q : Nat), V (ixN s 0) = st.getD q default → (0 ≤ st.getD q default ∧ st.getD q default ≤ maskE wd) → (0 ≤ V inp ∧ V inp ≤ maskE wd) →
      cutE (valF V (moveE (takeE 0) (fromE s inp 0) (ixN s 0))) wd = if go = true ∧ x.v = true then V inp else st.getD q default := by
    intro s inp wd q h1 h2 h3
    unfold moveE takeE fromE
    rw [val_when, val_both, href, href, href, href, W0, i1, truth_nz, truth_nz, h1]
    simp only [truth_ne, Bool.and_eq_true]
    split
    · exact cut_id h3.1 h3.2
    · exact cut_id h2.1 h2.2
  exact {
    bv := b01
    hgo := hgo.symm
    irdy := hV ▸ W1
    ov := hV ▸ W2
    ot := hV ▸ W3
    oa := hV ▸ W4
    v0 := by
      rw [hN]
      have := SV 0 (by omega)
      unfold moveE fromE at this
      rw [val_when, href, href, href, W0, i1, RV 0 (by omega)] at this
      simp only [truth_ne] at this
      rw [show 3 * 0 = 0 from rfl] at this
      rw [this]
      split
      · exact cut_truth _
      · exact cut_id (bV 0 (by omega)).1 (bV 0 (by omega)).2
    vs := fun j hj => by
      rw [hN, SV (j + 1) (by omega)]
      unfold moveE fromE
      rw [val_when, href, href, href, W0, RV j (by omega), RV (j + 1) (by omega)]
      simp only [truth_ne]
      split
      · exact cut_id (bV j (by omega)).1 (bV j (by omega)).2
      · exact cut_id (bV (j + 1) (by omega)).1 (bV (j + 1) (by omega)).2
    t0 := by
      rw [hN, hV]
      have := ST 0 (by omega)
      rw [m0 sT sIt 4 1 (RT 0 (by omega)) (bT 0 (by omega)) ⟨i3.1, by rw [mask_4]; exact i3.2⟩] at this
      exact this
    ts := fun j hj => by rw [hN, ST (j + 1) (by omega)]; exact mv sT sIt 4 1 j hj RT bT
    a0 := by
      rw [hN, hV]
      have := SA 0 (by omega)
      rw [m0 sA sIa w 2 (RA 0 (by omega)) (bA 0 (by omega)) i4] at this
      exact this
    a1 := fun j hj => by rw [hN, SA (j + 1) (by omega)]; exact mv sA sIa w 2 j hj RA bA }
end Go.Proofs.YthlfacmpjehjmaaGreatDoor
/- The pipeline is first in, first out. -/
set_option linter.unusedSimpArgs false
set_option linter.unusedVariables false
namespace Go.Proofs.YthlfacmpjehjmaaGreatDoor
open Go.Sim
/-- The valid stages, the last one first. -/
def dQ (st : List Int) : Nat → List (Int × Int)
  | 0 => []
  | j + 1 => (if st.getD (3 * j) default = 1 then [(st.getD (1 + 3 * j) default, st.getD (2 + 3 * j) default)] else []) ++ dQ st j
theorem dQ_len (st : List Int) : ∀ j, (dQ st j).length ≤ j
  | 0 => Nat.le_refl _
  | j + 1 => by
    have := dQ_len st j
    rw [dQ, List.length_append]
    split <;> simp <;> omega
theorem dQ_same {s t : List Int} : ∀ j, (∀ i, i < j → t.getD (3 * i) default = s.getD (3 * i) default ∧ t.getD (1 + 3 * i) default = s.getD (1 + 3 * i) default ∧ t.getD (2 + 3 * i) default = s.getD (2 + 3 * i) default) → dQ t j = dQ s j
  | 0, _ => rfl
  | j + 1, h => by
    have e := h j (by omega)
    rw [dQ, dQ, dQ_same j fun i hi => h i (by omega), e.1, e.2.1, e.2.2]
theorem dQ_none {s : List Int} : ∀ j, (∀ i, i < j → s.getD (3 * i) default = 0) → dQ s j = []
  | 0, _ => rfl
  | j + 1, h => by
    have e := h j (by omega)
    rw [dQ, dQ_none j fun i hi => h i (by omega), e]; rfl
theorem dQ_move {s t : List Int} {new : List (Int × Int)} (h0 : (if t.getD 0 default = 1 then [(t.getD 1 default, t.getD 2 default)] else []) = new) : ∀ j, (∀ i, i < j → t.getD (3 * (i + 1)) default = s.getD (3 * i) default ∧ (s.getD (3 * i) default = 1 → t.getD (1 + 3 * (i + 1)) default = s.getD (1 + 3 * i) default ∧ t.getD (2 + 3 * (i + 1)) default = s.getD (2 + 3 * i) default)) → dQ t (j + 1) = dQ s j ++ new
  | 0, _ => by rw [← h0, dQ, dQ, dQ]; simp
  | j + 1, h => by
    have e := h j (by omega)
    rw [dQ, dQ_move h0 j fun i hi => h i (by omega), dQ.eq_2 s j, e.1, List.append_assoc]
    congr 1
    split
    · rename_i h1
      rw [(e.2 h1).1, (e.2 h1).2]
    · rfl
section
variable {m : Nat} {w : Int}
theorem delay_at (hk : m + 1 ≤ 8) (hw : 1 ≤ w ∧ w ≤ 8) (l : List Rw) (t : Nat) : DC m w (stN (delayD (m + 1) w) (rowsS l) t) (rowX l t) (!decide ((stN (delayD (m + 1) w) (rowsS l) t).getD (3 * m) default = 1) || (rowX l t).ready) :=
  delay_cycle hk hw (st_ok (delay_face (k := m + 1) ⟨by omega, hk⟩ hw).q.v (rowsS l) t) (rowX l t)
theorem delay_fifo (hk : m + 1 ≤ 8) (hw : 1 ≤ w ∧ w ≤ 8) (l : List Rw) (kind : Int) (h1 : kind ≠ 1) (h2 : kind ≠ 2) : Fifo (waveE (delayD (m + 1) w) (rowsS l)) kind w (rowsS l).length fun t => dQ (stN (delayD (m + 1) w) (rowsS l) t) (m + 1) where
  z := by
    have F := delay_face (k := m + 1) ⟨by omega, hk⟩ hw
    have rl : (delayD (m + 1) w).regs.length = 3 * (m + 1) := (stages_len (m + 1) w (m + 1)).2
    show dQ (resetE _) (m + 1) = []
    exact dQ_none _ fun i hi => reset_at F.q (by omega)
  hd := fun t ht hov => by
    have F := delay_face (k := m + 1) ⟨by omega, hk⟩ hw
    have C := delay_at hk hw l t
    rw [see_x F (.inr (by simp)) ht, C.ov] at hov
    rw [see_x F (.inr (by simp)) ht, see_x F (.inr (by simp)) ht, C.ot, C.oa]
    show ∃ r, dQ _ (m + 1) = _
    rw [dQ, if_pos hov]
    exact ⟨_, rfl⟩
  nx := fun t ht => by
    have F := delay_face (k := m + 1) ⟨by omega, hk⟩ hw
    have C := delay_at hk hw l t
    obtain ⟨i1, i2, i3, i4, i5⟩ := env_input F (stN (delayD (m + 1) w) (rowsS l) t) (rowX l t)
    have e1 : seeV (waveE (delayD (m + 1) w) (rowsS l)) sIa t = _ := see_x F (.inl (by simp)) ht
    have e2 := new_plain (w := waveE (delayD (m + 1) w) (rowsS l)) (kind := kind) (width := w) (t := t) (n := (inE (waveE (delayD (m + 1) w) (rowsS l)) kind w t).length) h1 h2 hw (by rw [e1]; exact i4)
    have hb := C.bv m (by omega)
    rw [e2, e1, see_x F (.inr (by simp)) ht, see_x F (.inl (by simp)) ht, see_x F (.inl (by simp)) ht, see_x F (.inr (by simp)) ht, see_x F (.inl (by simp)) ht, C.ov, C.irdy, i1, i2]
    have hgo := C.hgo
    have v0 := C.v0
    have vs := C.vs
    have t0 := C.t0
    have ts := C.ts
    have a0 := C.a0
    have a1 := C.a1
    rw [← st_next ht] at v0 vs t0 ts a0 a1
    show dQ _ (m + 1) = (if _ then (dQ _ (m + 1)).tail else dQ _ (m + 1)) ++ _
    generalize hS : stN (delayD (m + 1) w) (rowsS l) t = S at *
    generalize hN : stN (delayD (m + 1) w) (rowsS l) (t + 1) = N at *
    generalize hgo2 : (!decide (S.getD (3 * m) default = 1) || (rowX l t).ready) = go at *
    cases hg : go with
    | false =>
      rw [hg] at hgo2 v0 vs t0 ts a0 a1
      simp only [Bool.false_eq_true, if_false, false_and] at v0 vs t0 ts a0 a1
      rw [Bool.or_eq_false_iff, Bool.not_eq_false', decide_eq_true_eq] at hgo2
      rw [hgo2.2, if_neg (fun h => by have := h.2; simp [truthE] at this), if_neg (fun h => by have := h.2; simp [truthE] at this), List.append_nil]
      refine dQ_same _ fun i hi => ?_
      cases i with
      | zero => exact ⟨v0, t0, a0⟩
      | succ i => exact ⟨vs i (by omega), ts i (by omega), a1 i (by omega)⟩
    | true =>
      rw [hg] at hgo2 v0 vs t0 ts a0 a1
      simp only [if_true, true_and] at v0 vs t0 ts a0 a1
      have hnew : (if N.getD 0 default = 1 then [(N.getD 1 default, N.getD 2 default)] else []) = (if truthE (rowX l t).v = 1 ∧ truthE true = 1 then [(envE (delayD (m + 1) w) S (sgR (rowX l t)) sIt, envE (delayD (m + 1) w) S (sgR (rowX l t)) sIa)] else []) := by
        rw [v0, t0, a0]
        cases (rowX l t).v <;> simp [truthE]
      rw [dQ_move hnew m fun i hi => ⟨vs i hi, fun h => ⟨by rw [ts i hi, if_pos h], by rw [a1 i hi, if_pos h]⟩⟩]
      congr 1
      by_cases hv : S.getD (3 * m) default = 1
      · rw [decide_eq_true hv] at hgo2
        have hr : (rowX l t).ready = true := by simpa using hgo2
        rw [hr, if_pos ⟨hv, rfl⟩, dQ, if_pos hv]; rfl
      · rw [if_neg (fun h => hv h.1), dQ, if_neg hv]; rfl
  len := fun t ht => by
    have := dQ_len (stN (delayD (m + 1) w) (rowsS l) t) (m + 1)
    show (dQ _ (m + 1)).length ≤ 8
    omega
theorem delay_good (hk : m + 1 ≤ 8) (hw : 1 ≤ w ∧ w ≤ 8) (l : List Rw) (kind : Int) (h1 : kind ≠ 1) (h2 : kind ≠ 2) : Good (waveE (delayD (m + 1) w) (rowsS l)) kind w where
  fifo := ⟨_, by rw [wave_len]; exact delay_fifo hk hw l kind h1 h2⟩
  ov := fun t ht => by
    rw [wave_len] at ht
    have C := delay_at hk hw l t
    rw [see_x (delay_face (k := m + 1) ⟨by omega, hk⟩ hw) (.inr (by simp)) ht, C.ov]
    exact C.bv m (by omega)
  keep := fun t ht h3 h4 => by
    rw [wave_len] at ht
    have ht2 : t < (rowsS l).length := by omega
    have F := delay_face (k := m + 1) ⟨by omega, hk⟩ hw
    have C := delay_at hk hw l t
    have C2 := delay_at hk hw l (t + 1)
    rw [see_x F (.inr (by simp)) ht2, C.ov] at h3
    rw [see_x F (.inl (by simp)) ht2, (env_input F (stN (delayD (m + 1) w) (rowsS l) t) (rowX l t)).2.1, Ne, truth_b, Bool.not_eq_true] at h4
    rw [see_x F (.inr (by simp)) ht, C2.ov, st_next ht2]
    have hgo : (!decide ((stN (delayD (m + 1) w) (rowsS l) t).getD (3 * m) default = 1) || (rowX l t).ready) = false := by rw [h4, decide_eq_true h3]; rfl
    cases m with
    | zero =>
      have v0 := C.v0
      rw [hgo, if_neg (by simp)] at v0
      rw [show 3 * 0 = 0 from rfl, v0]; exact h3
    | succ m =>
      have vs := C.vs m (by omega)
      rw [hgo, if_neg (by simp)] at vs
      rw [vs]; exact h3
theorem delay_idle (hk : m + 1 ≤ 8) (hw : 1 ≤ w ∧ w ≤ 8) (l : List Rw) {q : Nat} (hi : Idle l q (rowsS l).length) : ∀ j, q + j ≤ (rowsS l).length → ∀ i, i < j → i < m + 1 → (stN (delayD (m + 1) w) (rowsS l) (q + j)).getD (3 * i) default = 0
  | 0, _, i, h, _ => absurd h (Nat.not_lt_zero _)
  | j + 1, h, i, hij, him => by
    have ih := delay_idle hk hw l hi j (by omega)
    have ht : q + j < (rowsS l).length := by omega
    have C := delay_at hk hw l (q + j)
    have hr := hi (q + j) (by omega) ht
    have hgo : (!decide ((stN (delayD (m + 1) w) (rowsS l) (q + j)).getD (3 * m) default = 1) || (rowX l (q + j)).ready) = true := by rw [hr.2, Bool.or_true]
    rw [show q + (j + 1) = (q + j) + 1 by omega, st_next ht]
    cases i with
    | zero =>
      have v0 := C.v0
      rw [hgo, if_pos rfl, hr.1] at v0
      rw [show 3 * 0 = 0 from rfl, v0]; rfl
    | succ i =>
      have vs := C.vs i (by omega)
      rw [hgo, if_pos rfl] at vs
      rw [vs]
      exact ih i (by omega) (by omega)
theorem delay_dry (hk : m + 1 ≤ 8) (hw : 1 ≤ w ∧ w ≤ 8) (l : List Rw) {q : Nat} (hi : Idle l q (rowsS l).length) (hm : q + 12 = (rowsS l).length) : ∃ Q, Fifo (waveE (delayD (m + 1) w) (rowsS l)) 0 w (rowsS l).length Q ∧ Q (rowsS l).length = [] := by
  refine ⟨_, delay_fifo hk hw l 0 (by omega) (by omega), ?_⟩
  have h := delay_idle hk hw l hi 12 (by omega)
  rw [hm] at h
  exact dQ_none _ fun i hi => h i (by omega) hi
end
end Go.Proofs.YthlfacmpjehjmaaGreatDoor
/- The swap, cycle by cycle. -/
set_option linter.unusedSimpArgs false
set_option linter.unusedVariables false
namespace Go.Proofs.YthlfacmpjehjmaaGreatDoor
open Go.Sim
theorem swap_face {w : Int} (hw : 1 ≤ w ∧ w ≤ 8) : Face (swapD w) w := ⟨(others_q hw).2.2, rfl, by intro s hs; simp only [List.mem_cons, List.not_mem_nil, or_false] at hs; show s ∈ [sIrdy, sOv, sOt, sOa, sPush, sPop, sR]; rcases hs with rfl | rfl | rfl | rfl <;> simp⟩
/-- What holds of every state of the swap. -/
def SwI (st : List Int) : Prop := 0 ≤ st.getD 0 default ∧ st.getD 0 default ≤ 2 ∧ (st.getD 1 default = 0 ∨ st.getD 1 default = 1) ∧ (st.getD 0 default = 2 → st.getD 1 default = 1) ∧ (st.getD 1 default = 1 → 1 ≤ st.getD 0 default)
/-- A cycle of the swap. -/
structure WC (w : Int) (st : List Int) (x : Rw) (mb push pop : Bool) : Prop where
  hm : st.getD 1 default = truthE mb
  hpush : push = (x.v && (!mb && decide (st.getD 0 default < 2)))
  hpop : pop = (mb && x.ready)
  irdy : envE (swapD w) st (sgR x) sIrdy = truthE (!mb && decide (st.getD 0 default < 2))
  ov : envE (swapD w) st (sgR x) sOv = truthE mb
  ot : envE (swapD w) st (sgR x) sOt = if st.getD 0 default = 2 then st.getD 5 default else st.getD 3 default
  oa : envE (swapD w) st (sgR x) sOa = if st.getD 0 default = 2 then st.getD 6 default else st.getD 4 default
  n0 : (stepE (swapD w) st (sgR x)).getD 0 default = st.getD 0 default + truthE push - truthE pop
  n1 : (stepE (swapD w) st (sgR x)).getD 1 default = if mb = true then truthE (!decide (st.getD 0 default + truthE push - truthE pop = 0)) else truthE (decide (st.getD 0 default + truthE push - truthE pop = 2) || (decide (st.getD 0 default + truthE push - truthE pop = 1) && decide (st.getD 2 default = 3)))
  n2 : (stepE (swapD w) st (sgR x)).getD 2 default = if (((!mb && decide (st.getD 0 default = 1)) && !push) && decide (st.getD 2 default < 3)) = true then st.getD 2 default + 1 else 0
  n3 : (stepE (swapD w) st (sgR x)).getD 3 default = if push = true ∧ st.getD 0 default = 0 then envE (swapD w) st (sgR x) sIt else st.getD 3 default
  n4 : (stepE (swapD w) st (sgR x)).getD 4 default = if push = true ∧ st.getD 0 default = 0 then envE (swapD w) st (sgR x) sIa else st.getD 4 default
  n5 : (stepE (swapD w) st (sgR x)).getD 5 default = if push = true ∧ st.getD 0 default = 1 then envE (swapD w) st (sgR x) sIt else st.getD 5 default
  n6 : (stepE (swapD w) st (sgR x)).getD 6 default = if push = true ∧ st.getD 0 default = 1 then envE (swapD w) st (sgR x) sIa else st.getD 6 default
  s2 : 0 ≤ st.getD 2 default ∧ st.getD 2 default ≤ 3
theorem swap_cycle {w : Int} (hw : 1 ≤ w ∧ w ≤ 8) {st : List Int} (hst : StOk (swapD w) st) (x : Rw) (hI : SwI st) :
    WC w st x (decide (st.getD 1 default = 1)) (x.v && (!decide (st.getD 1 default = 1) && decide (st.getD 0 default < 2))) (decide (st.getD 1 default = 1) && x.ready) := by
  have F := swap_face hw
  have hq := F.q
  obtain ⟨i1, i2, i3, i4, i5⟩ := env_input F st x
  have href := val_ref hq hst (sgR x)
  have hl : st.length = 7 := hst.1
  have lt : ∀ i, i < 7 → i < (swapD w).regs.length := fun i h => h
  have lw : ∀ i, i < 7 → i < (swapD w).wires.length := fun i h => h
  have W0 := env_wire hq st (sgR x) (i := 0) (lw 0 (by omega))
  have W1 := env_wire hq st (sgR x) (i := 1) (lw 1 (by omega))
  have W2 := env_wire hq st (sgR x) (i := 2) (lw 2 (by omega))
  have W3 := env_wire hq st (sgR x) (i := 3) (lw 3 (by omega))
  have W4 := env_wire hq st (sgR x) (i := 4) (lw 4 (by omega))
  have W5 := env_wire hq st (sgR x) (i := 5) (lw 5 (by omega))
  have W6 := env_wire hq st (sgR x) (i := 6) (lw 6 (by omega))
  have R0 := env_reg hq st (sgR x) (i := 0) (lt 0 (by omega))
  have R1 := env_reg hq st (sgR x) (i := 1) (lt 1 (by omega))
  have R2 := env_reg hq st (sgR x) (i := 2) (lt 2 (by omega))
  have R3 := env_reg hq st (sgR x) (i := 3) (lt 3 (by omega))
  have R4 := env_reg hq st (sgR x) (i := 4) (lt 4 (by omega))
  have R5 := env_reg hq st (sgR x) (i := 5) (lt 5 (by omega))
  have R6 := env_reg hq st (sgR x) (i := 6) (lt 6 (by omega))
  have b2 : 0 ≤ st.getD 2 default ∧ st.getD 2 default ≤ maskE 2 := hst.2 2 (by omega)
  have b3 : 0 ≤ st.getD 3 default ∧ st.getD 3 default ≤ maskE 4 := hst.2 3 (by omega)
  have b4 : 0 ≤ st.getD 4 default ∧ st.getD 4 default ≤ maskE w := hst.2 4 (by omega)
  have b5 : 0 ≤ st.getD 5 default ∧ st.getD 5 default ≤ maskE 4 := hst.2 5 (by omega)
  have b6 : 0 ≤ st.getD 6 default ∧ st.getD 6 default ≤ maskE w := hst.2 6 (by omega)
  have S0 := step_at hq st (sgR x) (i := 0) (lt 0 (by omega))
  have S1 := step_at hq st (sgR x) (i := 1) (lt 1 (by omega))
  have S2 := step_at hq st (sgR x) (i := 2) (lt 2 (by omega))
  have S3 := step_at hq st (sgR x) (i := 3) (lt 3 (by omega))
  have S4 := step_at hq st (sgR x) (i := 4) (lt 4 (by omega))
  have S5 := step_at hq st (sgR x) (i := 5) (lt 5 (by omega))
  have S6 := step_at hq st (sgR x) (i := 6) (lt 6 (by omega))
  generalize hV : envE (swapD w) st (sgR x) = V at *
  generalize hN : stepE (swapD w) st (sgR x) = N at *
  replace W0 : V sIrdy = cutE (valF V (bothE (notE (refE sM)) (lessE (refE sN) (numE 2)))) 1 := W0
  replace W1 : V sOv = cutE (valF V (refE sM)) 1 := W1
  replace W2 : V sOt = cutE (valF V (whenE (equalE (refE sN) 2) (refE (ixN sT 1)) (refE (ixN sT 0)))) 4 := W2
  replace W3 : V sOa = cutE (valF V (whenE (equalE (refE sN) 2) (refE (ixN sA 1)) (refE (ixN sA 0)))) w := W3
  replace W4 : V sPush = cutE (valF V (bothE (refE sIv) (refE sIrdy))) 1 := W4
  replace W5 : V sPop = cutE (valF V (bothE (refE sOv) (refE sOrdy))) 1 := W5
  replace W6 : V sR = cutE (valF V (minusE (plusE (refE sN) (refE sPush)) (refE sPop))) 2 := W6
  replace R0 : V sN = st.getD 0 default := R0
  replace R1 : V sM = st.getD 1 default := R1
  replace R2 : V sS = st.getD 2 default := R2
  replace R3 : V (ixN sT 0) = st.getD 3 default := R3
  replace R4 : V (ixN sA 0) = st.getD 4 default := R4
  replace R5 : V (ixN sT 1) = st.getD 5 default := R5
  replace R6 : V (ixN sA 1) = st.getD 6 default := R6
  replace S0 : N.getD 0 default = cutE (valF V (refE sR)) 2 := S0
  replace S1 : N.getD 1 default = cutE (valF V (whenE (refE sM) leftE (eitherE (equalE (refE sR) 2) (bothE (equalE (refE sR) 1) (equalE (refE sS) 3))))) 1 := S1
  replace S2 : N.getD 2 default = cutE (valF V (whenE waitsE (plusE (refE sS) (numE 1)) (numE 0))) 2 := S2
  replace S3 : N.getD 3 default = cutE (valF V (whenE (takeS 0) (refE sIt) (refE (ixN sT 0)))) 4 := S3
  replace S4 : N.getD 4 default = cutE (valF V (whenE (takeS 0) (refE sIa) (refE (ixN sA 0)))) w := S4
  replace S5 : N.getD 5 default = cutE (valF V (whenE (takeS 1) (refE sIt) (refE (ixN sT 1)))) 4 := S5
  replace S6 : N.getD 6 default = cutE (valF V (whenE (takeS 1) (refE sIa) (refE (ixN sA 1)))) w := S6
  obtain ⟨I0, I1, I2, I3, I4⟩ := hI
  have hz : st.getD 1 default = truthE (decide (st.getD 1 default = 1)) := by rcases I2 with h | h <;> rw [h] <;> rfl
  have e0 : ∀ b : Bool, decide (truthE b = 0) = !b := fun b => by cases b <;> decide
  generalize hmb : decide (st.getD 1 default = 1) = mb at *
  have I5 : mb = true → 1 ≤ st.getD 0 default := fun h => by rw [h] at hmb; exact I4 (of_decide_eq_true hmb)
  rw [val_both, val_not, val_less, val_num, href, href, cut_truth, R0, R1, hz, e0, truth_nz, truth_nz] at W0
  rw [href, R1, hz, cut_truth] at W1
  rw [val_when, val_equal, href, href, href, R0, R3, R5] at W2
  rw [val_when, val_equal, href, href, href, R0, R4, R6] at W3
  rw [val_both, href, href, cut_truth, i1, W0, truth_nz, truth_nz] at W4
  rw [val_both, href, href, cut_truth, i2, W1, truth_nz, truth_nz] at W5
  rw [val_minus, val_plus, href, href, href, W4, W5, R0] at W6
  generalize hpu : (x.v && (!mb && decide (st.getD 0 default < 2))) = push at *
  generalize hpo : (mb && x.ready) = pop at *
  have tp : (pop = true ∧ truthE pop = 1) ∨ (pop = false ∧ truthE pop = 0) := by cases pop <;> simp [truthE]
  have tu : (push = true ∧ truthE push = 1) ∨ (push = false ∧ truthE push = 0) := by cases push <;> simp [truthE]
  have hpo1 : pop = true → 1 ≤ st.getD 0 default := fun h => by
    rw [h, Bool.and_eq_true] at hpo; exact I5 hpo.1
  have hpu1 : push = true → st.getD 0 default < 2 := fun h => by
    rw [h, Bool.and_eq_true, Bool.and_eq_true] at hpu; exact of_decide_eq_true hpu.2.2
  have hr0 : 0 ≤ st.getD 0 default + truthE push - truthE pop := by
    rcases tp with h | h
    · have := hpo1 h.1; rcases tu with h2 | h2 <;> omega
    · rcases tu with h2 | h2 <;> omega
  have hr2 : st.getD 0 default + truthE push - truthE pop ≤ 2 := by
    rcases tu with h | h
    · have := hpu1 h.1; rcases tp with h2 | h2 <;> omega
    · rcases tp with h2 | h2 <;> omega
  have hR : V sR = st.getD 0 default + truthE push - truthE pop := by
    rw [W6, add_id I0 (by rcases tu with h | h <;> omega) (by rcases tu with h | h <;> omega), sub_id (by rcases tp with h | h <;> omega) (by omega) (by rcases tu with h | h <;> omega), cut_id hr0 (by rw [mask_2]; omega)]
  rw [href, hR, cut_id hr0 (by rw [mask_2]; omega)] at S0
  unfold leftE at S1
  rw [val_when, val_ne, val_num, val_either, val_both, val_equal, val_equal, val_equal, href, href, href, hR, R1, R2, hz, truth_nz, truth_nz, truth_nz, truth_nz] at S1
  unfold waitsE at S2
  rw [val_when, val_both, val_both, val_both, val_not, val_not, val_equal, val_less, val_plus, val_num, val_num, val_num, href, href, href, href, W4, R0, R1, R2, hz] at S2
  simp only [e0, Bool.not_not] at S2
  unfold takeS at S3 S4 S5 S6
  rw [val_when, val_both, val_equal, href, href, href, href, W4, R0, R3, truth_nz, truth_nz] at S3
  rw [val_when, val_both, val_equal, href, href, href, href, W4, R0, R4, truth_nz, truth_nz] at S4
  rw [val_when, val_both, val_equal, href, href, href, href, W4, R0, R5, truth_nz, truth_nz] at S5
  rw [val_when, val_both, val_equal, href, href, href, href, W4, R0, R6, truth_nz, truth_nz] at S6
  simp only [truth_ne, Bool.and_eq_true, decide_eq_true_eq] at W2 W3 S1 S2 S3 S4 S5 S6
  rw [mask_2] at b2
  exact {
    hm := hz
    hpush := hpu.symm
    hpop := hpo.symm
    irdy := hV ▸ W0
    ov := hV ▸ W1
    ot := by
      rw [hV, W2]
      split
      · exact cut_id b5.1 b5.2
      · exact cut_id b3.1 b3.2
    oa := by
      rw [hV, W3]
      split
      · exact cut_id b6.1 b6.2
      · exact cut_id b4.1 b4.2
    n0 := by rw [hN, S0]
    n1 := by
      rw [hN, S1]
      split
      · exact cut_truth _
      · exact cut_truth _
    n2 := by
      rw [hN, S2]
      simp only [Bool.and_eq_true, decide_eq_true_eq]
      split
      · rename_i h
        have h3 : st.getD 2 default < 3 := h.2
        rw [add_id b2.1 (by omega) (by omega), cut_id (by omega) (by rw [mask_2]; omega)]
      · exact cut_id (by omega) (by rw [mask_2]; omega)
    n3 := by
      rw [hN, hV, S3]
      show (cutE (if push = true ∧ st.getD 0 default = 0 then V sIt else st.getD 3 default) 4) = _
      split
      · exact cut_id i3.1 (by rw [mask_4]; exact i3.2)
      · exact cut_id b3.1 b3.2
    n4 := by
      rw [hN, hV, S4]
      show (cutE (if push = true ∧ st.getD 0 default = 0 then V sIa else st.getD 4 default) w) = _
      split
      · exact cut_id i4.1 i4.2
      · exact cut_id b4.1 b4.2
    n5 := by
      rw [hN, hV, S5]
      show (cutE (if push = true ∧ st.getD 0 default = 1 then V sIt else st.getD 5 default) 4) = _
      split
      · exact cut_id i3.1 (by rw [mask_4]; exact i3.2)
      · exact cut_id b5.1 b5.2
    n6 := by
      rw [hN, hV, S6]
      show (cutE (if push = true ∧ st.getD 0 default = 1 then V sIa else st.getD 6 default) w) = _
      split
      · exact cut_id i4.1 i4.2
      · exact cut_id b6.1 b6.2
    s2 := b2 }
theorem swap_inv {w : Int} (hw : 1 ≤ w ∧ w ≤ 8) (l : List Rw) : ∀ t, t ≤ (rowsS l).length → SwI (stN (swapD w) (rowsS l) t)
  | 0, _ => by
    have hq := (swap_face hw).q
    have h0 : (stN (swapD w) (rowsS l) 0).getD 0 default = 0 := reset_at hq (i := 0) (show 0 < 7 by omega)
    have h1 : (stN (swapD w) (rowsS l) 0).getD 1 default = 0 := reset_at hq (i := 1) (show 1 < 7 by omega)
    unfold SwI
    rw [h0, h1]; omega
  | t + 1, h => by
    have ih := swap_inv hw l t (by omega)
    have C := swap_cycle hw (st_ok (swap_face hw).q.v (rowsS l) t) (rowX l t) ih
    have hpu := C.hpush
    have hpo := C.hpop
    have n0 := C.n0
    have n1 := C.n1
    rw [← st_next (by omega)] at n0 n1
    obtain ⟨I0, I1, I2, I3, I4⟩ := ih
    unfold SwI
    rw [n0, n1]
    clear C n0 n1
    generalize stN (swapD w) (rowsS l) t = S at *
    generalize hmb : decide (S.getD 1 default = 1) = mb at *
    have I5 : mb = true → 1 ≤ S.getD 0 default := fun h => by rw [h] at hmb; exact I4 (of_decide_eq_true hmb)
    have I6 : mb = false → S.getD 0 default ≤ 1 := fun h => by
      rw [h] at hmb; have := of_decide_eq_false hmb
      rcases Int.lt_or_le (S.getD 0 default) 2 with q | q
      · omega
      · exact absurd (I3 (by omega)) this
    generalize (rowX l t).v = iv
    generalize (rowX l t).ready = rd
    generalize S.getD 0 default = n at *
    generalize S.getD 2 default = s at *
    cases mb with
    | true =>
      have h5 := I5 rfl
      simp only [Bool.not_true, Bool.false_and, Bool.and_false, Bool.true_and, if_true, show truthE false = 0 from rfl]
      rcases truth_01 rd with e | e <;> rw [e] <;>
      · refine ⟨by omega, by omega, truth_01 _, fun h => ?_, fun h => ?_⟩
        · rw [truth_b]; simp; omega
        · rw [truth_b] at h; simp at h; omega
    | false =>
      have h6 := I6 rfl
      simp only [Bool.not_false, Bool.true_and, Bool.false_and, Bool.false_eq_true, if_false, show truthE false = 0 from rfl, Int.sub_zero]
      rw [decide_eq_true (show n < 2 by omega), Bool.and_true]
      rcases truth_01 iv with e | e <;> rw [e] <;>
      · refine ⟨by omega, by omega, truth_01 _, fun h => ?_, fun h => ?_⟩
        · rw [truth_b, decide_eq_true h]; rfl
        · rw [truth_b] at h; simp at h; omega
end Go.Proofs.YthlfacmpjehjmaaGreatDoor
/- The swap: what leaves has entered. -/
set_option linter.unusedSimpArgs false
set_option linter.unusedVariables false
namespace Go.Proofs.YthlfacmpjehjmaaGreatDoor
open Go.Sim
/-- The transfers that are inside, the next one that leaves is the last. -/
structure Lifo (w : Wv) (kind width : Int) (n : Nat) (Q : Nat → List (Int × Int)) : Prop where
  z : Q 0 = []
  po : ∀ t, t < n → (seeV w sOv t = 1 ∧ seeV w sOrdy t = 1) → ¬ (seeV w sIv t = 1 ∧ seeV w sIrdy t = 1) ∧ Q t = Q (t + 1) ++ [(seeV w sOt t, seeV w sOa t)]
  pu : ∀ t, t < n → ¬ (seeV w sOv t = 1 ∧ seeV w sOrdy t = 1) → Q (t + 1) = Q t ++ (if seeV w sIv t = 1 ∧ seeV w sIrdy t = 1 then [(seeV w sIt t, bitsOf .and .i64 (trV w kind t (inE w kind width t).length) (maskE width))] else [])
  len : ∀ t, t ≤ n → (Q t).length ≤ 2
theorem lifo_law {w : Wv} {kind width : Int} {n : Nat} {Q : Nat → List (Int × Int)} (F : Lifo w kind width n Q) : ∀ t, t ≤ n → (inE w kind width t).Perm (outE w t ++ Q t)
  | 0, _ => by rw [F.z]; exact .refl _
  | t + 1, h => by
    have ih := lifo_law F t (by omega)
    by_cases h1 : seeV w sOv t = 1 ∧ seeV w sOrdy t = 1
    · have p := F.po t (by omega) h1
      rw [in_no p.1, out_yes h1]
      rw [p.2] at ih
      refine ih.trans ?_
      rw [List.append_assoc]
      exact List.Perm.append_left _ List.perm_append_comm
    · have p := F.pu t (by omega) h1
      rw [out_no h1, p]
      by_cases h2 : seeV w sIv t = 1 ∧ seeV w sIrdy t = 1
      · rw [in_yes h2, if_pos h2, ← List.append_assoc]
        exact List.Perm.append_right _ ih
      · rw [in_no h2, if_neg h2, List.append_nil]; exact ih
/-- What has not been matched. -/
def unU : List (Int × Int) → List Bool → List (Int × Int)
  | x :: xs, b :: bs => if b = true then unU xs bs else x :: unU xs bs
  | _, _ => []
theorem unU_all : ∀ xs : List (Int × Int), unU xs (List.replicate xs.length false) = xs
  | [] => rfl
  | x :: xs => by rw [List.length_cons, List.replicate_succ, unU, if_neg (by simp), unU_all xs]
theorem unU_set : ∀ (xs : List (Int × Int)) (bs : List Bool) (m : Nat), m < xs.length → m < bs.length → bs.getD m default = false → (unU xs bs).Perm (xs.getD m default :: unU xs (bs.set m true))
  | [], _, m, h, _, _ => absurd h (Nat.not_lt_zero _)
  | _ :: _, [], m, _, h, _ => absurd h (Nat.not_lt_zero _)
  | x :: xs, b :: bs, 0, _, _, h => by
    have hb : b = false := h
    rw [hb, List.set_cons_zero, unU, unU, if_neg (by simp), if_pos rfl]
    exact .refl _
  | x :: xs, b :: bs, m + 1, h1, h2, h => by
    have ih := unU_set xs bs m (by simpa using h1) (by simpa using h2) (by simpa using h)
    rw [List.set_cons_succ, unU, unU, List.getD_cons_succ]
    by_cases hb : b = true
    · rw [if_pos hb, if_pos hb]; exact ih
    · rw [if_neg hb, if_neg hb]
      exact (List.Perm.cons x ih).trans (List.Perm.swap _ _ _)
theorem unU_mem : ∀ (xs : List (Int × Int)) (bs : List Bool) (o : Int × Int), o ∈ unU xs bs → ∃ k, k < xs.length ∧ k < bs.length ∧ bs.getD k default = false ∧ xs.getD k default = o
  | [], _, o, h => by simp [unU] at h
  | _ :: _, [], o, h => by simp [unU] at h
  | x :: xs, b :: bs, o, h => by
    rw [unU] at h
    by_cases hb : b = true
    · rw [if_pos hb] at h
      obtain ⟨k, h1, h2, h3, h4⟩ := unU_mem xs bs o h
      exact ⟨k + 1, by simpa using h1, by simpa using h2, by simpa using h3, by simpa using h4⟩
    · rw [if_neg hb] at h
      rcases List.mem_cons.1 h with rfl | h
      · exact ⟨0, by simp, by simp, by simpa using hb, rfl⟩
      · obtain ⟨k, h1, h2, h3, h4⟩ := unU_mem xs bs o h
        exact ⟨k + 1, by simpa using h1, by simpa using h2, by simpa using h3, by simpa using h4⟩
theorem mat_mem {ins : List (Int × Int)} {used : List Bool} {o : Int × Int} (h : o ∈ unU ins used) : 0 ≤ matI ins used o := by
  obtain ⟨k, h1, h2, h3, h4⟩ := unU_mem ins used o h
  have e := idx_any (canU ins used o) (List.range ins.length)
  have ha : (List.range ins.length).any (canU ins used o) = true := by
    rw [List.any_eq_true]
    refine ⟨k, List.mem_range.2 h1, ?_⟩
    unfold canU
    rw [h3, h4]; simp
  rw [ha] at e
  exact of_decide_eq_true e
theorem use_inv {ins outs Q : List (Int × Int)} (h : ins.Perm (outs ++ Q)) : ∀ i, i ≤ outs.length → ins.Perm (outs.take i ++ unU ins (useN 4 ins outs i)) ∧ (i < outs.length → 0 ≤ matI ins (useN 4 ins outs i) (outs.getD i default))
  | i, hi => by
    have inv : ins.Perm (outs.take i ++ unU ins (useN 4 ins outs i)) := by
      cases i with
      | zero => rw [useN, unU_all]; exact .refl _
      | succ i =>
        obtain ⟨p, q⟩ := use_inv h i (by omega)
        have hm := q (by omega)
        have hlt := mat_lt ins (useN 4 ins outs i) (outs.getD i default)
        have hg := idx_get (p := canU ins (useN 4 ins outs i) (outs.getD i default)) (l := List.range ins.length) hm
        have hul := use_len 4 ins outs i
        change canU ins (useN 4 ins outs i) (outs.getD i default) ((List.range ins.length).getD (matI ins (useN 4 ins outs i) (outs.getD i default)).toNat default) = true at hg
        rw [range_getD (by omega)] at hg
        unfold canU at hg
        rw [Bool.and_eq_true, Bool.not_eq_true', decide_eq_true_eq] at hg
        have s := unU_set ins (useN 4 ins outs i) _ (by omega) (by omega) hg.1
        rw [hg.2] at s
        rw [useN, if_neg (by omega), markU, if_pos ⟨hm, hlt⟩, take_succ (show i < outs.length by omega), List.append_assoc]
        exact p.trans (List.Perm.append_left _ s)
    refine ⟨inv, fun hlt => mat_mem ?_⟩
    have h2 : ins.Perm (outs.take i ++ (outs.drop i ++ Q)) := by rw [← List.append_assoc, List.take_append_drop]; exact h
    have h3 : (unU ins (useN 4 ins outs i)).Perm (outs.drop i ++ Q) := (List.perm_append_left_iff _).1 (inv.symm.trans h2)
    refine h3.mem_iff.2 (List.mem_append.2 (.inl ?_))
    have e : outs.getD i default = outs[i] := by simp [List.getD, hlt]
    rw [e, List.drop_eq_getElem_cons hlt]
    exact List.mem_cons_self
theorem lifo_beh {w : Wv} {width : Int} {Q : Nat → List (Int × Int)} (F : Lifo w 4 width w.rows.length Q) : BehP 4 (inE w 4 width w.rows.length) (outE w w.rows.length) := by
  have h := lifo_law F _ (Nat.le_refl _)
  have hl := F.len _ (Nat.le_refl _)
  have h2 : (inE w 4 width w.rows.length).length = (outE w w.rows.length).length + (Q w.rows.length).length := by rw [h.length_eq, List.length_append]
  exact {
    le := by omega
    d8 := by omega
    d2 := fun _ => by omega
    eq := fun h4 => by omega
    mt := fun _ i hi => (use_inv h i (by omega)).2 hi }
def wQ (st : List Int) : List (Int × Int) := if st.getD 0 default = 0 then [] else if st.getD 0 default = 1 then [(st.getD 3 default, st.getD 4 default)] else [(st.getD 3 default, st.getD 4 default), (st.getD 5 default, st.getD 6 default)]
theorem wQ_len (st : List Int) : (wQ st).length ≤ 2 := by
  unfold wQ
  split
  · simp
  · split <;> simp
section
variable {w : Int}
theorem swap_at (hw : 1 ≤ w ∧ w ≤ 8) (l : List Rw) {t : Nat} (h : t < (rowsS l).length) : WC w (stN (swapD w) (rowsS l) t) (rowX l t) (decide ((stN (swapD w) (rowsS l) t).getD 1 default = 1)) ((rowX l t).v && (!decide ((stN (swapD w) (rowsS l) t).getD 1 default = 1) && decide ((stN (swapD w) (rowsS l) t).getD 0 default < 2))) (decide ((stN (swapD w) (rowsS l) t).getD 1 default = 1) && (rowX l t).ready) :=
  swap_cycle hw (st_ok (swap_face hw).q.v (rowsS l) t) (rowX l t) (swap_inv hw l t (by omega))
theorem swap_lifo (hw : 1 ≤ w ∧ w ≤ 8) (l : List Rw) (kind : Int) (h1 : kind ≠ 1) (h2 : kind ≠ 2) : Lifo (waveE (swapD w) (rowsS l)) kind w (rowsS l).length fun t => wQ (stN (swapD w) (rowsS l) t) where
  z := by
    show wQ (resetE _) = []
    unfold wQ
    rw [reset_at (swap_face hw).q (i := 0) (show 0 < 7 by omega)]; rfl
  po := fun t ht hp => by
    have F := swap_face hw
    have C := swap_at hw l ht
    obtain ⟨I0, I1, I2, I3, I4⟩ := swap_inv hw l t (by omega)
    obtain ⟨i1, i2, i3, i4, i5⟩ := env_input F (stN (swapD w) (rowsS l) t) (rowX l t)
    rw [see_x F (.inr (by simp)) ht, see_x F (.inl (by simp)) ht, C.ov, i2, truth_and, Bool.and_eq_true, decide_eq_true_eq] at hp
    have n0 := C.n0
    have n3 := C.n3
    have n4 := C.n4
    rw [← st_next ht] at n0 n3 n4
    have hmb : decide ((stN (swapD w) (rowsS l) t).getD 1 default = 1) = true := decide_eq_true hp.1
    rw [hmb, hp.2, Bool.not_true, Bool.false_and, Bool.and_false, show truthE false = 0 from rfl, Bool.and_true, show truthE true = 1 from rfl] at n0
    rw [hmb, Bool.not_true, Bool.false_and, Bool.and_false, if_neg (by simp)] at n3 n4
    have hn := I4 hp.1
    refine ⟨fun hc => ?_, ?_⟩
    · rw [see_x F (.inl (by simp)) ht, see_x F (.inr (by simp)) ht, C.irdy, i1, truth_and, hmb] at hc
      simp at hc
    · rw [see_x F (.inr (by simp)) ht, see_x F (.inr (by simp)) ht, C.ot, C.oa]
      show wQ _ = wQ _ ++ _
      unfold wQ
      rw [n0, n3, n4]
      by_cases e2 : (stN (swapD w) (rowsS l) t).getD 0 default = 2
      · rw [e2]; rfl
      · rw [show (stN (swapD w) (rowsS l) t).getD 0 default = 1 by omega]; rfl
  pu := fun t ht hp => by
    have F := swap_face hw
    have C := swap_at hw l ht
    obtain ⟨I0, I1, I2, I3, I4⟩ := swap_inv hw l t (by omega)
    obtain ⟨i1, i2, i3, i4, i5⟩ := env_input F (stN (swapD w) (rowsS l) t) (rowX l t)
    have e1 : seeV (waveE (swapD w) (rowsS l)) sIa t = _ := see_x F (.inl (by simp)) ht
    have e2 := new_plain (w := waveE (swapD w) (rowsS l)) (kind := kind) (width := w) (t := t) (n := (inE (waveE (swapD w) (rowsS l)) kind w t).length) h1 h2 hw (by rw [e1]; exact i4)
    rw [see_x F (.inr (by simp)) ht, see_x F (.inl (by simp)) ht, C.ov, i2, truth_and] at hp
    rw [e2, e1, see_x F (.inl (by simp)) ht, see_x F (.inr (by simp)) ht, see_x F (.inl (by simp)) ht, C.irdy, i1]
    simp only [truth_and]
    have n0 := C.n0
    have n3 := C.n3
    have n4 := C.n4
    have n5 := C.n5
    have n6 := C.n6
    rw [← st_next ht] at n0 n3 n4 n5 n6
    have hpf : (decide ((stN (swapD w) (rowsS l) t).getD 1 default = 1) && (rowX l t).ready) = false := by simpa using hp
    rw [hpf, show truthE false = 0 from rfl] at n0
    have hpu := C.hpush
    show wQ _ = wQ _ ++ _
    unfold wQ
    rw [n0, n3, n4, n5, n6]
    clear n0 n3 n4 n5 n6 C hp e1 e2 hpu hpf
    generalize envE (swapD w) (stN (swapD w) (rowsS l) t) (sgR (rowX l t)) sIt = vt
    generalize envE (swapD w) (stN (swapD w) (rowsS l) t) (sgR (rowX l t)) sIa = va
    clear i1 i2 i3 i4 i5
    generalize stN (swapD w) (rowsS l) t = S at *
    generalize hb : (!decide (S.getD 1 default = 1) && decide (S.getD 0 default < 2)) = b
    generalize S.getD 0 default = n at *
    generalize (rowX l t).v = iv
    cases hp : (iv && b) with
    | false =>
      simp only [Bool.false_eq_true, false_and, if_false, show truthE false = 0 from rfl, Int.add_zero, Int.sub_zero, List.append_nil]
    | true =>
      rw [Bool.and_eq_true] at hp
      rw [hp.2, Bool.and_eq_true, decide_eq_true_eq] at hb
      simp only [true_and, if_true, show truthE true = 1 from rfl, Int.sub_zero]
      by_cases e0 : n = 0
      · subst e0; rfl
      · have e1 : n = 1 := by omega
        subst e1; rfl
  len := fun t ht => by
    exact wQ_len _
theorem swap_stable (hw : 1 ≤ w ∧ w ≤ 8) (l : List Rw) : StableP (waveE (swapD w) (rowsS l)) := by
  intro t h1 h2 h3 h4
  obtain ⟨u, rfl⟩ : ∃ u, t = u + 1 := ⟨t - 1, by omega⟩
  rw [wave_len] at h2
  have hu : u < (rowsS l).length := by omega
  have F := swap_face hw
  have C := swap_at hw l hu
  have C2 := swap_at hw l h2
  obtain ⟨I0, I1, I2, I3, I4⟩ := swap_inv hw l u (by omega)
  obtain ⟨i1, i2, i3, i4, i5⟩ := env_input F (stN (swapD w) (rowsS l) u) (rowX l u)
  rw [show (((u + 1 : Nat) : Int) - 1) = (u : Int) by omega] at h3 h4 ⊢
  rw [see_x F (.inr (by simp)) hu, C.ov, Ne, truth_z, Bool.not_eq_false, decide_eq_true_eq] at h3
  rw [see_x F (.inl (by simp)) hu, i2, Ne, truth_b, Bool.not_eq_true] at h4
  rw [see_x F (.inr (by simp)) h2, see_x F (.inr (by simp)) h2, see_x F (.inr (by simp)) h2, see_x F (.inr (by simp)) hu, see_x F (.inr (by simp)) hu, C.ot, C.oa, C2.ov, C2.ot, C2.oa]
  have n0 := C.n0
  have n1 := C.n1
  have n3 := C.n3
  have n4 := C.n4
  have n5 := C.n5
  have n6 := C.n6
  rw [← st_next hu] at n0 n1 n3 n4 n5 n6
  have hmb : decide ((stN (swapD w) (rowsS l) u).getD 1 default = 1) = true := decide_eq_true h3
  rw [hmb, h4, Bool.not_true, Bool.false_and, Bool.and_false, Bool.and_false, show truthE false = 0 from rfl, Int.add_zero, Int.sub_zero] at n0 n1
  rw [hmb, Bool.not_true, Bool.false_and, Bool.and_false, if_neg (by simp)] at n3 n4 n5 n6
  have hn := I4 h3
  rw [if_pos rfl, decide_eq_false (by omega)] at n1
  rw [n0, n1, n3, n4, n5, n6]
  exact ⟨by decide, rfl, rfl⟩
/-- How long it takes at most until all has left. -/
def muS (n m s : Int) : Int := if n = 0 then 0 else if m = 1 then n else 5 - s
theorem swap_idle (hw : 1 ≤ w ∧ w ≤ 8) (l : List Rw) {q : Nat} (hi : Idle l q (rowsS l).length) : ∀ j, q + j ≤ (rowsS l).length → muS ((stN (swapD w) (rowsS l) (q + j)).getD 0 default) ((stN (swapD w) (rowsS l) (q + j)).getD 1 default) ((stN (swapD w) (rowsS l) (q + j)).getD 2 default) ≤ max 0 (6 - (j : Int)) ∧ 0 ≤ (stN (swapD w) (rowsS l) (q + j)).getD 2 default ∧ (stN (swapD w) (rowsS l) (q + j)).getD 2 default ≤ 3
  | 0, h => by
    have hs := (st_ok (swap_face hw).q.v (rowsS l) (q + 0)).2 2 (by rw [(st_ok (swap_face hw).q.v (rowsS l) (q + 0)).1]; exact (show 2 < 7 by omega))
    have hs2 : 0 ≤ (stN (swapD w) (rowsS l) (q + 0)).getD 2 default ∧ (stN (swapD w) (rowsS l) (q + 0)).getD 2 default ≤ maskE 2 := hs
    rw [mask_2] at hs2
    obtain ⟨I0, I1, I2, I3, I4⟩ := swap_inv hw l (q + 0) h
    refine ⟨?_, hs2⟩
    unfold muS
    split
    · omega
    · split <;> omega
  | j + 1, h => by
    have ih := swap_idle hw l hi j (by omega)
    have ht : q + j < (rowsS l).length := by omega
    have C := swap_at hw l ht
    have hr := hi (q + j) (by omega) ht
    obtain ⟨I0, I1, I2, I3, I4⟩ := swap_inv hw l (q + j) (by omega)
    have n0 := C.n0
    have n1 := C.n1
    have n2 := C.n2
    rw [hr.1, hr.2, Bool.false_and, Bool.and_true, show truthE false = 0 from rfl, Int.add_zero] at n0 n1
    rw [hr.1, Bool.false_and, Bool.not_false, Bool.and_true] at n2
    rw [show q + (j + 1) = (q + j) + 1 by omega, st_next ht, n0, n1, n2]
    clear C n0 n1 n2
    generalize stN (swapD w) (rowsS l) (q + j) = S at *
    generalize hn : S.getD 0 default = n at *
    generalize hs : S.getD 2 default = s at *
    rcases I2 with hm | hm
    · rw [hm] at ih I3 I4 ⊢
      rw [show decide ((0 : Int) = 1) = false from rfl, if_neg (by simp), show truthE false = 0 from rfl, Int.sub_zero, Bool.not_false, Bool.true_and]
      have hn2 : n ≤ 1 := by rcases Int.lt_or_le n 2 with q | q; omega; exact absurd (I3 (by omega)) (by omega)
      by_cases h0 : n = 0
      · rw [h0]
        unfold muS
        rw [if_pos rfl]
        rw [show decide ((0 : Int) = 1) = false from rfl, Bool.false_and, if_neg (by simp)]
        omega
      · have h1 : n = 1 := by omega
        rw [h1] at ih ⊢
        unfold muS at ih ⊢
        rw [if_neg (by omega), if_neg (by omega)] at ih
        rw [if_neg (by omega), show decide ((1 : Int) = 2) = false from rfl, show decide ((1 : Int) = 1) = true from rfl, Bool.false_or, Bool.true_and, Bool.true_and]
        by_cases h3 : s = 3
        · rw [decide_eq_true h3, decide_eq_false (show ¬ s < 3 by omega), show truthE true = 1 from rfl, if_pos rfl, if_neg (by simp)]
          omega
        · rw [decide_eq_false h3, decide_eq_true (show s < 3 by omega), show truthE false = 0 from rfl, if_neg (by omega), if_pos rfl]
          omega
    · rw [hm] at ih I3 I4 ⊢
      have h1 := I4 rfl
      rw [show decide ((1 : Int) = 1) = true from rfl, if_pos rfl, show truthE true = 1 from rfl, Bool.not_true, Bool.false_and, Bool.false_and, if_neg (by simp)]
      unfold muS at ih ⊢
      rw [if_neg (by omega), if_pos rfl] at ih
      by_cases e1 : n = 1
      · rw [e1]; simp; omega
      · have e2 : n = 2 := by omega
        rw [e2] at ih ⊢
        rw [if_neg (by omega), decide_eq_false (by omega), show truthE (!false) = 1 from rfl, if_pos rfl]; omega
theorem swap_dry (hw : 1 ≤ w ∧ w ≤ 8) (l : List Rw) {q : Nat} (hi : Idle l q (rowsS l).length) (hm : q + 12 = (rowsS l).length) : ∃ Q, Lifo (waveE (swapD w) (rowsS l)) 0 w (rowsS l).length Q ∧ Q (rowsS l).length = [] := by
  refine ⟨_, swap_lifo hw l 0 (by omega) (by omega), ?_⟩
  obtain ⟨h, h2, h3⟩ := swap_idle hw l hi 12 (by omega)
  rw [hm] at h h2 h3
  obtain ⟨I0, I1, I2, I3, I4⟩ := swap_inv hw l (rowsS l).length (Nat.le_refl _)
  show wQ _ = []
  unfold wQ
  rw [if_pos]
  unfold muS at h
  split at h
  · assumption
  · split at h
    · rename_i e; have := I4 e; omega
    · omega
end
end Go.Proofs.YthlfacmpjehjmaaGreatDoor
/- The laws on data, for all designs of the library. -/
set_option linter.unusedSimpArgs false
set_option linter.unusedVariables false
namespace Go.Proofs.YthlfacmpjehjmaaGreatDoor
open Go.Sim
theorem good_stable {w : Wv} {kind width : Int} (G : Good w kind width) : StableP w := by
  obtain ⟨Q, F⟩ := G.fifo
  exact fifo_stable F G.ov G.keep
theorem good_beh {w : Wv} {kind width : Int} (G : Good w kind width) (hk : kind < 4) : BehP kind (inE w kind width w.rows.length) (outE w w.rows.length) := by
  obtain ⟨Q, F⟩ := G.fifo
  exact fifo_beh F hk
theorem depth (n : Int) : ∃ m : Nat, (1 + n % 8).toNat = m + 1 ∧ m + 1 ≤ 8 := ⟨(n % 8).toNat, by omega, by omega⟩
theorem stable_all (x : Pl) : StableP (waveE (plD x) (rowsS x.rows)) := by
  have hw : 1 ≤ 1 + x.width % 8 ∧ 1 + x.width % 8 ≤ 8 := by omega
  have hk : 1 ≤ (1 + x.n % 8).toNat ∧ (1 + x.n % 8).toNat ≤ 8 := by omega
  unfold plD pickD
  split
  · exact good_stable (queue_good hk hw x.rows 0 (by omega) (by omega))
  · split
    · exact good_stable (stage_good (adder_f hw) 1 x.rows (adder_next hw x.rows))
    · split
      · exact good_stable (stage_good (counter_f hw) 2 x.rows (counter_next hw x.rows))
      · split
        · obtain ⟨m, hm, hm8⟩ := depth x.n
          rw [hm]
          exact good_stable (delay_good hm8 hw x.rows 3 (by omega) (by omega))
        · exact swap_stable hw x.rows
theorem beh_all (x : Pl) : BehP (x.kind % 5) (inE (waveE (plD x) (rowsS x.rows)) (x.kind % 5) (1 + x.width % 8) (waveE (plD x) (rowsS x.rows)).rows.length) (outE (waveE (plD x) (rowsS x.rows)) (waveE (plD x) (rowsS x.rows)).rows.length) := by
  have hw : 1 ≤ 1 + x.width % 8 ∧ 1 + x.width % 8 ≤ 8 := by omega
  have hk : 1 ≤ (1 + x.n % 8).toNat ∧ (1 + x.n % 8).toNat ≤ 8 := by omega
  by_cases h0 : x.kind % 5 = 0
  · have e : plD x = queueD (1 + x.n % 8).toNat (1 + x.width % 8) := by unfold plD pickD; rw [if_pos h0]
    rw [e, h0]
    exact good_beh (queue_good hk hw x.rows 0 (by omega) (by omega)) (by omega)
  · by_cases h1 : x.kind % 5 = 1
    · have e : plD x = adderD (1 + x.width % 8) := by unfold plD pickD; rw [if_neg h0, if_pos h1]
      rw [e, h1]
      exact good_beh (stage_good (adder_f hw) 1 x.rows (adder_next hw x.rows)) (by omega)
    · by_cases h2 : x.kind % 5 = 2
      · have e : plD x = counterD (1 + x.width % 8) := by unfold plD pickD; rw [if_neg h0, if_neg h1, if_pos h2]
        rw [e, h2]
        exact good_beh (stage_good (counter_f hw) 2 x.rows (counter_next hw x.rows)) (by omega)
      · by_cases h3 : x.kind % 5 = 3
        · have e : plD x = delayD (1 + x.n % 8).toNat (1 + x.width % 8) := by unfold plD pickD; rw [if_neg h0, if_neg h1, if_neg h2, if_pos h3]
          obtain ⟨m, hm, hm8⟩ := depth x.n
          rw [e, h3, hm]
          exact good_beh (delay_good hm8 hw x.rows 3 (by omega) (by omega)) (by omega)
        · have e : plD x = swapD (1 + x.width % 8) := by unfold plD pickD; rw [if_neg h0, if_neg h1, if_neg h2, if_neg h3]
          rw [e, show x.kind % 5 = 4 by omega]
          exact lifo_beh (by rw [wave_len]; exact swap_lifo hw x.rows 4 (by omega) (by omega))
theorem fifo_dry {w : Wv} {kind width : Int} {n : Nat} (h : ∃ Q, Fifo w kind width n Q ∧ Q n = []) : (outE w n).length = (inE w 0 8 n).length := by
  obtain ⟨Q, F, hQ⟩ := h
  have := fifo_law F n (Nat.le_refl _)
  rw [hQ, List.append_nil] at this
  rw [← this]
  exact in_same w kind width 0 8 n
theorem lifo_dry {w : Wv} {kind width : Int} {n : Nat} (h : ∃ Q, Lifo w kind width n Q ∧ Q n = []) : (outE w n).length = (inE w 0 8 n).length := by
  obtain ⟨Q, F, hQ⟩ := h
  have := lifo_law F n (Nat.le_refl _)
  rw [hQ, List.append_nil] at this
  rw [← this.length_eq]
  exact in_same w kind width 0 8 n
theorem dry_idle (l : List Rw) : Idle (drN l 12) (min l.length 40) (rowsS (drN l 12)).length := by
  intro t h1 h2
  have hl := dr_len l 12
  rw [rowsS_len, hl] at h2
  unfold rowX
  rw [List.take_of_length_le (by omega)]
  unfold drN
  have h40 : (l.take 40).length = min l.length 40 := by rw [List.length_take, Nat.min_comm]
  obtain ⟨u, rfl⟩ : ∃ u, t = (l.take 40).length + u := ⟨t - (l.take 40).length, by omega⟩
  rw [getD_right]
  have hu : u < 12 := by omega
  have e : ∀ n : Nat, u < n → (List.replicate n (⟨false, true, 0, 0, 0⟩ : Rw)).getD u default = ⟨false, true, 0, 0, 0⟩ := fun n h => by simp [List.getD, h]
  rw [e 12 hu]
  exact ⟨rfl, rfl⟩
theorem dry_all (x : Pl) : (outE (waveE (plD x) (rowsS (drN x.rows 12))) (waveE (plD x) (rowsS (drN x.rows 12))).rows.length).length = (inE (waveE (plD x) (rowsS (drN x.rows 12))) 0 8 (waveE (plD x) (rowsS (drN x.rows 12))).rows.length).length := by
  have hw : 1 ≤ 1 + x.width % 8 ∧ 1 + x.width % 8 ≤ 8 := by omega
  have hk : 1 ≤ (1 + x.n % 8).toNat ∧ (1 + x.n % 8).toNat ≤ 8 := by omega
  have hi := dry_idle x.rows
  have hm : min x.rows.length 40 + 12 = (rowsS (drN x.rows 12)).length := by rw [rowsS_len, dr_len]; omega
  rw [wave_len]
  unfold plD pickD
  split
  · exact fifo_dry (queue_dry hk hw _ hi hm)
  · split
    · exact fifo_dry (stage_dry (adder_f hw) 1 _ (adder_next hw _) hi hm)
    · split
      · exact fifo_dry (stage_dry (counter_f hw) 2 _ (counter_next hw _) hi hm)
      · split
        · obtain ⟨m, hm2, hm8⟩ := depth x.n
          rw [hm2]
          exact fifo_dry (delay_dry hm8 hw _ hi hm)
        · exact lifo_dry (swap_dry hw _ hi hm)
end Go.Proofs.YthlfacmpjehjmaaGreatDoor
/- The example of the law. -/
set_option linter.unusedVariables false
namespace Go.Proofs.YthlfacmpjehjmaaGreatDoor
open Go.Sim
theorem awake_all : (((((((((true && true) && decide (seeV W1 sIrdy 0 = 1)) && decide (seeV W1 sIrdy 1 = 1)) && decide (seeV W1 sIrdy 2 = 0)) && decide (seeV W2 sOv 1 = 0)) && decide (seeV W2 sOv 2 = 1)) && decide (seeV W2 sOt 2 = 2)) && decide (seeV W2 sOv 3 = 1)) && decide (seeV W2 sOt 3 = 1)) = true := by
  obtain ⟨a1, a2, a3⟩ := awake_1
  obtain ⟨b1, b2, b3, b4, b5⟩ := awake_2
  rw [a1, a2, a3, b1, b2, b3, b4, b5]; rfl
end Go.Proofs.YthlfacmpjehjmaaGreatDoor
