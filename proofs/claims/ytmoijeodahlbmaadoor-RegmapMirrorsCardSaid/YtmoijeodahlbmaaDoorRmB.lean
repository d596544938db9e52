/- Copies, searches by names, and what the walks of the operations need. -/
import Derived.Test.YtmoijeodahlbmaaDoorRmA
namespace Go.Proofs.YtmoijeodahlbmaaDoor
open Go.Sim
def cpX (rs : List Rg) (vs : List Int) : RA := ⟨Value, fun v => Rp.agg [Rp.slice eR rs, Rp.val v], fun v => [MF.osl v 3 1 eI vs]⟩
def resT (x : RMap × Int) : Rp := Rp.tuple [Rp.agg (mR x.1), Rp.int .i64 x.2]
def rdT (x : Int × RMap × Int) : Rp := Rp.tuple [Rp.int .i64 x.1, Rp.agg (mR x.2.1), Rp.int .i64 x.2.2]
theorem vl_some {m : RMap} {i : Int} (h : 0 ≤ i ∧ i < m.vals.length) : m.vals[i.toNat]? = some (vl m i) := getD_some h
theorem wr_step {v o : Int} {l : List Fld} {i : Nat} (h : i < l.length) : (l.take (i + 1)).foldl (wr v) o = wr v ((l.take i).foldl (wr v) o) (l.getD i default) := fold_take _ _ h
theorem ref_no {l : List Fld} {ps : List Int} {i : Nat} (hi : i < l.length) (h : ps.any (fun p => decide ((l.getD i default).acc = p)) = false) : refB l ps = false := by
  unfold refB
  rw [Bool.and_eq_false_iff]; right
  rw [any_yes (i := i) hi (by rw [h]; rfl)]; rfl
theorem ref_all {l : List Fld} {ps : List Int} (h : ∀ j, j < l.length → ps.any (fun p => decide ((l.getD j default).acc = p)) = true) : refB l ps = decide (0 < l.length) := by
  unfold refB
  rw [any_no fun j hj => by rw [h j hj]; rfl]
  simp
theorem ref_dup (l : List Fld) (a : Int) : refB l [a, a] = refB l [a] := by unfold refB; simp
theorem idxA_at {m : RMap} {a : Int} (h : ¬ idxA m a < 0) : 0 ≤ idxA m a ∧ idxA m a < m.regs.length := ⟨by omega, (idx_ge _ _).2⟩
theorem MapOk.flds {m : RMap} (h : MapOk m) {i : Int} (h0 : 0 ≤ i) (h1 : i < m.regs.length) : Flds (rg m i).flds := h.regs.at (by omega)
theorem find_iff {m : RMap} {a : Int} {i : Nat} (hv : validE m = 0) (hi : i < m.regs.length) (h : (m.regs.getD i default).addr = a) (hn : ∀ j, j < i → decide ((m.regs.getD j default).addr = a) = false) : findD m a = ((i : Int), true) := by
  have : idxA m a = i := idx_yes (p := fun r : Rg => decide (r.addr = a)) hi (by simpa using h) hn
  unfold findD; rw [if_neg (by omega), this, if_neg (by omega)]
theorem find_no {m : RMap} {a : Int} (hn : ∀ j, j < m.regs.length → decide ((m.regs.getD j default).addr = a) = false) : findD m a = (0, false) := by
  have : idxA m a = -1 := idx_no (p := fun r : Rg => decide (r.addr = a)) hn
  unfold findD; rw [this]; split <;> rfl
theorem find_bad {m : RMap} {a : Int} (hv : validE m ≠ 0) : findD m a = (0, false) := by unfold findD; rw [if_pos hv]
theorem find_neg {m : RMap} {a : Int} (h : idxA m a < 0) : findD m a = (0, false) := by unfold findD; split <;> first | rfl | rw [if_pos h]
theorem find_idx {m : RMap} {a : Int} (hv : validE m = 0) (h : ¬ idxA m a < 0) : findD m a = (idxA m a, true) := by unfold findD; rw [if_neg (by omega), if_neg h]
theorem find_fst {m : RMap} {a : Int} (hv : validE m = 0) (h : (findD m a).2 = true) : (findD m a).1 = idxA m a ∧ ¬ idxA m a < 0 := by
  by_cases h2 : idxA m a < 0
  · rw [find_neg h2] at h; cases h
  · rw [find_idx hv h2]; exact ⟨rfl, h2⟩
theorem find_snd {m : RMap} {a : Int} (hv : validE m = 0) (h : (findD m a).2 = false) : idxA m a < 0 := by
  by_cases h2 : idxA m a < 0
  · exact h2
  · rw [find_idx hv h2] at h; cases h
theorem write_e {m : RMap} {a v : Int} (h : validE m ≠ 0) : writeD m a v = (zeroM, validE m) := by unfold writeD; rw [if_pos h]
theorem write_1 {m : RMap} {a v : Int} (h : validE m = 0) (h2 : v < 0 ∨ 65535 < v) : writeD m a v = (zeroM, 1) := by unfold writeD; rw [if_neg (by omega), if_pos h2]
theorem write_12 {m : RMap} {a v : Int} (h : validE m = 0) (h2 : 0 ≤ v ∧ v ≤ 65535) (h3 : idxA m a < 0) : writeD m a v = (zeroM, 12) := by unfold writeD; rw [if_neg (by omega), if_neg (by omega), if_pos h3]
theorem write_17 {m : RMap} {a v : Int} (h : validE m = 0) (h2 : 0 ≤ v ∧ v ≤ 65535) (h3 : ¬ idxA m a < 0) (h4 : refB (rg m (idxA m a)).flds [1, 5] = true) : writeD m a v = (zeroM, 17) := by unfold writeD; rw [if_neg (by omega), if_neg (by omega), if_neg h3, if_pos h4]
theorem write_0 {m : RMap} {a v : Int} (h : validE m = 0) (h2 : 0 ≤ v ∧ v ≤ 65535) (h3 : ¬ idxA m a < 0) (h4 : refB (rg m (idxA m a)).flds [1, 5] = false) : writeD m a v = (setV m (idxA m a) (writtenI (rg m (idxA m a)).flds (vl m (idxA m a)) v), 0) := by unfold writeD; rw [if_neg (by omega), if_neg (by omega), if_neg h3, if_neg (by rw [h4]; simp)]
theorem read_e {m : RMap} {a : Int} (h : validE m ≠ 0) : readD m a = (0, zeroM, validE m) := by unfold readD; rw [if_pos h]
theorem read_12 {m : RMap} {a : Int} (h : validE m = 0) (h3 : idxA m a < 0) : readD m a = (0, zeroM, 12) := by unfold readD; rw [if_neg (by omega), if_pos h3]
theorem read_17 {m : RMap} {a : Int} (h : validE m = 0) (h3 : ¬ idxA m a < 0) (h4 : refB (rg m (idxA m a)).flds [2] = true) : readD m a = (0, zeroM, 17) := by unfold readD; rw [if_neg (by omega), if_neg h3, if_pos h4]
theorem read_0 {m : RMap} {a : Int} (h : validE m = 0) (h3 : ¬ idxA m a < 0) (h4 : refB (rg m (idxA m a)).flds [2] = false) :
    readD m a = (iandn (vl m (idxA m a)) (accI (rg m (idxA m a)).flds [2]), setV m (idxA m a) (iandn (vl m (idxA m a)) (accI (rg m (idxA m a)).flds [5])), 0) := by unfold readD; rw [if_neg (by omega), if_neg h3, if_neg (by rw [h4]; simp)]
theorem predict_e {m : RMap} {a s : Int} (h : (readD m a).2.2 ≠ 0) : predictD m a s = (false, zeroM, (readD m a).2.2) := by unfold predictD; rw [if_pos h]
theorem predict_0 {m : RMap} {a s : Int} (h : (readD m a).2.2 = 0) : predictD m a s = (decide ((readD m a).1 = s), (readD m a).2.1, 0) := by unfold predictD; rw [if_neg (by omega)]
theorem reset_e {m : RMap} (h : regsE m.regs ≠ 0) : resetD m = (zeroM, regsE m.regs) := by unfold resetD; rw [if_pos h]
theorem reset_0 {m : RMap} (h : regsE m.regs = 0) : resetD m = (⟨m.regs, m.regs.map fun r => rstI r.flds⟩, 0) := by unfold resetD; rw [if_neg (by omega)]

/-! Bits taken away one after the other. -/
def clr (p : Fld → Bool) (v : Int) (f : Fld) : Int := if p f then iandn v (bitsI f) else v
theorem clr_where (p : Fld → Bool) : ∀ (l : List Fld), okFs l → ∀ (v a : Nat), v < 65536 → a < 65536 → iandn v (l.foldl (addBits p) (a : Int)) = l.foldl (clr p) (iandn v a)
  | [], _, v, a, hv, ha => rfl
  | f :: l, h, v, a, hv, ha => by
    have hf := h f (by simp)
    have hl : okFs l := fun x hx => h x (by simp [hx])
    simp only [List.foldl_cons, addBits, clr]
    split
    · have hb := bits_lt hf
      have e1 : a ||| bitsN f < 65536 := Nat.or_lt_two_pow (n := 16) (by simpa using ha) (by simpa using hb)
      rw [bits_nat hf, ior, or_nat (by omega) (by omega), clr_where p l hl v _ hv e1]
      congr 1
      have e2 := nandn_le v a
      have a1 : iandn (v : Int) ((a ||| bitsN f : Nat) : Int) = (nandn v (a ||| bitsN f) : Int) := andNot_nat (by omega) (by omega)
      have a2 : iandn (v : Int) (a : Int) = (nandn v a : Int) := andNot_nat (by omega) (by omega)
      have a3 : iandn (nandn v a : Int) (bitsN f : Int) = (nandn (nandn v a) (bitsN f) : Int) := andNot_nat (by omega) (by omega)
      rw [a1, a2, a3]
      congr 1
      apply Nat.eq_of_testBit_eq
      intro i
      rw [nandn_bit, nandn_bit, nandn_bit, Nat.testBit_or]
      cases v.testBit i <;> cases a.testBit i <;> cases (bitsN f).testBit i <;> rfl
    · exact clr_where p l hl v a hv ha
theorem iandn_zero {v : Int} (h0 : 0 ≤ v) (h1 : v ≤ 65535) : iandn v 0 = v := by
  obtain ⟨a, rfl⟩ : ∃ a : Nat, v = a := ⟨v.toNat, by omega⟩
  rw [show (0 : Int) = ((0 : Nat) : Int) from rfl, iandn, andNot_nat (by omega) (by omega), nandn]
  simp
theorem clr_acc {l : List Fld} (h : okFs l) {v : Int} (h0 : 0 ≤ v) (h1 : v ≤ 65535) (k : Int) : l.foldl (clr fun f => decide (f.acc = k)) v = iandn v (accI l [k]) := by
  obtain ⟨a, rfl⟩ : ∃ a : Nat, v = a := ⟨v.toNat, by omega⟩
  have := clr_where (fun f => decide (f.acc = k)) l h a 0 (by omega) (by omega)
  rw [show iandn (a : Int) ((0 : Nat) : Int) = (a : Int) from iandn_zero h0 h1] at this
  rw [← this]
  simp only [accI, whereI, List.any_cons, List.any_nil, Bool.or_false]
  rfl
theorem clr_step {p : Fld → Bool} {v : Int} {l : List Fld} {i : Nat} (h : i < l.length) : (l.take (i + 1)).foldl (clr p) v = clr p ((l.take i).foldl (clr p) v) (l.getD i default) := fold_take _ _ h
theorem clr_t {p : Fld → Bool} {v : Int} {l : List Fld} {i : Nat} (h : i < l.length) (hp : p (l.getD i default) = true) : iandn ((l.take i).foldl (clr p) v) (bitsI (l.getD i default)) = (l.take (i + 1)).foldl (clr p) v := by
  rw [clr_step h]; unfold clr; rw [if_pos hp]
theorem clr_f {p : Fld → Bool} {v : Int} {l : List Fld} {i : Nat} (h : i < l.length) (hp : p (l.getD i default) = false) : (l.take i).foldl (clr p) v = (l.take (i + 1)).foldl (clr p) v := by
  rw [clr_step h]; unfold clr; rw [if_neg (by rw [hp]; simp)]
def rsf (v : Int) (f : Fld) : Int := ior v (f.rst * 2 ^ f.lsb.toNat)
theorem rst_fits {f : Fld} (h : okF f) : 0 ≤ f.rst * 2 ^ f.lsb.toNat ∧ f.rst * 2 ^ f.lsb.toNat ≤ 9223372036854775807 := by
  have h' := h
  unfold okF at h
  have h2 := shl_fits (f := f) (by omega) (by omega)
  have h3 : (0 : Int) ≤ 2 ^ f.lsb.toNat := by have := Int.pow_pos (n := 2) (m := f.lsb.toNat) (by decide); omega
  exact ⟨Int.mul_nonneg (by omega) h3, Int.le_trans (Int.mul_le_mul_of_nonneg_right (by omega) h3) h2.2⟩
theorem MapOk.vl {m : RMap} (h : MapOk m) {i : Int} (h0 : 0 ≤ i) (h1 : i < m.regs.length) : 0 ≤ vl m i ∧ vl m i ≤ 65535 := by
  have := h.val0 (i := i.toNat) (by rw [h.len]; omega)
  exact ⟨this.1, this.2.1⟩
theorem take_all {α : Type} {l : List α} {i : Nat} (h : l.length ≤ i) : l.take i = l := List.take_of_length_le h

/-! By names. -/
def nmB (a b : List UInt8) (r : Rg) (f : Fld) : Bool := (r.name == a) && (f.name == b)
def hasB (a b : List UInt8) (r : Rg) : Bool := r.flds.any (nmB a b r)
def locI (m : RMap) (a b : List UInt8) : Int := idxI (hasB a b) m.regs
def locJ (m : RMap) (a b : List UInt8) : Int := idxI (nmB a b (rg m (locI m a b))) (rg m (locI m a b)).flds
def locF (m : RMap) (a b : List UInt8) : Fld := (rg m (locI m a b)).flds.getD (locJ m a b).toNat default
def zeroF : Fld := ⟨[], 0, 0, 0, 0⟩
def locD (m : RMap) (a b : List UInt8) : Int × Fld × Int := if validE m ≠ 0 then (0, zeroF, validE m) else if locI m a b < 0 then (0, zeroF, 7) else (locI m a b, locF m a b, 0)
def fndD (m : RMap) (a b : List UInt8) : Int × Int × Bool := if locI m a b < 0 then (0, 0, false) else (locI m a b, locJ m a b, true)
theorem loc_yes {m : RMap} {a b : List UInt8} {i k : Nat} (hi : i < m.regs.length) (hk : k < (m.regs.getD i default).flds.length) (h : nmB a b (m.regs.getD i default) ((m.regs.getD i default).flds.getD k default) = true)
    (hn : ∀ j, j < i → hasB a b (m.regs.getD j default) = false) (hm : ∀ j, j < k → nmB a b (m.regs.getD i default) ((m.regs.getD i default).flds.getD j default) = false) : locI m a b = i ∧ locJ m a b = k := by
  have h1 : locI m a b = i := idx_yes (p := hasB a b) hi (any_yes hk h) hn
  refine ⟨h1, ?_⟩
  unfold locJ rg
  rw [h1]
  exact idx_yes hk h hm
theorem loc_no {m : RMap} {a b : List UInt8} (hn : ∀ j, j < m.regs.length → hasB a b (m.regs.getD j default) = false) : locI m a b = -1 := idx_no (p := hasB a b) hn
theorem loc_at {m : RMap} {a b : List UInt8} (h : ¬ locI m a b < 0) : 0 ≤ locI m a b ∧ locI m a b < m.regs.length ∧ 0 ≤ locJ m a b ∧ locJ m a b < (rg m (locI m a b)).flds.length := by
  refine ⟨by omega, (idx_ge _ _).2, ?_, (idx_ge _ _).2⟩
  have h1 := idx_get (p := hasB a b) (l := m.regs) (by unfold locI at h; omega)
  have h2 := idx_any (nmB a b (rg m (locI m a b))) (rg m (locI m a b)).flds
  have h3 : (rg m (locI m a b)).flds.any (nmB a b (rg m (locI m a b))) = true := h1
  rw [h3] at h2
  exact of_decide_eq_true h2
theorem loc_name {m : RMap} {a b : List UInt8} (h : ¬ locI m a b < 0) : (rg m (locI m a b)).name = a ∧ (locF m a b).name = b := by
  obtain ⟨_, _, h3, _⟩ := loc_at h
  have := idx_get (p := nmB a b (rg m (locI m a b))) (l := (rg m (locI m a b)).flds) h3
  simp only [nmB, Bool.and_eq_true, beq_iff_eq] at this
  exact this
theorem loc_mem {m : RMap} {a b : List UInt8} (h : ¬ locI m a b < 0) : locF m a b ∈ (rg m (locI m a b)).flds := by
  obtain ⟨_, _, h3, h4⟩ := loc_at h
  exact getD_mem' (by omega)
theorem MapOk.loc {m : RMap} (hm : MapOk m) {a b : List UInt8} (h : ¬ locI m a b < 0) : okF (locF m a b) := (hm.flds (loc_at h).1 (loc_at h).2.1).ok _ (loc_mem h)
theorem locD_e {m : RMap} {a b : List UInt8} (h : validE m ≠ 0) : locD m a b = (0, zeroF, validE m) := by unfold locD; rw [if_pos h]
theorem locD_7 {m : RMap} {a b : List UInt8} (h : validE m = 0) (h2 : locI m a b < 0) : locD m a b = (0, zeroF, 7) := by unfold locD; rw [if_neg (by omega), if_pos h2]
theorem locD_0 {m : RMap} {a b : List UInt8} (h : validE m = 0) (h2 : ¬ locI m a b < 0) : locD m a b = (locI m a b, locF m a b, 0) := by unfold locD; rw [if_neg (by omega), if_neg h2]
theorem fnd_no {m : RMap} {a b : List UInt8} (h2 : locI m a b < 0) : fndD m a b = (0, 0, false) := by unfold fndD; rw [if_pos h2]
theorem fnd_yes {m : RMap} {a b : List UInt8} (h2 : ¬ locI m a b < 0) : fndD m a b = (locI m a b, locJ m a b, true) := by unfold fndD; rw [if_neg h2]
def getI (f : Fld) (v : Int) : Int := iand v (bitsI f) / 2 ^ f.lsb.toNat
def fieldD (m : RMap) (a b : List UInt8) : Int × Int := if validE m ≠ 0 then (0, validE m) else if locI m a b < 0 then (0, 7) else (getI (locF m a b) (vl m (locI m a b)), 0)
def putI (f : Fld) (o v : Int) : Int := ior (iandn o (bitsI f)) (v * 2 ^ f.lsb.toNat)
def putD (m : RMap) (a b : List UInt8) (v : Int) : RMap × Int :=
  if validE m ≠ 0 then (zeroM, validE m) else if locI m a b < 0 then (zeroM, 7) else if v < 0 ∨ maskI (locF m a b).width < v then (zeroM, 1) else (setV m (locI m a b) (putI (locF m a b) (vl m (locI m a b)) v), 0)
theorem fieldD_e {m : RMap} {a b : List UInt8} (h : validE m ≠ 0) : fieldD m a b = (0, validE m) := by unfold fieldD; rw [if_pos h]
theorem fieldD_7 {m : RMap} {a b : List UInt8} (h : validE m = 0) (h2 : locI m a b < 0) : fieldD m a b = (0, 7) := by unfold fieldD; rw [if_neg (by omega), if_pos h2]
theorem fieldD_0 {m : RMap} {a b : List UInt8} (h : validE m = 0) (h2 : ¬ locI m a b < 0) : fieldD m a b = (getI (locF m a b) (vl m (locI m a b)), 0) := by unfold fieldD; rw [if_neg (by omega), if_neg h2]
theorem putD_e {m : RMap} {a b : List UInt8} {v : Int} (h : validE m ≠ 0) : putD m a b v = (zeroM, validE m) := by unfold putD; rw [if_pos h]
theorem putD_7 {m : RMap} {a b : List UInt8} {v : Int} (h : validE m = 0) (h2 : locI m a b < 0) : putD m a b v = (zeroM, 7) := by unfold putD; rw [if_neg (by omega), if_pos h2]
theorem putD_1 {m : RMap} {a b : List UInt8} {v : Int} (h : validE m = 0) (h2 : ¬ locI m a b < 0) (h3 : v < 0 ∨ maskI (locF m a b).width < v) : putD m a b v = (zeroM, 1) := by unfold putD; rw [if_neg (by omega), if_neg h2, if_pos h3]
theorem putD_0 {m : RMap} {a b : List UInt8} {v : Int} (h : validE m = 0) (h2 : ¬ locI m a b < 0) (h3 : 0 ≤ v ∧ v ≤ maskI (locF m a b).width) : putD m a b v = (setV m (locI m a b) (putI (locF m a b) (vl m (locI m a b)) v), 0) := by unfold putD; rw [if_neg (by omega), if_neg h2, if_neg (by omega)]
theorem fnd_t {m : RMap} {a b : List UInt8} (h : (fndD m a b).2.2 = true) : ¬ locI m a b < 0 := fun h2 => by rw [fnd_no h2] at h; cases h
theorem fnd_f {m : RMap} {a b : List UInt8} (h : (fndD m a b).2.2 = false) : locI m a b < 0 := by
  by_cases h2 : locI m a b < 0
  · exact h2
  · rw [fnd_yes h2] at h; cases h
theorem locD_ok {m : RMap} {a b : List UInt8} (h : (locD m a b).2.2 = 0) : validE m = 0 ∧ ¬ locI m a b < 0 := by
  by_cases h1 : validE m = 0
  · refine ⟨h1, fun h2 => ?_⟩
    rw [locD_7 h1 h2] at h; cases h
  · rw [locD_e h1] at h; exact absurd h h1
theorem locD_bad {m : RMap} {a b : List UInt8} (h : (locD m a b).2.2 ≠ 0) : fieldD m a b = (0, (locD m a b).2.2) ∧ ∀ v, putD m a b v = (zeroM, (locD m a b).2.2) := by
  by_cases h1 : validE m = 0
  · by_cases h2 : locI m a b < 0
    · rw [locD_7 h1 h2, fieldD_7 h1 h2]; exact ⟨rfl, fun v => putD_7 h1 h2⟩
    · rw [locD_0 h1 h2] at h; exact absurd rfl h
  · rw [locD_e h1, fieldD_e h1]; exact ⟨rfl, fun v => putD_e h1⟩
/-- The value of a field in both forms. -/
theorem get_nat {f : Fld} (h : okF f) (v : Nat) (hv : v < 65536) : getI f v = (((v &&& bitsN f) >>> f.lsb.toNat : Nat) : Int) := by
  unfold getI
  rw [bits_nat h, iand, and_nat (by omega) (by have := bits_lt h; omega), Nat.shiftRight_eq_div_pow]
  simp
theorem get_ref {f : Fld} (h : okF f) {v : Int} (h0 : 0 ≤ v) (h1 : v ≤ 65535) : iand (v / 2 ^ f.lsb.toNat) (maskI f.width) = getI f v := by
  obtain ⟨a, rfl⟩ : ∃ a : Nat, v = a := ⟨v.toNat, by omega⟩
  have hw := h; unfold okF at hw
  have e1 : (a : Int) / 2 ^ f.lsb.toNat = ((a >>> f.lsb.toNat : Nat) : Int) := by rw [Nat.shiftRight_eq_div_pow]; simp
  have e2 : a >>> f.lsb.toNat < 65536 := by rw [Nat.shiftRight_eq_div_pow]; exact Nat.lt_of_le_of_lt (Nat.div_le_self _ _) (by omega)
  have e3 := mask_range f.width
  rw [get_nat h a (by omega), e1, mask_pow (by omega) (by omega), iand, and_nat (by omega) (by rw [mask_pow (by omega) (by omega)] at e3; omega)]
  congr 1
  apply Nat.eq_of_testBit_eq
  intro i
  rw [Nat.testBit_and, Nat.testBit_shiftRight, Nat.testBit_shiftRight, Nat.testBit_and, Nat.testBit_two_pow_sub_one, bits_bit]
  congr 1
  rw [Bool.eq_iff_iff]; simp only [Bool.and_eq_true, decide_eq_true_eq]; omega
theorem put_fits {f : Fld} (h : okF f) {v : Int} (h0 : 0 ≤ v) (h1 : v ≤ maskI f.width) : 0 ≤ v * 2 ^ f.lsb.toNat ∧ v * 2 ^ f.lsb.toNat ≤ 9223372036854775807 := by
  unfold okF at h
  have h2 := shl_fits (f := f) (by omega) (by omega)
  have h3 : (0 : Int) ≤ 2 ^ f.lsb.toNat := by have := Int.pow_pos (n := 2) (m := f.lsb.toNat) (by decide); omega
  exact ⟨Int.mul_nonneg h0 h3, Int.le_trans (Int.mul_le_mul_of_nonneg_right h1 h3) h2.2⟩
theorem reg_ext {x y : Rg} (h1 : x.name = y.name) (h2 : x.addr = y.addr) (h3 : x.flds.length = y.flds.length) (h4 : ∀ j, j < x.flds.length → x.flds.getD j default = y.flds.getD j default) : x = y := by
  have := ext_get h3 h4
  cases x; cases y; simp_all
theorem map_ext {x y : RMap} (h1 : x.regs.length = y.regs.length) (h2 : x.vals.length = y.vals.length) (h3 : ∀ j, j < x.regs.length → x.regs.getD j default = y.regs.getD j default) (h4 : ∀ j, j < x.vals.length → x.vals.getD j default = y.vals.getD j default) : x = y := by
  have e1 := ext_get h1 h3
  have e2 := ext_get h2 h4
  cases x; cases y; simp_all
/-- The chapter's example. -/
def ex3 : List Fld := [⟨[101, 110], 0, 1, 0, 0⟩, ⟨[101, 114, 114], 4, 2, 3, 3⟩, ⟨[107, 101, 121], 8, 8, 2, 0⟩]
def exm : RMap := ⟨[⟨[99, 116, 108], 4, ex3⟩], []⟩
end Go.Proofs.YtmoijeodahlbmaaDoor
