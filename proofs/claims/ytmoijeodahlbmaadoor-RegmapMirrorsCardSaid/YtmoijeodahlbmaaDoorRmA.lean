/- Register maps as data: which are valid, and what is done to them. -/
import Derived.Test.YtmoijeodahlbmaaDoorRmTyp
namespace Go.Proofs.YtmoijeodahlbmaaDoor
open Go.Sim

abbrev iand (a b : Int) : Int := bitsOf .and .i64 a b
abbrev ior (a b : Int) : Int := bitsOf .or .i64 a b
abbrev iandn (a b : Int) : Int := bitsOf .andNot .i64 a b
def kwG : MF := MF.glob 0 [Rp.slice eS keywords]

def maskI (w : Int) : Int := if 0 ≤ w ∧ w ≤ 16 then 2 ^ w.toNat - 1 else 0
def bitsI (f : Fld) : Int := maskI f.width * 2 ^ f.lsb.toNat
def badF (f : Fld) : Bool := decide (f.lsb < 0) || decide (15 < f.lsb) || decide (f.width < 1) || decide (16 < f.width) || decide (16 < f.lsb + f.width) || decide (f.acc < 0) || decide (5 < f.acc) || decide (f.rst < 0) || decide (maskI f.width < f.rst)
/-- What is known of a field that is not bad. -/
def okF (f : Fld) : Prop := 0 ≤ f.lsb ∧ 1 ≤ f.width ∧ f.lsb + f.width ≤ 16 ∧ 0 ≤ f.acc ∧ f.acc ≤ 5 ∧ 0 ≤ f.rst ∧ f.rst ≤ maskI f.width
theorem bad_iff {f : Fld} : badF f = false ↔ okF f := by
  simp only [badF, okF, Bool.or_eq_false_iff, decide_eq_false_iff_not]
  constructor <;> intro h <;> (refine ⟨?_, ?_⟩ <;> omega) 
def hitF (f x : Fld) : Bool := !decide (iand (bitsI x) (bitsI f) = 0)
def fieldE (before : List Fld) (f : Fld) : Int :=
  if nameB f.name = false then 7 else if before.any (fun x => x.name == f.name) then 8 else if badF f then 1 else if before.any (hitF f) then 1 else 0
def fldAt (l : List Fld) (k : Nat) : Int := fieldE (l.take k) (l.getD k default)
def fldsE (l : List Fld) : Int := firstI l.length (fldAt l)
def twinR (r x : Rg) : Bool := x.name == r.name || decide (x.addr = r.addr)
def regE (before : List Rg) (r : Rg) : Int :=
  if nameB r.name = false then 7 else if before.any (twinR r) then 8 else if r.addr < 0 ∨ 65535 < r.addr then 1 else if 16 < r.flds.length then 2 else fldsE r.flds
def regAt (l : List Rg) (i : Nat) : Int := regE (l.take i) (l.getD i default)
def regsE (l : List Rg) : Int := if 32 < l.length then 2 else firstI l.length (regAt l)
def addBits (p : Fld → Bool) (a : Int) (f : Fld) : Int := if p f then ior a (bitsI f) else a
def whereI (p : Fld → Bool) (l : List Fld) : Int := l.foldl (addBits p) 0
def allI (l : List Fld) : Int := whereI (fun _ => true) l
def valE (m : RMap) (i : Nat) : Int :=
  if m.vals.getD i default < 0 ∨ 65535 < m.vals.getD i default ∨ iandn (m.vals.getD i default) (allI (m.regs.getD i default).flds) ≠ 0 then 1 else 0
def validE (m : RMap) : Int := if regsE m.regs ≠ 0 then regsE m.regs else if m.vals.length ≠ m.regs.length then 1 else firstI m.vals.length (valE m)

/-! What validity says. -/
theorem field_ok {before : List Fld} {f : Fld} (h : fieldE before f = 0) : nameB f.name = true ∧ before.any (fun x => x.name == f.name) = false ∧ okF f ∧ before.any (hitF f) = false := by
  unfold fieldE at h
  split at h
  · cases h
  · rename_i h1
    split at h
    · cases h
    · rename_i h2
      split at h
      · cases h
      · rename_i h3
        split at h
        · cases h
        · rename_i h4
          exact ⟨by simpa using h1, by simpa using h2, bad_iff.1 (by simpa using h3), by simpa using h4⟩
def okFs (l : List Fld) : Prop := ∀ x ∈ l, okF x
def Flds (l : List Fld) : Prop := l.length ≤ 16 ∧ ∀ k, k < l.length → fldAt l k = 0
theorem Flds.ok {l : List Fld} (h : Flds l) : okFs l := fun x hx => by
  obtain ⟨i, hi, rfl⟩ := mem_getD hx
  exact (field_ok (h.2 i hi)).2.2.1
theorem okFs_take {l : List Fld} {i : Nat} (hi : i ≤ l.length) (h : ∀ k, k < i → fldAt l k = 0) : okFs (l.take i) := fun x hx => by
  obtain ⟨k, hk, rfl⟩ := mem_getD hx
  have hk' : k < i := by simp at hk; omega
  rw [getD_take hk']
  exact (field_ok (h k hk')).2.2.1
theorem flds_of {l : List Fld} (h16 : l.length ≤ 16) (h : fldsE l = 0) : Flds l := ⟨h16, fun k hk => first_zero h k hk⟩
def RegOk (before : List Rg) (r : Rg) : Prop := nameB r.name = true ∧ before.any (twinR r) = false ∧ 0 ≤ r.addr ∧ r.addr ≤ 65535 ∧ Flds r.flds
theorem reg_ok {before : List Rg} {r : Rg} (h : regE before r = 0) : RegOk before r := by
  unfold regE at h
  split at h
  · cases h
  · rename_i h1
    split at h
    · cases h
    · rename_i h2
      split at h
      · cases h
      · rename_i h3
        split at h
        · cases h
        · rename_i h4
          exact ⟨by simpa using h1, by simpa using h2, by omega, by omega, flds_of (by omega) h⟩
def RegsOk (l : List Rg) : Prop := l.length ≤ 32 ∧ ∀ i, i < l.length → RegOk (l.take i) (l.getD i default)
theorem regs_ok {l : List Rg} (h : regsE l = 0) : RegsOk l := by
  unfold regsE at h
  split at h
  · cases h
  · exact ⟨by omega, fun i hi => reg_ok (first_zero h i hi)⟩
theorem RegsOk.flds {l : List Rg} (h : RegsOk l) {r : Rg} (hr : r ∈ l) : Flds r.flds := by
  obtain ⟨i, hi, rfl⟩ := mem_getD hr
  exact (h.2 i hi).2.2.2.2
theorem RegsOk.at {l : List Rg} (h : RegsOk l) {i : Nat} (hi : i < l.length) : Flds (l.getD i default).flds := h.flds (getD_mem' hi)
/-- A valid map. -/
structure MapOk (m : RMap) : Prop where
  regs : RegsOk m.regs
  len : m.vals.length = m.regs.length
  val : ∀ i, i < m.vals.length → valE m i = 0
theorem valid_ok {m : RMap} (h : validE m = 0) : MapOk m := by
  unfold validE at h
  split at h
  · rename_i h1; exact absurd h h1
  · rename_i h1
    split at h
    · cases h
    · rename_i h2
      exact ⟨regs_ok (by simpa using h1), by simpa using h2, fun i hi => first_zero h i hi⟩
theorem MapOk.val0 {m : RMap} (h : MapOk m) {i : Nat} (hi : i < m.vals.length) : 0 ≤ m.vals.getD i default ∧ m.vals.getD i default ≤ 65535 ∧ iandn (m.vals.getD i default) (allI (m.regs.getD i default).flds) = 0 := by
  have := h.val i hi
  unfold valE at this
  split at this
  · cases this
  · rename_i h1; simp only [not_or, Int.not_lt] at h1; exact ⟨h1.1, h1.2.1, by simpa using h1.2.2⟩

/-! Numbers. -/
theorem mask_pow {w : Int} (h0 : 0 ≤ w) (h : w ≤ 16) : maskI w = ((2 ^ w.toNat - 1 : Nat) : Int) := by
  have := Nat.one_le_two_pow (n := w.toNat)
  simp only [maskI, h0, h, and_self, if_true]
  rw [Int.ofNat_sub this]; simp
theorem mask_range (w : Int) : 0 ≤ maskI w ∧ maskI w ≤ 65535 := by
  by_cases h : 0 ≤ w ∧ w ≤ 16
  · rw [mask_pow h.1 h.2]
    have := Nat.pow_le_pow_right (n := 2) (by omega) (show w.toNat ≤ 16 by omega)
    omega
  · simp [maskI, h]
/-- The bits of a field as a natural number. -/
def bitsN (f : Fld) : Nat := (2 ^ f.width.toNat - 1) * 2 ^ f.lsb.toNat
theorem bits_nat {f : Fld} (h : okF f) : bitsI f = (bitsN f : Int) := by
  have := h
  unfold okF at this
  rw [bitsI, mask_pow (by omega) (by omega), bitsN, Int.natCast_mul]; simp
theorem bits_lt {f : Fld} (h : okF f) : bitsN f < 65536 := by
  unfold okF at h
  unfold bitsN
  have h1 : (2 ^ f.width.toNat - 1) * 2 ^ f.lsb.toNat < 2 ^ f.width.toNat * 2 ^ f.lsb.toNat :=
    Nat.mul_lt_mul_of_pos_right (by have := Nat.one_le_two_pow (n := f.width.toNat); omega) (Nat.two_pow_pos _)
  rw [← Nat.pow_add] at h1
  have h2 := Nat.pow_le_pow_right (n := 2) (by omega) (show f.width.toNat + f.lsb.toNat ≤ 16 by omega)
  omega
theorem bits_bit {f : Fld} (i : Nat) : (bitsN f).testBit i = (decide (f.lsb.toNat ≤ i) && decide (i < f.lsb.toNat + f.width.toNat)) := by
  rw [bitsN, Nat.testBit_mul_two_pow, Nat.testBit_two_pow_sub_one]
  by_cases h : f.lsb.toNat ≤ i
  · simp only [h, decide_true, Bool.true_and]
    rw [Bool.eq_iff_iff, decide_eq_true_eq, decide_eq_true_eq]; omega
  · simp [h]
theorem shl_fits {f : Fld} (h0 : 0 ≤ f.lsb) (h : f.lsb ≤ 16) : 0 ≤ maskI f.width * 2 ^ f.lsb.toNat ∧ maskI f.width * 2 ^ f.lsb.toNat ≤ 9223372036854775807 := by
  have h1 := mask_range f.width
  have h2 := Nat.pow_le_pow_right (n := 2) (by omega) (show f.lsb.toNat ≤ 16 by omega)
  have h3 : (0 : Int) ≤ 2 ^ f.lsb.toNat := by have := Int.pow_pos (n := 2) (m := f.lsb.toNat) (by decide); omega
  have h4 : (2 : Int) ^ f.lsb.toNat ≤ 65536 := by
    have : ((2 ^ f.lsb.toNat : Nat) : Int) ≤ ((2 ^ 16 : Nat) : Int) := Int.ofNat_le.2 h2
    simpa using this
  have h5 : maskI f.width * 2 ^ f.lsb.toNat ≤ 65535 * 65536 := Int.mul_le_mul h1.2 h4 h3 (by omega)
  exact ⟨Int.mul_nonneg h1.1 h3, by omega⟩

theorem box_fld {r : Nat} {m : Fld} (w : World) (C : Nat → Prop) (h : (MF.box r 51 (eF m)).p w C) : InR .i64 m.lsb ∧ InR .i64 m.width ∧ InR .i64 m.acc ∧ InR .i64 m.rst := by
  obtain ⟨cs, _, hs, hc, _⟩ := h
  match h : cs.toList.take (eF m).length, hc with
  | [a, b, c, d, e], ⟨h1, h2, h3, h4, h5, _⟩ => exact ⟨h2.2, h3.2, h4.2, h5.2⟩
theorem box_reg {r : Nat} {m : Rg} (w : World) (C : Nat → Prop) (h : (MF.box r 49 (eR m)).p w C) : InR .i64 m.addr ∧ m.flds.length ≤ 9223372036854775807 := by
  obtain ⟨cs, _, hs, hc, _⟩ := h
  match h : cs.toList.take (eR m).length, hc with
  | [a, b, c], ⟨h1, h2, h3, _⟩ => exact ⟨h2.2, h3.1⟩
/-! Function values that test a field, a register. -/
def pF (I : Fld → Prop) (p : Fld → Bool) : Rp := Rp.fn Tryd.prog (fun i : {x // I x} => [Rp.agg (eF i.1)]) (fun i => .one (Rp.bool (p i.1)))
def pR (I : Rg → Prop) (p : Rg → Bool) : Rp := Rp.fn Tryd.prog (fun i : {x // I x} => [Rp.agg (eR i.1)]) (fun i => .one (Rp.bool (p i.1)))
instance {I p} : One (pF I p) := inferInstanceAs (One (Rp.fn _ _ _))
instance {I p} : One (pR I p) := inferInstanceAs (One (Rp.fn _ _ _))
/-! Steps of the walks. -/
def lsbOk (f : Fld) : Prop := 0 ≤ f.lsb ∧ f.lsb ≤ 16
theorem okF.lsb {f : Fld} (h : okF f) : lsbOk f := by unfold okF at h; exact ⟨h.1, by omega⟩
def lsbs (l : List Fld) : Prop := ∀ x ∈ l, lsbOk x
theorem okFs.lsbs {l : List Fld} (h : okFs l) : lsbs l := fun x hx => (h x hx).lsb
theorem pow_fits {w : Int} (h0 : 0 ≤ w) (h : w ≤ 16) : 0 ≤ (1 : Int) * 2 ^ w.toNat ∧ (1 : Int) * 2 ^ w.toNat ≤ 65536 := by
  have h2 := Nat.pow_le_pow_right (n := 2) (by omega) (show w.toNat ≤ 16 by omega)
  have h3 : ((2 ^ w.toNat : Nat) : Int) ≤ ((2 ^ 16 : Nat) : Int) := Int.ofNat_le.2 h2
  have h4 : (0 : Int) < 2 ^ w.toNat := Int.pow_pos (by decide)
  simp at h3
  omega
theorem pow_nat {i : Nat} (h : i ≤ 16) : 0 ≤ (2 : Int) ^ i ∧ (2 : Int) ^ i ≤ 65536 := by
  have := pow_fits (w := (i : Int)) (by omega) (by omega)
  simpa using this
theorem where_t {p : Fld → Bool} {l : List Fld} {i : Nat} (hi : i < l.length) (h : p (l.getD i default) = true) : ior (whereI p (l.take i)) (bitsI (l.getD i default)) = whereI p (l.take (i + 1)) := by
  unfold whereI; rw [fold_take _ _ hi]; simp only [addBits, h, if_true]
theorem where_f {p : Fld → Bool} {l : List Fld} {i : Nat} (hi : i < l.length) (h : p (l.getD i default) = false) : whereI p (l.take i) = whereI p (l.take (i + 1)) := by
  unfold whereI; rw [fold_take _ _ hi]; simp only [addBits, h, Bool.false_eq_true, if_false]
theorem where_end {p : Fld → Bool} {l : List Fld} {i : Nat} (hi : l.length ≤ i) : whereI p (l.take i) = whereI p l := by rw [List.take_of_length_le hi]
theorem where_nat (p : Fld → Bool) : ∀ (l : List Fld), okFs l → ∀ a : Nat, a < 65536 → ∃ n : Nat, n < 65536 ∧ l.foldl (addBits p) (a : Int) = n
  | [], _, a, ha => ⟨a, ha, rfl⟩
  | f :: l, h, a, ha => by
    simp only [List.foldl_cons, addBits]
    have hf := h f (by simp)
    have hl : okFs l := fun x hx => h x (by simp [hx])
    split
    · rw [bits_nat hf, ior, or_nat (by omega) (by have := bits_lt hf; omega)]
      exact where_nat p l hl _ (Nat.or_lt_two_pow (n := 16) (by simpa using ha) (by simpa using bits_lt hf))
    · exact where_nat p l hl a ha
theorem all_nat {l : List Fld} (h : okFs l) : ∃ n : Nat, n < 65536 ∧ allI l = n := where_nat _ l h 0 (by omega)
theorem outside {v : Int} {l : List Fld} (h : okFs l) (h0 : 0 ≤ v) (h1 : v ≤ 65535) : iandn v (allI l) = 0 ↔ iand v (allI l) = v := by
  obtain ⟨n, hn, e⟩ := all_nat h
  obtain ⟨a, rfl⟩ : ∃ a : Nat, v = a := ⟨v.toNat, by omega⟩
  rw [e, iandn, iand, andNot_nat (by omega) (by omega), and_nat (by omega) (by omega)]
  constructor
  · intro h2
    have h2 : nandn a n = 0 := by omega
    congr 1
    apply Nat.eq_of_testBit_eq
    intro i
    have := congrArg (·.testBit i) h2
    simp only [nandn_bit, Nat.zero_testBit] at this
    rw [Nat.testBit_and]
    revert this; cases a.testBit i <;> cases n.testBit i <;> simp
  · intro h2
    have h2 : a &&& n = a := by omega
    rw [nandn, h2]; simp
theorem field7 {b : List Fld} {f : Fld} (h : nameB f.name = false) : fieldE b f = 7 := by simp [fieldE, h]
theorem field8 {b : List Fld} {f : Fld} (h : nameB f.name = true) (h2 : b.any (fun x => x.name == f.name) = true) : fieldE b f = 8 := by
  unfold fieldE; rw [if_neg (by rw [h]; simp), if_pos h2]
theorem field1 {b : List Fld} {f : Fld} (h : nameB f.name = true) (h2 : b.any (fun x => x.name == f.name) = false) (h3 : ¬ okF f) : fieldE b f = 1 := by
  have h3 : badF f = true := by
    cases hb : badF f with
    | true => rfl
    | false => exact absurd (bad_iff.1 hb) h3
  unfold fieldE; rw [if_neg (by rw [h]; simp), if_neg (by rw [h2]; simp), if_pos h3]
theorem field1' {b : List Fld} {f : Fld} (h : nameB f.name = true) (h2 : b.any (fun x => x.name == f.name) = false) (h3 : okF f) (h4 : b.any (hitF f) = true) : fieldE b f = 1 := by
  unfold fieldE; rw [if_neg (by rw [h]; simp), if_neg (by rw [h2]; simp), if_neg (by rw [bad_iff.2 h3]; simp), if_pos h4]
theorem field0 {b : List Fld} {f : Fld} (h : nameB f.name = true) (h2 : b.any (fun x => x.name == f.name) = false) (h3 : okF f) (h4 : b.any (hitF f) = false) : fieldE b f = 0 := by
  unfold fieldE; rw [if_neg (by rw [h]; simp), if_neg (by rw [h2]; simp), if_neg (by rw [bad_iff.2 h3]; simp), if_neg (by rw [h4]; simp)]
theorem reg7 {b : List Rg} {r : Rg} (h : nameB r.name = false) : regE b r = 7 := by simp [regE, h]
theorem reg8 {b : List Rg} {r : Rg} (h : nameB r.name = true) (h2 : b.any (twinR r) = true) : regE b r = 8 := by
  unfold regE; rw [if_neg (by rw [h]; simp), if_pos h2]
theorem reg1 {b : List Rg} {r : Rg} (h : nameB r.name = true) (h2 : b.any (twinR r) = false) (h3 : r.addr < 0 ∨ 65535 < r.addr) : regE b r = 1 := by
  unfold regE; rw [if_neg (by rw [h]; simp), if_neg (by rw [h2]; simp), if_pos h3]
theorem reg2 {b : List Rg} {r : Rg} (h : nameB r.name = true) (h2 : b.any (twinR r) = false) (h3 : 0 ≤ r.addr ∧ r.addr ≤ 65535) (h4 : 16 < r.flds.length) : regE b r = 2 := by
  unfold regE; rw [if_neg (by rw [h]; simp), if_neg (by rw [h2]; simp), if_neg (by omega), if_pos h4]
theorem regF {b : List Rg} {r : Rg} (h : nameB r.name = true) (h2 : b.any (twinR r) = false) (h3 : 0 ≤ r.addr ∧ r.addr ≤ 65535) (h4 : r.flds.length ≤ 16) : regE b r = fldsE r.flds := by
  unfold regE; rw [if_neg (by rw [h]; simp), if_neg (by rw [h2]; simp), if_neg (by omega), if_neg (by omega)]
theorem regs2 {l : List Rg} (h : 32 < l.length) : regsE l = 2 := by unfold regsE; rw [if_pos h]
theorem regsF {l : List Rg} (h : l.length ≤ 32) : regsE l = firstI l.length (regAt l) := by unfold regsE; rw [if_neg (by omega)]
theorem validR {m : RMap} (h : regsE m.regs ≠ 0) : validE m = regsE m.regs := by unfold validE; rw [if_pos h]
theorem validL {m : RMap} (h : regsE m.regs = 0) (h2 : m.vals.length ≠ m.regs.length) : validE m = 1 := by unfold validE; rw [if_neg (by omega), if_pos h2]
theorem validV {m : RMap} (h : regsE m.regs = 0) (h2 : m.vals.length = m.regs.length) : validE m = firstI m.vals.length (valE m) := by unfold validE; rw [if_neg (by omega), if_neg (by omega)]
theorem val1 {m : RMap} {i : Nat} (h : m.vals.getD i default < 0 ∨ 65535 < m.vals.getD i default ∨ iandn (m.vals.getD i default) (allI (m.regs.getD i default).flds) ≠ 0) : valE m i = 1 := by unfold valE; rw [if_pos h]
theorem val0 {m : RMap} {i : Nat} (h : 0 ≤ m.vals.getD i default) (h1 : m.vals.getD i default ≤ 65535) (h2 : iandn (m.vals.getD i default) (allI (m.regs.getD i default).flds) = 0) : valE m i = 0 := by unfold valE; rw [if_neg (by omega)]

/-! The operations. -/
def idxA (m : RMap) (a : Int) : Int := idxI (fun r : Rg => decide (r.addr = a)) m.regs
def findD (m : RMap) (a : Int) : Int × Bool := if validE m ≠ 0 then (0, false) else if idxA m a < 0 then (0, false) else (idxA m a, true)
def rstI (l : List Fld) : Int := l.foldl (fun v f => ior v (f.rst * 2 ^ f.lsb.toNat)) 0
def zeroM : RMap := ⟨[], []⟩
def resetD (m : RMap) : RMap × Int := if regsE m.regs ≠ 0 then (zeroM, regsE m.regs) else (⟨m.regs, m.regs.map fun r => rstI r.flds⟩, 0)
def refB (l : List Fld) (ps : List Int) : Bool := decide (0 < l.length) && !l.any fun f => !ps.any fun p => decide (f.acc = p)
def wr (v out : Int) (f : Fld) : Int :=
  if f.acc = 0 ∨ f.acc = 2 then ior (iandn out (bitsI f)) (iand v (bitsI f)) else if f.acc = 3 then iandn out (iand v (bitsI f)) else if f.acc = 4 then ior out (iand v (bitsI f)) else out
def writtenI (l : List Fld) (old v : Int) : Int := l.foldl (wr v) old
def setV (m : RMap) (i : Int) (v : Int) : RMap := ⟨m.regs, m.vals.set i.toNat v⟩
def rg (m : RMap) (i : Int) : Rg := m.regs.getD i.toNat default
def vl (m : RMap) (i : Int) : Int := m.vals.getD i.toNat default
def writeD (m : RMap) (a v : Int) : RMap × Int :=
  if validE m ≠ 0 then (zeroM, validE m) else if v < 0 ∨ 65535 < v then (zeroM, 1) else if idxA m a < 0 then (zeroM, 12) else if refB (rg m (idxA m a)).flds [1, 5] then (zeroM, 17)
  else (setV m (idxA m a) (writtenI (rg m (idxA m a)).flds (vl m (idxA m a)) v), 0)
def accI (l : List Fld) (ps : List Int) : Int := whereI (fun f => ps.any fun p => decide (f.acc = p)) l
def readD (m : RMap) (a : Int) : Int × RMap × Int :=
  if validE m ≠ 0 then (0, zeroM, validE m) else if idxA m a < 0 then (0, zeroM, 12) else if refB (rg m (idxA m a)).flds [2] then (0, zeroM, 17)
  else (iandn (vl m (idxA m a)) (accI (rg m (idxA m a)).flds [2]), setV m (idxA m a) (iandn (vl m (idxA m a)) (accI (rg m (idxA m a)).flds [5])), 0)
def predictD (m : RMap) (a s : Int) : Bool × RMap × Int := if (readD m a).2.2 ≠ 0 then (false, zeroM, (readD m a).2.2) else (decide ((readD m a).1 = s), (readD m a).2.1, 0)
end Go.Proofs.YtmoijeodahlbmaaDoor
