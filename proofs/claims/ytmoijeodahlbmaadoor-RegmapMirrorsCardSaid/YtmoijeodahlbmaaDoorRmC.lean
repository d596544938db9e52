/- Registers bit by bit. -/
import Derived.Test.YtmoijeodahlbmaaDoorRmB
namespace Go.Proofs.YtmoijeodahlbmaaDoor
open Go.Sim

def cov (f : Fld) (i : Nat) : Bool := (bitsN f).testBit i
theorem cov_iff {f : Fld} {i : Nat} : cov f i = true ↔ f.lsb.toNat ≤ i ∧ i < f.lsb.toNat + f.width.toNat := by
  rw [cov, bits_bit]; simp
/-- No two fields have a bit in common. -/
def Disj (l : List Fld) : Prop := l.Pairwise fun f g => ∀ i, cov f i = true → cov g i = false
theorem hit_cov {f x : Fld} (hf : okF f) (hx : okF x) (h : hitF f x = false) (i : Nat) (h1 : cov x i = true) : cov f i = false := by
  have h2 : iand (bitsI x) (bitsI f) = 0 := by unfold hitF at h; simpa using h
  rw [bits_nat hf, bits_nat hx, iand, and_nat (by have := bits_lt hx; omega) (by have := bits_lt hf; omega)] at h2
  have h3 : bitsN x &&& bitsN f = 0 := by omega
  have := congrArg (·.testBit i) h3
  simp only [Nat.testBit_and, Nat.zero_testBit] at this
  unfold cov at h1 ⊢
  rw [h1] at this; simpa using this
theorem pairwise_of {α : Type} [Inhabited α] {R : α → α → Prop} {l : List α} (h : ∀ i j, i < j → j < l.length → R (l.getD i default) (l.getD j default)) : l.Pairwise R := by
  rw [List.pairwise_iff_getElem]
  intro i j hi hj hij
  have := h i j hij hj
  simpa [List.getD, hi, hj] using this
theorem Flds.disj {l : List Fld} (h : Flds l) : Disj l := by
  refine pairwise_of fun i j hij hj k hk => ?_
  obtain ⟨_, _, h3, h4⟩ := field_ok (h.2 j hj)
  refine hit_cov h3 (h.ok _ (getD_mem' (by omega))) ?_ k hk
  cases hh : hitF (l.getD j default) (l.getD i default) with
  | false => rfl
  | true => rw [any_take_yes (i := j) (j := i) (by omega) hij hh] at h4; cases h4
/-- Folds that work on each field's bits alone. -/
theorem fold_local {α : Type} (π : α → Fld) (F : Nat → α → Nat) (g : α → Nat → Bool → Bool) (hF : ∀ out x i, okF (π x) → (F out x).testBit i = if cov (π x) i then g x i (out.testBit i) else out.testBit i) :
    ∀ (l : List α), okFs (l.map π) → Disj (l.map π) → ∀ (a i : Nat), (∀ x ∈ l, cov (π x) i = true → (l.foldl F a).testBit i = g x i (a.testBit i)) ∧ ((∀ x ∈ l, cov (π x) i = false) → (l.foldl F a).testBit i = a.testBit i)
  | [], _, _, a, i => ⟨fun x hx => by simp at hx, fun _ => rfl⟩
  | y :: l, hok, hd, a, i => by
    have hy : okF (π y) := hok _ (by simp)
    have hl : okFs (l.map π) := fun z hz => hok z (by simp only [List.map_cons, List.mem_cons]; exact .inr hz)
    have hd' : (∀ z ∈ l.map π, ∀ i, cov (π y) i = true → cov z i = false) ∧ Disj (l.map π) := by
      have := hd; unfold Disj at this; rw [List.map_cons, List.pairwise_cons] at this; exact this
    obtain ⟨ih1, ih2⟩ := fold_local π F g hF l hl hd'.2 (F a y) i
    have hb := hF a y i hy
    refine ⟨fun x hx hc => ?_, fun hn => ?_⟩
    · rw [List.foldl_cons]
      rcases List.mem_cons.1 hx with rfl | hx
      · rw [ih2 fun z hz => hd'.1 _ (List.mem_map_of_mem hz) i hc, hb, if_pos hc]
      · have hcy : cov (π y) i = false := by
          cases h : cov (π y) i with
          | false => rfl
          | true => rw [hd'.1 _ (List.mem_map_of_mem hx) i h] at hc; cases hc
        rw [ih1 x hx hc, hb, hcy]; rfl
    · rw [List.foldl_cons, ih2 fun z hz => hn z (by simp [hz]), hb, hn y (by simp)]; rfl
theorem fold_bit (F : Nat → Fld → Nat) (g : Fld → Nat → Bool → Bool) (hF : ∀ out x i, okF x → (F out x).testBit i = if cov x i then g x i (out.testBit i) else out.testBit i) {l : List Fld} (hl : Flds l) (a i : Nat) :
    (∀ x ∈ l, cov x i = true → (l.foldl F a).testBit i = g x i (a.testBit i)) ∧ ((∀ x ∈ l, cov x i = false) → (l.foldl F a).testBit i = a.testBit i) :=
  fold_local id F g hF l (by rw [List.map_id]; exact hl.ok) (by rw [List.map_id]; exact hl.disj) a i

/-- A value that has bits of fields alone. -/
def okVal (l : List Fld) (a : Nat) : Prop := ∀ i, a.testBit i = true → ∃ f ∈ l, cov f i = true
theorem cov_lt {f : Fld} (h : okF f) {i : Nat} (hc : cov f i = true) : i < 16 := by
  have := cov_iff.1 hc; unfold okF at h; omega
theorem okVal.lt {l : List Fld} (hl : okFs l) {a : Nat} (h : okVal l a) : a < 65536 := by
  refine Nat.lt_pow_two_of_testBit (n := 16) a fun i hi => ?_
  cases hb : a.testBit i with
  | false => rfl
  | true => obtain ⟨f, hf, hc⟩ := h i hb; have := cov_lt (hl f hf) hc; omega
/-- Folds over numbers, as natural ones. -/
theorem fold_conv (F : Int → Fld → Int) (G : Nat → Fld → Nat) (h : ∀ f, okF f → ∀ a : Nat, a < 65536 → F a f = (G a f : Int) ∧ G a f < 65536) : ∀ (l : List Fld), okFs l → ∀ a : Nat, a < 65536 → l.foldl F a = (l.foldl G a : Nat) ∧ l.foldl G a < 65536
  | [], _, a, ha => ⟨rfl, ha⟩
  | f :: l, hok, a, ha => by
    obtain ⟨h1, h2⟩ := h f (hok f (by simp)) a ha
    have := fold_conv F G h l (fun x hx => hok x (by simp [hx])) (G a f) h2
    rw [List.foldl_cons, List.foldl_cons, h1]; exact this
theorem or16 {a b : Nat} (ha : a < 65536) (hb : b < 65536) : a ||| b < 65536 := Nat.or_lt_two_pow (n := 16) (by simpa using ha) (by simpa using hb)
theorem nand16 {a : Nat} (b : Nat) (ha : a < 65536) : nandn a b < 65536 := Nat.lt_of_le_of_lt (nandn_le a b) ha
theorem and16 {a : Nat} (b : Nat) (ha : a < 65536) : a &&& b < 65536 := Nat.lt_of_le_of_lt Nat.and_le_left ha
theorem iand_n {a b : Nat} (ha : a < 65536) (hb : b < 65536) : iand a b = ((a &&& b : Nat) : Int) := and_nat (by omega) (by omega)
theorem ior_n {a b : Nat} (ha : a < 65536) (hb : b < 65536) : ior a b = ((a ||| b : Nat) : Int) := or_nat (by omega) (by omega)
theorem iandn_n {a b : Nat} (ha : a < 65536) (hb : b < 65536) : iandn a b = (nandn a b : Int) := andNot_nat (by omega) (by omega)

def addN (p : Fld → Bool) (out : Nat) (f : Fld) : Nat := if p f then out ||| bitsN f else out
theorem addN_bit (p : Fld → Bool) (out : Nat) (x : Fld) (i : Nat) (_ : okF x) : (addN p out x).testBit i = if cov x i then (out.testBit i || p x) else out.testBit i := by
  unfold addN cov
  cases p x <;> simp only [Bool.false_eq_true, if_false, if_true, Bool.or_false, Bool.or_true, Nat.testBit_or, ite_self]
  cases (bitsN x).testBit i <;> simp
def whN (p : Fld → Bool) (l : List Fld) : Nat := l.foldl (addN p) 0
theorem where_n (p : Fld → Bool) {l : List Fld} (hl : okFs l) : whereI p l = (whN p l : Int) ∧ whN p l < 65536 :=
  fold_conv (addBits p) (addN p) (fun f hf a ha => by
    unfold addBits addN
    split
    · rw [bits_nat hf, ior_n ha (bits_lt hf)]; exact ⟨rfl, or16 ha (bits_lt hf)⟩
    · exact ⟨rfl, ha⟩) l hl 0 (by omega)
theorem whN_bit (p : Fld → Bool) {l : List Fld} (hl : Flds l) (i : Nat) : (∀ x ∈ l, cov x i = true → (whN p l).testBit i = p x) ∧ ((∀ x ∈ l, cov x i = false) → (whN p l).testBit i = false) := by
  have := fold_bit (addN p) (fun x _ b => b || p x) (addN_bit p) hl 0 i
  unfold whN
  simpa using this
theorem covered {l : List Fld} (i : Nat) : (∃ f ∈ l, cov f i = true) ∨ ∀ f ∈ l, cov f i = false := by
  by_cases h : ∃ f ∈ l, cov f i = true
  · exact .inl h
  · refine .inr fun f hf => ?_
    cases hc : cov f i with
    | false => rfl
    | true => exact absurd ⟨f, hf, hc⟩ h
theorem val_iff {l : List Fld} (hl : Flds l) {v : Int} : (0 ≤ v ∧ v ≤ 65535 ∧ iandn v (allI l) = 0) ↔ ∃ a : Nat, v = a ∧ okVal l a := by
  obtain ⟨e, hlt⟩ := where_n (fun _ => true) hl.ok
  have e : allI l = (whN (fun _ => true) l : Int) := e
  constructor
  · rintro ⟨h0, h1, h2⟩
    obtain ⟨a, rfl⟩ : ∃ a : Nat, v = a := ⟨v.toNat, by omega⟩
    refine ⟨a, rfl, fun i hi => ?_⟩
    rw [e, iandn_n (by omega) hlt] at h2
    have h3 : nandn a (whN (fun _ => true) l) = 0 := by omega
    have := congrArg (·.testBit i) h3
    simp only [nandn_bit, Nat.zero_testBit, hi, Bool.true_and, Bool.not_eq_false'] at this
    rcases covered (l := l) i with h | h
    · exact h
    · rw [(whN_bit _ hl i).2 h] at this; cases this
  · rintro ⟨a, rfl, ha⟩
    have hal := ha.lt hl.ok
    refine ⟨by omega, by omega, ?_⟩
    rw [e, iandn_n hal hlt]
    have : nandn a (whN (fun _ => true) l) = 0 := by
      apply Nat.eq_of_testBit_eq
      intro i
      rw [nandn_bit, Nat.zero_testBit]
      cases hb : a.testBit i with
      | false => rfl
      | true =>
        obtain ⟨f, hf, hc⟩ := ha i hb
        rw [(whN_bit _ hl i).1 f hf hc]; rfl
    omega
theorem map_okv {m : RMap} (h : MapOk m) {I : Int} (h0 : 0 ≤ I) (h1 : I < m.regs.length) : ∃ a : Nat, vl m I = a ∧ okVal (rg m I).flds a :=
  (val_iff (h.flds h0 h1)).1 (h.val0 (i := I.toNat) (by rw [h.len]; omega))
theorem valid_regs {m : RMap} (h : validE m = 0) : regsE m.regs = 0 := by
  unfold validE at h
  split at h
  · rename_i h1; exact absurd h h1
  · rename_i h1; simpa using h1
/-- A map whose values have bits of fields alone. -/
theorem valid_of {m : RMap} (hr : regsE m.regs = 0) (hl : m.vals.length = m.regs.length) (hv : ∀ i, i < m.vals.length → ∃ a : Nat, m.vals.getD i default = a ∧ okVal (m.regs.getD i default).flds a) : validE m = 0 := by
  rw [validV hr hl]
  refine first_no fun i hi => ?_
  obtain ⟨h1, h2, h3⟩ := (val_iff ((regs_ok hr).at (by omega))).2 (hv i hi)
  exact val0 h1 h2 h3
theorem getD_set {l : List Int} {i j : Nat} {a : Int} (hi : i < l.length) : (l.set i a).getD j default = if j = i then a else l.getD j default := by
  simp only [List.getD, List.getElem?_set]
  by_cases h : i = j
  · subst h; simp [hi]
  · have : ¬ j = i := fun e => h e.symm
    simp [h, this]
theorem vl_set {m : RMap} {I J : Int} {a : Int} (h0 : 0 ≤ I) (h1 : I < m.vals.length) (hJ : 0 ≤ J) : vl (setV m I a) J = if J = I then a else vl m J := by
  unfold vl setV
  rw [getD_set (by omega)]
  by_cases h : J = I
  · subst h; simp
  · rw [if_neg (by omega), if_neg h]
theorem set_valid {m : RMap} (hv : validE m = 0) {I : Int} (h0 : 0 ≤ I) (h1 : I < m.regs.length) {a : Nat} (ha : okVal (rg m I).flds a) : validE (setV m I a) = 0 := by
  have hM := valid_ok hv
  refine valid_of (valid_regs (m := m) hv) (by simp only [setV, List.length_set]; exact hM.len) fun i hi => ?_
  simp only [setV, List.length_set] at hi
  simp only [setV]
  rw [getD_set (by rw [hM.len]; omega)]
  by_cases h : i = I.toNat
  · subst h; rw [if_pos rfl]; exact ⟨a, rfl, ha⟩
  · rw [if_neg h]
    obtain ⟨b, hb1, hb2⟩ := map_okv hM (I := (i : Int)) (by omega) (by rw [hM.len] at hi; omega)
    exact ⟨b, hb1, hb2⟩

/-! What stands at one place only. -/
theorem twin_no {m : RMap} (hM : MapOk m) {i j : Nat} (hij : i < j) (hj : j < m.regs.length) : (m.regs.getD i default).name ≠ (m.regs.getD j default).name ∧ (m.regs.getD i default).addr ≠ (m.regs.getD j default).addr := by
  have h := (hM.regs.2 j hj).2.1
  have : twinR (m.regs.getD j default) (m.regs.getD i default) = false := by
    cases hh : twinR (m.regs.getD j default) (m.regs.getD i default) with
    | false => rfl
    | true => rw [any_take_yes (i := j) (j := i) (by omega) hij hh] at h; cases h
  unfold twinR at this
  simp only [Bool.or_eq_false_iff, beq_eq_false_iff_ne, decide_eq_false_iff_not] at this
  exact this
theorem addr_one {m : RMap} (hM : MapOk m) {i j : Nat} (hi : i < m.regs.length) (hj : j < m.regs.length) (h : (m.regs.getD i default).addr = (m.regs.getD j default).addr) : i = j := by
  rcases Nat.lt_trichotomy i j with h1 | h1 | h1
  · exact absurd h (twin_no hM h1 hj).2
  · exact h1
  · exact absurd h.symm (twin_no hM h1 hi).2
theorem name_one {m : RMap} (hM : MapOk m) {i j : Nat} (hi : i < m.regs.length) (hj : j < m.regs.length) (h : (m.regs.getD i default).name = (m.regs.getD j default).name) : i = j := by
  rcases Nat.lt_trichotomy i j with h1 | h1 | h1
  · exact absurd h (twin_no hM h1 hj).1
  · exact h1
  · exact absurd h.symm (twin_no hM h1 hi).1
theorem fld_name {l : List Fld} (h : Flds l) {i j : Nat} (hij : i < j) (hj : j < l.length) : (l.getD i default).name ≠ (l.getD j default).name := fun e => by
  have := (field_ok (h.2 j hj)).2.1
  rw [any_take_yes (p := fun x : Fld => x.name == (l.getD j default).name) (i := j) (j := i) (by omega) hij (by simpa using e)] at this
  cases this
theorem fname_one {l : List Fld} (h : Flds l) {i j : Nat} (hi : i < l.length) (hj : j < l.length) (e : (l.getD i default).name = (l.getD j default).name) : i = j := by
  rcases Nat.lt_trichotomy i j with h1 | h1 | h1
  · exact absurd e (fld_name h h1 hj)
  · exact h1
  · exact absurd e.symm (fld_name h h1 hi)
theorem loc_self {m : RMap} (hM : MapOk m) {i k : Nat} (hi : i < m.regs.length) (hk : k < (m.regs.getD i default).flds.length) :
    locI m (m.regs.getD i default).name ((m.regs.getD i default).flds.getD k default).name = i ∧ locJ m (m.regs.getD i default).name ((m.regs.getD i default).flds.getD k default).name = k := by
  refine loc_yes hi hk (by simp [nmB]) (fun j hj => ?_) fun j hj => ?_
  · refine any_no fun q hq => ?_
    simp only [nmB, Bool.and_eq_false_iff, beq_eq_false_iff_ne]
    exact .inl (twin_no hM hj hi).1
  · simp only [nmB, Bool.and_eq_false_iff, beq_eq_false_iff_ne]
    exact .inr (fld_name (hM.regs.at hi) hj hk)

/-! Values of fields. -/
def getN (f : Fld) (v : Nat) : Nat := (v &&& bitsN f) >>> f.lsb.toNat
theorem get_n {f : Fld} (h : okF f) {v : Nat} (hv : v < 65536) : getI f v = (getN f v : Int) := get_nat h v hv
theorem getN_bit (f : Fld) (v i : Nat) : (getN f v).testBit i = (decide (i < f.width.toNat) && v.testBit (f.lsb.toNat + i)) := by
  unfold getN
  rw [Nat.testBit_shiftRight, Nat.testBit_and, bits_bit]
  cases v.testBit (f.lsb.toNat + i) <;> simp
theorem cov_add {f : Fld} {i : Nat} (h : i < f.width.toNat) : cov f (f.lsb.toNat + i) = true := cov_iff.2 ⟨by omega, by omega⟩
theorem getN_lt (f : Fld) (v : Nat) : getN f v < 2 ^ f.width.toNat := Nat.lt_pow_two_of_testBit _ fun i hi => by
  rw [getN_bit, decide_eq_false (by omega)]; rfl
theorem bit_small {v w i : Nat} (hv : v < 2 ^ w) (hi : w ≤ i) : v.testBit i = false :=
  Nat.testBit_lt_two_pow (Nat.lt_of_lt_of_le hv (Nat.pow_le_pow_right (by omega) hi))
theorem shl_lt {f : Fld} (h : okF f) {v : Nat} (hv : v < 2 ^ f.width.toNat) : v <<< f.lsb.toNat < 65536 := by
  unfold okF at h
  refine Nat.lt_pow_two_of_testBit (n := 16) _ fun i hi => ?_
  rw [Nat.testBit_shiftLeft, bit_small hv (by omega)]; simp
theorem mask_lt {f : Fld} (h : okF f) {v : Int} (h0 : 0 ≤ v) (h1 : v ≤ maskI f.width) : ∃ a : Nat, v = a ∧ a < 2 ^ f.width.toNat := by
  unfold okF at h
  rw [mask_pow (by omega) (by omega)] at h1
  have := Nat.one_le_two_pow (n := f.width.toNat)
  exact ⟨v.toNat, by omega, by omega⟩
theorem shl_int (v k : Nat) : (v : Int) * 2 ^ k = ((v <<< k : Nat) : Int) := by rw [Nat.shiftLeft_eq]; simp
def putN (f : Fld) (o v : Nat) : Nat := nandn o (bitsN f) ||| v <<< f.lsb.toNat
theorem put_n {f : Fld} (h : okF f) {o v : Nat} (ho : o < 65536) (hv : v < 2 ^ f.width.toNat) : putI f o v = (putN f o v : Int) := by
  unfold putI
  rw [bits_nat h, shl_int, iandn_n ho (bits_lt h), ior_n (nand16 _ ho) (shl_lt h hv)]; rfl
theorem putN_bit {f : Fld} {o v : Nat} (hv : v < 2 ^ f.width.toNat) (i : Nat) : (putN f o v).testBit i = if cov f i then v.testBit (i - f.lsb.toNat) else o.testBit i := by
  unfold putN
  rw [Nat.testBit_or, nandn_bit, Nat.testBit_shiftLeft]
  change (o.testBit i && !cov f i || _) = _
  cases hc : cov f i with
  | true =>
    have := (cov_iff.1 hc).1
    simp [this]
  | false =>
    have h1 : ¬ (f.lsb.toNat ≤ i ∧ i < f.lsb.toNat + f.width.toNat) := fun h => by rw [cov_iff.2 h] at hc; cases hc
    by_cases h2 : f.lsb.toNat ≤ i
    · rw [bit_small hv (by omega)]; simp
    · simp [h2]
theorem put_okv {l : List Fld} {f : Fld} (hf : f ∈ l) {o v : Nat} (ho : okVal l o) (hv : v < 2 ^ f.width.toNat) : okVal l (putN f o v) := fun i hi => by
  rw [putN_bit hv] at hi
  split at hi
  · rename_i hc; exact ⟨f, hf, hc⟩
  · exact ho i hi
theorem get_put_same {f : Fld} {o v : Nat} (hv : v < 2 ^ f.width.toNat) : getN f (putN f o v) = v := by
  apply Nat.eq_of_testBit_eq
  intro i
  rw [getN_bit]
  by_cases h : i < f.width.toNat
  · rw [putN_bit hv, if_pos (cov_add h)]
    simp [h]
  · rw [bit_small hv (by omega)]; simp [h]
theorem get_put_other {f g : Fld} {o v : Nat} (hv : v < 2 ^ f.width.toNat) (hd : ∀ i, cov g i = true → cov f i = false) : getN g (putN f o v) = getN g o := by
  apply Nat.eq_of_testBit_eq
  intro i
  rw [getN_bit, getN_bit]
  by_cases h : i < g.width.toNat
  · rw [putN_bit hv, hd _ (cov_add h)]; rfl
  · simp [h]
theorem disj_at {l : List Fld} (h : Flds l) {i j : Nat} (hi : i < l.length) (hj : j < l.length) (hne : i ≠ j) (q : Nat) (hc : cov (l.getD i default) q = true) : cov (l.getD j default) q = false := by
  have hd := h.disj
  unfold Disj at hd
  rw [List.pairwise_iff_getElem] at hd
  have e1 : l.getD i default = l[i] := by simp [List.getD, hi]
  have e2 : l.getD j default = l[j] := by simp [List.getD, hj]
  rw [e1] at hc; rw [e2]
  rcases Nat.lt_or_gt_of_ne hne with h1 | h1
  · exact hd i j hi hj h1 q hc
  · cases hcj : cov l[j] q with
    | false => rfl
    | true => rw [hd j i hj hi h1 q hcj] at hc; cases hc

/-- What the law of fields says of one field. -/
theorem fields_law {m : RMap} {a b : List UInt8} {v : Int} (hp : (putD m a b v).2 = 0) {i k : Nat} (hi : i < m.regs.length) (hk : k < (m.regs.getD i default).flds.length) :
    (fieldD m (m.regs.getD i default).name ((m.regs.getD i default).flds.getD k default).name).2 = 0 ∧ (fieldD (putD m a b v).1 (m.regs.getD i default).name ((m.regs.getD i default).flds.getD k default).name).2 = 0 ∧
    (fieldD (putD m a b v).1 (m.regs.getD i default).name ((m.regs.getD i default).flds.getD k default).name).1 =
      if ((m.regs.getD i default).name == a && ((m.regs.getD i default).flds.getD k default).name == b) = true then v else (fieldD m (m.regs.getD i default).name ((m.regs.getD i default).flds.getD k default).name).1 := by
  have hv : validE m = 0 := by
    by_cases h : validE m = 0
    · exact h
    · rw [putD_e h] at hp; exact absurd hp h
  have hl : ¬ locI m a b < 0 := fun h => by rw [putD_7 hv h] at hp; cases hp
  have hM := valid_ok hv
  obtain ⟨g0, g1, g2, g3⟩ := loc_at hl
  have hF := hM.loc hl
  have hr : 0 ≤ v ∧ v ≤ maskI (locF m a b).width := by
    by_cases h : 0 ≤ v ∧ v ≤ maskI (locF m a b).width
    · exact h
    · rw [putD_1 hv hl (by omega)] at hp; cases hp
  obtain ⟨n, rfl, hn⟩ := mask_lt hF hr.1 hr.2
  rw [putD_0 hv hl hr]
  obtain ⟨o, ho, hoo⟩ := map_okv hM g0 g1
  have holt := hoo.lt (hM.flds g0 g1).ok
  rw [ho, put_n hF holt hn]
  have hv' := set_valid hv g0 g1 (put_okv (loc_mem hl) hoo hn)
  obtain ⟨s1, s2⟩ := loc_self hM hi hk
  have hq : ¬ locI m (m.regs.getD i default).name ((m.regs.getD i default).flds.getD k default).name < 0 := by omega
  have hq' : ¬ locI (setV m (locI m a b) (putN (locF m a b) o n)) (m.regs.getD i default).name ((m.regs.getD i default).flds.getD k default).name < 0 := hq
  have eF : locF m (m.regs.getD i default).name ((m.regs.getD i default).flds.getD k default).name = (m.regs.getD i default).flds.getD k default := by
    unfold locF rg; rw [s1, s2]; rfl
  have hfk : okF ((m.regs.getD i default).flds.getD k default) := (hM.regs.at hi).ok _ (getD_mem' hk)
  rw [fieldD_0 hv hq, fieldD_0 hv' hq']
  refine ⟨rfl, rfl, ?_⟩
  show getI (locF m _ _) (vl (setV m (locI m a b) _) (locI m _ _)) = if _ then _ else getI (locF m _ _) (vl m (locI m _ _))
  rw [eF, s1, vl_set g0 (by rw [hM.len]; exact g1) (by omega)]
  have hnm := loc_name hl
  by_cases hI : (i : Int) = locI m a b
  · have hrg : rg m (locI m a b) = m.regs.getD i default := by unfold rg; rw [← hI]; rfl
    have hJ : locF m a b = (m.regs.getD i default).flds.getD (locJ m a b).toNat default := by unfold locF; rw [hrg]
    rw [hrg] at g3
    rw [if_pos hI, get_n hfk ((put_okv (loc_mem hl) hoo hn).lt (hM.flds g0 g1).ok)]
    have hn1 : (m.regs.getD i default).name = a := by rw [← hrg]; exact hnm.1
    by_cases hK : k = (locJ m a b).toNat
    · have e : (m.regs.getD i default).flds.getD k default = locF m a b := by rw [hJ, hK]
      have hn2 : ((m.regs.getD i default).flds.getD k default).name = b := by rw [e]; exact hnm.2
      rw [if_pos (by rw [Bool.and_eq_true, beq_iff_eq, beq_iff_eq]; exact ⟨hn1, hn2⟩), e, get_put_same hn]
    · have hn2 : ((m.regs.getD i default).flds.getD k default).name ≠ b := fun e => hK (fname_one (hM.regs.at hi) hk (by omega) (by rw [e, ← hJ]; exact hnm.2.symm))
      rw [← hI] at ho
      rw [if_neg (by rw [Bool.and_eq_true, beq_iff_eq, beq_iff_eq]; exact fun h => hn2 h.2), ho, get_n hfk holt, get_put_other hn]
      intro q hq
      rw [hJ]; exact disj_at (hM.regs.at hi) hk (by omega) hK q hq
  · rw [if_neg hI]
    have hn1 : (m.regs.getD i default).name ≠ a := fun e => by
      have := name_one hM hi (j := (locI m a b).toNat) (by omega) (by rw [e]; exact hnm.1.symm)
      omega
    rw [if_neg (by rw [Bool.and_eq_true, beq_iff_eq]; exact fun h => hn1 h.1)]

/-! Bits taken away. -/
def clrN (p : Fld → Bool) (out : Nat) (f : Fld) : Nat := if p f then nandn out (bitsN f) else out
theorem iandn_okv {l : List Fld} {a : Nat} (b : Nat) (h : okVal l a) : okVal l (nandn a b) := fun i hi => h i (by rw [nandn_bit, Bool.and_eq_true] at hi; exact hi.1)
theorem acc_n {l : List Fld} (hl : Flds l) (ps : List Int) : accI l ps = (whN (fun f => ps.any fun p => decide (f.acc = p)) l : Int) ∧ whN (fun f => ps.any fun p => decide (f.acc = p)) l < 65536 := where_n _ hl.ok
/-- What the law of the others says of the second reading. -/
theorem again_law {m : RMap} {a : Int} (h : (readD m a).2.2 = 0) : validE m = 0 ∧ ¬ idxA m a < 0 ∧ (readD (readD m a).2.1 a).2.2 = 0 ∧
    (readD (readD m a).2.1 a).1 = (rg m (idxA m a)).flds.foldl (clr fun f => decide (f.acc = 5)) (readD m a).1 := by
  have hv : validE m = 0 := by
    by_cases hv : validE m = 0
    · exact hv
    · rw [read_e hv] at h; exact absurd h hv
  have hi : ¬ idxA m a < 0 := fun h2 => by rw [read_12 hv h2] at h; cases h
  have hr : refB (rg m (idxA m a)).flds [2] = false := by
    cases hr : refB (rg m (idxA m a)).flds [2] with
    | false => rfl
    | true => rw [read_17 hv hi hr] at h; cases h
  have hM := valid_ok hv
  have hix := idxA_at hi
  have hfl := hM.flds hix.1 hix.2
  obtain ⟨o, ho, hoo⟩ := map_okv hM hix.1 hix.2
  have holt := hoo.lt hfl.ok
  obtain ⟨e2, l2⟩ := acc_n hfl [2]
  obtain ⟨e5, l5⟩ := acc_n hfl [5]
  refine ⟨hv, hi, ?_⟩
  rw [read_0 hv hi hr]
  dsimp only
  rw [ho, e2, e5, iandn_n holt l5, iandn_n holt l2]
  have hv' := set_valid hv hix.1 hix.2 (iandn_okv (whN (fun f => [5].any fun p => decide (f.acc = p)) (rg m (idxA m a)).flds) hoo)
  have hi' : ¬ idxA (setV m (idxA m a) (nandn o (whN (fun f => [5].any fun p => decide (f.acc = p)) (rg m (idxA m a)).flds) : Nat)) a < 0 := hi
  rw [read_0 hv' hi' hr]
  refine ⟨rfl, ?_⟩
  show iandn (vl (setV m (idxA m a) _) (idxA m a)) (accI (rg m (idxA m a)).flds [2]) = _
  rw [vl_set hix.1 (by rw [hM.len]; exact hix.2) hix.1, if_pos rfl, e2, iandn_n (nand16 _ holt) l2]
  have h2 := nand16 (whN (fun f => [2].any fun p => decide (f.acc = p)) (rg m (idxA m a)).flds) holt
  rw [clr_acc hfl.ok (by omega) (by omega), e5, iandn_n h2 l5]
  congr 1
  apply Nat.eq_of_testBit_eq
  intro i
  simp only [nandn_bit]
  cases o.testBit i <;> simp [Bool.and_comm]
/-- What follows has other values at the place that was meant alone. -/
def OneV (m : RMap) (a : Int) (n : RMap) : Prop := n = zeroM ∨ (validE m = 0 ∧ ¬ idxA m a < 0 ∧ ∃ x, n = setV m (idxA m a) x)
theorem read_one (m : RMap) (a : Int) : OneV m a (readD m a).2.1 := by
  by_cases hv : validE m = 0
  · by_cases hi : idxA m a < 0
    · rw [read_12 hv hi]; exact .inl rfl
    · cases hr : refB (rg m (idxA m a)).flds [2] with
      | true => rw [read_17 hv hi hr]; exact .inl rfl
      | false => rw [read_0 hv hi hr]; exact .inr ⟨hv, hi, _, rfl⟩
  · rw [read_e hv]; exact .inl rfl
theorem write_one (m : RMap) (a v : Int) : OneV m a (writeD m a v).1 := by
  by_cases hv : validE m = 0
  · by_cases h2 : v < 0 ∨ 65535 < v
    · rw [write_1 hv h2]; exact .inl rfl
    · by_cases hi : idxA m a < 0
      · rw [write_12 hv (by omega) hi]; exact .inl rfl
      · cases hr : refB (rg m (idxA m a)).flds [1, 5] with
        | true => rw [write_17 hv (by omega) hi hr]; exact .inl rfl
        | false => rw [write_0 hv (by omega) hi hr]; exact .inr ⟨hv, hi, _, rfl⟩
  · rw [write_e hv]; exact .inl rfl
theorem one_law {m : RMap} {a : Int} {n : RMap} (h : OneV m a n) {i : Nat} (hi : i < n.vals.length) : i < m.vals.length ∧ i < m.regs.length ∧ ((m.regs.getD i default).addr ≠ a → n.vals.getD i default = m.vals.getD i default) := by
  rcases h with rfl | ⟨hv, hx, x, rfl⟩
  · simp [zeroM] at hi
  · have hM := valid_ok hv
    have hix := idxA_at hx
    simp only [setV, List.length_set] at hi ⊢
    refine ⟨hi, by rw [← hM.len]; exact hi, fun hne => ?_⟩
    rw [getD_set (by rw [hM.len]; omega)]
    split
    · rename_i e
      have := idx_get (p := fun r : Rg => decide (r.addr = a)) (l := m.regs) hix.1
      rw [decide_eq_true_eq] at this
      unfold idxA at e
      rw [← e] at this
      exact absurd this hne
    · rfl
theorem addr_idx {m : RMap} {a : Int} (hv : validE m = 0) (hx : ¬ idxA m a < 0) {i : Nat} (hi : i < m.regs.length) : (m.regs.getD i default).addr = a ↔ (i : Int) = idxA m a := by
  have hM := valid_ok hv
  have hix := idxA_at hx
  have := idx_get (p := fun r : Rg => decide (r.addr = a)) (l := m.regs) hix.1
  rw [decide_eq_true_eq] at this
  constructor
  · intro h
    have := addr_one hM hi (j := (idxA m a).toNat) (by omega) (by rw [h]; exact this.symm)
    omega
  · intro h
    have e : i = (idxI (fun r : Rg => decide (r.addr = a)) m.regs).toNat := by unfold idxA at h; omega
    rw [e]; exact this

/-! What the walks of the laws need. -/
def accR (m : RMap) (a b : List UInt8) (v : Int) : List Rp := mR m ++ [Rp.str a, Rp.str b, Rp.int .i64 v]
theorem acc_fact {m : RMap} {a b : List UInt8} {v : Int} (w : World) (C : Nat → Prop) (u : Value) (h : (Rp.agg (accR m a b v)).p w C u) : m.regs.length ≤ 9223372036854775807 ∧ m.vals.length ≤ 9223372036854775807 :=
  agg_fact (fun w C vs h => by
    match vs, h with
    | [c, d, e, f, g], ⟨h1, h2, _⟩ => exact ⟨h1.1, h2.1⟩) w C u h
theorem box_map {r : Nat} {m : RMap} (w : World) (C : Nat → Prop) (h : (MF.box r 25 (mR m)).p w C) : m.regs.length ≤ 9223372036854775807 ∧ m.vals.length ≤ 9223372036854775807 := by
  obtain ⟨cs, _, hs, hc, _⟩ := h
  match h : cs.toList.take (mR m).length, hc with
  | [a, b], ⟨h1, h2, _⟩ => exact ⟨h1.1, h2.1⟩
def two (m : RMap) (a v : Int) : List RMap := [(readD m a).2.1, (writeD m a v).1]
theorem two_one (m : RMap) (a v : Int) {i : Nat} (hi : i < 2) : OneV m a ((two m a v).getD i default) := by
  rcases Nat.lt_succ_iff_lt_or_eq.1 hi with h | rfl
  · obtain rfl : i = 0 := by omega
    exact read_one m a
  · exact write_one m a v
theorem ok9v {x y k : Nat} (h : (decide ((x : Int) ≤ k) || decide ((y : Int) ≤ k)) = false) : 0 ≤ (k : Int) ∧ (k : Int) < x := by
  simp only [Bool.or_eq_false_iff, decide_eq_false_iff_not] at h; omega
theorem ok9 {x y k : Nat} (h : (decide ((x : Int) ≤ k) || decide ((y : Int) ≤ k)) = false) : 0 ≤ (k : Int) ∧ (k : Int) < y := by
  simp only [Bool.or_eq_false_iff, decide_eq_false_iff_not] at h; omega
theorem others_no {m n : RMap} {a : Int} {k : Nat} (h : OneV m a n) (hk : k < n.vals.length)
    (hc : ((decide ((m.vals.length : Int) ≤ k) || decide ((m.regs.length : Int) ≤ k)) || (!decide ((m.regs.getD k default).addr = a) && !decide (n.vals.getD k default = m.vals.getD k default))) = true) : False := by
  obtain ⟨h1, h2, h3⟩ := one_law h hk
  simp only [Bool.or_eq_true, Bool.and_eq_true, decide_eq_true_eq, Bool.not_eq_true', decide_eq_false_iff_not] at hc
  rcases hc with (hc | hc) | ⟨hc, hd⟩
  · omega
  · omega
  · exact hd (h3 hc)
theorem bits_fit {f : Fld} (h : okF f) : 0 ≤ ((1 : Int) * 2 ^ f.width.toNat - 1) * 2 ^ f.lsb.toNat ∧ ((1 : Int) * 2 ^ f.width.toNat - 1) * 2 ^ f.lsb.toNat ≤ 9223372036854775807 := by
  have h2 := shl_fits (f := f) h.lsb.1 h.lsb.2
  unfold okF at h
  have e : (1 : Int) * 2 ^ f.width.toNat - 1 = maskI f.width := by rw [maskI, if_pos (by omega)]; omega
  rw [e]; exact h2
theorem bits_eq {f : Fld} (h : okF f) : ((1 : Int) * 2 ^ f.width.toNat - 1) * 2 ^ f.lsb.toNat = bitsI f := by
  unfold okF at h
  rw [bitsI, maskI, if_pos (by omega)]; congr 1; omega
/-- What is left of what was seen, behind the first registers, and fields. -/
def c5 (v : Int) (f : Fld) : Int := clr (fun f => decide (f.acc = 5)) v f
def restI (m : RMap) (a : Int) (i : Nat) : Int := if idxA m a < i then (rg m (idxA m a)).flds.foldl (clr fun f => decide (f.acc = 5)) (readD m a).1 else (readD m a).1
def restK (m : RMap) (a : Int) (i k : Nat) : Int := if (m.regs.getD i default).addr = a then ((m.regs.getD i default).flds.take k).foldl (clr fun f => decide (f.acc = 5)) (readD m a).1 else restI m a i
theorem rest_zero {m : RMap} {a : Int} (h : ¬ idxA m a < 0) : restI m a 0 = (readD m a).1 := by unfold restI; rw [if_neg (by simpa using h)]
theorem rest_end {m : RMap} {a : Int} (hx : ¬ idxA m a < 0) {i : Nat} (hi : m.regs.length ≤ i) : restI m a i = (rg m (idxA m a)).flds.foldl (clr fun f => decide (f.acc = 5)) (readD m a).1 := by
  unfold restI; rw [if_pos (by have := (idxA_at hx).2; omega)]
theorem rest_start {m : RMap} {a : Int} (hv : validE m = 0) (hx : ¬ idxA m a < 0) {i : Nat} (hi : i < m.regs.length) : restK m a i 0 = restI m a i := by
  unfold restK
  split
  · rename_i h
    have := (addr_idx hv hx hi).1 h
    unfold restI
    rw [if_neg (by omega)]; rfl
  · rfl
theorem rest_step {m : RMap} {a : Int} (hv : validE m = 0) (hx : ¬ idxA m a < 0) {i k : Nat} (hi : i < m.regs.length) (hk : (m.regs.getD i default).flds.length ≤ k) : restK m a i k = restI m a (i + 1) := by
  unfold restK
  split
  · rename_i h
    have := (addr_idx hv hx hi).1 h
    unfold restI
    rw [if_pos (by omega), take_all hk, ← this]; rfl
  · rename_i h
    have h1 : ¬ (i : Int) = idxA m a := fun e => h ((addr_idx hv hx hi).2 e)
    unfold restI
    by_cases h2 : idxA m a < i
    · rw [if_pos h2, if_pos (by omega)]
    · rw [if_neg h2, if_neg (by omega)]
theorem rest_in {m : RMap} {a : Int} {i k : Nat} (hk : k < (m.regs.getD i default).flds.length) (h : (m.regs.getD i default).addr = a ∧ ((m.regs.getD i default).flds.getD k default).acc = 5) : iandn (restK m a i k) (bitsI ((m.regs.getD i default).flds.getD k default)) = restK m a i (k + 1) := by
  unfold restK
  rw [if_pos h.1, if_pos h.1]
  exact clr_t hk (decide_eq_true h.2)
theorem rest_out {m : RMap} {a : Int} {i k : Nat} (hk : k < (m.regs.getD i default).flds.length) (h : ¬ (m.regs.getD i default).addr = a ∨ ¬ ((m.regs.getD i default).flds.getD k default).acc = 5) : restK m a i k = restK m a i (k + 1) := by
  unfold restK
  by_cases h1 : (m.regs.getD i default).addr = a
  · rw [if_pos h1, if_pos h1]
    exact clr_f hk (decide_eq_false (h.resolve_left fun hh => hh h1))
  · rw [if_neg h1, if_neg h1]
theorem bad_read {m : RMap} {a : Int} (h : (readD m a).2.2 ≠ 0) : (readD m a).2.1 = zeroM := by
  by_cases hv : validE m = 0
  · by_cases hi : idxA m a < 0
    · rw [read_12 hv hi]
    · cases hr : refB (rg m (idxA m a)).flds [2] with
      | true => rw [read_17 hv hi hr]
      | false => rw [read_0 hv hi hr] at h; exact absurd rfl h
  · rw [read_e hv]
theorem write_cases (m : RMap) (a v : Int) : (writeD m a v).2 = 0 ∨ (writeD m a v).1 = zeroM := by
  by_cases hv : validE m = 0
  · by_cases h2 : v < 0 ∨ 65535 < v
    · rw [write_1 hv h2]; exact .inr rfl
    · by_cases hi : idxA m a < 0
      · rw [write_12 hv (by omega) hi]; exact .inr rfl
      · cases hr : refB (rg m (idxA m a)).flds [1, 5] with
        | true => rw [write_17 hv (by omega) hi hr]; exact .inr rfl
        | false => rw [write_0 hv (by omega) hi hr]; exact .inl rfl
  · rw [write_e hv]; exact .inr rfl
end Go.Proofs.YtmoijeodahlbmaaDoor
