/- The plain model of the fields. -/
import Derived.Test.YtmoijeodahlbmaaDoorRmC
namespace Go.Proofs.YtmoijeodahlbmaaDoor
open Go.Sim

def rowOf (m : RMap) (i : Nat) : List Int := (m.regs.getD i default).flds.map fun f => getI f (m.vals.getD i default)
def modelOf (m : RMap) : List (List Int) := (List.range m.regs.length).map (rowOf m)
def beginD (rs : List Rg) : List (List Int) := rs.map fun r => r.flds.map fun f => f.rst
theorem map_range {α : Type} [Inhabited α] {β : Type} (g : α → β) (l : List α) : l.map g = (List.range l.length).map fun j => g (l.getD j default) := by
  apply List.ext_getElem (by simp)
  intro i h1 h2
  simp only [List.length_map] at h1
  simp [List.getD, h1]
theorem getD_range {β : Type} [Inhabited β] (g : Nat → β) {n i : Nat} (h : i < n) : ((List.range n).map g).getD i default = g i := by
  simp [List.getD, h]
theorem model_len (m : RMap) : (modelOf m).length = m.regs.length := by simp [modelOf]
theorem model_get {m : RMap} {i : Nat} (h : i < m.regs.length) : (modelOf m).getD i default = rowOf m i := getD_range _ h
theorem row_get {m : RMap} {i k : Nat} (h : k < (m.regs.getD i default).flds.length) : (rowOf m i).getD k default = getI ((m.regs.getD i default).flds.getD k default) (m.vals.getD i default) := by
  unfold rowOf
  rw [map_range]; exact getD_range _ h
theorem row_len (m : RMap) (i : Nat) : (rowOf m i).length = (m.regs.getD i default).flds.length := by simp [rowOf]

/-! Lists that change from left to right. -/
def mixL (n : Nat) (new old : Nat → Int) (k : Nat) : List Int := (List.range n).map fun j => if j < k then new j else old j
theorem mix_len (n : Nat) (new old : Nat → Int) (k : Nat) : (mixL n new old k).length = n := by simp [mixL]
theorem mix_zero (n : Nat) (new old : Nat → Int) : mixL n new old 0 = (List.range n).map old := by simp [mixL]
theorem mix_get {n : Nat} {new old : Nat → Int} {k : Nat} (h : k < n) : (mixL n new old k).getD k default = old k := by
  rw [mixL, getD_range _ h, if_neg (by omega)]
theorem mix_set {n : Nat} {new old : Nat → Int} {k : Nat} : (mixL n new old k).set k (new k) = mixL n new old (k + 1) := by
  apply List.ext_getElem (by simp [mixL])
  intro i h1 h2
  simp only [mixL, List.getElem_set, List.getElem_map, List.getElem_range]
  by_cases e : k = i
  · subst e; simp
  · rw [if_neg e]
    by_cases h3 : i < k
    · rw [if_pos h3, if_pos (by omega)]
    · rw [if_neg h3, if_neg (by omega)]
theorem mix_skip {n : Nat} {new old : Nat → Int} {k : Nat} (h : new k = old k) : mixL n new old k = mixL n new old (k + 1) := by
  unfold mixL
  apply List.map_congr_left
  intro i _
  by_cases e : i = k
  · subst e; rw [if_neg (by omega), if_pos (by omega), h]
  · by_cases h3 : i < k
    · rw [if_pos h3, if_pos (by omega)]
    · rw [if_neg h3, if_neg (by omega)]
theorem mix_end {n : Nat} {new old : Nat → Int} {k : Nat} (h : n ≤ k) : mixL n new old k = (List.range n).map new := by
  unfold mixL
  apply List.map_congr_left
  intro i hi
  have := List.mem_range.1 hi
  rw [if_pos (by omega)]

/-! What a field has after each operation. -/
def wrF (f : Fld) (old n : Int) : Int := if f.acc = 0 ∨ f.acc = 2 then n else if f.acc = 3 then iandn old n else if f.acc = 4 then ior old n else old
def wrN (v out : Nat) (f : Fld) : Nat :=
  if f.acc = 0 ∨ f.acc = 2 then nandn out (bitsN f) ||| (v &&& bitsN f) else if f.acc = 3 then nandn out (v &&& bitsN f) else if f.acc = 4 then out ||| (v &&& bitsN f) else out
def opb (f : Fld) (x y : Bool) : Bool := if f.acc = 0 ∨ f.acc = 2 then y else if f.acc = 3 then x && !y else if f.acc = 4 then x || y else x
theorem wrN_bit (v out : Nat) (f : Fld) (i : Nat) (_ : okF f) : (wrN v out f).testBit i = if cov f i then opb f (out.testBit i) (v.testBit i) else out.testBit i := by
  unfold wrN opb cov
  by_cases h1 : f.acc = 0 ∨ f.acc = 2
  · rw [if_pos h1, if_pos h1, Nat.testBit_or, Nat.testBit_and, nandn_bit]
    cases (bitsN f).testBit i <;> simp
  · rw [if_neg h1, if_neg h1]
    by_cases h2 : f.acc = 3
    · rw [if_pos h2, if_pos h2, nandn_bit, Nat.testBit_and]
      cases (bitsN f).testBit i <;> simp
    · rw [if_neg h2, if_neg h2]
      by_cases h3 : f.acc = 4
      · rw [if_pos h3, if_pos h3, Nat.testBit_or, Nat.testBit_and]
        cases (bitsN f).testBit i <;> simp
      · rw [if_neg h3, if_neg h3]; simp
theorem written_n {l : List Fld} (hl : okFs l) {o v : Nat} (ho : o < 65536) (hv : v < 65536) : writtenI l o v = (l.foldl (wrN v) o : Nat) ∧ l.foldl (wrN v) o < 65536 :=
  fold_conv (wr v) (wrN v) (fun f hf a ha => by
    have hb := bits_lt hf
    have e1 : iand v (bitsI f) = ((v &&& bitsN f : Nat) : Int) := by rw [bits_nat hf]; exact iand_n hv hb
    have e2 : iandn a (bitsI f) = (nandn a (bitsN f) : Int) := by rw [bits_nat hf]; exact iandn_n ha hb
    have h3 := and16 (bitsN f) hv
    unfold wr wrN
    rw [e1, e2]
    split
    · rw [ior_n (nand16 _ ha) h3]; exact ⟨rfl, or16 (nand16 _ ha) h3⟩
    · split
      · rw [iandn_n ha h3]; exact ⟨rfl, nand16 _ ha⟩
      · split
        · rw [ior_n ha h3]; exact ⟨rfl, or16 ha h3⟩
        · exact ⟨rfl, ha⟩) l hl o ho
theorem written_okv {l : List Fld} (hl : Flds l) {o v : Nat} (ho : okVal l o) : okVal l (l.foldl (wrN v) o) := fun i hi => by
  rcases covered (l := l) i with h | h
  · exact h
  · rw [(fold_bit (wrN v) (fun f i b => opb f b (v.testBit i)) (wrN_bit v) hl o i).2 h] at hi
    exact ho i hi
theorem part_n (f : Fld) (v : Nat) : (v : Int) / 2 ^ f.lsb.toNat % 2 ^ f.width.toNat = (((v >>> f.lsb.toNat) % 2 ^ f.width.toNat : Nat) : Int) := by
  rw [Nat.shiftRight_eq_div_pow]; simp
theorem small16 {f : Fld} (h : okF f) {x : Nat} (hx : x < 2 ^ f.width.toNat) : x < 65536 := by
  unfold okF at h
  have h2 := Nat.pow_le_pow_right (n := 2) (by omega) (show f.width.toNat ≤ 16 by omega)
  omega
theorem get_written {l : List Fld} (hl : Flds l) {f : Fld} (hf : f ∈ l) {o v : Nat} (ho : o < 65536) (hv : v < 65536) : getI f (writtenI l o v) = wrF f (getI f o) ((v : Int) / 2 ^ f.lsb.toNat % 2 ^ f.width.toNat) := by
  have hok := hl.ok f hf
  obtain ⟨e, hlt⟩ := written_n hl.ok ho hv
  have hx := small16 hok (getN_lt f o)
  have hnl : (v >>> f.lsb.toNat) % 2 ^ f.width.toNat < 2 ^ f.width.toNat := Nat.mod_lt _ (Nat.two_pow_pos _)
  have hn := small16 hok hnl
  rw [e, get_n hok hlt, get_n hok ho, part_n]
  have hb : ∀ i, (getN f (l.foldl (wrN v) o)).testBit i = (decide (i < f.width.toNat) && opb f (o.testBit (f.lsb.toNat + i)) (v.testBit (f.lsb.toNat + i))) := fun i => by
    rw [getN_bit]
    by_cases h : i < f.width.toNat
    · rw [(fold_bit (wrN v) (fun f i b => opb f b (v.testBit i)) (wrN_bit v) hl o _).1 f hf (cov_add h)]
    · simp [h]
  have hnb : ∀ i, ((v >>> f.lsb.toNat) % 2 ^ f.width.toNat).testBit i = (decide (i < f.width.toNat) && v.testBit (f.lsb.toNat + i)) := fun i => by
    rw [Nat.testBit_mod_two_pow, Nat.testBit_shiftRight]
  unfold wrF
  by_cases h1 : f.acc = 0 ∨ f.acc = 2
  · rw [if_pos h1]; congr 1
    apply Nat.eq_of_testBit_eq; intro i
    rw [hb, hnb, opb, if_pos h1]
  · rw [if_neg h1]
    by_cases h2 : f.acc = 3
    · rw [if_pos h2, iandn_n hx hn]; congr 1
      apply Nat.eq_of_testBit_eq; intro i
      rw [hb, nandn_bit, getN_bit, hnb, opb, if_neg h1, if_pos h2]
      cases decide (i < f.width.toNat) <;> simp
    · rw [if_neg h2]
      by_cases h3 : f.acc = 4
      · rw [if_pos h3, ior_n hx hn]; congr 1
        apply Nat.eq_of_testBit_eq; intro i
        rw [hb, Nat.testBit_or, getN_bit, hnb, opb, if_neg h1, if_neg h2, if_pos h3]
        cases decide (i < f.width.toNat) <;> simp
      · rw [if_neg h3]; congr 1
        apply Nat.eq_of_testBit_eq; intro i
        rw [hb, getN_bit, opb, if_neg h1, if_neg h2, if_neg h3]
theorem get_range {f : Fld} (h : okF f) {v : Int} (h0 : 0 ≤ v) (h1 : v ≤ 65535) : 0 ≤ getI f v ∧ getI f v ≤ maskI f.width := by
  obtain ⟨a, rfl⟩ : ∃ a : Nat, v = a := ⟨v.toNat, by omega⟩
  rw [get_n h (by omega)]
  have h2 := getN_lt f a
  unfold okF at h
  rw [mask_pow (by omega) (by omega)]
  omega

/-! Resets. -/
def rsN (out : Nat) (f : Fld) : Nat := out ||| f.rst.toNat <<< f.lsb.toNat
theorem rst_lt {f : Fld} (h : okF f) : f.rst.toNat < 2 ^ f.width.toNat := by
  obtain ⟨a, e, ha⟩ := mask_lt h (v := f.rst) (by unfold okF at h; omega) (by unfold okF at h; omega)
  rw [e]; exact ha
theorem shl_bit {f : Fld} {x : Nat} (hx : x < 2 ^ f.width.toNat) (i : Nat) : (x <<< f.lsb.toNat).testBit i = (cov f i && x.testBit (i - f.lsb.toNat)) := by
  rw [Nat.testBit_shiftLeft]
  cases hc : cov f i with
  | true => have := (cov_iff.1 hc).1; simp [this]
  | false =>
    have h1 : ¬ (f.lsb.toNat ≤ i ∧ i < f.lsb.toNat + f.width.toNat) := fun h => by rw [cov_iff.2 h] at hc; cases hc
    by_cases h2 : f.lsb.toNat ≤ i
    · rw [bit_small hx (by omega)]; simp
    · simp [h2]
theorem rsN_bit (out : Nat) (f : Fld) (i : Nat) (h : okF f) : (rsN out f).testBit i = if cov f i then (out.testBit i || f.rst.toNat.testBit (i - f.lsb.toNat)) else out.testBit i := by
  unfold rsN
  rw [Nat.testBit_or, shl_bit (rst_lt h)]
  cases cov f i <;> simp
theorem rst_n {l : List Fld} (hl : okFs l) : rstI l = (l.foldl rsN 0 : Nat) ∧ l.foldl rsN 0 < 65536 :=
  fold_conv rsf rsN (fun f hf a ha => by
    have hr : f.rst = (f.rst.toNat : Int) := by unfold okF at hf; omega
    have e : f.rst * 2 ^ f.lsb.toNat = ((f.rst.toNat <<< f.lsb.toNat : Nat) : Int) := by rw [← shl_int, ← hr]
    have hs := shl_lt hf (rst_lt hf)
    unfold rsf rsN
    rw [e, ior_n ha hs]; exact ⟨rfl, or16 ha hs⟩) l hl 0 (by omega)
theorem rst_okv {l : List Fld} (hl : Flds l) : okVal l (l.foldl rsN 0) := fun i hi => by
  rcases covered (l := l) i with h | h
  · exact h
  · rw [(fold_bit rsN (fun f i b => b || f.rst.toNat.testBit (i - f.lsb.toNat)) rsN_bit hl 0 i).2 h] at hi
    simp at hi
theorem get_rst {l : List Fld} (hl : Flds l) {f : Fld} (hf : f ∈ l) : getI f (rstI l) = f.rst := by
  have hok := hl.ok f hf
  obtain ⟨e, hlt⟩ := rst_n hl.ok
  rw [e, get_n hok hlt]
  have hr : f.rst = (f.rst.toNat : Int) := by unfold okF at hok; omega
  rw [hr]; congr 1
  apply Nat.eq_of_testBit_eq; intro i
  rw [getN_bit]
  by_cases h : i < f.width.toNat
  · rw [(fold_bit rsN (fun f i b => b || f.rst.toNat.testBit (i - f.lsb.toNat)) rsN_bit hl 0 _).1 f hf (cov_add h)]
    simp [h]
  · rw [bit_small (rst_lt hok) (by omega)]; simp [h]
theorem reset_valid {rs : List Rg} (h : regsE rs = 0) : validE ⟨rs, rs.map fun r => rstI r.flds⟩ = 0 := by
  refine valid_of h (by simp) fun i hi => ?_
  simp only [List.length_map] at hi
  have hfl := (regs_ok h).at hi
  refine ⟨_, ?_, rst_okv hfl⟩
  rw [← (rst_n hfl.ok).1]
  simp [List.getD, hi]
theorem begin_model {rs : List Rg} (h : regsE rs = 0) : beginD rs = modelOf ⟨rs, rs.map fun r => rstI r.flds⟩ := by
  unfold beginD modelOf
  rw [map_range]
  apply List.map_congr_left
  intro i hi
  have hi := List.mem_range.1 hi
  unfold rowOf
  apply List.map_congr_left
  intro f hf
  have e : ((rs.map fun r => rstI r.flds).getD i default) = rstI (rs.getD i default).flds := by simp [List.getD, hi]
  show f.rst = getI f ((rs.map fun r => rstI r.flds).getD i default)
  rw [e]; exact (get_rst ((regs_ok h).at hi) hf).symm

/-! Joined values of fields. -/
def jnf (p : Fld → Bool) (o : Int) (out : Int) (f : Fld) : Int := if p f then ior out (getI f o * 2 ^ f.lsb.toNat) else out
def jnN (p : Fld → Bool) (o : Nat) (out : Nat) (f : Fld) : Nat := if p f then out ||| getN f o <<< f.lsb.toNat else out
theorem jnN_bit (p : Fld → Bool) (o out : Nat) (f : Fld) (i : Nat) (_ : okF f) : (jnN p o out f).testBit i = if cov f i then (out.testBit i || (p f && o.testBit i)) else out.testBit i := by
  unfold jnN
  cases hp : p f with
  | false => simp
  | true =>
    simp only [if_true, Bool.true_and]
    rw [Nat.testBit_or, shl_bit (getN_lt f o)]
    cases hc : cov f i with
    | false => simp
    | true =>
      have := cov_iff.1 hc
      rw [getN_bit, decide_eq_true (by omega), show f.lsb.toNat + (i - f.lsb.toNat) = i by omega]; simp
theorem jn_n (p : Fld → Bool) {l : List Fld} (hl : okFs l) {o : Nat} (ho : o < 65536) : l.foldl (jnf p o) 0 = (l.foldl (jnN p o) 0 : Nat) ∧ l.foldl (jnN p o) 0 < 65536 :=
  fold_conv (jnf p o) (jnN p o) (fun f hf a ha => by
    unfold jnf jnN
    split
    · have hs := shl_lt hf (getN_lt f o)
      rw [get_n hf ho, shl_int, ior_n ha hs]; exact ⟨rfl, or16 ha hs⟩
    · exact ⟨rfl, ha⟩) l hl 0 (by omega)
theorem jn_bits (p : Fld → Bool) {l : List Fld} (hl : Flds l) (o i : Nat) : (∀ x ∈ l, cov x i = true → (l.foldl (jnN p o) 0).testBit i = (p x && o.testBit i)) ∧ ((∀ x ∈ l, cov x i = false) → (l.foldl (jnN p o) 0).testBit i = false) := by
  have := fold_bit (jnN p o) (fun x i b => b || (p x && o.testBit i)) (jnN_bit p o) hl 0 i
  simpa using this
theorem jn_all {l : List Fld} (hl : Flds l) {o : Nat} (ho : okVal l o) : l.foldl (jnf (fun _ => true) o) 0 = o := by
  rw [(jn_n _ hl.ok (ho.lt hl.ok)).1]; congr 1
  apply Nat.eq_of_testBit_eq; intro i
  rcases covered (l := l) i with ⟨f, hf, hc⟩ | h
  · rw [(jn_bits _ hl o i).1 f hf hc]; rfl
  · rw [(jn_bits _ hl o i).2 h]
    cases hb : o.testBit i with
    | false => rfl
    | true => obtain ⟨f, hf, hc⟩ := ho i hb; rw [h f hf] at hc; cases hc
theorem jn_not {l : List Fld} (hl : Flds l) {o : Nat} (ho : okVal l o) : l.foldl (jnf (fun f => !decide (f.acc = 2)) o) 0 = iandn o (accI l [2]) := by
  have hlt := ho.lt hl.ok
  obtain ⟨e, he⟩ := acc_n hl [2]
  rw [(jn_n _ hl.ok hlt).1, e, iandn_n hlt he]; congr 1
  apply Nat.eq_of_testBit_eq; intro i
  rw [nandn_bit]
  rcases covered (l := l) i with ⟨f, hf, hc⟩ | h
  · rw [(jn_bits _ hl o i).1 f hf hc, (whN_bit _ hl i).1 f hf hc]
    simp [Bool.and_comm]
  · rw [(jn_bits _ hl o i).2 h]
    cases hb : o.testBit i with
    | false => rfl
    | true => obtain ⟨f, hf, hc⟩ := ho i hb; rw [h f hf] at hc; cases hc
theorem get_clear {l : List Fld} (hl : Flds l) {f : Fld} (hf : f ∈ l) {o : Nat} (ho : o < 65536) : getI f (iandn o (accI l [5])) = if f.acc = 5 then 0 else getI f o := by
  have hok := hl.ok f hf
  obtain ⟨e, he⟩ := acc_n hl [5]
  rw [e, iandn_n ho he, get_n hok (nand16 _ ho), get_n hok ho]
  have hb : ∀ i, (getN f (nandn o (whN (fun f => [5].any fun p => decide (f.acc = p)) l))).testBit i = (decide (i < f.width.toNat) && (o.testBit (f.lsb.toNat + i) && !decide (f.acc = 5))) := fun i => by
    rw [getN_bit, nandn_bit]
    by_cases h : i < f.width.toNat
    · rw [(whN_bit _ hl _).1 f hf (cov_add h)]; simp
    · simp [h]
  split
  · rename_i h
    have : getN f (nandn o (whN (fun f => [5].any fun p => decide (f.acc = p)) l)) = 0 := by
      apply Nat.eq_of_testBit_eq; intro i
      rw [hb, decide_eq_true h]; simp
    rw [this]; rfl
  · rename_i h
    congr 1
    apply Nat.eq_of_testBit_eq; intro i
    rw [hb, getN_bit, decide_eq_false h]; simp

/-! The steps of the law. -/
def newW (m : RMap) (a v : Int) (i j : Nat) : Int :=
  if (m.regs.getD i default).addr = a then wrF ((m.regs.getD i default).flds.getD j default) (getI ((m.regs.getD i default).flds.getD j default) (m.vals.getD i default)) (v / 2 ^ ((m.regs.getD i default).flds.getD j default).lsb.toNat % 2 ^ ((m.regs.getD i default).flds.getD j default).width.toNat)
  else getI ((m.regs.getD i default).flds.getD j default) (m.vals.getD i default)
def newC (m : RMap) (a : Int) (i j : Nat) : Int :=
  if (m.regs.getD i default).addr = a ∧ ((m.regs.getD i default).flds.getD j default).acc = 5 then 0 else getI ((m.regs.getD i default).flds.getD j default) (m.vals.getD i default)
def oldM (m : RMap) (i j : Nat) : Int := getI ((m.regs.getD i default).flds.getD j default) (m.vals.getD i default)
def wroteD (m : RMap) (a v : Int) : List (List Int) := (List.range m.regs.length).map fun i => (List.range (m.regs.getD i default).flds.length).map (newW m a v i)
def clearedD (m : RMap) (a : Int) : List (List Int) := (List.range m.regs.length).map fun i => (List.range (m.regs.getD i default).flds.length).map (newC m a i)
theorem row_old (m : RMap) (i : Nat) : rowOf m i = (List.range (m.regs.getD i default).flds.length).map (oldM m i) := by unfold rowOf; rw [map_range]; rfl
theorem write_yes {m : RMap} {a v : Int} (h : (writeD m a v).2 = 0) : validE m = 0 ∧ ¬ idxA m a < 0 ∧ 0 ≤ v ∧ v ≤ 65535 ∧ writeD m a v = (setV m (idxA m a) (writtenI (rg m (idxA m a)).flds (vl m (idxA m a)) v), 0) := by
  have hv : validE m = 0 := by
    by_cases hv : validE m = 0
    · exact hv
    · rw [write_e hv] at h; exact absurd h hv
  have h2 : 0 ≤ v ∧ v ≤ 65535 := by
    by_cases h2 : v < 0 ∨ 65535 < v
    · rw [write_1 hv h2] at h; cases h
    · omega
  have hi : ¬ idxA m a < 0 := fun h3 => by rw [write_12 hv h2 h3] at h; cases h
  have hr : refB (rg m (idxA m a)).flds [1, 5] = false := by
    cases hr : refB (rg m (idxA m a)).flds [1, 5] with
    | false => rfl
    | true => rw [write_17 hv h2 hi hr] at h; cases h
  exact ⟨hv, hi, h2.1, h2.2, write_0 hv h2 hi hr⟩
theorem set_rows {m : RMap} (hv : validE m = 0) {a : Int} (hx : ¬ idxA m a < 0) {x : Int} {g : Nat → Nat → Int}
    (h1 : ∀ j, j < (rg m (idxA m a)).flds.length → g (idxA m a).toNat j = getI ((rg m (idxA m a)).flds.getD j default) x)
    (h2 : ∀ i j, i < m.regs.length → (m.regs.getD i default).addr ≠ a → j < (m.regs.getD i default).flds.length → g i j = oldM m i j) :
    ((List.range m.regs.length).map fun i => (List.range (m.regs.getD i default).flds.length).map (g i)) = modelOf (setV m (idxA m a) x) := by
  have hM := valid_ok hv
  have hix := idxA_at hx
  unfold modelOf
  apply List.map_congr_left
  intro i hi
  have hi := List.mem_range.1 hi
  rw [row_old]
  apply List.map_congr_left
  intro j hj
  have hj := List.mem_range.1 hj
  unfold oldM setV
  dsimp only
  rw [getD_set (by rw [hM.len]; omega)]
  by_cases e : (m.regs.getD i default).addr = a
  · have e2 := (addr_idx hv hx hi).1 e
    have e3 : i = (idxA m a).toNat := by omega
    rw [if_pos e3]
    subst e3
    exact h1 j hj
  · have e2 : ¬ (i : Int) = idxA m a := fun h => e ((addr_idx hv hx hi).2 h)
    rw [if_neg (by omega)]
    exact h2 i j hi e hj
theorem write_step {m : RMap} {a v : Int} (h : (writeD m a v).2 = 0) : validE (writeD m a v).1 = 0 ∧ (writeD m a v).1.regs = m.regs ∧ wroteD m a v = modelOf (writeD m a v).1 := by
  obtain ⟨hv, hx, h0, h1, e⟩ := write_yes h
  have hM := valid_ok hv
  have hix := idxA_at hx
  have hfl := hM.flds hix.1 hix.2
  obtain ⟨o, ho, hoo⟩ := map_okv hM hix.1 hix.2
  have holt := hoo.lt hfl.ok
  obtain ⟨n, rfl⟩ : ∃ n : Nat, v = n := ⟨v.toNat, by omega⟩
  rw [e]; dsimp only
  rw [ho]
  have hw := (written_n hfl.ok holt (show n < 65536 by omega)).1
  refine ⟨by rw [hw]; exact set_valid hv hix.1 hix.2 (written_okv hfl hoo), rfl, ?_⟩
  refine set_rows hv hx (fun j hj => ?_) fun i j hi hne hj => ?_
  · have ea := (addr_idx hv hx (i := (idxA m a).toNat) (by omega)).2 (by omega)
    rw [newW, if_pos ea]
    have ev : m.vals.getD (idxA m a).toNat default = (o : Int) := ho
    rw [ev]
    exact (get_written hfl (getD_mem' hj) holt (show n < 65536 by omega)).symm
  · rw [newW, if_neg hne]; rfl
theorem read_step {m : RMap} {a : Int} (h : (readD m a).2.2 = 0) : validE (readD m a).2.1 = 0 ∧ (readD m a).2.1.regs = m.regs ∧ clearedD m a = modelOf (readD m a).2.1 ∧
    (readD m a).1 = (rg m (idxA m a)).flds.foldl (jnf (fun f => !decide (f.acc = 2)) (vl m (idxA m a))) 0 := by
  obtain ⟨hv, hx, _, _⟩ := again_law h
  have hr : refB (rg m (idxA m a)).flds [2] = false := by
    cases hr : refB (rg m (idxA m a)).flds [2] with
    | false => rfl
    | true => rw [read_17 hv hx hr] at h; cases h
  have hM := valid_ok hv
  have hix := idxA_at hx
  have hfl := hM.flds hix.1 hix.2
  obtain ⟨o, ho, hoo⟩ := map_okv hM hix.1 hix.2
  have holt := hoo.lt hfl.ok
  rw [read_0 hv hx hr]; dsimp only
  rw [ho, jn_not hfl hoo]
  obtain ⟨e5, l5⟩ := acc_n hfl [5]
  refine ⟨by rw [e5, iandn_n holt l5]; exact set_valid hv hix.1 hix.2 (iandn_okv _ hoo), rfl, ?_, rfl⟩
  refine set_rows hv hx (fun j hj => ?_) fun i j hi hne hj => ?_
  · have ea := (addr_idx hv hx (i := (idxA m a).toNat) (by omega)).2 (by omega)
    have ev : m.vals.getD (idxA m a).toNat default = (o : Int) := ho
    rw [get_clear hfl (getD_mem' hj) holt, newC, ev]
    by_cases h5 : ((rg m (idxA m a)).flds.getD j default).acc = 5
    · rw [if_pos ⟨ea, h5⟩, if_pos h5]
    · rw [if_neg (fun hh => h5 hh.2), if_neg h5]; rfl
  · rw [newC, if_neg (fun hh => hne hh.1)]; rfl
/-- What is shown behind the first registers, and fields. -/
def shI (m : RMap) (a : Int) (i : Nat) : Int := if idxA m a < i then (rg m (idxA m a)).flds.foldl (jnf (fun f => !decide (f.acc = 2)) (vl m (idxA m a))) 0 else 0
def shK (m : RMap) (a : Int) (i k : Nat) : Int := if (m.regs.getD i default).addr = a then ((m.regs.getD i default).flds.take k).foldl (jnf (fun f => !decide (f.acc = 2)) (m.vals.getD i default)) 0 else shI m a i
theorem sh_zero {m : RMap} {a : Int} (h : ¬ idxA m a < 0) : shI m a 0 = 0 := by unfold shI; rw [if_neg (by simpa using h)]
theorem sh_end {m : RMap} {a : Int} (hx : ¬ idxA m a < 0) {i : Nat} (hi : m.regs.length ≤ i) : shI m a i = (rg m (idxA m a)).flds.foldl (jnf (fun f => !decide (f.acc = 2)) (vl m (idxA m a))) 0 := by
  unfold shI; rw [if_pos (by have := (idxA_at hx).2; omega)]
theorem sh_start {m : RMap} {a : Int} (hv : validE m = 0) (hx : ¬ idxA m a < 0) {i : Nat} (hi : i < m.regs.length) : shK m a i 0 = shI m a i := by
  unfold shK
  split
  · rename_i h
    have := (addr_idx hv hx hi).1 h
    unfold shI
    rw [if_neg (by omega)]; rfl
  · rfl
theorem sh_step {m : RMap} {a : Int} (hv : validE m = 0) (hx : ¬ idxA m a < 0) {i k : Nat} (hi : i < m.regs.length) (hk : (m.regs.getD i default).flds.length ≤ k) : shK m a i k = shI m a (i + 1) := by
  unfold shK
  split
  · rename_i h
    have := (addr_idx hv hx hi).1 h
    unfold shI
    rw [if_pos (by omega), take_all hk, ← this]; rfl
  · rename_i h
    have h1 : ¬ (i : Int) = idxA m a := fun e => h ((addr_idx hv hx hi).2 e)
    unfold shI
    by_cases h2 : idxA m a < i
    · rw [if_pos h2, if_pos (by omega)]
    · rw [if_neg h2, if_neg (by omega)]
theorem sh_in {m : RMap} {a : Int} {i k : Nat} (hk : k < (m.regs.getD i default).flds.length) (h : (m.regs.getD i default).addr = a ∧ ¬ ((m.regs.getD i default).flds.getD k default).acc = 2) :
    ior (shK m a i k) (oldM m i k * 2 ^ ((m.regs.getD i default).flds.getD k default).lsb.toNat) = shK m a i (k + 1) := by
  unfold shK
  rw [if_pos h.1, if_pos h.1, fold_take _ _ hk]
  rw [show jnf _ _ (((m.regs.getD i default).flds.take k).foldl _ 0) ((m.regs.getD i default).flds.getD k default) = _ from if_pos (by rw [decide_eq_false h.2]; rfl)]
  rfl
theorem sh_out {m : RMap} {a : Int} {i k : Nat} (hk : k < (m.regs.getD i default).flds.length) (h : ¬ (m.regs.getD i default).addr = a ∨ ((m.regs.getD i default).flds.getD k default).acc = 2) : shK m a i k = shK m a i (k + 1) := by
  unfold shK
  by_cases h1 : (m.regs.getD i default).addr = a
  · rw [if_pos h1, if_pos h1, fold_take _ _ hk]
    have h2 := h.resolve_left fun hh => hh h1
    rw [show jnf _ _ (((m.regs.getD i default).flds.take k).foldl _ 0) ((m.regs.getD i default).flds.getD k default) = _ from if_neg (by rw [decide_eq_true h2]; simp)]
  · rw [if_neg h1, if_neg h1]
theorem old_fits {m : RMap} (hM : MapOk m) {i k : Nat} (hi : i < m.regs.length) (hk : k < (m.regs.getD i default).flds.length) :
    okF ((m.regs.getD i default).flds.getD k default) ∧ 0 ≤ oldM m i k ∧ oldM m i k ≤ 65535 ∧ 0 ≤ oldM m i k * 2 ^ ((m.regs.getD i default).flds.getD k default).lsb.toNat ∧ oldM m i k * 2 ^ ((m.regs.getD i default).flds.getD k default).lsb.toNat ≤ 9223372036854775807 := by
  have hok := (hM.regs.at hi).ok _ (getD_mem' hk)
  have h1 := hM.val0 (i := i) (by rw [hM.len]; exact hi)
  have h2 := get_range hok h1.1 h1.2.1
  have h3 := mask_range ((m.regs.getD i default).flds.getD k default).width
  have h4 := put_fits hok h2.1 h2.2
  exact ⟨hok, h2.1, by unfold oldM; omega, h4.1, h4.2⟩
theorem model_at {m : RMap} {i k : Nat} (hi : i < m.regs.length) (hk : k < (m.regs.getD i default).flds.length) : ((modelOf m).getD i default).getD k default = oldM m i k := by
  rw [model_get hi, row_get hk]; rfl
theorem agree_end {m : RMap} (hM : MapOk m) {i k : Nat} (hi : i < m.regs.length) (hk : (m.regs.getD i default).flds.length ≤ k) : ((m.regs.getD i default).flds.take k).foldl (jnf (fun _ => true) (m.vals.getD i default)) 0 = m.vals.getD i default := by
  rw [take_all hk]
  obtain ⟨o, ho, hoo⟩ := map_okv hM (I := (i : Int)) (by omega) (by omega)
  have ho : m.vals.getD i default = (o : Int) := ho
  rw [ho]; exact jn_all (hM.regs.at hi) hoo

structure Stp where
  kind : Int
  addr : Int
  v : Int
  deriving DecidableEq, Inhabited
def eSt (s : Stp) : List Rp := [Rp.int .i64 s.kind, Rp.int .i64 s.addr, Rp.int .i64 s.v]
theorem box_stp {r : Nat} {s : Stp} (w : World) (C : Nat → Prop) (h : (MF.box r 37 (eSt s)).p w C) : InR .i64 s.v := by
  obtain ⟨cs, _, hs, hc, _⟩ := h
  match h : cs.toList.take (eSt s).length, hc with
  | [a, b, c], ⟨h1, h2, h3, _⟩ => exact h3.2
/-- What is known behind one access: the next map, its error and the plain model. -/
def AccOk (m : RMap) (x : RMap × Int × List (List Int)) : Prop := (x.2.1 = 0 → validE x.1 = 0 ∧ x.1.regs = m.regs ∧ x.2.2 = modelOf x.1) ∧ (x.2.1 ≠ 0 → x.2.2 = modelOf m)
theorem acc_write {m : RMap} {a v : Int} : AccOk m ((writeD m a v).1, (writeD m a v).2, if (writeD m a v).2 = 0 then modelOf (writeD m a v).1 else modelOf m) := by
  by_cases h : (writeD m a v).2 = 0
  · obtain ⟨h1, h2, h3⟩ := write_step h
    exact ⟨fun _ => ⟨h1, h2, if_pos h⟩, fun hn => absurd h hn⟩
  · exact ⟨fun hp => absurd hp h, fun _ => if_neg h⟩
theorem acc_w0 {m : RMap} {a v : Int} (h : (writeD m a v).2 = 0) : AccOk m ((writeD m a v).1, (writeD m a v).2, wroteD m a v) := by
  obtain ⟨h1, h2, h3⟩ := write_step h
  exact ⟨fun _ => ⟨h1, h2, h3⟩, fun hn => absurd h hn⟩
theorem acc_w1 {m : RMap} {a v : Int} (h : ¬ (writeD m a v).2 = 0) : AccOk m ((writeD m a v).1, (writeD m a v).2, modelOf m) := ⟨fun hp => absurd hp h, fun _ => rfl⟩
theorem acc_r0 {m : RMap} {a : Int} (h : (readD m a).2.2 = 0) : AccOk m ((readD m a).2.1, (readD m a).2.2, clearedD m a) := by
  obtain ⟨h1, h2, h3, _⟩ := read_step h
  exact ⟨fun _ => ⟨h1, h2, h3⟩, fun hn => absurd h hn⟩
theorem acc_r1 {m : RMap} {a : Int} (h : ¬ (readD m a).2.2 = 0) : AccOk m ((readD m a).2.1, (readD m a).2.2, modelOf m) := ⟨fun hp => absurd hp h, fun _ => rfl⟩
theorem acc_reset {m f : RMap} (hv : validE m = 0) (hr : m.regs = f.regs) : AccOk m ((resetD m).1, (resetD m).2, beginD f.regs) := by
  have h := valid_regs hv
  rw [reset_0 h]
  exact ⟨fun _ => ⟨reset_valid h, rfl, by rw [← hr]; exact begin_model h⟩, fun hn => absurd rfl hn⟩
theorem reset_yes {m : RMap} (h : (resetD m).2 = 0) : validE (resetD m).1 = 0 ∧ beginD (resetD m).1.regs = modelOf (resetD m).1 := by
  have h0 : regsE m.regs = 0 := by
    by_cases h0 : regsE m.regs = 0
    · exact h0
    · rw [reset_e h0] at h; exact absurd h h0
  rw [reset_0 h0]
  exact ⟨reset_valid h0, begin_model h0⟩
theorem step_dead {X F : RMap} (h1 : validE X = 0) (h2 : X.regs = F.regs) (h : (((!decide (validE X = 0)) || (!decide ((⟨X.regs, []⟩ : RMap) = ⟨F.regs, []⟩))) || !true) = true) : False := by
  rw [h2, decide_eq_true h1, decide_eq_true rfl] at h; cases h
theorem shown_law {m : RMap} {a : Int} (h : (readD m a).2.2 = 0) : (readD m a).1 = shI m a m.regs.length := by
  rw [(read_step h).2.2.2, sh_end (again_law h).2.1 (Nat.le_refl _)]
def seenD (m : RMap) (a : Int) : Int := shI m a m.regs.length
theorem seen_dead {m : RMap} {a : Int} (h : (decide ((readD m a).2.2 = 0) && !decide ((readD m a).1 = seenD m a)) = true) : False := by
  simp only [Bool.and_eq_true, decide_eq_true_eq, Bool.not_eq_true', decide_eq_false_iff_not] at h
  exact h.2 (shown_law h.1)
theorem mix_some {n : Nat} {new old : Nat → Int} {k : Nat} (h : k < n) : (mixL n new old k)[((k : Nat) : Int).toNat]? = some (old k) := by
  rw [Int.toNat_natCast]; simp [mixL, h]
theorem model_some {m : RMap} {i : Nat} (h : i < m.regs.length) : (modelOf m)[((i : Nat) : Int).toNat]? = some (rowOf m i) := by
  rw [Int.toNat_natCast]; simp [modelOf, h]
theorem row_some {m : RMap} {i k : Nat} (h : k < (m.regs.getD i default).flds.length) : (rowOf m i)[((k : Nat) : Int).toNat]? = some (oldM m i k) := by
  rw [Int.toNat_natCast, row_old]
  have h' : k < (List.range (m.regs.getD i default).flds.length).length := by simpa using h
  rw [List.getElem?_map, List.getElem?_eq_getElem h', List.getElem_range]; rfl
theorem pow_pos2 (n : Nat) : (0 : Int) < 2 ^ n := Int.pow_pos (by decide)
theorem div_nn {v : Int} (h : 0 ≤ v) {n : Nat} : 0 ≤ v / 2 ^ n := Int.ediv_nonneg h (Int.le_of_lt (pow_pos2 n))
theorem wr_new {m : RMap} {a v : Int} {i k : Nat} (h : (m.regs.getD i default).addr = a) :
    wrF ((m.regs.getD i default).flds.getD k default) (oldM m i k) (v / 2 ^ ((m.regs.getD i default).flds.getD k default).lsb.toNat % (1 * 2 ^ ((m.regs.getD i default).flds.getD k default).width.toNat)) = newW m a v i k := by
  rw [newW, if_pos h, Int.one_mul]; rfl
theorem new_neg {m : RMap} {a v : Int} {i k : Nat} (h : ¬ (m.regs.getD i default).addr = a) : newW m a v i k = oldM m i k := by rw [newW, if_neg h]; rfl
theorem clr_new {m : RMap} {a : Int} {i k : Nat} (h : (m.regs.getD i default).addr = a ∧ ((m.regs.getD i default).flds.getD k default).acc = 5) : 0 = newC m a i k := by rw [newC, if_pos h]
theorem clr_neg {m : RMap} {a : Int} {i k : Nat} (h : ¬ (m.regs.getD i default).addr = a ∨ ¬ ((m.regs.getD i default).flds.getD k default).acc = 5) : newC m a i k = oldM m i k := by
  rw [newC, if_neg (fun hh => h.elim (fun h => h hh.1) (fun h => h hh.2))]; rfl
theorem row_app (m : RMap) (i : Nat) : [] ++ rowOf m i = mixL (m.regs.getD i default).flds.length (newW m 0 0 i) (oldM m i) 0 := by rw [List.nil_append, mix_zero, row_old]
theorem row_mix (m : RMap) (i : Nat) (g : Nat → Int) : [] ++ rowOf m i = mixL (m.regs.getD i default).flds.length g (oldM m i) 0 := by rw [List.nil_append, mix_zero, row_old]
theorem range_take {β : Type} (g : Nat → β) {n i : Nat} (h : i < n) : ((List.range n).map g).take (i + 1) = ((List.range n).map g).take i ++ [g i] := by
  rw [List.take_add_one]; simp [h]
end Go.Proofs.YtmoijeodahlbmaaDoor
