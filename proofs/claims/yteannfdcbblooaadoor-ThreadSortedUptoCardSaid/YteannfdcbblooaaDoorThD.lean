/- What the functions of threads answer, by the numbers of paths. -/
import Derived.Test.YteannfdcbblooaaDoorThW5
namespace Go.Proofs.YteannfdcbblooaaDoor
open Go.Sim
abbrev Nums := List Int × Bool
def okQ (q : Nums) : Prop := numsOk q.1 ∧ (q.2 = true → q.1.length ≤ 16)
theorem okP (s : List UInt8) : okQ (numsP s) := numsP_ok s
theorem okR (s : List UInt8) : okQ (numsR s) := by
  by_cases h : (numsP s).2 = true
  · rw [show numsR s = numsP s by unfold numsR; rw [if_pos h]]; exact okP s
  · rw [show numsR s = ([], false) by unfold numsR; rw [if_neg h]]
    unfold okQ numsOk
    exact ⟨fun x hx => absurd hx (List.not_mem_nil), fun _ => Nat.zero_le _⟩
theorem numsOk_take {l : List Int} (h : numsOk l) (k : Nat) : numsOk (l.take k) := fun x hx => h x (List.mem_of_mem_take hx)
theorem numsOk_drop {l : List Int} (h : numsOk l) (k : Nat) : numsOk (l.drop k) := fun x hx => h x (List.mem_of_mem_drop hx)
def depQ (q : Nums) : Int := if q.2 = true then (q.1.length : Int) else -1
def childQ (q : Nums) (i : Int) : List UInt8 × Int := if (q.2 = false ∨ i < 0) ∨ 1048575 < i then ([], 1) else if (q.1.length : Int) = 16 then ([], 2) else (joinT (q.1 ++ [i]), 0)
def parentQ (q : Nums) : List UInt8 × Bool := if q.2 = false ∨ (q.1.length : Int) = 0 then ([], false) else (joinT q.1.dropLast, true)
def lessQ (q r : Nums) : Bool := (q.2 && r.2) && decide (cmpL q.1 r.1 < 0)
def aboveQ (q r : Nums) : Bool := ((q.2 && r.2) && decide ((q.1.length : Int) < r.1.length)) && decide (q.1 = r.1.take q.1.length)
noncomputable def stepR (r : Rn) (n : Int) : Rn := childR r (fmt n)
noncomputable def foldR (x : B64) (l : List Int) : Rn := l.foldl stepR (newR x)
def zeroR : Rn := ⟨BitVec.ofNat 64 0, BitVec.ofNat 64 0⟩
theorem zeroR_eq : eRn zeroR = [Rp.int .u64 0, Rp.int .u64 0] := by simp only [eRn, zeroR, U0]
noncomputable def streamQ (x : B64) (q : Nums) : Rn × Int := if q.2 = true then (foldR x q.1, 0) else (zeroR, 1)
section
variable {q r : Nums} {i : Int}
theorem dep_no (h : q.2 = false) : depQ q = -1 := by unfold depQ; rw [h]; rfl
theorem dep_yes (h : q.2 = true) : depQ q = q.1.length := by unfold depQ; rw [if_pos h]
theorem child_bad (h : (q.2 = false ∨ i < 0) ∨ 1048575 < i) : childQ q i = ([], 1) := by unfold childQ; rw [if_pos h]
theorem child_full (h : q.2 = true) (h0 : 0 ≤ i) (h1 : i ≤ 1048575) (hl : (q.1.length : Int) = 16) : childQ q i = ([], 2) := by
  unfold childQ; rw [if_neg (by rw [h]; simp; omega), if_pos hl]
theorem child_yes (h : q.2 = true) (h0 : 0 ≤ i) (h1 : i ≤ 1048575) (hl : ¬ (q.1.length : Int) = 16) : childQ q i = (joinT (q.1 ++ [i]), 0) := by
  unfold childQ; rw [if_neg (by rw [h]; simp; omega), if_neg hl]
theorem parent_no (h : q.2 = false ∨ (q.1.length : Int) = 0) : parentQ q = ([], false) := by unfold parentQ; rw [if_pos h]
theorem parent_yes (h : q.2 = true) (hl : ¬ (q.1.length : Int) = 0) : parentQ q = (joinT q.1.dropLast, true) := by
  unfold parentQ; rw [if_neg (by rw [h]; simp; simpa using hl)]
theorem stream_no {x : B64} (h : q.2 = false) : streamQ x q = (zeroR, 1) := by unfold streamQ; rw [h]; rfl
theorem stream_yes {x : B64} (h : q.2 = true) : streamQ x q = (foldR x q.1, 0) := by unfold streamQ; rw [if_pos h]
end
theorem joinP_ok (l : List Int) (h : numsOk l) (hl : l.length ≤ 16) : CallT Tryd.prog 31 [Rp.slice eI (List.take (((l.length : Int) - 1).toNat - 0) (List.drop 0 l))] [tabG] (.one (Rp.str (joinT l.dropLast))) := by
  have e : List.take (((l.length : Int) - 1).toNat - 0) (List.drop 0 l) = l.dropLast := by rw [List.dropLast_eq_take, List.drop_zero]; congr 1; omega
  rw [e]
  exact join_ok _ (fun x hx => h x (List.dropLast_subset _ hx)) (by simp; omega)
theorem textP_ok (l : List Int) (h : numsOk l) (hl : l.length ≤ 16) : CallT Tryd.prog 32 [Rp.slice eI (List.take (((l.length : Int) - 1).toNat - 0) (List.drop 0 l))] [] (.one (Rp.str (joinT l.dropLast))) := by
  have e : List.take (((l.length : Int) - 1).toNat - 0) (List.drop 0 l) = l.dropLast := by rw [List.dropLast_eq_take, List.drop_zero]; congr 1; omega
  rw [e]
  exact text_ok _ (fun x hx => h x (List.dropLast_subset _ hx)) (by simp; omega)
theorem text1_ok (l : List Int) (h : numsOk l) (i : Nat) (hi : i < l.length) : CallT Tryd.prog 32 [Rp.slice eI (List.take (((i : Int) + 1).toNat - (i : Int).toNat) (List.drop (i : Int).toNat l))] [] (.one (Rp.str (fmt (l.getD i default)))) := by
  have e : List.take (((i : Int) + 1).toNat - (i : Int).toNat) (List.drop (i : Int).toNat l) = [l.getD i default] := by
    rw [show ((i : Int) + 1).toNat - (i : Int).toNat = 1 by omega, Int.toNat_natCast, drop_cons hi]; rfl
  rw [e]
  exact text_ok [l.getD i default] (fun x hx => by rw [List.mem_singleton.1 hx]; exact h _ (getD_mem' hi)) (show 1 ≤ 16 by decide)
/-- What looks at the numbers only where they are a path's is as the document's. -/
theorem q_eq {α : Type} (f : Nums → α) (h : ∀ l l' : List Int, f (l, false) = f (l', false)) (s : List UInt8) : f (numsR s) = f (numsP s) := by
  unfold numsR
  split
  · rfl
  · rename_i h0
    have h1 : (numsP s).2 = false := by simpa using h0
    have e : numsP s = ((numsP s).1, false) := by rw [← h1]
    rw [e]; exact h _ _
theorem dep_eq (s : List UInt8) : depQ (numsR s) = depQ (numsP s) := q_eq depQ (fun _ _ => rfl) s
theorem ok_eq (s : List UInt8) : (numsR s).2 = (numsP s).2 := q_eq (·.2) (fun _ _ => rfl) s
theorem child_eq (s : List UInt8) (i : Int) : childQ (numsR s) i = childQ (numsP s) i := q_eq (childQ · i) (fun _ _ => by rw [child_bad (.inl (.inl rfl)), child_bad (.inl (.inl rfl))]) s
theorem parent_eq (s : List UInt8) : parentQ (numsR s) = parentQ (numsP s) := q_eq parentQ (fun _ _ => by rw [parent_no (.inl rfl), parent_no (.inl rfl)]) s
theorem less_eq (s t : List UInt8) : lessQ (numsR s) (numsR t) = lessQ (numsP s) (numsP t) := by
  rw [q_eq (lessQ · (numsR t)) (fun _ _ => by simp [lessQ]) s]
  exact q_eq (lessQ (numsP s)) (fun _ _ => by simp [lessQ]) t
theorem above_eq (s t : List UInt8) : aboveQ (numsR s) (numsR t) = aboveQ (numsP s) (numsP t) := by
  rw [q_eq (aboveQ · (numsR t)) (fun _ _ => by simp [aboveQ]) s]
  exact q_eq (aboveQ (numsP s)) (fun _ _ => by simp [aboveQ]) t
theorem stream_eq (x : B64) (s : List UInt8) : streamQ x (numsR s) = streamQ x (numsP s) := q_eq (streamQ x) (fun _ _ => by rw [stream_no rfl, stream_no rfl]) s
section
variable {a b : List UInt8} {i : Nat}
theorem less_at (q0 : (numsR a).2 = true ∧ (numsR b).2 = true) (h : ∀ j : Nat, j < i → j < (numsR b).1.length ∧ (numsR a).1.getD j default = (numsR b).1.getD j default) (h1 : (i : Int) < (numsR a).1.length) (h2 : (i : Int) < (numsR b).1.length) (h3 : ¬ (numsR a).1.getD i default = (numsR b).1.getD i default) :
    lessQ (numsR a) (numsR b) = decide ((numsR a).1.getD i default < (numsR b).1.getD i default) := by
  unfold lessQ
  rw [q0.1, q0.2, cmpL_at h (by omega) (by omega) (fun e => h3 (cmpI_zero.1 e))]
  simp only [Bool.and_self, Bool.true_and]
  apply decide_eq_decide.2
  unfold cmpI
  split
  · simp_all
  · split <;> simp_all <;> omega
theorem less_end (q0 : (numsR a).2 = true ∧ (numsR b).2 = true) (h : ∀ j : Nat, j < i → j < (numsR b).1.length ∧ (numsR a).1.getD j default = (numsR b).1.getD j default) (h1 : i ≤ (numsR a).1.length) (h2 : (numsR a).1.length ≤ i ∨ (numsR b).1.length ≤ i) :
    lessQ (numsR a) (numsR b) = decide (((numsR a).1.length : Int) < (numsR b).1.length) := by
  unfold lessQ
  rw [q0.1, q0.2]
  simp only [Bool.and_self, Bool.true_and]
  have hib : i ≤ (numsR b).1.length := by
    cases i with
    | zero => exact Nat.zero_le _
    | succ k => have := (h k (by omega)).1; omega
  by_cases e : i < (numsR a).1.length
  · rw [cmpL_long h e (by omega)]
    exact decide_eq_decide.2 (by omega)
  · by_cases e2 : (numsR a).1.length < (numsR b).1.length
    · rw [cmpL_short h (by omega) e2]
      exact decide_eq_decide.2 (by omega)
    · rw [cmpL_same h (by omega) (by omega)]
      exact decide_eq_decide.2 (by omega)
theorem above_no (q0 : ((numsR a).2 = false ∨ (numsR b).2 = false) ∨ ((numsR b).1.length : Int) ≤ (numsR a).1.length) : aboveQ (numsR a) (numsR b) = false := by
  unfold aboveQ
  rcases q0 with (h | h) | h
  · simp [h]
  · simp [h]
  · rw [decide_eq_false (p := ((numsR a).1.length : Int) < (numsR b).1.length) (by omega)]; simp
theorem above_yes (q0 : ((numsR a).2 = true ∧ (numsR b).2 = true) ∧ ((numsR a).1.length : Int) < (numsR b).1.length) : aboveQ (numsR a) (numsR b) = decide ((numsR a).1 = List.take (((numsR a).1.length : Int).toNat - 0) (List.drop 0 (numsR b).1)) := by
  unfold aboveQ
  rw [q0.1.1, q0.1.2, decide_eq_true q0.2]
  simp
theorem fold_step (x : B64) {l : List Int} (h : i < l.length) : foldR x (l.take (i + 1)) = childR (foldR x (l.take i)) (fmt (l.getD i default)) := by
  unfold foldR
  rw [fold_take stepR (newR x) h]; rfl
end
end Go.Proofs.YteannfdcbblooaaDoor
