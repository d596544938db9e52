/- Paths and their numbers: each is the other's. -/
import Derived.Test.YteannfdcbblooaaDoorThE
namespace Go.Proofs.YteannfdcbblooaaDoor
open Go.Sim
theorem snoc_ind {α : Type} {motive : List α → Prop} (nil : motive []) (append_singleton : ∀ (l : List α) (a : α), motive l → motive (l ++ [a])) (l : List α) : motive l := by
  have : ∀ n : Nat, ∀ l : List α, l.length = n → motive l := by
    intro n
    induction n with
    | zero => intro l h; rw [List.length_eq_zero_iff.1 h]; exact nil
    | succ n ih =>
      intro l h
      rcases List.eq_nil_or_concat l with rfl | ⟨m, a, rfl⟩
      · cases h
      · simp only [List.concat_eq_append, List.length_append, List.length_cons, List.length_nil] at h ⊢
        exact append_singleton m a (ih m (by omega))
  exact this _ l rfl
def fB (o : Option PS) (c : UInt8) : Option PS := o.bind fun p => stp p ((c.toNat : Nat) : Int)
def runF (t : List UInt8) : Option PS := t.foldl fB (some run0)
theorem runN_runF {s : List UInt8} : ∀ {k : Nat}, k ≤ s.length → runN s k = runF (s.take k)
  | 0, _ => rfl
  | k + 1, h => by
    rw [runN, runN_runF (by omega), runF, runF, fold_take fB (some run0) (show k < s.length by omega)]
    rfl
theorem dig_toNat {d : Nat} (h : d < 10) : ((UInt8.ofNat (48 + d)).toNat : Int) = 48 + d := by
  rw [UInt8.toNat_ofNat']; omega
/-- What is known of a decimal form, by its steps. -/
theorem fmt_ind {Q : Int → List UInt8 → Prop} (h1 : ∀ d : Nat, d < 10 → Q d [UInt8.ofNat (48 + d)]) (h2 : ∀ (n : Int) (l : List UInt8) (d : Nat), 1 ≤ n → d < 10 → Q n l → Q (10 * n + d) (l ++ [UInt8.ofNat (48 + d)])) : ∀ n : Int, 0 ≤ n → Q n (fmt n) := by
  have key : ∀ k : Nat, ∀ n : Int, 0 ≤ n → n.toNat < k → Q n (fmt n) := by
    intro k
    induction k with
    | zero => intro n _ h; omega
    | succ k ih =>
      intro n h0 hk
      by_cases h : n < 10
      · rw [fmt_small h0 h]
        have := h1 n.toNat (by omega)
        rwa [show ((n.toNat : Nat) : Int) = n by omega] at this
      · rw [fmt_big (by omega)]
        have := h2 (n / 10) _ (n % 10).toNat (by omega) (by omega) (ih (n / 10) (by omega) (by omega))
        rwa [show 10 * (n / 10) + (((n % 10).toNat : Nat) : Int) = n by omega] at this
  exact fun n h0 => key (n.toNat + 1) n h0 (by omega)
theorem fmt_digs {n : Int} (h : 0 ≤ n) : ∀ b ∈ fmt n, 48 ≤ (b.toNat : Int) ∧ (b.toNat : Int) ≤ 57 := by
  refine fmt_ind (Q := fun _ l => ∀ b ∈ l, 48 ≤ (b.toNat : Int) ∧ (b.toNat : Int) ≤ 57) (fun d hd b hb => ?_) (fun n l d _ hd ih b hb => ?_) n h
  · rw [List.mem_singleton.1 hb, dig_toNat hd]; omega
  · rcases List.mem_append.1 hb with hb | hb
    · exact ih b hb
    · rw [List.mem_singleton.1 hb, dig_toNat hd]; omega
theorem run_fmt (out : List Int) {n : Int} (h : 0 ≤ n) : n ≤ 1048575 → (fmt n).foldl fB (some ⟨out, 0, 0, false⟩) = some ⟨out, n, ((fmt n).length : Nat), decide (n = 0)⟩ := by
  refine fmt_ind (Q := fun n l => n ≤ 1048575 → l.foldl fB (some ⟨out, 0, 0, false⟩) = some ⟨out, n, (l.length : Nat), decide (n = 0)⟩) (fun d hd hn => ?_) (fun n l d hn1 hd ih hn => ?_) n h
  · simp only [List.foldl_cons, List.foldl_nil, fB, Option.bind_some, dig_toNat hd]
    rw [stp_dig ⟨⟨⟨by omega, by omega⟩, rfl⟩, by dsimp only; omega⟩ (by dsimp only; omega)]
    have e1 : (10 * 0 + (48 + (d : Int) - 48) : Int) = d := by omega
    have e2 : (decide ((48 + (d : Int)) = 48)) = decide ((d : Int) = 0) := decide_eq_decide.2 (by omega)
    simp only [e1, e2]
    simp
  · rw [List.foldl_append, ih (by omega)]
    simp only [List.foldl_cons, List.foldl_nil, fB, Option.bind_some, dig_toNat hd]
    rw [stp_dig ⟨⟨⟨by omega, by omega⟩, by dsimp only; rw [decide_eq_false_iff_not]; omega⟩, by dsimp only; omega⟩ (by dsimp only; omega)]
    have hl : ¬ ((l.length : Nat) : Int) = 0 ∨ True := .inr trivial
    congr 2
    · dsimp only; omega
    · simp
    · dsimp only
      rw [decide_eq_false (p := 10 * n + (d : Int) = 0) (by omega)]
      by_cases h0 : ((l.length : Nat) : Int) = 0
      · have : l = [] := List.length_eq_zero_iff.1 (by omega)
        subst this
        have := ih (by omega)
        simp only [List.foldl_nil, Option.some.injEq, PS.mk.injEq] at this
        omega
      · rw [decide_eq_false h0]; rfl
def pre (l : List Int) : List UInt8 := l.flatMap fun n => fmt n ++ [46]
theorem pre_app (l : List Int) (n : Int) : pre (l ++ [n]) = pre l ++ fmt n ++ [46] := by simp [pre]
theorem run_pre {l : List Int} (h : numsOk l) : runF (pre l) = some ⟨l, 0, 0, false⟩ := by
  induction l using snoc_ind with
  | nil => rfl
  | append_singleton l n ih =>
    have hn := h n (by simp)
    have h0 := ih fun x hx => h x (List.mem_append.2 (.inl hx))
    have hl := (fmt_len hn).1
    rw [pre_app, runF, List.foldl_append, List.foldl_append]
    rw [runF] at h0
    rw [h0, run_fmt l hn.1 hn.2]
    simp only [List.foldl_cons, List.foldl_nil, fB, Option.bind_some]
    exact stp_dot ⟨rfl, by dsimp only; omega⟩
theorem joinK_take (l m : List Int) : ∀ k, k ≤ l.length → joinK (l ++ m) k = joinK l k
  | 0, _ => rfl
  | k + 1, h => by
    rw [joinK, joinK, joinK_take l m k (by omega)]
    congr 2
    simp [List.getD, List.getElem?_append, show k < l.length by omega]
theorem joinT_app (l : List Int) (n : Int) : joinT (l ++ [n]) = (if 0 < l.length then joinT l ++ [46] else []) ++ fmt n := by
  unfold joinT
  rw [List.length_append, List.length_singleton, joinK, joinK_take l [n] _ (Nat.le_refl _)]
  congr 1
  · split
    · rfl
    · rename_i h
      have : l.length = 0 := by omega
      rw [this]; rfl
  · simp [List.getD]
theorem joinT_pre (l : List Int) : (if 0 < l.length then joinT l ++ [46] else []) = pre l := by
  induction l using snoc_ind with
  | nil => rfl
  | append_singleton l n ih => rw [if_pos (by simp), joinT_app, ih, pre_app]
theorem joinT_snoc (l : List Int) (n : Int) : joinT (l ++ [n]) = pre l ++ fmt n := by rw [joinT_app, joinT_pre]
/-- The reading of a text of numbers. -/
theorem nums_join {l : List Int} (h : numsOk l) (hl : l.length ≤ 16) : numsP (joinT l) = (l, true) := by
  rcases List.eq_nil_or_concat l with rfl | ⟨m, n, rfl⟩
  · rfl
  · have hn := h n (by simp)
    have hlen := (fmt_len hn).1
    have h0 := run_pre (l := m) fun x hx => h x (by simp [hx])
    have hr : runN (joinT (m ++ [n])) (joinT (m ++ [n])).length = some ⟨m, n, ((fmt n).length : Nat), decide (n = 0)⟩ := by
      rw [runN_runF (Nat.le_refl _), List.take_length, joinT_snoc, runF, List.foldl_append]
      rw [runF] at h0
      rw [h0, run_fmt m hn.1 hn.2]
    have hne : joinT (m ++ [n]) ≠ [] := by
      rw [joinT_snoc]
      intro e
      have := congrArg List.length e
      rw [List.length_append, List.length_nil] at this; omega
    rw [List.concat_eq_append, nums_some hne hr]
    rw [List.concat_eq_append] at hl
    simp only [List.length_append, List.length_cons, List.length_nil] at hl
    simp [endB]
    omega
def textP (p : PS) : List UInt8 := pre p.out ++ (if p.d = 0 then [] else fmt p.n)
theorem run_text {t : List UInt8} : ∀ {p : PS}, runF t = some p → t = textP p ∧ 0 ≤ p.d ∧ 0 ≤ p.n ∧ (p.d = 0 → p.n = 0) ∧ (0 < p.d → (p.lead = true ↔ p.n = 0)) := by
  induction t using snoc_ind with
  | nil => intro p h; cases h; exact ⟨rfl, Int.le_refl 0, Int.le_refl 0, fun _ => rfl, fun h => absurd h (by decide)⟩
  | append_singleton t c ih =>
    intro p h
    rw [runF, List.foldl_append] at h
    cases hq : t.foldl fB (some run0) with
    | none => rw [hq] at h; cases h
    | some q =>
      rw [hq] at h
      obtain ⟨h1, h2, h3, h4, h5⟩ := ih (p := q) hq
      simp only [List.foldl_cons, List.foldl_nil, fB, Option.bind_some] at h
      unfold stp at h
      split at h
      · rename_i hc
        cases h
        have ec : c = 46 := by
          apply UInt8.toNat_inj.1
          have := hc.1
          show c.toNat = 46
          omega
        refine ⟨?_, Int.le_refl 0, Int.le_refl 0, fun _ => rfl, fun h => absurd (show (0 : Int) < 0 from h) (by decide)⟩
        rw [h1, ec, textP, textP, if_neg (by omega), if_pos rfl, pre_app, List.append_nil]
      · split at h
        · rename_i hc
          split at h
          · cases h
            have hd : c = UInt8.ofNat (48 + ((c.toNat : Int) - 48).toNat) := by
              apply UInt8.toNat_inj.1
              rw [UInt8.toNat_ofNat']
              omega
            refine ⟨?_, by dsimp only; omega, by dsimp only; omega, by dsimp only; omega, fun _ => ?_⟩
            · rw [h1, textP, textP]
              dsimp only
              rw [if_neg (show ¬ q.d + 1 = 0 by omega), List.append_assoc]
              congr 1
              by_cases hq0 : q.d = 0
              · rw [if_pos hq0, h4 hq0, fmt_small (by omega) (by omega), List.nil_append]
                rw [show (10 * 0 + ((c.toNat : Int) - 48)).toNat = ((c.toNat : Int) - 48).toNat by omega, ← hd]
              · have hn0 : ¬ q.n = 0 := fun e => by
                  have := (h5 (by omega)).2 e
                  rw [hc.2.1] at this; cases this
                rw [if_neg hq0, fmt_big (n := 10 * q.n + ((c.toNat : Int) - 48)) (by omega)]
                rw [show (10 * q.n + ((c.toNat : Int) - 48)) / 10 = q.n by omega, show ((10 * q.n + ((c.toNat : Int) - 48)) % 10).toNat = ((c.toNat : Int) - 48).toNat by omega, ← hd]
            · dsimp only
              simp only [Bool.and_eq_true, decide_eq_true_eq]
              by_cases hq0 : q.d = 0
              · rw [h4 hq0]; omega
              · have hn0 : ¬ q.n = 0 := fun e => by
                  have := (h5 (by omega)).2 e
                  rw [hc.2.1] at this; cases this
                omega
          · cases h
        · cases h
/-- The text of the numbers of a path. -/
theorem join_nums {s : List UInt8} (h : (numsP s).2 = true) : joinT (numsP s).1 = s := by
  by_cases h0 : s = []
  · subst h0; rfl
  · cases hp : runN s s.length with
    | none => rw [nums_none (Nat.le_refl _) hp] at h; cases h
    | some p =>
      rw [nums_some h0 hp] at h ⊢
      simp only [endB, Bool.and_eq_true, decide_eq_true_eq] at h
      rw [runN_runF (Nat.le_refl _), List.take_length] at hp
      have := (run_text hp).1
      rw [textP, if_neg (by omega)] at this
      rw [joinT_snoc]; exact this.symm
end Go.Proofs.YteannfdcbblooaaDoor
