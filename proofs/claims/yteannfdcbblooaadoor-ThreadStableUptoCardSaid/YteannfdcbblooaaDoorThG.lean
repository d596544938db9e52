/- The tree of paths: parents, children, and what lies between. -/
import Derived.Test.YteannfdcbblooaaDoorThF
namespace Go.Proofs.YteannfdcbblooaaDoor
open Go.Sim
theorem joinT_len {l : List Int} (h : numsOk l) (hl : l.length ≤ 17) : (joinT l).length ≤ 136 := by
  have := join_len h l.length (Nat.le_refl _)
  unfold joinT; omega
theorem child_len (s : List UInt8) (i : Int) : (childQ (numsP s) i).1.length ≤ 136 := by
  unfold childQ
  split
  · exact Nat.zero_le _
  · split
    · exact Nat.zero_le _
    · rename_i h _
      have hq : (numsP s).2 = true := by
        cases e : (numsP s).2 with
        | true => rfl
        | false => exact absurd (.inl (.inl e)) h
      have := (okP s).2 hq
      refine joinT_len (numsOk_app (okP s).1 ⟨by omega, by omega⟩) (by simp; omega)
theorem parent_len (s : List UInt8) : (parentQ (numsP s)).1.length ≤ 136 := by
  unfold parentQ
  split
  · exact Nat.zero_le _
  · rename_i h
    have hq : (numsP s).2 = true := by
      cases e : (numsP s).2 with
      | true => rfl
      | false => exact absurd (.inl e) h
    have := (okP s).2 hq
    refine joinT_len (fun x hx => (okP s).1 x (List.dropLast_subset _ hx)) (by simp; omega)
theorem dep_range (s : List UInt8) : -1 ≤ depQ (numsP s) ∧ depQ (numsP s) ≤ 16 := by
  unfold depQ
  split
  · rename_i h
    have := (okP s).2 h
    omega
  · omega
/-! Comparisons. -/
theorem cmpI_anti (x y : Int) : cmpI y x = -cmpI x y := by
  unfold cmpI
  split
  · split <;> (try split) <;> omega
  · split <;> (try split) <;> omega
theorem cmpL_anti : ∀ a b : List Int, cmpL b a = -cmpL a b
  | [], [] => rfl
  | [], _ :: _ => rfl
  | _ :: _, [] => rfl
  | x :: a, y :: b => by
    rw [cmpL, cmpL, cmpL_anti a b, cmpI_anti x y]
    split <;> split <;> omega
theorem cmpL_zero : ∀ {a b : List Int}, cmpL a b = 0 ↔ a = b
  | [], [] => by simp [cmpL]
  | [], _ :: _ => by simp [cmpL]
  | _ :: _, [] => by simp [cmpL]
  | x :: a, y :: b => by
    rw [cmpL]
    split
    · rename_i h
      rw [cmpL_zero, cmpI_zero.1 h]; simp
    · rename_i h
      constructor
      · intro e; exact absurd e h
      · intro e; cases e; exact absurd (cmpI_zero.2 rfl) h
theorem cmpI_neg {x y : Int} : cmpI x y < 0 ↔ x < y := by
  unfold cmpI; split
  · omega
  · split <;> omega
theorem cmpL_cons {x y : Int} {a b : List Int} : cmpL (x :: a) (y :: b) < 0 ↔ x < y ∨ (x = y ∧ cmpL a b < 0) := by
  rw [cmpL]
  split
  · rename_i h; have := cmpI_zero.1 h; omega
  · rename_i h
    rw [cmpI_neg]
    have : ¬ x = y := fun e => h (cmpI_zero.2 e)
    omega
theorem cmpL_trans : ∀ {a b c : List Int}, cmpL a b < 0 → cmpL b c < 0 → cmpL a c < 0
  | [], [], c, h, _ => by simp [cmpL] at h
  | _, _ :: _, [], _, h => by simp [cmpL] at h
  | [], _ :: _, _ :: _, _, _ => by simp [cmpL]
  | _ :: _, [], _, h, _ => by simp [cmpL] at h
  | x :: a, y :: b, z :: c, h1, h2 => by
    rw [cmpL_cons] at h1 h2 ⊢
    rcases h1 with h1 | ⟨e1, h1⟩ <;> rcases h2 with h2 | ⟨e2, h2⟩
    · left; omega
    · left; omega
    · left; omega
    · right; exact ⟨by omega, cmpL_trans h1 h2⟩
theorem cmpL_prefix : ∀ {a b : List Int}, a.length < b.length → a = b.take a.length → cmpL a b < 0
  | [], [], h, _ => by simp at h
  | [], _ :: _, _, _ => by simp [cmpL]
  | _ :: _, [], h, _ => by simp at h
  | x :: a, y :: b, h, e => by
    simp only [List.length_cons, List.take_succ_cons, List.cons.injEq] at h e
    rw [cmpL_cons]
    exact .inr ⟨e.1, cmpL_prefix (by omega) e.2⟩
/-- Between two paths below a path all are below it. -/
theorem cmpL_between : ∀ {a b c : List Int}, cmpL a b < 0 → cmpL b c < 0 → a.length < c.length → a = c.take a.length → a.length < b.length ∧ a = b.take a.length
  | [], [], _, h, _, _, _ => by simp [cmpL] at h
  | [], _ :: _, _, _, _, _, _ => by simp
  | _ :: _, [], _, h, _, _, _ => by simp [cmpL] at h
  | _ :: _, _ :: _, [], _, _, h, _ => by simp at h
  | x :: a, y :: b, z :: c, h1, h2, h3, h4 => by
    simp only [List.length_cons, List.take_succ_cons, List.cons.injEq] at h3 h4 ⊢
    rw [cmpL_cons] at h1 h2
    have e : x = y := by omega
    have e2 : y = z := by omega
    have := cmpL_between (a := a) (b := b) (c := c) (by omega) (by omega) (by omega) h4.2
    exact ⟨by omega, e, this.2⟩
/-! Of paths. -/
abbrev isP (s : List UInt8) : Prop := (numsP s).2 = true
theorem path_inj {s t : List UInt8} (hs : isP s) (ht : isP t) : (numsP s).1 = (numsP t).1 ↔ s = t :=
  ⟨fun e => by rw [← join_nums hs, ← join_nums ht, e], fun e => by rw [e]⟩
theorem less_is {s t : List UInt8} (hs : isP s) (ht : isP t) : lessQ (numsP s) (numsP t) = decide (cmpL (numsP s).1 (numsP t).1 < 0) := by unfold lessQ; rw [hs, ht]; simp
theorem above_is {s t : List UInt8} (hs : isP s) (ht : isP t) : aboveQ (numsP s) (numsP t) = decide ((numsP s).1.length < (numsP t).1.length ∧ (numsP s).1 = (numsP t).1.take (numsP s).1.length) := by
  unfold aboveQ; rw [hs, ht, Bool.eq_iff_iff]; simp
theorem less_no {s t : List UInt8} (h : (numsP s).2 = false ∨ (numsP t).2 = false) : lessQ (numsP s) (numsP t) = false := by unfold lessQ; rcases h with h | h <;> simp [h]
theorem above_no' {s t : List UInt8} (h : (numsP s).2 = false ∨ (numsP t).2 = false) : aboveQ (numsP s) (numsP t) = false := by unfold aboveQ; rcases h with h | h <;> simp [h]
theorem sort_pair {s t : List UInt8} (hs : isP s) (ht : isP t) : (lessQ (numsP s) (numsP t) && lessQ (numsP t) (numsP s)) = false ∧ ((lessQ (numsP s) (numsP t) || lessQ (numsP t) (numsP s)) = !(s == t)) ∧ (aboveQ (numsP s) (numsP t) = true → lessQ (numsP s) (numsP t) = true) := by
  rw [less_is hs ht, less_is ht hs, above_is hs ht]
  have h1 := cmpL_anti (numsP s).1 (numsP t).1
  have h2 := (cmpL_zero (a := (numsP s).1) (b := (numsP t).1)).trans (path_inj hs ht)
  refine ⟨?_, ?_, fun h => ?_⟩
  · simp only [Bool.and_eq_false_iff, decide_eq_false_iff_not]; omega
  · rw [Bool.eq_iff_iff]
    simp only [Bool.or_eq_true, decide_eq_true_eq, Bool.not_eq_true', beq_eq_false_iff_ne, ne_eq, ← h2]
    omega
  · simp only [decide_eq_true_eq] at h ⊢
    exact cmpL_prefix h.1 h.2
theorem sort_three {s t u : List UInt8} (hs : isP s) (ht : isP t) (hu : isP u) (h1 : lessQ (numsP s) (numsP t) = true) (h2 : lessQ (numsP t) (numsP u) = true) : lessQ (numsP s) (numsP u) = true ∧ (aboveQ (numsP s) (numsP u) = true → aboveQ (numsP s) (numsP t) = true) := by
  rw [less_is hs ht, decide_eq_true_eq] at h1
  rw [less_is ht hu, decide_eq_true_eq] at h2
  rw [less_is hs hu, above_is hs hu, above_is hs ht]
  simp only [decide_eq_true_eq]
  exact ⟨cmpL_trans h1 h2, fun h => cmpL_between h1 h2 h.1 h.2⟩
/-! Children and parents. -/
theorem child_nums {s : List UInt8} {i : Int} (h : (childQ (numsP s) i).2 = 0) : isP s ∧ numOk i ∧ (numsP s).1.length < 16 ∧ childQ (numsP s) i = (joinT ((numsP s).1 ++ [i]), 0) ∧ numsP (childQ (numsP s) i).1 = ((numsP s).1 ++ [i], true) := by
  by_cases h1 : ((numsP s).2 = false ∨ i < 0) ∨ 1048575 < i
  · rw [child_bad h1] at h; cases h
  · have hq : (numsP s).2 = true := by
      cases e : (numsP s).2 with
      | true => rfl
      | false => exact absurd (.inl (.inl e)) h1
    have hi : 0 ≤ i ∧ i ≤ 1048575 := by omega
    by_cases hl : ((numsP s).1.length : Int) = 16
    · rw [child_full hq hi.1 hi.2 hl] at h; cases h
    · have e := child_yes hq hi.1 hi.2 hl
      have h16 := (okP s).2 hq
      refine ⟨hq, hi, by omega, e, ?_⟩
      rw [e]
      exact nums_join (numsOk_app (okP s).1 hi) (by simp; omega)
theorem tree_child {s : List UInt8} {i : Int} (h : (childQ (numsP s) i).2 = 0) : parentQ (numsP (childQ (numsP s) i).1) = (s, true) ∧ depQ (numsP (childQ (numsP s) i).1) = depQ (numsP s) + 1 ∧ aboveQ (numsP s) (numsP (childQ (numsP s) i).1) = true ∧ aboveQ (numsP (childQ (numsP s) i).1) (numsP s) = false ∧ lessQ (numsP s) (numsP (childQ (numsP s) i).1) = true := by
  obtain ⟨hs, hi, h16, he, hn⟩ := child_nums h
  have hc : isP (childQ (numsP s) i).1 := by unfold isP; rw [hn]
  have ha : aboveQ (numsP s) (numsP (childQ (numsP s) i).1) = true := by
    rw [above_is hs hc, hn, decide_eq_true_eq]
    simp
  refine ⟨?_, ?_, ha, ?_, (sort_pair hs hc).2.2 ha⟩
  · rw [hn, parent_yes rfl (by simp; omega)]
    simp [join_nums hs]
  · rw [hn, dep_yes rfl, dep_yes hs]; simp
  · rw [above_is hc hs, hn, decide_eq_false_iff_not]
    simp; omega
theorem parent_nums {s : List UInt8} (h : (parentQ (numsP s)).2 = true) : isP s ∧ 0 < (numsP s).1.length ∧ (parentQ (numsP s)).1 = joinT (numsP s).1.dropLast ∧ numsP (parentQ (numsP s)).1 = ((numsP s).1.dropLast, true) := by
  by_cases h1 : (numsP s).2 = false ∨ ((numsP s).1.length : Int) = 0
  · rw [parent_no h1] at h; cases h
  · have hq : (numsP s).2 = true := by
      cases e : (numsP s).2 with
      | true => rfl
      | false => exact absurd (.inl e) h1
    have hl : ¬ ((numsP s).1.length : Int) = 0 := fun e => h1 (.inr e)
    have e := parent_yes hq hl
    have h16 := (okP s).2 hq
    refine ⟨hq, by omega, by rw [e], ?_⟩
    rw [e]
    exact nums_join (fun x hx => (okP s).1 x (List.dropLast_subset _ hx)) (by simp; omega)
theorem tree_up {s : List UInt8} {i : Int} (h : (childQ (numsP s) i).2 = 0) (hp : (parentQ (numsP s)).2 = true) : aboveQ (numsP (parentQ (numsP s)).1) (numsP (childQ (numsP s) i).1) = true := by
  obtain ⟨hs, hi, h16, he, hn⟩ := child_nums h
  obtain ⟨_, h0, hpe, hpn⟩ := parent_nums hp
  rw [above_is (by unfold isP; rw [hpn]) (by unfold isP; rw [hn]), hn, hpn, decide_eq_true_eq]
  refine ⟨by simp; omega, ?_⟩
  rw [List.take_append_of_le_length (by simp), List.length_dropLast, List.dropLast_eq_take]
theorem tree_root {s : List UInt8} (h : (parentQ (numsP s)).2 = false) : (!(numsP s).2 || s == []) = true := by
  by_cases h1 : (numsP s).2 = false
  · rw [h1]; rfl
  · have hq : isP s := by simpa using h1
    by_cases hl : ((numsP s).1.length : Int) = 0
    · have e := join_nums hq
      rw [List.length_eq_zero_iff.1 (show (numsP s).1.length = 0 by omega)] at e
      rw [← e]; simp [joinT, joinK]
    · rw [parent_yes hq hl] at h; cases h
/-! The last number of a path, by its digits. -/
def valD (l : List UInt8) : Int := l.foldl (fun v b => 10 * v + ((b.toNat : Int) - 48)) 0
theorem val_step {l : List UInt8} {i : Nat} (h : i < l.length) : valD (l.take (i + 1)) = 10 * valD (l.take i) + (((l.getD i default).toNat : Int) - 48) := by
  unfold valD; rw [fold_take _ _ h]
theorem val_fmt {n : Int} (h : 0 ≤ n) : valD (fmt n) = n ∧ ∀ k, 0 ≤ valD ((fmt n).take k) ∧ valD ((fmt n).take k) ≤ n := by
  refine fmt_ind (Q := fun n l => valD l = n ∧ ∀ k, 0 ≤ valD (l.take k) ∧ valD (l.take k) ≤ n) (fun d hd => ?_) (fun n l d hn hd ih => ?_) n h
  · have e : valD [UInt8.ofNat (48 + d)] = d := by simp only [valD, List.foldl_cons, List.foldl_nil, dig_toNat hd]; omega
    refine ⟨e, fun k => ?_⟩
    cases k with
    | zero => simp only [List.take_zero, valD, List.foldl_nil]; omega
    | succ k => rw [show [UInt8.ofNat (48 + d)].take (k + 1) = [UInt8.ofNat (48 + d)] by simp, e]; omega
  · have e : valD (l ++ [UInt8.ofNat (48 + d)]) = 10 * n + d := by
      have h1 := ih.1
      unfold valD at h1 ⊢
      rw [List.foldl_append, h1]
      simp only [List.foldl_cons, List.foldl_nil, dig_toNat hd]; omega
    refine ⟨e, fun k => ?_⟩
    by_cases hk : k ≤ l.length
    · rw [List.take_append_of_le_length hk]
      have := ih.2 k
      omega
    · rw [List.take_of_length_le (by simp; omega), e]; omega
def TailOf (s : List UInt8) (m : Int) : Prop := ∃ x, s = x ++ fmt m ∧ (x = [] ∨ ∃ y, x = y ++ [46])
theorem ch_app {x f : List UInt8} {k : Nat} (h : x.length ≤ k) : ch (x ++ f) k = (((f.getD (k - x.length) 0).toNat : Nat) : Int) := by
  unfold ch
  rw [List.getD, List.getElem?_append_right h]; rfl
theorem tail_len {s : List UInt8} {m : Int} {z : Nat} (hm : 0 ≤ m) (h : TailOf s m) (hz : z ≤ s.length) (hI : ∀ j : Nat, j < z → ch s (s.length - 1 - j) ≠ 46) (hx : ((s.length : Int) - 1 - (z : Nat) < 0) ∨ ch s (s.length - 1 - z) = 46) : z = (fmt m).length := by
  obtain ⟨x, rfl, hxx⟩ := h
  rw [List.length_append] at hz hx hI
  have hdig : ∀ j, j < (fmt m).length → ch (x ++ fmt m) (x.length + (fmt m).length - 1 - j) ≠ 46 := fun j hj => by
    rw [ch_app (by omega)]
    have hmem : (fmt m).getD (x.length + (fmt m).length - 1 - j - x.length) 0 ∈ fmt m := getD_mem' (by omega)
    have := fmt_digs hm _ hmem
    omega
  by_cases h1 : z < (fmt m).length
  · rcases hx with hx | hx
    · omega
    · exact absurd hx (hdig z h1)
  · by_cases h2 : (fmt m).length < z
    · exfalso
      rcases hxx with rfl | ⟨y, rfl⟩
      · simp at hz; omega
      · refine hI (fmt m).length h2 ?_
        unfold ch
        rw [List.length_append, List.length_singleton, show y.length + 1 + (fmt m).length - 1 - (fmt m).length = y.length by omega, List.append_assoc]
        simp [List.getD]
    · omega
theorem tail_eq {s : List UInt8} {m : Int} {z : Nat} (h : TailOf s m) (hz : z = (fmt m).length) : List.take (s.length - ((s.length : Int) - (z : Nat)).toNat) (List.drop ((s.length : Int) - (z : Nat)).toNat s) = fmt m := by
  obtain ⟨x, rfl, _⟩ := h
  have e : (((x ++ fmt m).length : Int) - (z : Nat)).toNat = x.length := by rw [List.length_append]; omega
  rw [e, List.drop_left, List.length_append]
  exact List.take_of_length_le (by omega)
theorem pre_end (l : List Int) : pre l = [] ∨ ∃ y, pre l = y ++ [46] := by
  rcases List.eq_nil_or_concat l with rfl | ⟨k, n, rfl⟩
  · exact .inl rfl
  · exact .inr ⟨pre k ++ fmt n, by rw [List.concat_eq_append, pre_app]⟩
theorem tree_last {s : List UInt8} (h : (parentQ (numsP s)).2 = true) : ∃ m, numOk m ∧ TailOf s m ∧ childQ (numsP (parentQ (numsP s)).1) m = (s, 0) := by
  obtain ⟨hs, h0, hpe, hpn⟩ := parent_nums h
  have hq := okP s
  rcases List.eq_nil_or_concat (numsP s).1 with e | ⟨k, n, e⟩
  · rw [e] at h0; cases h0
  · rw [List.concat_eq_append] at e
    have hn : numOk n := hq.1 n (by rw [e]; simp)
    have hj := join_nums hs
    have h16 := hq.2 hs
    rw [e] at h16 hj hpn
    rw [List.length_append, List.length_singleton] at h16
    rw [List.dropLast_concat] at hpn
    refine ⟨n, hn, ⟨pre k, by rw [← joinT_snoc, hj], pre_end k⟩, ?_⟩
    rw [hpn, child_yes rfl hn.1 hn.2 (by dsimp only; omega), hj]
theorem len3 {a b c : List UInt8} (ha : a.length ≤ 1048576) (hb : b.length ≤ 1048576) (hc : c.length ≤ 1048576) (k : Nat) : (([a, b, c] : List (List UInt8)).getD k default).length ≤ 1048576 := by
  match k with
  | 0 => exact ha
  | 1 => exact hb
  | 2 => exact hc
  | k + 3 => exact Nat.zero_le _
theorem dead_pair {l m e a : Bool} (p1 : (l && m) = false) (p2 : (l || m) = !e) (p3 : a = true → l = true) : (((l && m) || ((l || m) == e)) || (a && !l)) = false := by
  cases l <;> cases m <;> cases e <;> cases a <;> simp_all
theorem dead_three {l m n a b : Bool} (h : l = true → m = true → n = true ∧ (a = true → b = true)) : (((l && m) && !n) || (((l && m) && a) && !b)) = false := by
  cases l <;> cases m <;> cases n <;> cases a <;> cases b <;> simp_all
end Go.Proofs.YteannfdcbblooaaDoor
