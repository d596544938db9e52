/- Results that are never full, with their functions. -/
import Derived.Test.YtdcmldlnhikbcaaDgJ
namespace Go.Proofs.Ytdcmldlnhikbcaa
open Go.Sim

structure Is (L : List Node) (F : Fn) (m : Nat) (d : List Node) (f : Int) : Prop where
  good : Good d
  pre : L <+: d
  ok : okNode d f
  sem : ∀ β, eb d β f = F β
  len : d.length ≤ L.length + m
def Res (L : List Node) (F : Fn) (m : Nat) (o : One) : Prop := ∃ d f, o = ⟨d, f, 0⟩ ∧ Is L F m d f
theorem Is.eval {L : List Node} {F : Fn} {m : Nat} {d : List Node} {f : Int} (h : Is L F m d f) (bits : List Bool) : evalD d f bits = F (bitAt bits) := by rw [eval_eb h.good h.ok, h.sem]
theorem Is.old {L : List Node} {F : Fn} {m : Nat} {d : List Node} {f a : Int} (h : Is L F m d f) (hg : Good L) (ha : okNode L a) (bits : List Bool) : evalD d a bits = evalD L a bits := by
  rw [eval_eb h.good (ok_prefix h.pre ha), eval_eb hg ha, eb_pre hg h.good h.pre ha]
theorem done_res {L : List Node} {U : List Fn} {F : Fn} {lv : Int} {q : Bs × Int} (hx : Ext L q lv) (hg : Grow U L q) (hs : ∀ β, eb q.1.L β q.2 = F β) : Res L F U.length (doneD q) := by
  obtain ⟨⟨L', f'⟩, r⟩ := q
  have hf := hg.full
  dsimp only at hf
  subst hf
  have h1 := hx.good rfl
  have h2 := hg.len
  have h3 := cntF_le U L
  dsimp only at h2
  exact ⟨L', r, rfl, h1.1, hx.pre, h1.2.1, hs, by omega⟩
theorem apply_res {val : Val} {U : List Fn} {L : List Node} {t : Three} (hg : Good L) (ht : ok3 L t) (hgr : Grow U L (T val ⟨L, false⟩ t)) : Res L (fun β => val3 val L β t) U.length (applyD val L t) := by
  rw [apply_yes hg ht]
  exact done_res (T_ext (s := ⟨L, false⟩) hg rfl ht) hgr fun β => T_sem (s := ⟨L, false⟩) hg rfl ht hgr.full
theorem found_res {val : Val} {L : List Node} {t : Three} {r : Int} (hg : Good L) (ht : ok3 L t) (hr : okNode L r) (he : ∀ β, eb L β r = val3 val L β t) : applyD val L t = ⟨L, r, 0⟩ := by
  rw [apply_yes hg ht, T_found hg ht hr he]; rfl
theorem Res.fn {L : List Node} {F F' : Fn} {m m' : Nat} {o : One} (h : Res L F m o) (hF : ∀ β, F β = F' β) (hm : m ≤ m') : Res L F' m' o := by
  obtain ⟨d, f, e, i⟩ := h
  exact ⟨d, f, e, i.good, i.pre, i.ok, fun β => by rw [i.sem, hF], by have := i.len; omega⟩

def singles (G : (Int → Bool) → Int → Bool) : List Fn := (List.range 70).map fun a β => G β (a : Nat)
theorem singles_len (G : (Int → Bool) → Int → Bool) : (singles G).length = 70 := by simp [singles]
theorem single_mem (G : (Int → Bool) → Int → Bool) {a : Int} (h0 : 0 ≤ a) (h : a < 70) : ∃ F ∈ singles G, ∀ β, F β = G β a :=
  ⟨fun β => G β a, by
    unfold singles
    refine List.mem_map.2 ⟨a.toNat, List.mem_range.2 (by omega), ?_⟩
    rw [Int.toNat_of_nonneg h0], fun _ => rfl⟩
def pairs (G : (Int → Bool) → Int → Int → Bool) : List Fn := (List.range 70).flatMap fun b => (List.range (b + 1)).map fun a β => G β (a : Nat) (b : Nat)
theorem pairs_len (G : (Int → Bool) → Int → Int → Bool) : (pairs G).length = 2485 := by
  unfold pairs
  rw [List.length_flatMap]
  simp only [List.length_map, List.length_range]
  decide +kernel
theorem pair_mem (G : (Int → Bool) → Int → Int → Bool) (hs : ∀ β a b, G β a b = G β b a) {a b : Int} (h0 : 0 ≤ a) (h : a < 70) (h0' : 0 ≤ b) (h' : b < 70) : ∃ F ∈ pairs G, ∀ β, F β = G β a b := by
  have key : ∀ a b : Int, 0 ≤ a → a ≤ b → b < 70 → (fun β => G β a b) ∈ pairs G := fun a b h0 hab hb => by
    unfold pairs
    refine List.mem_flatMap.2 ⟨b.toNat, List.mem_range.2 (by omega), List.mem_map.2 ⟨a.toNat, List.mem_range.2 (by omega), ?_⟩⟩
    rw [Int.toNat_of_nonneg h0, Int.toNat_of_nonneg (by omega)]
  rcases Int.le_total a b with hab | hab
  · exact ⟨_, key a b h0 hab h', fun _ => rfl⟩
  · exact ⟨_, key b a h0' hab h, fun β => hs β b a⟩

section
variable {l L : List Node} (hg0 : Good l) (h70 : l.length ≤ 70) (hg : Good L) (hp : l <+: L)
include hg0 h70 hg hp
theorem not_res {a : Int} (ha : okNode l a) (hc : L.length ≤ 8000) : Res L (fun β => !eb l β a) 70 (applyD notV L ⟨a, a, a⟩) := by
  have haL := ok_prefix hp ha
  have hgr := T_count (val := notV) (U := singles fun β a => !eb l β a) hg0 (S := fun t => ∃ a, okNode l a ∧ t = ⟨a, a, a⟩) (fun t ⟨a, h, e⟩ => by subst e; exact ⟨h, h, h⟩)
    (fun t one ⟨a, h, e⟩ h20 => by subst e; exact ⟨_, (hg0.half3 ⟨h, h, h⟩ h20 one).1.1, rfl⟩)
    (fun t ⟨a, h, e⟩ => by
      subst e
      obtain ⟨F, h1, h2⟩ := single_mem (fun β a => !eb l β a) h.1 (by have := h.2; omega)
      exact ⟨F, h1, fun β => by rw [h2]; rfl⟩) 21 L ⟨a, a, a⟩ hg hp ⟨a, ha, rfl⟩ (by have := (hg0.lv3 (t := ⟨a, a, a⟩) ⟨ha, ha, ha⟩).1; omega)
    (by have := cntF_le (singles fun β a => !eb l β a) L; rw [singles_len] at this; omega)
  refine (apply_res hg ⟨haL, haL, haL⟩ hgr).fn (fun β => ?_) (Nat.le_of_eq (singles_len _))
  show (!eb L β a) = !eb l β a
  rw [eb_pre hg0 hg hp ha]
theorem bin_res {val : Val} (hv : ∀ x y, val x y y = val y x x) {a b : Int} (ha : okNode l a) (hb : okNode l b) (hc : L.length ≤ 5700) : Res L (fun β => val (eb l β a) (eb l β b) (eb l β b)) 2485 (applyD val L ⟨a, b, b⟩) := by
  have haL := ok_prefix hp ha
  have hbL := ok_prefix hp hb
  have hgr := T_count (val := val) (U := pairs fun β a b => val (eb l β a) (eb l β b) (eb l β b)) hg0 (S := fun t => ∃ a b, okNode l a ∧ okNode l b ∧ t = ⟨a, b, b⟩) (fun t ⟨a, b, h, h', e⟩ => by subst e; exact ⟨h, h', h'⟩)
    (fun t one ⟨a, b, h, h', e⟩ h20 => by subst e; have := (hg0.half3 (t := ⟨a, b, b⟩) ⟨h, h', h'⟩ h20 one).1; exact ⟨_, _, this.1, this.2.1, rfl⟩)
    (fun t ⟨a, b, h, h', e⟩ => by
      subst e
      obtain ⟨F, h1, h2⟩ := pair_mem (fun β a b => val (eb l β a) (eb l β b) (eb l β b)) (fun β a b => hv _ _) h.1 (by have := h.2; omega) h'.1 (by have := h'.2; omega)
      exact ⟨F, h1, fun β => by rw [h2]; rfl⟩) 21 L ⟨a, b, b⟩ hg hp ⟨a, b, ha, hb, rfl⟩ (by have := (hg0.lv3 (t := ⟨a, b, b⟩) ⟨ha, hb, hb⟩).1; omega)
    (by have := cntF_le (pairs fun β a b => val (eb l β a) (eb l β b) (eb l β b)) L; rw [pairs_len] at this; omega)
  refine (apply_res hg ⟨haL, hbL, hbL⟩ hgr).fn (fun β => ?_) (Nat.le_of_eq (pairs_len _))
  show val (eb L β a) (eb L β b) (eb L β b) = val (eb l β a) (eb l β b) (eb l β b)
  rw [eb_pre hg0 hg hp ha, eb_pre hg0 hg hp hb]
theorem fix_res {a lv : Int} (ha : okNode l a) (h0 : 0 ≤ lv) (h20 : lv < 20) (one : Bool) (hc : L.length ≤ 8000) : Res L (fun β => eb l (setB β lv one) a) 70 (fixedD L a lv one) := by
  have haL := ok_prefix hp ha
  have hgr := fix_count (U := singles fun β a => eb l (setB β lv one) a) hg0 h20 (one := one) (fun f hf => single_mem (fun β a => eb l (setB β lv one) a) hf.1 (by have := hf.2; omega)) 21 L a hg hp ha (by have := (hg0.level ha).1; omega)
    (by have := cntF_le (singles fun β a => eb l (setB β lv one) a) L; rw [singles_len] at this; omega)
  unfold fixedD
  rw [if_pos (leveled_iff.2 ⟨hg, haL, h0, h20⟩)]
  refine (done_res (RP_ext (fix_ok lv h20 one) h20 (s := ⟨L, false⟩) hg rfl haL) hgr fun β => fix_sem h20 21 ⟨L, false⟩ a hg rfl haL (by have := (hg.level haL).1; dsimp only; omega) hgr.full β).fn (fun β => ?_) (Nat.le_of_eq (singles_len _))
  exact eb_pre hg0 hg hp ha
end
theorem bit_res {L : List Node} (hg : Good L) {lv : Int} (h0 : 0 ≤ lv) (h20 : lv < 20) (hc : L.length ≤ 8000) : Res L (fun β => β lv) 1 (makeD L ⟨lv, 0, 1⟩) := by
  have hf : fits L ⟨lv, 0, 1⟩ := ⟨h0, h20, hg.ok0, hg.ok1, by have := (hg.level hg.ok0).2.2.2 (.inl rfl); dsimp only; omega, by have := (hg.level hg.ok1).2.2.2 (.inr rfl); dsimp only; omega⟩
  rw [makeD_yes hg hf]
  have hgr := node_count (U := [fun β => β lv]) hg hf (F := fun β => β lv) (by simp) (fun β => by dsimp only; rw [eb_0, eb_1]; cases β lv <;> rfl) (by have := cntF_le [fun β => β lv] L; simp at this; omega)
  exact done_res (node_ext (s := ⟨L, false⟩) hg hf) hgr fun β => by
    rw [eb_made (s := ⟨L, false⟩) hg hf hgr.full]; dsimp only; rw [eb_0, eb_1]; cases β lv <;> rfl
theorem neg_lev {l L : List Node} (hg0 : Good l) (hg : Good L) {a a' : Int} (ha : okNode l a) (ha' : okNode L a') (he : ∀ β, eb L β a' = !eb l β a) : lev L a' ≤ lev l a := by
  rcases lev_of_dep hg0 ha (lv := lev L a') (fun β i b hi => by
    have h1 := he (setB β i b); rw [eb_set hg ha' hi, he] at h1
    cases h2 : eb l β a <;> cases h3 : eb l (setB β i b) a <;> simp_all) with h | h
  · exact h
  · rw [h]; exact (hg.level ha').2.1
/-- A conjunction of negations. -/
theorem nor_res {l L : List Node} (hg0 : Good l) (h70 : l.length ≤ 70) (hg : Good L) {a b a' b' : Int} (ha : okNode l a) (hb : okNode l b) (ha' : okNode L a') (hb' : okNode L b') (ea : ∀ β, eb L β a' = !eb l β a) (eb' : ∀ β, eb L β b' = !eb l β b) (hc : L.length ≤ 5700) :
    Res L (fun β => !eb l β a && !eb l β b) 2485 (applyD andV L ⟨a', b', b'⟩) := by
  have hgr := T_count (val := andV) (U := pairs fun β a b => !eb l β a && !eb l β b) hg
    (S := fun t => ∃ a b, okNode l a ∧ okNode l b ∧ okNode L t.f ∧ okNode L t.g ∧ t.h = t.g ∧ (∀ β, eb L β t.f = !eb l β a) ∧ ∀ β, eb L β t.g = !eb l β b)
    (fun t ⟨a, b, _, _, h1, h2, h3, _⟩ => ⟨h1, h2, by rw [h3]; exact h2⟩)
    (fun t one ⟨a, b, oa, ob, h1, h2, h3, e1, e2⟩ h20 => by
      have h := (hg.half3 (t := t) ⟨h1, h2, by rw [h3]; exact h2⟩ h20 one).1
      have hlv := (hg.lv3 (t := t) ⟨h1, h2, by rw [h3]; exact h2⟩).2
      have n1 := neg_lev hg0 hg oa h1 e1
      have n2 := neg_lev hg0 hg ob h2 e2
      have m1 : lv3 L t ≤ lev L t.f := by unfold lv3; omega
      have m2 : lv3 L t ≤ lev L t.g := by unfold lv3; omega
      refine ⟨half l a (lv3 L t) one, half l b (lv3 L t) one, (hg0.half oa (by omega) (by omega) one).1, (hg0.half ob (by omega) (by omega) one).1, h.1, h.2.1, by unfold half3; dsimp only; rw [h3], fun β => ?_, fun β => ?_⟩
      · show eb L β (half L t.f (lv3 L t) one) = _
        rw [half_fun hg h1 m1 (by omega), half_fun hg0 oa (by omega) (by omega), e1]
      · show eb L β (half L t.g (lv3 L t) one) = _
        rw [half_fun hg h2 m2 (by omega), half_fun hg0 ob (by omega) (by omega), e2])
    (fun t ⟨a, b, oa, ob, h1, h2, h3, e1, e2⟩ => by
      obtain ⟨F, p1, p2⟩ := pair_mem (fun β a b => !eb l β a && !eb l β b) (fun β a b => Bool.and_comm _ _) oa.1 (by have := oa.2; omega) ob.1 (by have := ob.2; omega)
      exact ⟨F, p1, fun β => by rw [p2]; unfold val3; rw [e1, e2]; rfl⟩) 21 L ⟨a', b', b'⟩ hg (List.prefix_refl _) ⟨a, b, ha, hb, ha', hb', rfl, ea, eb'⟩ (by have := (hg.lv3 (t := ⟨a', b', b'⟩) ⟨ha', hb', hb'⟩).1; omega)
    (by have := cntF_le (pairs fun β a b => !eb l β a && !eb l β b) L; rw [pairs_len] at this; omega)
  refine (apply_res hg ⟨ha', hb', hb'⟩ hgr).fn (fun β => ?_) (Nat.le_of_eq (pairs_len _))
  show andV (eb L β a') (eb L β b') (eb L β b') = _
  rw [ea, eb']; rfl
/-- A choice may be too big. -/
theorem choose_res {l : List Node} (hg : Good l) {t : Three} (ht : ok3 l t) : (∃ m, Res l (fun β => val3 chooseV l β t) m (applyD chooseV l t)) ∨ applyD chooseV l t = ⟨[], 0, 2⟩ := by
  cases hf : (T chooseV ⟨l, false⟩ t).1.full with
  | true => right; rw [apply_yes hg ht]; unfold doneD; rw [hf]; rfl
  | false =>
    left
    have hx := T_ext (val := chooseV) (s := ⟨l, false⟩) hg rfl ht
    have hs := fun β => T_sem (val := chooseV) (β := β) (s := ⟨l, false⟩) hg rfl ht hf
    obtain ⟨g, o, _⟩ := hx.good hf
    refine ⟨(T chooseV ⟨l, false⟩ t).1.L.length, ?_⟩
    rw [apply_yes hg ht]; unfold doneD; rw [hf]
    exact ⟨_, _, rfl, g, hx.pre, o, hs, by omega⟩
end Go.Proofs.Ytdcmldlnhikbcaa
