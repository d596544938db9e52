/- The reference's sweep, and its counts. -/
import Derived.Test.YtcpkjpkjahgobaaCtI
namespace Go.Proofs.Ytcpkjpkjahgobaa
open Go.Sim

open Classical in
noncomputable def reachedD (l : List Node) (f : Int) : List Bool := (List.range l.length).map fun j => decide (Reach l f (j : Nat))
theorem reached_len (l : List Node) (f : Int) : (reachedD l f).length = l.length := by simp [reachedD]
theorem reached_get {l : List Node} {f : Int} {j : Nat} (hj : j < l.length) : (reachedD l f).getD j default = true ↔ Reach l f (j : Nat) := by
  simp [reachedD, List.getD_eq_getElem?_getD, hj]
theorem getD_at {l : List Bool} {j : Nat} (h : j < l.length) : l[j]? = some (l.getD j default) := by rw [List.getD_eq_getElem?_getD, List.getElem?_eq_getElem h]; rfl
theorem getD_setT {l : List Bool} {i j : Nat} (hi : i < l.length) : (l.set i true).getD j default = true ↔ j = i ∨ l.getD j default = true := by
  rw [List.getD_eq_getElem?_getD, List.getD_eq_getElem?_getD, List.getElem?_set]
  by_cases e : i = j
  · rw [if_pos e, if_pos hi]; simp [e]
  · rw [if_neg e]
    exact ⟨.inr, fun h => h.resolve_left fun h => e h.symm⟩
structure SwOk (l : List Node) (f i : Int) (sn : List Bool) : Prop where
  len : sn.length = l.length
  sound : ∀ j : Nat, sn.getD j default = true → Reach l f (j : Nat)
  self : sn.getD f.toNat default = true
  closed : ∀ k : Int, i < k → 1 < k → k < l.length → sn.getD k.toNat default = true → sn.getD (nd l k).lo.toNat default = true ∧ sn.getD (nd l k).hi.toNat default = true
theorem sw_begin {l : List Node} {f : Int} (hf : okNode l f) : SwOk l f f ((List.replicate l.length false).set f.toNat true) := by
  have h1 := hf.1; have h2 := hf.2
  have hl : f.toNat < (List.replicate l.length false).length := by simp; omega
  have key : ∀ j, ((List.replicate l.length false).set f.toNat true).getD j default = true → j = f.toNat := fun j hj => by
    rcases (getD_setT hl).1 hj with h | h
    · exact h
    · rw [List.getD_eq_getElem?_getD, List.getElem?_replicate] at h
      split at h <;> cases h
  refine ⟨by simp, fun j hj => ?_, (getD_setT hl).2 (.inl rfl), fun k hk _ _ hm => ?_⟩
  · have := key j hj; subst this; rw [Int.toNat_of_nonneg h1]; exact .here
  · have := key _ hm; omega
theorem sw_yes {l : List Node} {f i : Int} {sn : List Bool} (hg : Good l) (h : SwOk l f i sn) (hi : 1 < i) (hl : i < l.length) (hm : sn.getD i.toNat default = true) : SwOk l f (i - 1) ((sn.set (nd l i).lo.toNat true).set (nd l i).hi.toNat true) := by
  have hr := h.sound _ hm
  rw [Int.toNat_of_nonneg (by omega)] at hr
  have hk := hg.lohi ⟨by omega, hl⟩ hi
  have o1 := hk.1; have o2 := hk.2.1
  unfold okNode at o1 o2
  have l1 : (nd l i).lo.toNat < sn.length := by rw [h.len]; omega
  have l2 : (nd l i).hi.toNat < (sn.set (nd l i).lo.toNat true).length := by rw [List.length_set, h.len]; omega
  have key : ∀ j, ((sn.set (nd l i).lo.toNat true).set (nd l i).hi.toNat true).getD j default = true ↔ j = (nd l i).hi.toNat ∨ j = (nd l i).lo.toNat ∨ sn.getD j default = true := fun j => by rw [getD_setT l2, getD_setT l1]
  refine ⟨by simp [h.len], fun j hj => ?_, (key _).2 (.inr (.inr h.self)), fun k hk1 hk2 hk3 hkm => ?_⟩
  · rcases (key j).1 hj with e | e | e
    · rw [e, Int.toNat_of_nonneg o2.1]; exact .hi hr hi
    · rw [e, Int.toNat_of_nonneg o1.1]; exact .lo hr hi
    · exact h.sound j e
  · by_cases e : k = i
    · subst e; exact ⟨(key _).2 (.inr (.inl rfl)), (key _).2 (.inl rfl)⟩
    · have hm2 : sn.getD k.toNat default = true := by
        rcases (key _).1 hkm with e | e | e
        · omega
        · omega
        · exact e
      have := h.closed k (by omega) hk2 hk3 hm2
      exact ⟨(key _).2 (.inr (.inr this.1)), (key _).2 (.inr (.inr this.2))⟩
theorem sw_no {l : List Node} {f i : Int} {sn : List Bool} (h : SwOk l f i sn) (hm : sn.getD i.toNat default = false) : SwOk l f (i - 1) sn :=
  ⟨h.len, h.sound, h.self, fun k hk1 hk2 hk3 hkm => by
    by_cases e : k = i
    · subst e; rw [hm] at hkm; cases hkm
    · exact h.closed k (by omega) hk2 hk3 hkm⟩
theorem sw_end {l : List Node} {f i : Int} {sn : List Bool} (hg : Good l) (hf : okNode l f) (h : SwOk l f i sn) (hi : ¬ 1 < i) : sn = reachedD l f := by
  have key : ∀ k, Reach l f k → sn.getD k.toNat default = true := fun k hk => by
    induction hk with
    | here => exact h.self
    | lo hk h1 ih => exact (h.closed _ (by omega) h1 (hk.ok hg hf).1.2 ih).1
    | hi hk h1 ih => exact (h.closed _ (by omega) h1 (hk.ok hg hf).1.2 ih).2
  apply List.ext_getElem?
  intro j
  by_cases hj : j < l.length
  · have e1 : sn[j]? = some (sn.getD j default) := getD_at (by rw [h.len]; exact hj)
    have e2 : (reachedD l f)[j]? = some ((reachedD l f).getD j default) := getD_at (by rw [reached_len]; exact hj)
    rw [e1, e2]
    congr 1
    rw [Bool.eq_iff_iff, reached_get hj]
    exact ⟨h.sound j, fun hr => by have := key _ hr; simpa using this⟩
  · rw [List.getElem?_eq_none (by rw [h.len]; omega), List.getElem?_eq_none (by rw [reached_len]; omega)]

theorem from_zero {l : List Node} {n level : Int} : fromD l n 0 level = 0 := by
  unfold fromD below; rw [fold_end (by decide)]; simp
theorem from_one {l : List Node} {n level : Int} (h : FitP l 1 n) : fromD l n 1 level = 1 * 2 ^ (n - level).toNat := by
  unfold fromD below; rw [fold_end (by decide), h.lvl_end (by decide)]; rfl
def branchD (l : List Node) (f level : Int) (one : Bool) : Int := if f < 2 ∨ (nd l f).level ≠ level then f else if one then (nd l f).hi else (nd l f).lo
def countD (l : List Node) (f n : Int) : Int × Int := if fitsB l f n = true then (fromD l n f 0, 0) else (0, 1)
def waysD (l : List Node) (f : Int) : Int × Int := if fitsB l f 20 = true then (pathsD l f, 0) else (0, 1)
def outI (o : Int × Int) : Rp := Rp.tuple [Rp.int .i64 o.1, Rp.int .i64 o.2]
def outL (o : List Bool × Int) : Rp := Rp.tuple [Rp.slice eB o.1, Rp.int .i64 o.2]
theorem paths_node {l : List Node} {f : Int} (hg : Good l) (hf : okNode l f) (h1 : 1 < f) : pathsD l f = pathsD l (nd l f).lo + pathsD l (nd l f).hi := fold_node hg hf h1
theorem paths_end {l : List Node} {f : Int} (h0 : 0 ≤ f) (h2 : f < 2) : pathsD l f = f := by unfold pathsD; rw [fold_end h2]; split <;> omega
end Go.Proofs.Ytcpkjpkjahgobaa
