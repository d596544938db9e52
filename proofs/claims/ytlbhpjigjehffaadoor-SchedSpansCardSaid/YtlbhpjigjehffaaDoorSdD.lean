/- Insertion sort as data. -/
import Derived.Test.YtlbhpjigjehffaaDoorSdA
namespace Go.Proofs.YtlbhpjigjehffaaDoor
open Go.Sim
def cmpI (x y : Int) : Int := if x < y then -1 else if y < x then 1 else 0
def orD : List Int → Int
  | [] => 0
  | x :: l => if x ≠ 0 then x else orD l
def cmpF (l : List Jb) (a b : Int) : Int := orD [cmpI (l.getD b.toNat default).pri (l.getD a.toNat default).pri, cmpI (l.getD b.toNat default).cost (l.getD a.toNat default).cost]
/-- Two neighbours change places. -/
def swp (xs : List Int) (j : Nat) : List Int := (xs.set (j + 1) (xs.getD j default)).set j (xs.getD (j + 1) default)
theorem swp_len (xs : List Int) (j : Nat) : (swp xs j).length = xs.length := by simp [swp]
def sink (c : Int → Int → Int) (a : Nat) : Nat → List Int → List Int
  | 0, xs => xs
  | k + 1, xs => if c (xs.getD (a + k + 1) default) (xs.getD (a + k) default) < 0 then sink c a k (swp xs (a + k)) else xs
def insD (c : Int → Int → Int) (a : Nat) : Nat → List Int → List Int
  | 0, xs => xs
  | m + 1, xs => sink c a (m + 1) (insD c a m xs)
theorem sink_len (c : Int → Int → Int) (a : Nat) : ∀ (k : Nat) (xs : List Int), (sink c a k xs).length = xs.length
  | 0, _ => rfl
  | k + 1, xs => by
    rw [sink]
    split
    · rw [sink_len c a k, swp_len]
    · rfl
theorem insD_len (c : Int → Int → Int) (a : Nat) : ∀ (m : Nat) (xs : List Int), (insD c a m xs).length = xs.length
  | 0, _ => rfl
  | m + 1, xs => by rw [insD, sink_len, insD_len c a m]
theorem swp_in {n : Nat} {xs : List Int} {j : Nat} (h : inR n xs) (hj : j + 1 < xs.length) : inR n (swp xs j) := by
  intro x hx
  unfold swp at hx
  have h1 := h _ (getD_mem' (show j < xs.length by omega))
  have h2 := h _ (getD_mem' hj)
  rcases List.mem_or_eq_of_mem_set hx with hx | rfl
  · rcases List.mem_or_eq_of_mem_set hx with hx | rfl
    · exact h x hx
    · exact h1
  · exact h2
theorem sink_in {n : Nat} (c : Int → Int → Int) (a : Nat) : ∀ (k : Nat) {xs : List Int}, inR n xs → a + k < xs.length → inR n (sink c a k xs)
  | 0, _, h, _ => h
  | k + 1, xs, h, hk => by
    rw [sink]
    split
    · exact sink_in c a k (swp_in h (by omega)) (by rw [swp_len]; omega)
    · exact h
theorem insD_in {n : Nat} (c : Int → Int → Int) (a : Nat) : ∀ (m : Nat) {xs : List Int}, inR n xs → a + m < xs.length → inR n (insD c a m xs)
  | 0, _, h, _ => h
  | m + 1, xs, h, hk => by
    rw [insD]
    exact sink_in c a (m + 1) (insD_in c a m h (by omega)) (by rw [insD_len]; omega)
/-- A comparison of numbers of jobs, as a value of Go. -/
abbrev In2 (n : Nat) := {q : Int × Int // (0 ≤ q.1 ∧ q.1 < n) ∧ (0 ≤ q.2 ∧ q.2 < n)}
abbrev pC (n : Nat) (c : Int → Int → Int) : Rp := Rp.fn Tryd.prog (fun i : In2 n => [Rp.int .i64 i.1.1, Rp.int .i64 i.1.2]) (fun i => .one (Rp.int .i64 (c i.1.1 i.1.2)))
/-- A function that works on an own slice in place. -/
def ownX (v : Value) (ys : List Int) : RA := ⟨Unit, fun _ => Rp.tuple [], fun _ => [MF.osl v 3 1 eI ys]⟩
theorem or_at {x y : Int} {i : Nat} (h : ∀ j : Nat, j < i → ([x, y] : List Int).getD j default = 0) (hi : i < 2) (h2 : ([x, y] : List Int).getD i default ≠ 0) : ([x, y] : List Int).getD i default = orD [x, y] := by
  match i, hi with
  | 0, _ => have h3 : x ≠ 0 := h2; simp [orD, h3]
  | 1, _ =>
    have h0 : x = 0 := h 0 (by omega)
    have h3 : y ≠ 0 := h2
    subst h0
    simp [orD, h3]
theorem or_end {x y : Int} {i : Nat} (h : ∀ j : Nat, j < i → ([x, y] : List Int).getD j default = 0) (hi : 2 ≤ i) : orD [x, y] = 0 := by
  have h0 : x = 0 := h 0 (by omega)
  have h1 : y = 0 := h 1 (by omega)
  subst h0 h1; rfl
theorem sink_go {c : Int → Int → Int} {a j : Nat} {ys : List Int} (h : c (ys.getD (a + (j + 1)) default) (ys.getD (a + j) default) < 0) : sink c a j (swp ys (a + j)) = sink c a (j + 1) ys := by
  have h' : c (ys.getD (a + j + 1) default) (ys.getD (a + j) default) < 0 := h
  rw [sink, if_pos h']
theorem sink_go2 {c : Int → Int → Int} {a k : Nat} {ys : List Int} (hk : 0 < k) (h : c (ys.getD (a + k) default) (ys.getD (a + (k - 1)) default) < 0) : sink c a (k - 1) (swp ys (a + (k - 1))) = sink c a k ys := by
  cases k with
  | zero => omega
  | succ k => exact sink_go h
theorem sink_stop {c : Int → Int → Int} {a k : Nat} {ys : List Int} (h : k = 0 ∨ ¬ c (ys.getD (a + k) default) (ys.getD (a + (k - 1)) default) < 0) : sink c a k ys = ys := by
  cases k with
  | zero => rfl
  | succ k =>
    rcases h with h | h
    · omega
    · have h' : ¬ c (ys.getD (a + k + 1) default) (ys.getD (a + k) default) < 0 := h
      rw [sink, if_neg h']
theorem swp_eq {ys : List Int} {j p q : Nat} (hp : p = j + 1) (hq : q = j) : swp ys j = (ys.set p (ys.getD q default)).set q (ys.getD p default) := by
  subst hp hq; rfl
end Go.Proofs.YtlbhpjigjehffaaDoor
