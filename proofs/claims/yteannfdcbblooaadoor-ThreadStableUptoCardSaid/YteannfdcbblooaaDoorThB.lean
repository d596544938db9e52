/- strconv.Itoa as a contract. -/
import Derived.Test.YteannfdcbblooaaDoorThA
namespace Go.Proofs.YteannfdcbblooaaDoor
open Go.Sim
theorem itoa_ok (n : Int) (h : numOk n) : CallT Tryd.prog 47 [Rp.int .i64 n] [tabG] (.one (Rp.str (fmt n))) := by
  refine call_grow (by have := (fmt_len h).2; omega) fun w C args hA hm => ?_
  match hargs : args.toList, hA with
  | [v], ⟨hv, _⟩ =>
    obtain ⟨rfl, _⟩ := hv
    obtain rfl : args = #[.int .i64 n] := by rw [← Array.toList_inj]; exact hargs
    rw [← fmt_itoa h.1]
    exact Tryd.strconv_Itoa n (by have := h.1; omega) (by have := h.2; omega) w (hm.facts tabG (List.mem_singleton.2 rfl)).2.2
section
variable {P : Program} {M : List MF} {o : Oper} {σ : Nat → Option Rp}
theorem spec_is {k : IntKind} {e e' : Int} (h : e = e') (hs : Go.Sim.Spec P σ M o (.one (Rp.int k e))) : Go.Sim.Spec P σ M o (.one (Rp.int k e')) := h ▸ hs
theorem spec_dig {T T' : TypeId} {x : Operand} {e : Int} (m : Nat) (h : o.op = .convert T T' x) (hT : ∃ d, P.underlying T = some d) (hu : P.underlying T' = some (.int .u8)) (hx : Get σ x (Rp.int .i64 e)) (he : e = 48 + m) :
    Go.Sim.Spec P σ M o (.one (Rp.int .u8 ((UInt8.ofNat (48 + m)).toNat : Int))) := by
  have := spec_conv (P := P) (M := M) h hu hT hx
  rw [show IntKind.u8.wrap e = ((UInt8.ofNat (48 + m)).toNat : Int) by
    rw [he, UInt8.toNat_ofNat', IntKind.wrap]
    simp only [IntKind.bits, IntKind.signed]
    simp] at this
  exact this
theorem str_is {l l' : List UInt8} (h : l = l') (hs : Go.Sim.Spec P σ M o (.one (Rp.str l))) : Go.Sim.Spec P σ M o (.one (Rp.str l')) := h ▸ hs
end
theorem quo10 (m : Nat) : Int.tdiv (-(m : Int)) 10 = -((m / 10 : Nat) : Int) := by
  rw [Int.neg_tdiv]; rfl
theorem rem10 (m : Nat) : Int.tmod (-(m : Int)) 10 = -((m % 10 : Nat) : Int) := by
  rw [Int.neg_tmod]; rfl
theorem fmtN_small {m : Nat} (h : m < 10) : fmt (m : Int) = [UInt8.ofNat (48 + m)] := by
  rw [fmt_small (by omega) (by omega)]; rfl
theorem fmtN_big {m : Nat} (h : ¬ m < 10) : fmt (m : Int) = fmt ((m / 10 : Nat) : Int) ++ [UInt8.ofNat (48 + m % 10)] := by
  rw [fmt_big (by omega)]; rfl
theorem cut59 (x : List UInt8) : List.take (((((x ++ [59]).length : Nat) : Int) - 1).toNat - 0) (List.drop 0 (x ++ [59])) = x := by
  have : ((((x ++ [59]).length : Nat) : Int) - 1).toNat - 0 = x.length := by simp
  rw [this]; simp
theorem join_next {l : List Int} {i : Nat} (h : 0 < i) : joinK l (i + 1) = joinK l i ++ [46] ++ fmt (l.getD i default) := by rw [joinK, if_pos h]
theorem join_first {l : List Int} {i : Nat} (h : ¬ 0 < i) : joinK l (i + 1) = joinK l i ++ fmt (l.getD i default) := by rw [joinK, if_neg h]
/-- How lists compare. -/
def cmpL : List Int → List Int → Int
  | [], [] => 0
  | [], _ :: _ => -1
  | _ :: _, [] => 1
  | x :: a, y :: b => if cmpI x y = 0 then cmpL a b else cmpI x y
theorem cmpI_zero {x y : Int} : cmpI x y = 0 ↔ x = y := by
  unfold cmpI; split
  · omega
  · split <;> omega
theorem cmpL_drop : ∀ {i : Nat} {a b : List Int}, (∀ j : Nat, j < i → j < b.length ∧ a.getD j default = b.getD j default) → i ≤ a.length → cmpL a b = cmpL (a.drop i) (b.drop i)
  | 0, _, _, _, _ => rfl
  | i + 1, [], _, _, h => by simp at h
  | i + 1, x :: a, [], h, _ => by have := (h 0 (by omega)).1; simp at this
  | i + 1, x :: a, y :: b, h, hi => by
    have h0 : x = y := (h 0 (by omega)).2
    rw [cmpL, if_pos (cmpI_zero.2 h0)]
    simp only [List.drop_succ_cons]
    exact cmpL_drop (fun j hj => by
      have := h (j + 1) (by omega)
      simpa using this) (by simpa using hi)
theorem drop_cons {a : List Int} {i : Nat} (h : i < a.length) : a.drop i = a.getD i default :: a.drop (i + 1) := by
  rw [List.drop_eq_getElem_cons h, List.getD, List.getElem?_eq_getElem h]; rfl
section
variable {a b : List Int} {i : Nat} (h : ∀ j : Nat, j < i → j < b.length ∧ a.getD j default = b.getD j default)
include h
theorem cmpL_long (h1 : i < a.length) (h2 : b.length ≤ i) : cmpL a b = 1 := by
  rw [cmpL_drop h (by omega), drop_cons h1, List.drop_eq_nil_of_le h2]; rfl
theorem cmpL_at (h1 : i < a.length) (h2 : i < b.length) (h3 : cmpI (a.getD i default) (b.getD i default) ≠ 0) : cmpL a b = cmpI (a.getD i default) (b.getD i default) := by
  rw [cmpL_drop h (by omega), drop_cons h1, drop_cons h2, cmpL, if_neg h3]
theorem cmpL_short (h1 : i = a.length) (h2 : a.length < b.length) : cmpL a b = -1 := by
  subst h1
  rw [cmpL_drop h (Nat.le_refl _), drop_cons h2, List.drop_length]; rfl
theorem cmpL_same (h1 : i = a.length) (h2 : b.length ≤ a.length) : cmpL a b = 0 := by
  subst h1
  rw [cmpL_drop h (Nat.le_refl _), List.drop_length, List.drop_eq_nil_of_le h2]; rfl
end
end Go.Proofs.YteannfdcbblooaaDoor
