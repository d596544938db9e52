/- The last laws: their arguments, opened. -/
import Derived.Test.YteannfdcbblooaaDoorSimH
import Derived.Test.YteannfdcbblooaaDoorThW9
import Derived.Test.YteannfdcbblooaaDoorThW10
import Derived.Test.YteannfdcbblooaaDoorThW11
namespace Go.Proofs.YteannfdcbblooaaDoor
open Go.Sim
theorem opens42 : Opens Tryd.prog 42 fun k : Int × Int => [Rp.int .u16 k.1, Rp.int .u16 k.2] :=
  Opens.map (Opens.array (E := fun n : Int => [Rp.int .u16 n]) (c := 1) (n := 2) Tryd.underlying42 (by kernel_rfl) (by kernel_rfl) (fun _ => rfl) (Opens.int Tryd.underlying41)) fun a => by
    obtain ⟨l, hl⟩ := a
    match l, hl with
    | [i, j], _ => exact ⟨(i, j), rfl⟩
theorem stable_law {n : Int} {s : List UInt8} {i j : Int} {W : World} {C : Nat → Prop} {vs : List Value} (hk : AllP [Rp.int .u64 n, Rp.str s, Rp.agg [Rp.int .u16 i, Rp.int .u16 j]] W C vs) (h : s.length ≤ 1048576) : CallT Tryd.prog 9 [Rp.int .u64 n, Rp.str s, Rp.agg [Rp.int .u16 i, Rp.int .u16 j]] [tabG] (.one (Rp.bool true)) := by
  match vs, hk with
  | [a, b, c], ⟨h1, _⟩ =>
    have q : InR .u64 n := h1.2
    simp only [InR] at q
    rw [← U_of q]
    exact ThreadStable_ok _ s i j h
end Go.Proofs.YteannfdcbblooaaDoor
