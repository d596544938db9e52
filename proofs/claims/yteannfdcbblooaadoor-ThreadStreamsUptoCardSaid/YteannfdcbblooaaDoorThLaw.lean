/- The law of streams, for a number that came in. -/
import Derived.Test.YteannfdcbblooaaDoorThW8
namespace Go.Proofs.YteannfdcbblooaaDoor
open Go.Sim
theorem streams_law {n : Int} {s : List UInt8} {W : World} {C : Nat → Prop} {vs : List Value} (hk : AllP [Rp.int .u64 n, Rp.str s] W C vs) (h : s.length ≤ 1048576) : CallT Tryd.prog 6 [Rp.int .u64 n, Rp.str s] [tabG] (.one (Rp.bool true)) := by
  match vs, hk with
  | [a, b], ⟨h1, _⟩ =>
    have q : InR .u64 n := h1.2
    simp only [InR] at q
    rw [← U_of q]
    exact ThreadStreams_ok _ s h
end Go.Proofs.YteannfdcbblooaaDoor
