/- The chapter's example. -/
import Derived.Test.YtlbhpjigjehffaaDoorSdW6
import Derived.Test.YtlbhpjigjehffaaDoorSdW11
namespace Go.Proofs.YtlbhpjigjehffaaDoor
open Go.Sim
def exC : List Int := [3, 5, 4, 2]
def exJ (c : Int) : Jb := ⟨[116], [100], 0, 0, c⟩
def exL : List Jb := exC.map exJ
def ex4 : List Rp := [Rp.int .i64 3, Rp.int .i64 5, Rp.int .i64 4, Rp.int .i64 2]
theorem ex4_at {i : Nat} (h : i < 4) : ex4[i]? = some (Rp.int .i64 (exC.getD i default)) := by
  match i, h with
  | 0, _ => rfl
  | 1, _ => rfl
  | 2, _ => rfl
  | 3, _ => rfl
theorem exL_take {i : Nat} (h : i < 4) : exL.take (i + 1) = exL.take i ++ [exJ (exC.getD i default)] := by
  match i, h with
  | 0, _ => rfl
  | 1, _ => rfl
  | 2, _ => rfl
  | 3, _ => rfl
theorem exL_len (i : Nat) (h : i ≤ 4) : (exL.take i).length = i := by simp [exL, exC]; omega
theorem exE0 : nameB [116] = true := by decide +kernel
theorem exE1 : nameB [100] = true := by decide +kernel
theorem exV : validJ (exL.getD 0 default) = true := by decide +kernel
theorem exA : assignE exL 2 = ([[1, 3], [2, 0]], 0) := by decide +kernel
theorem exS : spanE exL [[1, 3], [2, 0]] = (7, 0) := by decide +kernel
theorem exB : boundE exL 2 = (7, 0) := by decide +kernel
theorem exN : nextE exL = (1, true) := by decide +kernel
end Go.Proofs.YtlbhpjigjehffaaDoor
