/- The chapter's examples. -/
import Derived.Test.YteannfdcbblooaaDoorThW7
namespace Go.Proofs.YteannfdcbblooaaDoor
open Go.Sim
theorem n02 : numsP [48, 46, 50] = ([0, 2], true) := by decide +kernel
theorem n0211 : numsP [48, 46, 50, 46, 49, 49] = ([0, 2, 11], true) := by decide +kernel
theorem n011 : numsP [48, 46, 49, 49] = ([0, 11], true) := by decide +kernel
theorem n021 : numsP [48, 46, 50, 49] = ([0, 21], true) := by decide +kernel
theorem fmt0 : fmt 0 = [48] := fmt_small (by decide) (by decide)
theorem fmt2 : fmt 2 = [50] := fmt_small (by decide) (by decide)
theorem fmt1 : fmt 1 = [49] := fmt_small (by decide) (by decide)
theorem fmt11 : fmt 11 = [49, 49] := by rw [fmt_big (by decide), show (11 : Int) / 10 = 1 by decide, fmt1]; rfl
theorem ex1 : childQ (numsP [48, 46, 50]) 11 = ([48, 46, 50, 46, 49, 49], 0) := by
  rw [n02, child_yes rfl (by decide) (by decide) (by decide)]
  simp [joinT, joinK, fmt0, fmt2, fmt11]
theorem ex2 : parentQ (numsP [48, 46, 50, 46, 49, 49]) = ([48, 46, 50], true) := by
  rw [n0211, parent_yes rfl (by decide)]
  simp [joinT, joinK, fmt0, fmt2]
theorem ex3 (x : B64) : streamQ x (numsP []) = (newR x, 0) := by
  rw [show numsP [] = ([], true) from rfl, stream_yes rfl]; rfl
theorem ex4 : lessQ (numsP [48, 46, 50]) (numsP [48, 46, 49, 49]) = true := by rw [n02, n011]; decide +kernel
theorem ex5 : aboveQ (numsP [48, 46, 50]) (numsP [48, 46, 50, 46, 49, 49]) = true := by rw [n02, n0211]; decide +kernel
theorem ex6 : aboveQ (numsP [48, 46, 50]) (numsP [48, 46, 50, 49]) = false := by rw [n02, n021]; decide +kernel
theorem ex7 : (numsP [48, 46]).2 = false := by decide +kernel
theorem ex8 : (numsP [48, 49]).2 = false := by decide +kernel
theorem ex9 : (numsP [49, 48, 52, 56, 53, 55, 54]).2 = false := by decide +kernel
theorem ex10 : depQ (numsP [48, 46, 50]) = 2 := by rw [n02]; rfl
end Go.Proofs.YteannfdcbblooaaDoor
