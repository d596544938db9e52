/- The arguments of the laws, opened. -/
import Derived.Test.YtlfnljpnoololaaSimH
import Derived.Test.YtlfnljpnoololaaDdTyp
namespace Go.Proofs.Ytlfnljpnoololaa
open Go.Sim
theorem opens24 : Opens Try.prog 24 shrinkR :=
  Opens.map (Opens.struct Try.underlying24 rfl (.cons (c := 1) rfl (by kernel_rfl) (Opens.slice (E := eI) (c := 1) Try.underlying22 (by kernel_rfl) (by decide) (fun _ => rfl) (Opens.int Try.underlying3)) (.cons (c := 1) rfl (by kernel_rfl) (Opens.int Try.underlying3)
    (.cons (c := 1) rfl (by kernel_rfl) (Opens.int Try.underlying3) (.cons (c := 1) rfl (by kernel_rfl) (Opens.int Try.underlying3) .nil)))) (by kernel_rfl)) fun ⟨l, p, t, u, _⟩ => ⟨⟨l, p, t, u⟩, rfl⟩
end Go.Proofs.Ytlfnljpnoololaa
