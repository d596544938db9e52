/- The arguments of the laws, opened. -/
import Derived.Test.YtcpkjpkjahgobaaSimH
import Derived.Test.YtcpkjpkjahgobaaCtI
namespace Go.Proofs.Ytcpkjpkjahgobaa
open Go.Sim
theorem opens50 : Opens Try.prog 50 eN :=
  Opens.map (Opens.struct Try.underlying50 rfl (.cons (c := 1) rfl (by kernel_rfl) (Opens.int Try.underlying3) (.cons (c := 1) rfl (by kernel_rfl) (Opens.int Try.underlying3) (.cons (c := 1) rfl (by kernel_rfl) (Opens.int Try.underlying3) .nil))) (by kernel_rfl))
    fun ⟨a, b, c, _⟩ => ⟨⟨a, b, c⟩, rfl⟩
theorem opens24 : Opens Try.prog 24 dagR :=
  Opens.map (Opens.struct Try.underlying24 rfl (.cons (c := 1) rfl (by kernel_rfl) (Opens.slice (E := eN) (c := 3) Try.underlying22 (by kernel_rfl) (by decide) (fun _ => rfl) opens50) .nil) (by kernel_rfl)) fun ⟨l, _⟩ => ⟨l, rfl⟩
def ask3 (t : List Node × Int × Int) : List Rp := askR t.1 t.2.1 t.2.2
theorem opens26 : Opens Try.prog 26 ask3 :=
  Opens.map (Opens.struct Try.underlying26 rfl (.cons (c := 1) rfl (by kernel_rfl) opens24 (.cons (c := 1) rfl (by kernel_rfl) (Opens.int Try.underlying3) (.cons (c := 1) rfl (by kernel_rfl) (Opens.int Try.underlying3) .nil))) (by kernel_rfl))
    fun ⟨l, f, n, _⟩ => ⟨(l, f, n), rfl⟩
end Go.Proofs.Ytcpkjpkjahgobaa
