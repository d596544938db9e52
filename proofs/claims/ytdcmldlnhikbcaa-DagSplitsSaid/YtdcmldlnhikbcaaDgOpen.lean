/- The arguments of the laws, opened. -/
import Derived.Test.YtdcmldlnhikbcaaSimH
import Derived.Test.YtdcmldlnhikbcaaDgTyp
namespace Go.Proofs.Ytdcmldlnhikbcaa
open Go.Sim
theorem opens26 : Opens Try.prog 26 eN :=
  Opens.map (Opens.struct Try.underlying26 rfl (.cons (c := 1) rfl (by kernel_rfl) (Opens.int Try.underlying3) (.cons (c := 1) rfl (by kernel_rfl) (Opens.int Try.underlying3) (.cons (c := 1) rfl (by kernel_rfl) (Opens.int Try.underlying3) .nil))) (by kernel_rfl))
    fun ⟨a, b, c, _⟩ => ⟨⟨a, b, c⟩, rfl⟩
theorem opens24 : Opens Try.prog 24 dagR :=
  Opens.map (Opens.struct Try.underlying24 rfl (.cons (c := 1) rfl (by kernel_rfl) (Opens.slice (E := eN) (c := 3) Try.underlying22 (by kernel_rfl) (by decide) (fun _ => rfl) opens26) .nil) (by kernel_rfl)) fun ⟨l, _⟩ => ⟨l, rfl⟩
def r3 (t : Int × Int × Int) : List Rp := [Rp.int .i64 t.1, Rp.int .i64 t.2.1, Rp.int .i64 t.2.2]
def r2 (t : Int × Int) : List Rp := [Rp.int .i64 t.1, Rp.int .i64 t.2]
theorem opens44 : Opens Try.prog 44 r3 :=
  Opens.map (Opens.array (E := eI) (n := 3) (c := 1) Try.underlying44 (by kernel_rfl) (by kernel_rfl) (fun _ => rfl) (Opens.int Try.underlying3)) fun ⟨l, h⟩ => by
    match l, h with
    | [a, b, c], _ => exact ⟨(a, b, c), rfl⟩
theorem opens54 : Opens Try.prog 54 r2 :=
  Opens.map (Opens.array (E := eI) (n := 2) (c := 1) Try.underlying54 (by kernel_rfl) (by kernel_rfl) (fun _ => rfl) (Opens.int Try.underlying3)) fun ⟨l, h⟩ => by
    match l, h with
    | [a, b], _ => exact ⟨(a, b), rfl⟩
end Go.Proofs.Ytdcmldlnhikbcaa
