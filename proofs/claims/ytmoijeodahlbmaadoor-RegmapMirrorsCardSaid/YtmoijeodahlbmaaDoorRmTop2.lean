/- The law of fields: its argument, opened. -/
import Derived.Test.YtmoijeodahlbmaaDoorRmW10
import Derived.Test.YtmoijeodahlbmaaDoorRmOpen
namespace Go.Proofs.YtmoijeodahlbmaaDoor
open Go.Sim Go.ChangeShapes Go.WideShapes
def acc4 (t : RMap × List UInt8 × List UInt8 × Int) : List Rp := accR t.1 t.2.1 t.2.2.1 t.2.2.2
theorem opens58 : Opens Tryd.prog 58 acc4 :=
  Opens.map (Opens.struct Tryd.underlying58 rfl (.cons (c := 2) rfl (by kernel_rfl) opens25 (.cons (c := 1) rfl (by kernel_rfl) (Opens.str Tryd.underlying9) (.cons (c := 1) rfl (by kernel_rfl) (Opens.str Tryd.underlying9) (.cons (c := 1) rfl (by kernel_rfl) (Opens.int Tryd.underlying3) .nil)))) (by kernel_rfl))
    fun ⟨m, a, b, v, _⟩ => ⟨(m, a, b, v), rfl⟩
end Go.Proofs.YtmoijeodahlbmaaDoor
