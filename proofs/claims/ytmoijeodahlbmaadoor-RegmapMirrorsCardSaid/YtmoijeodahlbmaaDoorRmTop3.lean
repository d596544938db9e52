/- The law of mirrors: its arguments, opened. -/
import Derived.Test.YtmoijeodahlbmaaDoorRmW13
import Derived.Test.YtmoijeodahlbmaaDoorRmTop2
namespace Go.Proofs.YtmoijeodahlbmaaDoor
open Go.Sim Go.ChangeShapes Go.WideShapes
theorem opens37 : Opens Tryd.prog 37 eSt :=
  Opens.map (Opens.struct Tryd.underlying37 rfl (.cons (c := 1) rfl (by kernel_rfl) (Opens.int Tryd.underlying3) (.cons (c := 1) rfl (by kernel_rfl) (Opens.int Tryd.underlying3) (.cons (c := 1) rfl (by kernel_rfl) (Opens.int Tryd.underlying3) .nil))) (by kernel_rfl))
    fun ⟨a, b, c, _⟩ => ⟨⟨a, b, c⟩, rfl⟩
end Go.Proofs.YtmoijeodahlbmaaDoor
