/- The results that the law of bits replaced compares. -/
import Derived.Test.YtdcmldlnhikbcaaDgE
import Derived.Test.YtdcmldlnhikbcaaDgF
namespace Go.Proofs.Ytdcmldlnhikbcaa
def fixes (l : List Node) (f lv : Int) : List One := [fixedD l f lv false, fixedD l f lv true, someD l f lv]
theorem fixes_out (l : List Node) (f lv : Int) (i : Nat) (hi : i < 3) : OutOk l ((fixes l f lv).getD i default) := by
  rcases i with _ | _ | _ | i
  · exact fixed_out _ _ _ _
  · exact fixed_out _ _ _ _
  · exact some_out _ _ _
  · omega
end Go.Proofs.Ytdcmldlnhikbcaa
