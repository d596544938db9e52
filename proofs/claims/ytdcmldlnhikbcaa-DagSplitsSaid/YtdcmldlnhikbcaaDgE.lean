/- What the laws of chapter 15 compare. -/
import Derived.Test.YtdcmldlnhikbcaaDgW5
namespace Go.Proofs.Ytdcmldlnhikbcaa
open Go.Sim

/-- A result that the laws accept. -/
def OutOk (l : List Node) (o : One) : Prop := if o.e = 0 then Good o.d ∧ l <+: o.d else o.d = [] ∧ o.f = 0
theorem done_out {l : List Node} {q : Bs × Int} {lv : Int} (h : Ext l q lv) : OutOk l (doneD q) := by
  unfold OutOk doneD
  cases hf : q.1.full with
  | true => simp
  | false => simp only [Bool.false_eq_true, if_false, if_true]; exact ⟨(h.good hf).1, h.pre⟩
theorem make_out (l : List Node) (n : Node) : OutOk l (makeD l n) := by
  unfold makeD; split
  · rename_i h; exact done_out (node_ext (s := ⟨l, false⟩) h.1 h.2)
  · simp [OutOk]
theorem apply_out (val : Val) (l : List Node) (t : Three) : OutOk l (applyD val l t) := by
  unfold applyD; split
  · rename_i h; exact done_out (T_ext (s := ⟨l, false⟩) (valid_good.1 h.1) rfl (ins3.1 h.2))
  · simp [OutOk]
theorem out_take {l : List Node} {d : List Node} (h : l <+: d) : (d.drop 0).take ((l.length : Int).toNat - 0) = l := by
  obtain ⟨R, rfl⟩ := h
  simp
theorem take_pre {l : List Node} {d : List Node} (h : l <+: d) : d.take l.length = l := by
  obtain ⟨R, rfl⟩ := h
  simp
def combos (l : List Node) (a b c : Int) : List One := [applyD notV l ⟨a, a, a⟩, applyD andV l ⟨a, b, b⟩, applyD orV l ⟨a, b, b⟩, applyD xorV l ⟨a, b, b⟩, applyD chooseV l ⟨a, b, c⟩]
theorem combos_out (l : List Node) (a b c : Int) (i : Nat) (hi : i < 5) : OutOk l ((combos l a b c).getD i default) := by
  rcases i with _ | _ | _ | _ | _ | i
  · exact apply_out _ _ _
  · exact apply_out _ _ _
  · exact apply_out _ _ _
  · exact apply_out _ _ _
  · exact apply_out _ _ _
  · omega
end Go.Proofs.Ytdcmldlnhikbcaa
