/- The two laws of splitting. -/
import Derived.Test.YtdcmldlnhikbcaaDgK
namespace Go.Proofs.Ytdcmldlnhikbcaa
open Go.Sim
/-- A function is the choice between its two halves. -/
theorem split_found {l d1 d2 d3 : List Node} {a lv f1 f2 f3 : Int} {m1 m2 m3 : Nat} (hg : Good l) (ha : okNode l a) (_h0 : 0 ≤ lv) (_h20 : lv < 20) (R1 : Is l (fun β => eb l (setB β lv true) a) m1 d1 f1) (R2 : Is d1 (fun β => eb l (setB β lv false) a) m2 d2 f2) (R3 : Is d2 (fun β => β lv) m3 d3 f3) (p2 : l <+: d2) :
    applyD chooseV d3 ⟨f3, f1, f2⟩ = ⟨d3, a, 0⟩ := by
  have p13 : d1 <+: d3 := R2.pre.trans R3.pre
  refine found_res R3.good ⟨R3.ok, ok_prefix p13 R1.ok, ok_prefix R3.pre R2.ok⟩ (ok_prefix (p2.trans R3.pre) ha) fun β => ?_
  show _ = chooseV (eb d3 β f3) (eb d3 β f1) (eb d3 β f2)
  rw [R3.sem, eb_pre R1.good R3.good p13 R1.ok, R1.sem, eb_pre R2.good R3.good R3.pre R2.ok, R2.sem, eb_pre hg R3.good (p2.trans R3.pre) ha]
  have e : ∀ b, β lv = b → setB β lv b = β := fun b hb => by funext x; unfold setB; split <;> simp_all
  cases hb : β lv with
  | true => rw [e true hb]; simp [chooseV]
  | false => rw [e false hb]; simp [chooseV]
/-- A disjunction is the negation of the conjunction of the negations. -/
theorem morgan {l L d5 d7 d8 : List Node} {a b f5 f8 : Int} {m5 m8 : Nat} (R5 : Is L (fun β => orV (eb l β a) (eb l β b) (eb l β b)) m5 d5 f5) (R8 : Is d7 (fun β => !eb l β a && !eb l β b) m8 d8 f8) (p57 : d5 <+: d7) : applyD notV d8 ⟨f8, f8, f8⟩ = ⟨d8, f5, 0⟩ := by
  have p58 : d5 <+: d8 := p57.trans R8.pre
  refine found_res R8.good ⟨R8.ok, R8.ok, R8.ok⟩ (ok_prefix p58 R5.ok) fun β => ?_
  show _ = !eb d8 β f8
  rw [R8.sem, eb_pre R5.good R8.good p58 R5.ok, R5.sem]
  unfold orV
  cases eb l β a <;> cases eb l β b <;> rfl
end Go.Proofs.Ytdcmldlnhikbcaa
