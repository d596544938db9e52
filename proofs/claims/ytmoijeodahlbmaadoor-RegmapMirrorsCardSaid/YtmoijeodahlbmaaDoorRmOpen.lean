/- The arguments of the laws, opened; the laid keywords. -/
import Derived.Test.YtmoijeodahlbmaaDoorSimV
import Derived.SizedLaws
import Derived.Test.YtmoijeodahlbmaaDoorRmB
import Derived.Test.YtmoijeodahlbmaaDoorRows
namespace Go.Proofs.YtmoijeodahlbmaaDoor
open Go.Sim Go.ChangeShapes Go.WideShapes
theorem opens51 : Opens Tryd.prog 51 eF :=
  Opens.map (Opens.struct Tryd.underlying51 rfl (.cons (c := 1) rfl (by kernel_rfl) (Opens.str Tryd.underlying9) (.cons (c := 1) rfl (by kernel_rfl) (Opens.int Tryd.underlying3) (.cons (c := 1) rfl (by kernel_rfl) (Opens.int Tryd.underlying3) (.cons (c := 1) rfl (by kernel_rfl) (Opens.int Tryd.underlying3) (.cons (c := 1) rfl (by kernel_rfl) (Opens.int Tryd.underlying3) .nil))))) (by kernel_rfl))
    fun ⟨a, b, c, d, e, _⟩ => ⟨⟨a, b, c, d, e⟩, rfl⟩
theorem opens49 : Opens Tryd.prog 49 eR :=
  Opens.map (Opens.struct Tryd.underlying49 rfl (.cons (c := 1) rfl (by kernel_rfl) (Opens.str Tryd.underlying9) (.cons (c := 1) rfl (by kernel_rfl) (Opens.int Tryd.underlying3) (.cons (c := 1) rfl (by kernel_rfl) (Opens.slice (E := eF) (c := 5) Tryd.underlying47 (by kernel_rfl) (by decide) (fun _ => rfl) opens51) .nil))) (by kernel_rfl))
    fun ⟨a, b, c, _⟩ => ⟨⟨a, b, c⟩, rfl⟩
theorem opens25 : Opens Tryd.prog 25 mR :=
  Opens.map (Opens.struct Tryd.underlying25 rfl (.cons (c := 1) rfl (by kernel_rfl) (Opens.slice (E := eR) (c := 3) Tryd.underlying22 (by kernel_rfl) (by decide) (fun _ => rfl) opens49) (.cons (c := 1) rfl (by kernel_rfl) (Opens.slice (E := eI) (c := 1) Tryd.underlying23 (by kernel_rfl) (by decide) (fun _ => rfl) (Opens.int Tryd.underlying3)) .nil)) (by kernel_rfl))
    fun ⟨a, b, _⟩ => ⟨⟨a, b⟩, rfl⟩
def kwDatum : DataW Unit := .slice (keywords.map fun s => .lit (.string s)) []
theorem kw_laid {W : World} (h : laidMetH Tryd.prog [("testbench/lexer.keywords", kwDatum)] W) : ∀ F ∈ [kwG], F.p W (old W) := fun F hF => by
  rw [List.mem_singleton.1 hF]
  exact glob_strs (ss := keywords) (sp := []) h (by kernel_rfl) (by kernel_rfl) (by kernel_rfl) Tryd.underlying96 Tryd.underlying9 (by kernel_rfl) (by decide)
/-- The values of a map that came in take no more room than is read. -/
theorem m_sized {H : Type} {enc : TypeId × Value → H} {W : World} {ts us : List TypeId} {args : List Value} {ds gs : List (DataW H)} {p : List MemPlace} {m : RMap} {Rs : List Rp} (hA : DataW.TrodAll enc Tryd.prog W 0 (fun _ => true) true (25 :: ts) args ds p)
    (hz : (DataW.weightsEach Tryd.prog (25 :: ts ++ us) (ds ++ gs)).all (· ≤ reachBytes) = true) (hk : AllP (Rp.agg (mR m) :: Rs) W (old W) args) : m.vals.length * 8 ≤ 140737488355328 := by
  obtain ⟨v, vs, d, ds', a, b, rfl, rfl, rfl, ⟨n, hn⟩, h2⟩ := trodAll_cons hA
  obtain ⟨⟨cs, rfl, hc⟩, _⟩ := hk
  match cs, hc.1 with
  | [c0, c1], ⟨k0, k1, _⟩ =>
    obtain ⟨y0, y1, n', hx, _, _, h4⟩ := trod_struct2 Tryd.underlying25 hn
    have h4' : DataW.trod enc Tryd.prog W 0 (fun _ => true) true n' 23 [c1] = some y1 := by
      have c23 : Tryd.prog.cellsOf 23 = 1 := by kernel_rfl
      dsimp only at h4
      rw [c23] at h4
      exact h4
    have c3 : Tryd.prog.cellsOf 3 = 1 := by kernel_rfl
    have b3 : Tryd.prog.bytesOf 3 = 8 := by kernel_rfl
    obtain ⟨_, hv⟩ := k1
    rcases Deep.open_slice1 Tryd.underlying23 c3 h4' with ⟨e, _⟩ | ⟨ad, len, cap, mm, n2, V, D, Pl, e, _, _, _, _, hy, _⟩
    · have e : c1 = .slice none 0 0 := by simpa using e
      rcases hv with ⟨_, hnil⟩ | ⟨ad, cap, hv, _⟩
      · rw [hnil]; simp
      · rw [e] at hv; cases hv
    · have e : c1 = .slice (some ad) len cap := by simpa using e
      have hlen : m.vals.length = len := by
        rcases hv with ⟨hv, _⟩ | ⟨ad', cap', hv, _⟩
        · rw [e] at hv; cases hv
        · rw [e] at hv; cases hv; rfl
      have hd : d = .agg [y0.1, y1.1] := by have := congrArg Prod.fst hx; simpa using this
      have hw : (len + (mm - len)) * Tryd.prog.bytesOf 3 ∈ DataW.weights Tryd.prog 25 d := by
        rw [hd]
        simp only [DataW.weights, Tryd.underlying25]
        refine DataW.weights_mem_each (j := 1) (t := 23) (d := y1.1) rfl rfl _ ?_
        rw [hy]
        simp only [DataW.weights, Tryd.underlying23, List.length_map, List.length_range]
        first | exact List.mem_cons_self | done
      have h9 : (len + (mm - len)) * 8 ≤ reachBytes := by
        have := List.all_eq_true.1 hz _ (DataW.weights_mem_each (j := 0) (t := 25) (d := d) rfl rfl _ hw)
        rw [b3] at this
        exact of_decide_eq_true this
      unfold reachBytes at h9
      rw [hlen]; omega
end Go.Proofs.YtmoijeodahlbmaaDoor
