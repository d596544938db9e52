/- The arguments of the laws, opened; the laid keywords. -/
import Derived.Test.YtlbhpjigjehffaaDoorSimV
import Derived.Test.YtlbhpjigjehffaaDoorSimR
import Derived.Test.YtlbhpjigjehffaaDoorSimH
import Derived.SizedLaws
import Derived.Test.YtlbhpjigjehffaaDoorSdA
import Derived.Test.YtlbhpjigjehffaaDoorRows
namespace Go.Proofs.YtlbhpjigjehffaaDoor
open Go.Sim Go.ChangeShapes Go.WideShapes
theorem opens28 : Opens Tryd.prog 28 eJ :=
  Opens.map (Opens.struct Tryd.underlying28 rfl (.cons (c := 1) rfl (by kernel_rfl) (Opens.str Tryd.underlying9) (.cons (c := 1) rfl (by kernel_rfl) (Opens.str Tryd.underlying9) (.cons (c := 1) rfl (by kernel_rfl) (Opens.int Tryd.underlying26) (.cons (c := 1) rfl (by kernel_rfl) (Opens.int Tryd.underlying3) (.cons (c := 1) rfl (by kernel_rfl) (Opens.int Tryd.underlying3) .nil))))) (by kernel_rfl))
    fun ⟨a, b, c, d, e, _⟩ => ⟨⟨a, b, c, d, e⟩, rfl⟩
theorem opens22 : OpensV Tryd.prog 22 (Rp.slice eJ) := OpensV.one (Opens.slice (E := eJ) (c := 5) Tryd.underlying22 (by kernel_rfl) (by decide) (fun _ => rfl) opens28) (cells_slice Tryd.underlying22)
theorem opens34 : OpensV Tryd.prog 34 (Rp.slice eII) := OpensV.one (Opens.slice (E := eII) (c := 1) Tryd.underlying34 (by kernel_rfl) (by decide) (fun _ => rfl) (Opens.slice (E := eI) (c := 1) Tryd.underlying32 (by kernel_rfl) (by decide) (fun _ => rfl) (Opens.int Tryd.underlying3))) (cells_slice Tryd.underlying34)
def kwDatum : DataW Unit := .slice (keywords.map fun s => .lit (.string s)) []
theorem kw_laid {W : World} (h : laidMetH Tryd.prog [("testbench/lexer.keywords", kwDatum)] W) : ∀ F ∈ [kwG], F.p W (old W) := fun F hF => by
  rw [List.mem_singleton.1 hF]
  exact glob_strs (ss := keywords) (sp := []) h (by kernel_rfl) (by kernel_rfl) (by kernel_rfl) Tryd.underlying65 Tryd.underlying9 (by kernel_rfl) (by decide)
theorem weightsAll_mem {H : Type} {P : Program} {e : TypeId} {x : Nat} {d : DataW H} : ∀ {l : List (DataW H)}, d ∈ l → x ∈ DataW.weights P e d → x ∈ DataW.weightsAll P e l
  | y :: r, h, hx => by
    simp only [DataW.weightsAll]
    rcases List.mem_cons.1 h with rfl | h
    · exact List.mem_append_left _ hx
    · exact List.mem_append_right _ (weightsAll_mem h hx)
/-- The rows of a plan that came in take no more room than is read. -/
theorem p_sized {H : Type} {enc : TypeId × Value → H} {W : World} {us : List TypeId} {args : List Value} {ds gs : List (DataW H)} {q : List MemPlace} {R0 : Rp} {p : List (List Int)} (hA : DataW.TrodAll enc Tryd.prog W 0 (fun _ => true) true [22, 34] args ds q)
    (hz : (DataW.weightsEach Tryd.prog ([22, 34] ++ us) (ds ++ gs)).all (· ≤ reachBytes) = true) (hk : AllP [R0, Rp.slice eII p] W (old W) args) (i : Nat) : (p.getD i default).length ≤ 17592186044416 := by
  obtain ⟨v0, vs0, d0, ds0, a0, b0, rfl, rfl, rfl, _, h2⟩ := trodAll_cons hA
  obtain ⟨v, vs, d, ds', a, b, rfl, rfl, rfl, ⟨n, hn⟩, h3⟩ := trodAll_cons h2
  obtain ⟨_, ⟨hpl, hv⟩, _⟩ := hk
  by_cases hi : i < p.length
  case neg =>
    have : p.getD i default = [] := by rw [List.getD, List.getElem?_eq_none (by omega)]; rfl
    rw [this]; exact Nat.zero_le _
  have c32 : Tryd.prog.cellsOf 32 = 1 := by kernel_rfl
  have c3 : Tryd.prog.cellsOf 3 = 1 := by kernel_rfl
  have b3 : Tryd.prog.bytesOf 3 = 8 := by kernel_rfl
  rcases hv with ⟨_, hnil⟩ | ⟨ad', cap', rfl, hcap, hrow⟩
  · rw [hnil] at hi; cases hi
  have hn' : DataW.trod enc Tryd.prog W 0 (fun _ => true) true n 34 [Value.slice (some ad') p.length cap'] = some (d, a) := hn
  rcases Deep.open_slice1 Tryd.underlying34 c32 hn' with ⟨e, _⟩ | ⟨ad, len, cap, mm, n2, V, D, Pl, e, _, hl, hm, hmm, hx, hV⟩
  · simp at e
  have hlen : len = p.length := by simp at e; omega
  have had : ad = ad' := by simp at e; exact e.1.symm
  subst hlen had
  rcases hrow with rfl | ⟨hsp, _, cs, T0, fr, hcs, hAR⟩
  · cases hi
  have hlm : p.length ≤ mm := by simp at hmm; omega
  have hiv := hV i (by omega)
  have hpi : p[i]? = some (p.getD i default) := by rw [List.getD, List.getElem?_eq_getElem hi]; rfl
  obtain ⟨u, hu, hR⟩ := hAR.1.get i (R := Rp.slice eI (p.getD i default)) (by
    have hfl : ∀ (l : List (List Int)) (j : Nat) (r : List Int), l[j]? = some r → (l.flatMap eII)[j]? = some (Rp.slice eI r) := by
      intro l
      induction l with
      | nil => intro j r h; simp at h
      | cons x l ih =>
        intro j r h
        cases j with
        | zero => simp at h; subst h; rfl
        | succ j => exact ih j r (by simpa using h)
    exact hfl p i _ hpi)
  have huV : u = V i := by
    have h4 := hiv.1
    have e2 : ad.add i = ⟨ad.block, ad.off + i, none⟩ := by unfold Addr.add; cases ad; simp_all
    rw [e2] at h4
    simp only [World.cell?, hcs] at h4
    have hu' : cs[ad.off + i]? = some u := by
      rw [List.getElem?_take] at hu
      split at hu
      · rw [List.getElem?_drop] at hu; simpa using hu
      · cases hu
    have h5 : cs[ad.off + i]? = some (V i) := by simpa using h4
    rw [hu'] at h5; exact Option.some.inj h5
  subst huV
  obtain ⟨hrl, hr⟩ := hR
  rcases hr with ⟨_, hnil⟩ | ⟨ad2, cap2, hVe, _, _⟩
  · rw [hnil]; exact Nat.zero_le _
  have hiv2 := hiv.2
  rw [hVe] at hiv2
  rcases Deep.open_slice1 Tryd.underlying32 c3 hiv2 with ⟨e, _⟩ | ⟨ad3, len3, cap3, m3, n3, V3, D3, P3, e3, _, _, _, _, hy, _⟩
  · simp at e
  have hlen3 : len3 = (p.getD i default).length := (Value.slice.inj (List.cons.inj e3).1).2.1.symm
  have hd : d = .slice ((List.range p.length).map D) ((List.range (mm - p.length)).map fun j => D (p.length + j)) ∨ ∃ sp, d = .slice ((List.range p.length).map D) sp := by
    right
    exact ⟨_, congrArg Prod.fst hx⟩
  obtain ⟨sp, hd⟩ : ∃ sp, d = .slice ((List.range p.length).map D) sp := hd.elim (fun h => ⟨_, h⟩) id
  have hDi : ∃ sp, D i = .slice ((List.range len3).map D3) sp := ⟨_, congrArg Prod.fst hy⟩
  obtain ⟨sp3, hDi⟩ := hDi
  have hw : (len3 + sp3.length) * 8 ∈ DataW.weights Tryd.prog 34 d := by
    rw [hd]
    simp only [DataW.weights, Tryd.underlying34]
    refine List.mem_cons_of_mem _ (List.mem_append_left _ (weightsAll_mem (d := D i) (List.mem_map.2 ⟨i, List.mem_range.2 hi, rfl⟩) ?_))
    rw [hDi]
    simp only [DataW.weights, Tryd.underlying32, List.length_map, List.length_range, b3]
    exact List.mem_cons_self
  have h9 : (len3 + sp3.length) * 8 ≤ reachBytes := by
    have := List.all_eq_true.1 hz _ (DataW.weights_mem_each (j := 1) (t := 34) (d := d) rfl rfl _ hw)
    exact of_decide_eq_true this
  unfold reachBytes at h9
  omega
end Go.Proofs.YtlbhpjigjehffaaDoor
