/- The statement's end where package variables are laid. -/
import Derived.Test.YtlbhpjigjehffaaDoorSimH
import Derived.Test.YtlbhpjigjehffaaDoorSimQ
namespace Go.Sim
open Go.ChangeShapes Go.WideShapes Go.ChangeAt Go.RowKit
/-- THE STATEMENT'S OWN END: a law that answers true for all arguments. -/
theorem law_postG {P : Program} {G : List MF} {f : FuncId} {fn : Func} {s : ChangeSpec} {tb : TypeId} {κ : Type} {A : κ → List Rp} (hlaid : laidOutB P = true) (hts' : (fn.params.toList.all fun t => P.readableRec t && decide (t < P.types.size)) = true)
    (hr : fn.resultTypes = #[tb]) (htb : P.underlying tb = some .bool) (hvars : s.vars = []) (hspec : ∀ (H : Type) (ds : List (DataW H)), ds.length = fn.params.toList.length → s.fn H ds = { results := [.lit (.bool true)], args := ds })
    (hopen : OpensA P fn.params.toList A) (hG0 : feet G = [])
    {H : Type} {enc : TypeId × Value → H} {W : World} {args : Array Value} {ds gs : List (DataW H)} {before : List MemPlace} {base : Nat}
    (hlaw : ∀ k, AllP (A k) W (old W) args.toList → CallT P f (A k) G (.one (Rp.bool true))) (hG : ∀ F ∈ G, F.p W (old W))
    (hval : ∀ (j : Nat) t v, fn.params[j]? = some t → args[j]? = some v → Value.okWide P W .any base t v)
    (hW : DataW.Whole enc P fn.params.toList s.vars false W args.toList ds gs before) :
    Calls P f args W fun e W' => ∃ v, e = .returned v ∧ s.post enc P fn false true false false W args v W' := by
  have hts : ∀ t ∈ fn.params.toList, P.readableRec t = true ∧ t < P.types.size := fun t ht => by
    have := List.all_eq_true.1 hts' t ht
    simpa using this
  have hW' := hW
  obtain ⟨p, q, hA, hV, rfl, hfz, _⟩ := hW
  rw [hvars] at hV
  obtain ⟨rfl, rfl⟩ := trodVars_none hV
  obtain ⟨hdl, k, hk⟩ := hopen enc W base args.toList ds p (fun j t v ht hv => hval j t v (by simpa using ht) (by simpa using hv)) hA
  refine (hlaw k hk W (old W) args hk ⟨hG, by rw [hG0]; simp, by rw [hG0]; simp, fun b hb => hb⟩).mono fun e W' ⟨i, v, C', he, heff, hv, _, _⟩ => ?_
  obtain rfl : v = .bool true := hv
  have hb : RowKit.Below W.heap.size W W' := ⟨heff.os, heff.tape, heff.output, heff.size, fun b hb => heff.keep b hb (by rw [hG0]; simp)⟩
  have hlt : ∀ x ∈ p, x.block < W.heap.size := fun x hx => hW'.lt x (by simp [hx])
  simp only [List.append_nil] at hW'
  refine ⟨_, he, ds, [], p, [], p, [], hW', ?_, ?_, ?_, hb.frame _, fun h => by cases h⟩
  · rw [List.append_nil, hspec H ds hdl, hr]
    exact ⟨[], [], ⟨1, by simp [DataW.trod, htb, Value.cells]⟩, rfl, rfl⟩
  · rw [List.append_nil, hspec H ds hdl]
    exact trodAll_grown hlaid (fun x hx => hb.same hx) hts hA hlt (fun x hx => by simpa using hlt x hx)
  · rw [List.append_nil, hspec H ds hdl, hvars]
    exact rfl

/-- A row of strings that reads as a list. -/
theorem opens_strs {P : Program} {H : Type} {enc : TypeId × Value → H} {w : World} {held : Bool} {fuel : Nat} {t e : TypeId} {cs : List Value} {ss : List (List UInt8)} {sp : List (DataW H)} {q : List MemPlace} (ht : P.underlying t = some (.slice e)) (he : P.underlying e = some .string) (hc : P.cellsOf e = 1) (hne : ss ≠ [])
    (h : DataW.trod enc P w 0 (fun _ => true) held fuel t cs = some (.slice (ss.map fun s => .lit (.string s)) sp, q)) : AllR [Rp.slice eS ss] w (old w) cs := by
  rcases Deep.open_slice1 ht hc h with ⟨_, hx⟩ | ⟨a, len, cap, m, n, V, D, Pl, rfl, _, hl, hm, hmm, hx, hV⟩
  · cases hx
  have hlm : len ≤ m := by simp at hmm; omega
  have hD : (List.range len).map D = ss.map fun s => DataW.lit (.string s) := by
    have := congrArg Prod.fst hx
    simp only [DataW.slice.injEq] at this
    exact this.1.symm
  have hlen : len = ss.length := by have := congrArg List.length hD; simpa using this
  subst hlen
  have hval : ∀ i, (hi : i < ss.length) → w.cell? (a.add i) = some (V i) ∧ (Rp.str (ss[i])).p w (old w) (V i) := fun i hi => by
    obtain ⟨h1, h2⟩ := hV i (by omega)
    obtain ⟨s, hs, hx2, hsz⟩ := DataW.trod_string he h2
    have e1 : V i = .string s := by simpa using hs
    have e2 : D i = .lit (.string s.data.toList) := by have := congrArg Prod.fst hx2; simpa using this
    have e3 : D i = .lit (.string ss[i]) := by
      have := congrArg (fun l => l[i]?) hD
      simpa [hi] using this
    have e4 : ss[i] = s.data.toList := by rw [e2] at e3; simpa using e3.symm
    refine ⟨h1, ?_, ?_⟩
    · rw [e1, e4]
    · rw [e4]
      have : s.data.toList.length = s.size := by cases s; simp [ByteArray.size]
      rw [this]; simpa [maxLen] using hsz
  have h0 : 0 < ss.length := List.length_pos_iff.2 hne
  have hc0 := (hval 0 h0).1
  have ha0 : a.add 0 = a := by simp [Addr.add]
  rw [ha0] at hc0
  unfold World.cell? at hc0
  cases hh : w.heap[a.block]? with
  | none => rw [hh] at hc0; cases hc0
  | some blk =>
    cases blk with
    | cells c T fr =>
      rw [hh] at hc0
      simp only at hc0
      have hsp : a.spot = none := by
        cases hs : a.spot with
        | none => rfl
        | some x => rw [hs] at hc0; simp at hc0
      have hadd : ∀ i, a.add i = ⟨a.block, a.off + i, none⟩ := fun i => by unfold Addr.add; split <;> (cases a; simp_all)
      have hcell : ∀ i, (hi : i < ss.length) → c[a.off + i]? = some (V i) := fun i hi => by
        have := (hval i hi).1
        rw [hadd] at this
        unfold World.cell? at this
        rw [show w.heap[(⟨a.block, a.off + i, none⟩ : Addr).block]? = some (.cells c T fr) from hh] at this
        simpa using this
      have hlast := (Array.getElem?_eq_some_iff.1 (hcell (ss.length - 1) (by omega))).1
      have hb : a.block < w.heap.size := (Array.getElem?_eq_some_iff.1 hh).1
      refine ⟨⟨⟨by simp [maxLen] at hm; omega, .inr ⟨a, cap, rfl, by omega, .inr ⟨hsp, hb, c, T, fr, hh, ?_⟩⟩⟩, trivial⟩, by simp [Value.oneCell']⟩
      rw [flatMap_len (n := 1) (fun _ => rfl)]
      refine allR_pieces (c := 1) (fun _ => rfl) _ _ ?_ ?_
      · have hs := Array.length_toList (xs := c)
        rw [List.length_take, List.length_drop, hs]; omega
      · intro i y hy
        obtain ⟨hi, rfl⟩ := List.getElem?_eq_some_iff.1 hy
        have hv := hcell i hi
        have htk : (((c.toList.drop a.off).take (ss.length * 1)).drop (i * 1)).take 1 = [V i] := by
          rw [Nat.mul_one, Nat.mul_one, List.drop_take, List.take_take, List.drop_drop, show min 1 (ss.length - i) = 1 by omega]
          have h2 : c.toList[a.off + i]? = some (V i) := by simpa using hv
          obtain ⟨h3, h4⟩ := List.getElem?_eq_some_iff.1 h2
          rw [List.drop_eq_getElem_cons h3, List.take_succ_cons, List.take_zero, h4]
        rw [htk]
        obtain ⟨hs1, hs2⟩ := (hval i hi).2
        exact ⟨⟨⟨hs1, hs2⟩, trivial⟩, by rw [hs1]; simp [Value.oneCell']⟩
    | _ => rw [hh] at hc0; cases hc0
end Go.Sim
