/- From a row's reading to a contract: every argument opened, and the statement's own end. -/
import Derived.Test.YtlbhpjigjehffaaDoorSimG
import Derived.ProofKit
import Derived.OpenShut
import Derived.JoinedCond
import Derived.Deep.Slices
namespace Go.Sim
open Go.ChangeShapes Go.WideShapes

/-- What is there when the call begins. -/
def old (W : World) : Nat → Prop := fun b => b < W.heap.size

/-- The cells that the reading takes at type t are those of some datum. -/
def Opens (P : Program) (t : TypeId) {α : Type} (R : α → List Rp) : Prop :=
  ∀ {H : Type} (enc : TypeId × Value → H) (w : World) (fuel : Nat) (cs : List Value) (x : DataW H × List MemPlace),
    DataW.trod enc P w 0 (fun _ => true) true fuel t cs = some x → ∃ a, AllR (R a) w (old w) cs

section
variable {P : Program} {t : TypeId}

theorem Opens.int {k : IntKind} (ht : P.underlying t = some (.int k)) : Opens P t fun i : Int => [Rp.int k i] := by
  intro H enc w fuel cs x h
  obtain ⟨n, rfl, _, hw⟩ := DataW.trod_int ht h
  refine ⟨n, ⟨⟨rfl, ?_⟩, trivial⟩, by simp [Value.oneCell']⟩
  cases k <;> simp [Lit.wf, IntKind.min, IntKind.max, IntKind.signed, IntKind.bits] at hw <;> simp only [InR] <;> omega
theorem Opens.bool (ht : P.underlying t = some .bool) : Opens P t fun b : Bool => [Rp.bool b] := by
  intro H enc w fuel cs x h
  obtain ⟨n, rfl, _⟩ := DataW.trod_bool ht h
  exact ⟨n, ⟨rfl, trivial⟩, by simp [Value.oneCell']⟩
theorem Opens.str (ht : P.underlying t = some .string) : Opens P t fun l : List UInt8 => [Rp.str l] := by
  intro H enc w fuel cs x h
  obtain ⟨s, rfl, _, hs⟩ := DataW.trod_string ht h
  refine ⟨s.data.toList, ⟨⟨by cases s; simp, ?_⟩, trivial⟩, by simp [Value.oneCell']⟩
  have : s.data.toList.length = s.size := by cases s; simp [ByteArray.size]
  rw [this]; simpa [maxLen] using hs

theorem choose_list {α : Type} {p : Nat → α → Prop} : ∀ (n : Nat), (∀ i, i < n → ∃ a, p i a) → ∃ l : List α, l.length = n ∧ ∀ i a, l[i]? = some a → p i a
  | 0, _ => ⟨[], rfl, fun i a h => by simp at h⟩
  | n + 1, h => by
    obtain ⟨l, hl, hp⟩ := choose_list n fun i hi => h i (by omega)
    obtain ⟨a, ha⟩ := h n (by omega)
    refine ⟨l ++ [a], by simp [hl], fun i b hb => ?_⟩
    rw [List.getElem?_append] at hb
    split at hb
    · exact hp i b hb
    · rename_i hge
      have : i = l.length := by
        rcases Nat.lt_or_ge (i - l.length) 1 with h | h
        · omega
        · rw [List.getElem?_eq_none (by simpa using h)] at hb; cases hb
      subst this
      simp at hb; subst hb; rw [hl]; exact ha

/-- A row put together from its pieces. -/
theorem allR_pieces {α : Type} {R : α → List Rp} {c : Nat} (hR : ∀ a, (R a).length = c) {w : World} {C : Nat → Prop} : ∀ (l : List α) (cs : List Value), cs.length = l.length * c →
    (∀ i a, l[i]? = some a → AllR (R a) w C ((cs.drop (i * c)).take c)) → AllR (l.flatMap R) w C cs
  | [], cs, hl, _ => by
    have : cs = [] := List.eq_nil_of_length_eq_zero (by simpa using hl)
    subst this; exact ⟨trivial, by simp⟩
  | a :: l, cs, hl, h => by
    have h0 := h 0 a rfl
    rw [Nat.zero_mul, List.drop_zero] at h0
    have hr := allR_pieces hR l (cs.drop c) (by rw [List.length_drop, hl, List.length_cons, Nat.add_mul]; omega) fun i b hb => by
      have := h (i + 1) b (by simpa using hb)
      rw [List.drop_drop]
      rw [Nat.add_mul, Nat.one_mul] at this
      rw [Nat.add_comm c]; exact this
    have := h0.append hr
    rw [List.take_append_drop] at this
    exact this

theorem allR_cells {w : World} {a : Addr} {n : Nat} {cs : List Value} {C : Nat → Prop} {Rs : List Rp} (hc : w.cells? 0 a n = some cs) (_ : AllR Rs w C cs) (hn : 0 < n) :
    a.spot = none ∧ a.block < w.heap.size ∧ ∃ cells T fr, w.heap[a.block]? = some (.cells cells T fr) ∧ a.off + n ≤ cells.size ∧ (cells.toList.drop a.off).take n = cs := by
  obtain ⟨_, hl, hall⟩ := World.cells?_some hc
  have hb := World.cells?_block hc hn
  have h0 := hall 0 hn
  have hsome : ∀ i, i < n → ∃ v, cs[i]? = some v := fun i hi => ⟨cs[i]'(by omega), List.getElem?_eq_getElem (by omega)⟩
  obtain ⟨v0, hv0⟩ := hsome 0 hn
  rw [hv0] at h0
  unfold World.cell? at h0
  have hblk : (a.add 0).block = a.block := by unfold Addr.add; split <;> rfl
  rw [hblk] at h0
  split at h0
  · rename_i cells T fr hh
    have hspot : a.spot = none := by
      cases hs : a.spot with
      | none => rfl
      | some s =>
        rw [if_pos (by unfold Addr.add; split <;> simp_all)] at h0
        cases h0
    have hadd : ∀ i, a.add i = ⟨a.block, a.off + i, none⟩ := fun i => by unfold Addr.add; split <;> (cases a; simp_all)
    have hcell : ∀ i, i < n → cells[a.off + i]? = cs[i]? := fun i hi => by
      have := hall i hi
      rw [hadd] at this
      simpa [World.cell?, hh] using this
    refine ⟨hspot, hb, cells, T, fr, hh, ?_, ?_⟩
    · obtain ⟨v, hv⟩ := hsome (n - 1) (by omega)
      have h1 := hcell (n - 1) (by omega)
      rw [hv] at h1
      have := (Array.getElem?_eq_some_iff.1 h1).1
      omega
    · apply List.ext_getElem?
      intro i
      rw [List.getElem?_take]
      split
      · rename_i hi
        rw [List.getElem?_drop, Array.getElem?_toList]
        exact hcell i hi
      · rw [List.getElem?_eq_none (by omega)]
  · cases h0

theorem Opens.slice {α : Type} {e : TypeId} {E : α → List Rp} {c : Nat} (ht : P.underlying t = some (.slice e)) (hc : P.cellsOf e = c) (hpos : 0 < c) (hE : ∀ x, (E x).length = c) (he : Opens P e E) :
    Opens P t fun l : List α => [Rp.slice E l] := by
  intro H enc w fuel cs x h
  rcases Deep.open_slice ht h with ⟨rfl, _⟩ | ⟨a, len, cap, m, n, D, Pl, rfl, _, hl, hm, hmm, _, hx⟩
  · exact ⟨[], ⟨⟨by simp, .inl ⟨rfl, rfl⟩⟩, trivial⟩, by simp [Value.oneCell']⟩
  rw [hc] at hx
  have hlm : len ≤ m := by simp at hmm; omega
  have hgo : ∀ i, i < len → ∃ y, ∃ cs', w.cells? 0 (a.add (i * c)) c = some cs' ∧ AllR (E y) w (old w) cs' := fun i hi => by
    obtain ⟨cs', h1, h2⟩ := hx i (by omega)
    obtain ⟨y, hy⟩ := he enc w n cs' _ h2
    exact ⟨y, cs', h1, hy⟩
  obtain ⟨l, hll, hp⟩ := choose_list len hgo
  refine ⟨l, ⟨⟨by rw [hll]; simp [maxLen] at hm; omega, .inr ⟨a, cap, by rw [hll], by omega, ?_⟩⟩, trivial⟩, by simp [Value.oneCell']⟩
  rcases l with _ | ⟨y0, l'⟩
  · exact .inl rfl
  refine .inr ?_
  obtain ⟨cs0, h1, h2⟩ := hp 0 y0 rfl
  have hadd0 : a.add (0 * c) = a := by simp [Addr.add]
  rw [hadd0] at h1
  obtain ⟨hsp, hb, cells, T, fr, hh, _, _⟩ := allR_cells h1 h2 hpos
  refine ⟨hsp, hb, cells, T, fr, hh, ?_⟩
  rw [flatMap_len hE]
  have hpiece : ∀ i y, (y0 :: l')[i]? = some y → a.off + i * c + c ≤ cells.size ∧ ∃ cs', (cells.toList.drop (a.off + i * c)).take c = cs' ∧ AllR (E y) w (old w) cs' := fun i y hy => by
    obtain ⟨cs', h3, h4⟩ := hp i y hy
    have hadd : a.add (i * c) = ⟨a.block, a.off + i * c, none⟩ := by unfold Addr.add; split <;> (cases a; simp_all)
    rw [hadd] at h3
    obtain ⟨_, _, cells2, T2, fr2, hh2, hle, htk⟩ := allR_cells h3 h4 hpos
    simp only at hh2 hle htk
    rw [hh] at hh2
    obtain ⟨rfl, rfl, rfl⟩ : cells = cells2 ∧ T = T2 ∧ fr = fr2 := by cases hh2; exact ⟨rfl, rfl, rfl⟩
    exact ⟨hle, cs', htk, h4⟩
  refine allR_pieces hE _ _ ?_ ?_
  · have hlast := (hpiece ((y0 :: l').length - 1) ((y0 :: l')[(y0 :: l').length - 1]'(by simp)) (List.getElem?_eq_getElem _)).1
    have : ((y0 :: l').length - 1) * c + c = (y0 :: l').length * c := by
      rw [← Nat.succ_mul]; simp
    have hcl : cells.toList.length = cells.size := Array.length_toList
    rw [List.length_take, List.length_drop]
    omega
  · intro i y hy
    obtain ⟨_, cs', htk, h4⟩ := hpiece i y hy
    have hi : i < (y0 :: l').length := (List.getElem?_eq_some_iff.1 hy).1
    rw [List.drop_take, List.take_take, List.drop_drop]
    have : min c ((y0 :: l').length * c - i * c) = c := by
      have : (i + 1) * c ≤ (y0 :: l').length * c := Nat.mul_le_mul_right _ hi
      rw [Nat.add_mul] at this
      omega
    rw [this, htk]
    exact h4

/-- The fields of a struct. -/
inductive Flds (P : Program) : List Field → Nat → {α : Type} → (α → List Rp) → Prop
  | nil {k : Nat} : Flds P [] k (fun _ : Unit => [])
  | cons {f : Field} {fs : List Field} {k c : Nat} {α β : Type} {R : α → List Rp} {Rs : β → List Rp} (ho : f.offset = k) (hc : P.cellsOf f.type = c) (h : Opens P f.type R) (hs : Flds P fs (k + c) Rs) :
      Flds P (f :: fs) k (fun g : α × β => R g.1 ++ Rs g.2)

theorem Flds.opens {H : Type} {enc : TypeId × Value → H} {w : World} {n : Nat} {cs : List Value} {fs : List Field} {k : Nat} {α : Type} {R : α → List Rp} (h : Flds P fs k R) :
    (∀ (i : Nat) (f : Field), fs[i]? = some f → ∃ x, DataW.trod enc P w 0 (fun _ => true) true n f.type ((cs.drop f.offset).take (P.cellsOf f.type)) = some x) → cs.length = k + (fs.map fun f => P.cellsOf f.type).sum →
    ∃ a, AllR (R a) w (old w) (cs.drop k) := by
  induction h with
  | nil =>
    intro _ hl
    refine ⟨(), ?_⟩
    rw [List.drop_of_length_le (by simp at hl; omega)]
    exact ⟨trivial, by simp⟩
  | cons ho hc h hs ih =>
    intro hx hl
    obtain ⟨x, h0⟩ := hx 0 _ rfl
    obtain ⟨a, ha⟩ := h enc w n _ x h0
    obtain ⟨b, hb⟩ := ih (fun i f' hf => hx (i + 1) f' (by simpa using hf)) (by rw [hl, List.map_cons, List.sum_cons, hc]; omega)
    refine ⟨(a, b), ?_⟩
    rw [ho, hc] at ha
    have := ha.append hb
    rw [← List.drop_drop, List.take_append_drop] at this
    exact this

theorem Opens.struct {α : Type} {R : α → List Rp} {fs : Array Field} {l : List Field} (ht : P.underlying t = some (.struct fs)) (hl : fs.toList = l) (hf : Flds P l 0 R) (hc : P.cellsOf t = (l.map fun f => P.cellsOf f.type).sum) : Opens P t R := by
  intro H enc w fuel cs x h
  obtain ⟨xs, n, _, _, hlen, hxl, hx⟩ := DataW.trod_struct ht h
  have := hf.opens (enc := enc) (w := w) (n := n) (cs := cs) (fun i f hi => by
    have hfi : fs[i]? = some f := by rw [← hl] at hi; simpa using hi
    have hlt : i < xs.length := by rw [hxl]; exact (Array.getElem?_eq_some_iff.1 hfi).1
    exact ⟨xs[i], by rw [hx i f hfi, List.getElem?_eq_getElem hlt]⟩) (by rw [hlen, hc]; omega)
  simpa using this

theorem Opens.array {α : Type} {E : α → List Rp} {n c : Nat} {e : TypeId} (ht : P.underlying t = some (.array n e)) (hc : P.cellsOf e = c) (hct : P.cellsOf t = n * c) (hE : ∀ x, (E x).length = c) (he : Opens P e E) :
    Opens P t fun l : {l : List α // l.length = n} => l.1.flatMap E := by
  intro H enc w fuel cs x h
  obtain ⟨xs, m, _, _, hlen, hxl, hx⟩ := DataW.trod_array ht h
  have hgo : ∀ i, i < n → ∃ y, AllR (E y) w (old w) ((cs.drop (i * c)).take c) := fun i hi => by
    have := hx i hi
    rw [List.getElem?_eq_getElem (by omega), hc] at this
    exact he enc w m _ _ this
  obtain ⟨l, hll, hp⟩ := choose_list n hgo
  exact ⟨⟨l, hll⟩, allR_pieces hE l cs (by rw [hlen, hct, hll]) hp⟩

/-- A datum of another name. -/
theorem Opens.map {α β : Type} {R : α → List Rp} {T : β → List Rp} (h : Opens P t R) (hg : ∀ a, ∃ b, T b = R a) : Opens P t T := by
  intro H enc w fuel cs x hx
  obtain ⟨a, ha⟩ := h enc w fuel cs x hx
  obtain ⟨b, hb⟩ := hg a
  exact ⟨b, hb ▸ ha⟩

/-- An argument of the type. -/
def OpensV (P : Program) (t : TypeId) {α : Type} (R : α → Rp) : Prop :=
  ∀ {H : Type} (enc : TypeId × Value → H) (w : World) (b : Nat) (v : Value) (d : DataW H) (ps : List MemPlace), Value.okWide P w .any b t v → DataW.Trod enc P w 0 (fun _ => true) true t v d ps → ∃ a, (R a).p w (old w) v

theorem OpensV.one {α : Type} {R : α → Rp} (h : Opens P t fun a => [R a]) (hv : ∀ w b v, Value.okWide P w .any b t v → v.cells = #[v]) : OpensV P t R := by
  intro H enc w b v d ps hok ⟨n, hn⟩
  obtain ⟨a, ha, _⟩ := h enc w n _ _ hn
  rw [hv w b v hok] at ha
  exact ⟨a, ha.1⟩
theorem OpensV.agg {α : Type} {R : α → List Rp} (h : Opens P t R) (hv : ∀ w b v, Value.okWide P w .any b t v → ∃ cs, v = .agg cs) : OpensV P t fun a => Rp.agg (R a) := by
  intro H enc w b v d ps hok ⟨n, hn⟩
  obtain ⟨a, ha⟩ := h enc w n _ _ hn
  obtain ⟨cs, rfl⟩ := hv w b v hok
  exact ⟨a, cs.toList, by simp, by simpa [Value.cells] using ha⟩
theorem cells_int {k : IntKind} (ht : P.underlying t = some (.int k)) (w : World) (b : Nat) (v : Value) (h : Value.okWide P w .any b t v) : v.cells = #[v] := by obtain ⟨n, rfl⟩ := okWide_int ht h; rfl
theorem cells_bool (ht : P.underlying t = some .bool) (w : World) (b : Nat) (v : Value) (h : Value.okWide P w .any b t v) : v.cells = #[v] := by obtain ⟨n, rfl⟩ := okWide_bool ht h; rfl
theorem cells_str (ht : P.underlying t = some .string) (w : World) (b : Nat) (v : Value) (h : Value.okWide P w .any b t v) : v.cells = #[v] := by obtain ⟨n, rfl⟩ := okWide_string ht h; rfl
theorem cells_slice {e : TypeId} (ht : P.underlying t = some (.slice e)) (w : World) (b : Nat) (v : Value) (h : Value.okWide P w .any b t v) : v.cells = #[v] := by obtain ⟨a, n, c, rfl⟩ := okWide_slice ht h; rfl
theorem agg_struct {fs : Array Field} (ht : P.underlying t = some (.struct fs)) (w : World) (b : Nat) (v : Value) (h : Value.okWide P w .any b t v) : ∃ cs, v = .agg cs := by obtain ⟨cs, rfl, _⟩ := okWide_struct ht h; exact ⟨_, rfl⟩
theorem agg_array {n : Nat} {e : TypeId} (ht : P.underlying t = some (.array n e)) (w : World) (b : Nat) (v : Value) (h : Value.okWide P w .any b t v) : ∃ cs, v = .agg cs := by
  simp only [Value.okWide, ht] at h; obtain ⟨cs, rfl, _⟩ := h; exact ⟨_, rfl⟩

/-- All arguments. -/
def OpensA (P : Program) (ts : List TypeId) {κ : Type} (A : κ → List Rp) : Prop :=
  ∀ {H : Type} (enc : TypeId × Value → H) (w : World) (b : Nat) (vs : List Value) (ds : List (DataW H)) (ps : List MemPlace), (∀ (j : Nat) t v, ts[j]? = some t → vs[j]? = some v → Value.okWide P w .any b t v) → DataW.TrodAll enc P w 0 (fun _ => true) true ts vs ds ps →
    ds.length = ts.length ∧ ∃ k, AllP (A k) w (old w) vs
theorem OpensA.nil : OpensA P [] fun _ : Unit => [] := by
  intro H enc w b vs ds ps _ h
  obtain ⟨rfl, rfl, rfl⟩ := trodAll_nil h
  exact ⟨rfl, (), trivial⟩
theorem OpensA.cons {α κ : Type} {ts : List TypeId} {R : α → Rp} {A : κ → List Rp} (h : OpensV P t R) (hs : OpensA P ts A) : OpensA P (t :: ts) fun k : α × κ => R k.1 :: A k.2 := by
  intro H enc w bs vs ds ps hok h0
  obtain ⟨v, vs, d, ds, a, b, rfl, rfl, rfl, h1, h2⟩ := trodAll_cons h0
  obtain ⟨x, hx⟩ := h enc w bs v d a (hok 0 t v rfl rfl) h1
  obtain ⟨hl, k, hk⟩ := hs enc w bs vs ds b (fun j t' v' ht hv => hok (j + 1) t' v' (by simpa using ht) (by simpa using hv)) h2
  exact ⟨by simp [hl], ⟨x, k⟩, hx, hk⟩

/-- What only grew below. -/
theorem trodAll_grown {H : Type} {enc : TypeId × Value → H} (hl : laidOutB P = true) {W W' : World} (hb : ∀ p : MemPlace, p.block < W.heap.size → W.sameAt W' p) {sp : Nat → Bool} :
    ∀ {ts : List TypeId} {vs : List Value} {ds : List (DataW H)} {ps : List MemPlace}, (∀ t ∈ ts, P.readableRec t = true ∧ t < P.types.size) → DataW.TrodAll enc P W 0 (fun _ => true) true ts vs ds ps → (∀ p ∈ ps, p.block < W.heap.size) → (∀ p ∈ ps, sp p.block = true) →
      DataW.TrodAll enc P W' 0 sp true ts vs ds ps
  | [], vs, ds, ps, _, h, _, _ => by
    obtain ⟨rfl, rfl, rfl⟩ := trodAll_nil h
    exact rfl
  | t :: ts, vs, ds, ps, hr, h, hlt, hsp => by
    obtain ⟨v, vs, d, ds, a, b, rfl, rfl, rfl, h1, h2⟩ := trodAll_cons h
    refine ⟨a, b, WideElems.Trod_stays hl (hr t (by simp)).1 (hr t (by simp)).2 h1 (fun p hp => hb p (hlt p (by simp [hp]))) (fun p hp => hsp p (by simp [hp])), ?_, rfl⟩
    exact trodAll_grown hl hb (fun t ht => hr t (by simp [ht])) h2 (fun p hp => hlt p (by simp [hp])) (fun p hp => hsp p (by simp [hp]))

/-- THE STATEMENT'S OWN END: a law that answers true for all arguments. -/
theorem law_post {f : FuncId} {fn : Func} {s : ChangeSpec} {tb : TypeId} {κ : Type} {A : κ → List Rp} (hlaid : laidOutB P = true) (hts' : (fn.params.toList.all fun t => P.readableRec t && decide (t < P.types.size)) = true)
    (hr : fn.resultTypes = #[tb]) (htb : P.underlying tb = some .bool) (hvars : s.vars = []) (hspec : ∀ (H : Type) (ds : List (DataW H)), ds.length = fn.params.toList.length → s.fn H ds = { results := [.lit (.bool true)], args := ds })
    (hopen : OpensA P fn.params.toList A) (hlaw : ∀ k, CallT P f (A k) [] (.one (Rp.bool true)))
    {H : Type} {enc : TypeId × Value → H} {W : World} {args : Array Value} {ds gs : List (DataW H)} {before : List MemPlace} {base : Nat}
    (hval : ∀ (j : Nat) t v, fn.params[j]? = some t → args[j]? = some v → Value.okWide P W .any base t v)
    (hW : DataW.Whole enc P fn.params.toList s.vars false W args.toList ds gs before) :
    Calls P f args W fun e W' => ∃ v, e = .returned v ∧ s.post enc P fn false true false false W args v W' := by
  have hts : ∀ t ∈ fn.params.toList, P.readableRec t = true ∧ t < P.types.size := fun t ht => by
    have := List.all_eq_true.1 hts' t ht
    simpa using this
  have hW' := hW
  obtain ⟨p, q, hA, hV, rfl, hfz, _⟩ := hW
  rw [hvars] at hV
  obtain ⟨rfl, rfl⟩ := trodVars_none hV
  obtain ⟨hdl, k, hk⟩ := hopen enc W base args.toList ds p (fun j t v ht hv => hval j t v (by simpa using ht) (by simpa using hv)) hA
  refine (hlaw k W (old W) args hk ⟨by simp, by simp [feet], by simp [feet], fun b hb => hb⟩).mono fun e W' ⟨i, v, C', he, heff, hv, _, _⟩ => ?_
  obtain rfl : v = .bool true := hv
  have hb : RowKit.Below W.heap.size W W' := ⟨heff.os, heff.tape, heff.output, heff.size, fun b hb => heff.keep b hb (by simp [feet])⟩
  have hlt : ∀ x ∈ p, x.block < W.heap.size := fun x hx => hW'.lt x (by simp [hx])
  simp only [List.append_nil] at hW'
  refine ⟨_, he, ds, [], p, [], p, [], hW', ?_, ?_, ?_, hb.frame _, fun h => by cases h⟩
  · rw [List.append_nil, hspec H ds hdl, hr]
    exact ⟨[], [], ⟨1, by simp [DataW.trod, htb, Value.cells]⟩, rfl, rfl⟩
  · rw [List.append_nil, hspec H ds hdl]
    exact trodAll_grown hlaid (fun x hx => hb.same hx) hts hA hlt (fun x hx => by simpa using hlt x hx)
  · rw [List.append_nil, hspec H ds hdl, hvars]
    exact rfl
end
end Go.Sim
