/- Lemmas for the claim, part 6: rules for walks, contracts of functions, the data they compute. No conditions. -/
import Derived.Test.YtcabngjnmipflaaDoorP5
import Derived.KernelRfl
import Derived.Test.YtcabngjnmipflaaDoorP4
set_option linter.unusedSimpArgs false
set_option maxRecDepth 8000
set_option linter.unusedVariables false
namespace Go.Proofs.YtcabngjnmipflaaDoor
open Go.Sim
/-- The name of the first class; whether any class of a line clashes with those behind it. -/
def nmS : List Cl → List UInt8 | [] => [] | c :: _ => c.name
def clashL : List Cl → Bool | [] => false | c :: r => clashL r || clashB (flF r) c.fields
theorem nmS_is (l : List Cl) : nmS l = (l.getD 0 default).name := by cases l <;> rfl

theorem backward_ok (l : List Cl) : CallT Tryd.prog 62 [Rp.slice eC l] [] (.one (Rp.clo 76 [Rp.at [Rp.slice eC l]])) := by
  refine W.enter (fn := Tryd.f62) (n := 4) Tryd.func62 rfl Tryd.ntmps62 rfl (fun w₀ C₀ => ?_)
  simp only [argS]
  refine W.seq ?_
  refine W.region ?_
  refine L.box rfl rfl (GSpec.plain rfl (spec_box rfl (GetC.one (Get.tmp rfl)))) (fun r1 => ?_)
  refine L.op1 rfl rfl (GSpec.plain rfl (spec_assign rfl Get.cval)) ?_
  refine L.nil ?_
  refine N.thenW ?_
  refine W.pubB 1 0 rfl rfl ?_
  refine W.seq ?_
  refine W.region ?_
  refine L.op1 rfl rfl (GSpec.plain rfl (spec_makeFunc rfl (.cons (Get.tmp rfl) .nil))) ?_
  refine L.op1 rfl rfl (GSpec.plain rfl (spec_assign rfl (Get.tmp rfl))) ?_
  refine L.nil ?_
  refine N.thenW ?_
  refine W.ret ?_
  exact N.ret () rfl (.tmp (t := 2) (Get.tmp rfl) .nil) (res1 (fun _ _ _ h => h)) .nil (fun _ _ h => h)

/-- What the k-th round of the iterator yields. -/
def encB (l : List Cl) (k : Nat) : List Rp := [Rp.int .i64 (l.length - 1 - k : Int), Rp.agg (eC (l.getD (l.length - 1 - k) default))]
/-- The measure of its loop. -/
def leftB (a : Act) : Nat := match a.tmps.getD 3 undef with | .int _ i => (i + 1).toNat | _ => 0
theorem leftB_is {B : Go.Sim.Base} {n : Nat} {S : List (Nat × Rp)} {M : List MF} {a : Act} {w : World} {C : Nat → Prop} {i : Int} (st : St B n S M a w C) (h : Go.Sim.look 3 S = some (Rp.int .i64 i)) : leftB a = (i + 1).toNat := by
  have := st.slots 3 _ h
  unfold leftB
  rw [this.1]

theorem iter_ok (l : List Cl) (hl : l.length ≤ 1000) : IterT Tryd.prog 76 [Rp.at [Rp.slice eC l]] (encB l) l.length := by
  intro lp J hJ hJwf hY w C lb h0 hlb
  refine calls_of_wp Tryd.func76 rfl ?_
  rw [Tryd.ntmps76]
  have hA : AllP [Rp.val (.func (.yield lp) #[] #[]), Rp.at [Rp.slice eC l]] w C (#[Value.func (.yield lp) #[] #[]] ++ lb).toList := by
    rw [Array.toList_append]; exact ⟨rfl, hlb⟩
  have st := St.enter (n := 19) hA (⟨by simp, by simp [feet], by simp [feet], hJwf 0 w C h0⟩ : MOk [] w C) rfl
  revert st
  generalize ({ tmps := (#[Value.func (.yield lp) #[] #[]] ++ lb) ++ Array.replicate (19 - (#[Value.func (.yield lp) #[] #[]] ++ lb).size) undef, defers := [] } : Act) = a0
  intro st
  refine (?_ : W Tryd.prog ⟨w, C, feet []⟩ 19 (argS 0 [Rp.val (.func (.yield lp) #[] #[]), Rp.at [Rp.slice eC l]]) [] _ _) a0 w C st
  simp only [argS]
  refine W.seq ?_
  refine W.region ?_
  refine L.op1 rfl rfl (GSpec.plain rfl (spec_loadP1 rfl Tryd.isAgg38 (Get.tmp rfl))) ?_
  refine L.op1 rfl rfl (GSpec.plain rfl (spec_len rfl Tryd.underlying38 (Get.tmp rfl))) ?_
  refine L.op1 rfl rfl (GSpec.plain rfl (fit_i64 (by omega) (by omega) (spec_sub rfl (Get.tmp rfl) (Get.cint rfl)))) ?_
  refine L.op1 rfl rfl (GSpec.plain rfl (spec_assign rfl (Get.tmp rfl))) ?_
  refine L.nil ?_
  refine N.thenW ?_
  refine W.block ?_
  intro a1 w1 C1 st1
  refine wp_loop (fun a' w' => ∃ k C', k ≤ l.length ∧ Pub w C w' C' ∧ J k w' C' ∧ St ⟨w', C', []⟩ 19 [(0, Rp.val (.func (.yield lp) #[] #[])), (1, Rp.at [Rp.slice eC l]), (3, Rp.int .i64 (l.length - 1 - k : Int))] [] a' w' C') (fun a' _ => leftB a') ?_ ?_
  · refine ⟨0, C1, Nat.zero_le _, st1.eff.pub (hJwf 0 w C h0) (by simp [feet]), hJ 0 w C w1 C1 h0 st1.eff st1.mem.wf, ?_⟩
    exact (st1.sub (.cons (t := 0) rfl (.cons (t := 1) rfl (.weak (t := 3) rfl (eqI (by omega)) .nil)))).here
  · rintro a2 w2 ⟨k, C2, hk, hpub, hj, st2⟩
    have hm2 := leftB_is (i := (l.length - 1 - k : Int)) st2 rfl
    refine (show W Tryd.prog ⟨w2, C2, []⟩ 19 _ [] _ _ from ?_) a2 w2 C2 st2
    refine W.seq ?_
    refine W.seq ?_
    refine W.region ?_
    refine L.op1 rfl rfl (GSpec.plain rfl (spec_move rfl (Get.tmp rfl))) ?_
    refine L.op1 rfl rfl (GSpec.plain rfl (spec_geq rfl (Get.tmp rfl) (Get.cint rfl))) ?_
    refine L.nil ?_
    refine N.thenW ?_
    refine W.cond (Get.tmp rfl) (fun h1 => ?_) (fun h1 => ?_)
    · have ph1 : k < l.length := by simp only [decide_eq_true_eq] at h1; omega
      have hki : (l.length - 1 - k : Int).toNat = l.length - 1 - k := by omega
      refine W.skip ?_
      refine N.thenW ?_
      refine W.seq ?_
      refine W.block ?_
      refine W.seq ?_
      refine W.regionI ?_
      refine LR.op1 rfl rfl rfl (by intro c h; cases h) (spec_move rfl (Get.tmp rfl)) ?_
      refine LR.op1 rfl rfl rfl (by intro c h; cases h) (spec_move rfl (Get.tmp rfl)) ?_
      refine LR.op1 rfl rfl rfl (by intro c h; cases h) (spec_loadP1 rfl Tryd.isAgg38 (Get.tmp rfl)) ?_
      refine LR.op1 rfl rfl rfl (by intro c h; cases h) (spec_move rfl (Get.tmp rfl)) ?_
      refine LR.op1 rfl rfl rfl (by intro c h; cases h) (spec_indexAddrD (E := eC) rfl Tryd.underlying38 Tryd.sizeOf25 (fun _ => rfl) (Get.tmp rfl) (Get.tmp rfl) (by omega)) ?_
      refine LR.op1 rfl rfl rfl (by intro c h; cases h) (spec_loadPA rfl Tryd.isAgg25 Tryd.sizeOf25 (Get.tmp rfl) rfl) ?_
      rw [hki]
      intro a3 w3 C3 st3
      have hj3 : J k w3 C3 := hJ k w2 C2 w3 C3 hj st3.eff st3.mem.wf
      have e11 : a3.tmps.getD 11 undef = .func (.yield lp) #[] #[] := st3.slots 11 _ rfl
      have e12 := st3.slots 12 _ rfl
      have e16 := st3.slots 16 _ rfl
      obtain ⟨fn, tmps, assign, body, hy, hR⟩ := hY k ph1 w3 C3 #[a3.tmps.getD 12 undef, a3.tmps.getD 16 undef] hj3 ⟨e12, e16, trivial⟩
      refine wpListIn_plain rfl fun K hK => ⟨fun _ _ => trivial, ?_⟩
      have hrun : (Oper.semAt (Fr none).round a3.eval { dst := some 17, op := Op.call { callee := Callee.value (Operand.tmp 11), args := #[Operand.tmp 12, Operand.tmp 16], argTypes := #[3, 25] }, type := 4, pos := "iter.go:29", after := #[{ on := 0, ground := Ground.data }, { on := 1, ground := Ground.data }, { on := 5, ground := Ground.data }], guard := none }).run Tryd.prog w3 = .ok (.round lp fn tmps assign body) w3 := by
        have e11' := e11
        have hy' := hy
        simp only [Array.getD_eq_getD_getElem?] at e11' hy'
        simp [Fr, Fence.wide, Oper.semAt, execOp, resolve, Deferred.ofValue, Act.eval, invoke, e11', hy']
      rw [hrun, Oper.uponIn_round]
      refine ⟨fun h => by simp [Fr, Fence.wide] at h, RoundIn.mono hR ?_⟩
      rintro e w4 ⟨rfl, C4, hp4, hj4⟩
      refine hK _ _ ?_
      have st4 : St ⟨w4, C4, []⟩ 19 [(17, Rp.bool true), (0, Rp.val (.func (.yield lp) #[] #[])), (1, Rp.at [Rp.slice eC l]), (3, Rp.int .i64 (l.length - 1 - k : Int))] [] (a3.put (some 17) (.bool true)) w4 C4 := by
        refine ⟨(put_size _ _ _).trans st3.size, (put_defers' _ _ _).trans st3.defers, ?_, ⟨by simp, by simp [feet], by simp [feet], hJwf _ _ _ hj4⟩, Eff.refl _ _ _, by simp [feet]⟩
        exact slots_put (dst := some 17) st3.size (fun d h => by cases h; decide) ((st3.slots).sub (.cons (t := 0) rfl (.cons (t := 1) rfl (.cons (t := 3) rfl .nil)))) hp4 rfl
      refine (?_ : LR none Tryd.prog ⟨w4, C4, []⟩ 19 _ [] _ _ _) _ w4 C4 st4
      refine LR.op1 rfl rfl rfl (by intro c h; cases h) (spec_not rfl (Get.tmp rfl)) ?_
      refine LR.nil ?_
      refine N.thenW ?_
      refine W.cond (Get.tmp rfl) (fun h2 => by cases h2) (fun h2 => ?_)
      refine W.skip ?_
      refine N.blockNormal ?_
      refine N.thenW ?_
      refine W.region ?_
      refine L.op1 rfl rfl (GSpec.plain rfl (spec_move rfl (Get.tmp rfl))) ?_
      refine L.op1 rfl rfl (GSpec.plain rfl (fit_i64 (by omega) (by omega) (spec_sub rfl (Get.tmp rfl) (Get.cint rfl)))) ?_
      refine L.op1 rfl rfl (GSpec.plain rfl (spec_assign rfl (Get.tmp rfl))) ?_
      refine L.nil ?_
      intro a5 w5 C5 st5
      have st6 := st5.sub (S' := [(0, Rp.val (.func (.yield lp) #[] #[])), (1, Rp.at [Rp.slice eC l]), (3, Rp.int .i64 (l.length - 1 - (k + 1 : Nat) : Int))]) (.cons (t := 0) rfl (.cons (t := 1) rfl (.weak (t := 3) rfl (eqI (by omega)) .nil)))
      refine ⟨⟨k + 1, C5, ph1, ?_, hJ _ _ _ _ _ hj4 st5.eff st5.mem.wf, st6.here⟩, ?_⟩
      · exact ((hpub.trans (st3.eff.pub (hJwf _ _ _ hj) (by simp))).trans hp4).trans (st5.eff.pub (hJwf _ _ _ hj4) (by simp))
      · have hm6 := leftB_is st6 rfl
        rw [hm6, hm2]; omega
    · have ph1 : k = l.length := by simp only [decide_eq_false_iff_not] at h1; omega
      subst ph1
      refine W.exit ?_
      refine N.thenExit ?_
      refine N.thenExit ?_
      refine N.blockExit ?_
      intro a3 w3 C3 st3
      refine ⟨st3.defers, .tuple #[], ?_, ⟨_, rfl⟩, C3, hpub.trans (st3.eff.pub (hJwf _ _ _ hj) (by simp)), hJ _ _ _ _ _ hj st3.eff st3.mem.wf⟩
      exact results_none rfl _ _ _

/-- The memory between two rounds, k classes taken. -/
def flatM (r3 r7 : Nat) (l : List Cl) (z : Nat × Value × Value) : List MF :=
  [MF.box r3 73 [Rp.ptr r7 0], MF.box r7 72 (rowX (nmS (l.drop (l.length - z.1))) z.2.1 z.2.2 (clashL (l.drop (l.length - z.1)))), MF.osl z.2.1 27 5 eF (flF (l.drop (l.length - z.1))), MF.osl z.2.2 54 2 eBk (flB (l.drop (l.length - z.1)))]

theorem flatten_ok (l : List Cl) (hok : ∀ c ∈ l, ClOk c) (hf : Few l) : CallT Tryd.prog 45 [Rp.slice eC l] [] (.one (Rp.at (eC (flatC l) ++ [Rp.bool (clashL l)]))) := by
  have hlen := hf.1
  intro w C args hA hM
  refine (callsIn_wide (n := 0)).1 (callsIn_of_wp_marks Tryd.func45 rfl trivial ?_)
  rw [Tryd.ntmps45]
  refine wpIn_wide.2 ((?_ : W Tryd.prog ⟨w, C, feet []⟩ 16 (argS 0 [Rp.slice eC l]) [] _ _) _ w C (St.enter hA hM rfl))
  simp only [argS]
  refine W.seq ?_
  refine W.region ?_
  refine L.op1 rfl rfl (GSpec.plain rfl (spec_assign rfl Get.cval)) ?_
  refine L.nil ?_
  refine N.thenW ?_
  refine W.seq ?_
  refine W.region ?_
  refine L.op1 rfl rfl (GSpec.plain rfl (spec_build (Rs := [Rp.str [], Rp.str [], Rp.val (.slice none 0 0), Rp.val (.slice none 0 0), Rp.bool false]) rfl ti72 z72v Tryd.underlying72 pl72 .nil)) ?_
  refine L.box rfl rfl (GSpec.plain rfl (spec_box rfl (GetC.agg (Get.tmp rfl)))) (fun r7 => ?_)
  refine L.box rfl rfl (GSpec.plain rfl (spec_alloc rfl ti73 z73)) (fun r3 => ?_)
  refine L.storeB (k := 0) rfl rfl rfl Tryd.sizeOf73 (Get.tmp rfl) (Get.tmp rfl) rfl rfl ?_
  refine L.nil ?_
  refine N.thenW ?_
  refine W.nil 27 5 eF ?_
  refine W.nil 54 2 eBk ?_
  refine W.seq ?_
  refine W.seq ?_
  refine W.region ?_
  refine L.op1 rfl rfl (GSpec.plain rfl (spec_move rfl (Get.tmp rfl))) ?_
  refine L.op1 rfl rfl (GSpec.plain rfl (spec_call rfl Tryd.call62 (backward_ok l) (.cons (Get.tmp rfl) .nil))) ?_
  refine L.nil ?_
  refine N.thenW ?_
  refine W.block ?_
  refine W.keep (S' := [(9, Rp.clo 76 [Rp.at [Rp.slice eC l]]), (3, Rp.ptr r3 0)]) (M' := flatM r3 r7 l (0, .slice none 0 0, .slice none 0 0)) (.cons (t := 9) rfl (.cons (t := 3) rfl .nil)) (by
    unfold flatM
    simp only [Nat.sub_zero, List.drop_length]
    exact (.cons 2 rfl (.cons 2 rfl (.cons 1 rfl (.cons 0 rfl .nil))))) ?_
  intro a1 w1 C1 st1
  refine (wpIn_wide (n := 0)).1 (wpIn_range (σ := Nat × Value × Value) (τ := Nat) (p1 := 10) (p2 := 11) (R1 := fun k => Rp.int .i64 (l.length - 1 - k : Int)) (R2 := fun k => Rp.agg (eC (l.getD (l.length - 1 - k) default)))
    st1 (Get.tmp rfl) Tryd.call76 rfl (iter_ok l hlen) (by decide) (by decide) (flatM r3 r7 l) (fun k z => z.1 = k ∧ k ≤ l.length) (0, .slice none 0 0, .slice none 0 0) ⟨rfl, Nat.zero_le _⟩ rfl
    (fun k z t => [(3, Rp.ptr r3 0), (5, Rp.ptr t 0)]) (fun k z t => MF.box t 25 (eC (l.getD (l.length - 1 - k) default)) :: flatM r3 r7 l z) ?_ ?_ ?_)
  · rintro lp B k z o1 b2 o2 hk hz
    refine WR.region (fun a w h => h) (by simp) ?_
    refine L.box rfl rfl (GSpec.plain rfl (spec_alloc rfl ti25 z25)) (fun r5 => ?_)
    refine L.storeW (k := 0) rfl rfl rfl Tryd.sizeOf25 (Get.tmp rfl) (Get.tmp rfl) rfl rfl rfl ?_
    refine L.nil ?_
    exact N.mid r5 (.cons (t := 3) rfl (.cons (t := 5) rfl .nil)) (.cons 1 rfl (.cons 1 rfl .refl))
  · rintro lp B k ⟨k', va, vb⟩ r5 o1 b2 o2 hk ⟨hz, _⟩
    dsimp only at hz
    subst hz
    have hd : l.length - 1 - k' < l.length := by omega
    have e1 : l.drop (l.length - (k' + 1)) = l.getD (l.length - 1 - k') default :: l.drop (l.length - k') := by
      rw [show l.length - (k' + 1) = l.length - 1 - k' by omega, drop_cons'' hd, show l.length - 1 - k' + 1 = l.length - k' by omega]
    have hcm : l.getD (l.length - 1 - k') default ∈ l := by
      simp only [List.getD_eq_getElem?_getD, List.getElem?_eq_getElem hd, Option.getD_some]; exact List.getElem_mem hd
    have hfl := flF_len (l := l.drop (l.length - k')) fun x hx => hf.2 x (List.mem_of_mem_drop hx)
    have hdl : (l.drop (l.length - k')).length ≤ 1000 := by simp only [List.length_drop]; omega
    refine WR.block ?_
    refine WR.region (fun a w h => by cases h.1) (by simp) ?_
    refine L.op1 rfl rfl (GSpec.plain rfl (spec_load1 (k := 3) rfl Tryd.isAgg73 (Get.tmp rfl) rfl rfl)) ?_
    refine L.op1 rfl rfl (GSpec.plain rfl (spec_loadW (k := 2) rfl Tryd.isAgg25 Tryd.sizeOf25 (Get.tmp rfl) rfl rfl)) ?_
    refine L.call rfl rfl rfl rfl Tryd.call63 (extend_ok r7 (nmS (l.drop (l.length - k'))) va vb (l.getD (l.length - 1 - k') default) (flF (l.drop (l.length - k'))) (flB (l.drop (l.length - k'))) (clashL (l.drop (l.length - k'))) (hok _ hcm) (hf.2 _ hcm).1 (hf.2 _ hcm).2 (by omega) (by omega)) (.cons 4 rfl (.cons 4 rfl (.cons 4 rfl .refl))) (.cons (Get.tmp rfl) (.cons (Get.tmp rfl) .nil)) (fun z => ?_)
    refine L.nil ?_
    intro a2 w2 C2 st2
    refine ⟨rfl, (k' + 1, z), ⟨rfl, by omega⟩, C2, (st2.sub Sub.nil).pick ?_⟩
    unfold flatM
    dsimp only
    rw [e1, flF_cons, flB_cons]
    exact (.cons 3 rfl (.cons 3 rfl (.cons 4 rfl (.cons 0 rfl (.cons 0 rfl (.cons 0 rfl .nil))))))
  · rintro D ⟨k', va, vb⟩ w2 C2 ⟨hz, _⟩ st2
    dsimp only at hz
    subst hz
    simp only [flatM, Nat.sub_self, List.drop_zero, nmS_is] at st2
    refine (?_ : (Code.seq _ _).wp _ _ _ _)
    refine tail_mark st2 ?_
    refine LD.op1 rfl rfl (GSpec.plain rfl (spec_load1 (k := 1) rfl Tryd.isAgg73 (Get.tmp rfl) rfl rfl)) ?_
    refine LD.op1 rfl rfl (GSpec.plain rfl (spec_assign rfl (Get.tmp rfl))) ?_
    refine LD.nil ⟨_, rfl, ?_⟩
    refine N.pubBox (off := 2) 2 1 rfl rfl rfl (fun _ => rfl) ?_
    refine N.pubBox (off := 3) 2 1 rfl rfl rfl (fun _ => rfl) ?_
    refine N.pubB 2 1 rfl rfl ?_
    exact N.ret () rfl (.tmp (t := 2) (Get.tmp rfl) .nil) (res1 (fun _ _ _ h => h)) .nil (fun _ _ h => h)

end Go.Proofs.YtcabngjnmipflaaDoor
/- Sources as data: what Check, Line and Flatten answer. -/
set_option linter.unusedSimpArgs false
set_option linter.unusedVariables false
namespace Go.Proofs.YtcabngjnmipflaaDoor
open Go.Sim
def clashC (src : List Cl) (c : Cl) : Bool := clashL (ancE src c).1
def largeL (l : List Cl) : Bool := decide ((16 : Int) < (flF l).length) || decide ((16 : Int) < (flB l).length)
def largeC (src : List Cl) (c : Cl) : Bool := largeL (ancE src c).1
def checkE (src : List Cl) : Int :=
  if 32 < src.length then 2
  else if firstE validC src ≠ 0 then firstE validC src
  else if namesE src ≠ 0 then namesE src
  else if (src.any fun c => !(ancE src c).2) = true then 10
  else if (src.any (clashC src)) = true then 8
  else if (src.any (largeC src)) = true then 2 else 0
def lineE (src : List Cl) (s : List UInt8) : List Cl × Int :=
  if checkE src ≠ 0 then ([], checkE src) else if (findC src s).2 = false then ([], 12) else ((ancE src (findC src s).1).1, 0)
/-- The document's. -/
def rcheckE (src : List Cl) : Int :=
  if 32 < src.length then 2
  else if firstE validC src ≠ 0 then firstE validC src
  else if repB Cl.name src = true then 8
  else if (src.any (lostB src)) = true then 7
  else if (src.any fun c => decide (src.length < (upE src c).length)) = true then 10
  else if (src.any fun c => inhB (upE src c)) = true then 8
  else if (src.any fun c => largeL (upE src c)) = true then 2 else 0
def rlineE (src : List Cl) (s : List UInt8) : List Cl × Int :=
  if rcheckE src ≠ 0 then ([], rcheckE src) else if (findC src s).2 = false then ([], 12) else (upE src (findC src s).1, 0)
/-- The names of a line, its flat class. -/
def namesL (x : List Cl × Int) : List (List UInt8) := if x.2 ≠ 0 then [] else x.1.map Cl.name
def flatL (x : List Cl × Int) : Cl := if x.2 ≠ 0 then default else flatC x.1

theorem any_step {α : Type} [Inhabited α] (p : α → Bool) {l : List α} {i : Nat} (h : i < l.length) : ((l.take i).any p || p (l.getD i default)) = (l.take (i + 1)).any p := by
  rw [take_succ h, List.any_append]; simp
theorem valid_len {c : Cl} (h : validC c = 0) : c.fields.length ≤ 16 ∧ c.blocks.length ≤ 16 := by
  unfold validC at h
  split at h
  · simp at h
  · rename_i h1; split at h
    · simp at h
    · rename_i h2; omega
theorem find_mem' (src : List Cl) (s : List UInt8) : (findC src s).1 ∈ src ∨ (findC src s).1 = default := by
  rcases find_cases src s with ⟨i, h1, _, _, h4⟩ | ⟨_, h4⟩
  · rw [h4]; exact .inl (getD_mem' h1)
  · rw [h4]; exact .inr rfl
theorem chn_mem {src : List Cl} : ∀ {n : Nat} {c x : Cl}, x ∈ chn src n c → x = c ∨ x ∈ src ∨ x = default
  | 0, c, x, h => by simp only [chn, List.mem_singleton] at h; exact .inl h
  | n + 1, c, x, h => by
    rw [chn] at h
    split at h
    · simp only [List.mem_singleton] at h; exact .inl h
    · rcases List.mem_cons.1 h with h | h
      · exact .inl h
      · rcases chn_mem h with h | h | h
        · subst h; exact .inr (find_mem' _ _)
        · exact .inr (.inl h)
        · exact .inr (.inr h)
theorem upN_mem {src : List Cl} : ∀ {n : Nat} {c x : Cl}, x ∈ upN src n c → x = c ∨ x ∈ src ∨ x = default
  | 0, c, x, h => by simp only [upN, List.mem_singleton] at h; exact .inl h
  | n + 1, c, x, h => by
    rw [upN] at h
    split at h
    · simp only [List.mem_singleton] at h; exact .inl h
    · rcases List.mem_cons.1 h with h | h
      · exact .inl h
      · rcases upN_mem h with h | h | h
        · subst h; exact .inr (find_mem' _ _)
        · exact .inr (.inl h)
        · exact .inr (.inr h)
theorem chn_len (src : List Cl) : ∀ (n : Nat) (c : Cl), (chn src n c).length ≤ n + 1
  | 0, c => by simp [chn]
  | n + 1, c => by rw [chn]; split; · simp
                   · have := chn_len src n (findC src c.parent).1; simp; omega
theorem upN_len (src : List Cl) : ∀ (n : Nat) (c : Cl), (upN src n c).length ≤ n + 1 ∧ 1 ≤ (upN src n c).length
  | 0, c => by simp [upN]
  | n + 1, c => by rw [upN]; split; · simp
                   · have := upN_len src n (findC src c.parent).1; simp; omega
/-- All that Check has seen when the lines are built. -/
structure Sound (src : List Cl) : Prop where
  ok : ∀ c ∈ src, ClOk c
  v : ∀ c ∈ src, validC c = 0
  n : src.length ≤ 32
theorem mem_few {src l : List Cl} {c : Cl} (h : Sound src) (hc : c ∈ src ∨ c = default) (hm : ∀ x ∈ l, x = c ∨ x ∈ src ∨ x = default) (hl : l.length ≤ 1000) : (∀ x ∈ l, ClOk x) ∧ Few l := by
  have key : ∀ x ∈ l, ClOk x ∧ x.fields.length ≤ 16 ∧ x.blocks.length ≤ 16 := by
    intro x hx
    have : x ∈ src ∨ x = default := by
      rcases hm x hx with h | h | h
      · subst h; exact hc
      · exact .inl h
      · exact .inr h
    rcases this with h1 | h1
    · exact ⟨h.ok x h1, valid_len (h.v x h1)⟩
    · subst h1; exact ⟨clOk_default, Nat.zero_le _, Nat.zero_le _⟩
  exact ⟨fun x hx => (key x hx).1, hl, fun x hx => (key x hx).2⟩
theorem anc_few {src : List Cl} {c : Cl} (h : Sound src) (hc : c ∈ src ∨ c = default) : (∀ x ∈ (ancE src c).1, ClOk x) ∧ Few (ancE src c).1 := by
  unfold ancE
  split
  · refine mem_few h hc (fun x hx => chn_mem hx) ?_
    have := chn_len src src.length c; have := h.n; dsimp only; omega
  · exact ⟨by simp, by simp, by simp⟩
theorem up_few {src : List Cl} {c : Cl} (h : Sound src) (hc : c ∈ src ∨ c = default) : 1 ≤ (upE src c).length ∧ Few (upE src c) := by
  have := upN_len src 32 c
  exact ⟨this.2, (mem_few h hc (fun x hx => upN_mem hx) (by omega)).2⟩
theorem sound_of {src : List Cl} (hok : ∀ c ∈ src, ClOk c) (hn : ¬ 32 < src.length) (hv : firstE validC src = 0) : Sound src := ⟨hok, firstE_ok hv, by omega⟩
theorem sound_check {src : List Cl} (hok : ∀ c ∈ src, ClOk c) (h : checkE src = 0) : Sound src := by
  unfold checkE at h
  split at h
  · simp at h
  · rename_i h1; split at h
    · rename_i h2; exact absurd h h2
    · rename_i h2; exact sound_of hok h1 (by simpa using h2)
theorem sound_rcheck {src : List Cl} (hok : ∀ c ∈ src, ClOk c) (h : rcheckE src = 0) : Sound src := by
  unfold rcheckE at h
  split at h
  · simp at h
  · rename_i h1; split at h
    · rename_i h2; exact absurd h h2
    · rename_i h2; exact sound_of hok h1 (by simpa using h2)
theorem line_few {src : List Cl} (hok : ∀ c ∈ src, ClOk c) (s : List UInt8) : (∀ x ∈ (lineE src s).1, ClOk x) ∧ Few (lineE src s).1 := by
  unfold lineE
  split
  · exact ⟨by simp, by simp, by simp⟩
  · rename_i h; split
    · exact ⟨by simp, by simp, by simp⟩
    · exact anc_few (sound_check hok (by simpa using h)) (find_mem' _ _)
theorem rline_few {src : List Cl} (hok : ∀ c ∈ src, ClOk c) (s : List UInt8) : Few (rlineE src s).1 ∧ ((rlineE src s).2 = 0 → 1 ≤ (rlineE src s).1.length) := by
  unfold rlineE
  split
  · rename_i h; exact ⟨⟨by simp, by simp⟩, fun h' => absurd h' h⟩
  · rename_i h; split
    · exact ⟨⟨by simp, by simp⟩, fun h' => by cases h'⟩
    · have := up_few (sound_rcheck hok (by simpa using h)) (find_mem' src s)
      exact ⟨this.2, fun _ => this.1⟩
theorem known_take {src : List Cl} {i : Nat} (hi : i < src.length) : (findC (src.take i) (src.getD i default).name).2 = true ↔ ∃ k, k < i ∧ (src.getD i default).name = (src.getD k default).name := by
  have hk : ∀ k, k < i → (src.take i).getD k default = src.getD k default := fun k hk => by simp [List.getD, List.getElem?_take, hk]
  have hl : (src.take i).length = i := by simp; omega
  rcases find_cases (src.take i) (src.getD i default).name with ⟨k, h1, h2, _, h4⟩ | ⟨h1, h4⟩
  · rw [h4]
    rw [hl] at h1
    rw [hk k h1] at h2
    exact ⟨fun _ => ⟨k, h1, h2.symm⟩, fun _ => rfl⟩
  · rw [h4]
    refine ⟨fun h => (by cases h), fun ⟨k, hki, e⟩ => ?_⟩
    have := h1 k (by omega)
    rw [hk k hki] at this
    exact absurd e.symm this
end Go.Proofs.YtcabngjnmipflaaDoor
/- The variables of a class as data. -/
set_option linter.unusedSimpArgs false
set_option linter.unusedVariables false
namespace Go.Proofs.YtcabngjnmipflaaDoor
open Go.Sim
def vr0 (f : Fd) : Vr := ⟨f.name, f.width, f.mode, f.init⟩
def vrK (f : Fd) (k : Nat) : Vr := ⟨f.name ++ [91] ++ digT k ++ [93], f.width, f.mode, f.init⟩
def headV (f : Fd) : List Vr := if f.size = 0 then [vr0 f] else []
def arrV (f : Fd) (k : Nat) : List Vr := (List.range k).map (vrK f)
def varsF (f : Fd) : List Vr := headV f ++ arrV f f.size.toNat
def varsC (c : Cl) : List Vr := if validC c ≠ 0 then [] else c.fields.flatMap varsF
theorem arr_next {f : Fd} {k : Nat} {p : List Vr} : p ++ arrV f (k + 1) = p ++ arrV f k ++ [vrK f k] := by
  simp [arrV, List.range_succ]
theorem vars_next {c : Cl} {i : Nat} (h : i < c.fields.length) : (c.fields.take (i + 1)).flatMap varsF = (c.fields.take i).flatMap varsF ++ varsF (c.fields.getD i default) := by
  rw [take_succ h]; simp
theorem valid_all {c : Cl} (h : validC c = 0) : ∀ f ∈ c.fields, validF f = 0 := by
  unfold validC at h
  split at h
  · simp at h
  · split at h
    · simp at h
    · split at h
      · rename_i h3; exact absurd h h3
      · rename_i h3; exact firstE_ok (by simpa using h3)
theorem valid_field {c : Cl} (h : validC c = 0) {f : Fd} (hf : f ∈ c.fields) : nameB f.name = true ∧ 0 ≤ f.size ∧ f.size ≤ 8 := by
  have := validF_ok (valid_all h f hf)
  exact ⟨this.1, this.2.2.2.1, this.2.2.2.2.1⟩
theorem headV_len (f : Fd) : (headV f).length ≤ 1 := by unfold headV; split <;> simp
theorem name_len {s : List UInt8} (h : nameB s = true) : s.length ≤ 16 := by
  unfold nameB at h; simp only [Bool.and_eq_true, decide_eq_true_eq] at h; exact h.1.2
theorem varsF_len {f : Fd} (h2 : f.size ≤ 8) : (varsF f).length ≤ 9 := by
  unfold varsF headV arrV
  split <;> simp <;> omega
theorem flat_len {α β : Type} (g : α → List β) (m : Nat) : ∀ {l : List α}, (∀ x ∈ l, (g x).length ≤ m) → (l.flatMap g).length ≤ m * l.length
  | [], _ => by simp
  | x :: l, h => by
    have h1 := h x List.mem_cons_self
    have h2 := flat_len g m (l := l) fun y hy => h y (List.mem_cons_of_mem _ hy)
    rw [List.flatMap_cons, List.length_append, List.length_cons, Nat.mul_succ]; omega
theorem vars_len {c : Cl} (h : validC c = 0) (i : Nat) : ((c.fields.take i).flatMap varsF).length ≤ 144 := by
  have h1 := flat_len varsF 9 (l := c.fields.take i) fun f hf => varsF_len (valid_field h (List.mem_of_mem_take hf)).2.2
  have h2 := (valid_len h).1
  have h3 : (c.fields.take i).length ≤ c.fields.length := by simp only [List.length_take]; omega
  omega
end Go.Proofs.YtcabngjnmipflaaDoor
/- The chapter's example as data. -/
set_option linter.unusedSimpArgs false
set_option linter.unusedVariables false
namespace Go.Proofs.YtcabngjnmipflaaDoor
open Go.Sim
def it1 : It := .mk 1 (.mk 1 1 [] []) [] [] [] [] [] [] []
def fdA : Fd := ⟨[97], 1, 0, 0, 0⟩
def fdB : Fd := ⟨[98], 2, 2, 1, 0⟩
def pairE : List Cl := [⟨[115, 117, 98], [98, 97, 115, 101], [fdB], [⟨[113], [it1]⟩, ⟨[114], []⟩]⟩, ⟨[98, 97, 115, 101], [], [fdA], [⟨[112], []⟩, ⟨[113], []⟩]⟩]
def hasBk (l : List Bk) (s : List UInt8) : Bool := l.any fun b => b.name == s
noncomputable def withBk (l : List Bk) (b : Bk) : Bool := l.any fun x => x.name == b.name && decide (x.items = b.items)
def subN : List UInt8 := [115, 117, 98]
def flatS : Cl := ⟨subN, [], [fdA, fdB], [⟨[112], []⟩, ⟨[113], [it1]⟩, ⟨[114], []⟩]⟩
def varsS : List Vr := [⟨[97], 1, 0, 0⟩, ⟨[98, 91, 48, 93], 2, 1, 0⟩, ⟨[98, 91, 49, 93], 2, 1, 0⟩]
theorem pair_sz : ∀ c ∈ pairE, ClOk c := by
  have h1 : ItOk it1 := .mk _ (.mk _ (by decide) (by intro a h; cases h)) (by decide) (by decide) (by decide) (by decide) (by decide) (by intro a h; cases h) (by intro a h; cases h)
  have h0 : ItsOk [] := ⟨by decide, by intro a h; cases h⟩
  have h2 : ItsOk [it1] := ⟨by decide, by intro a h; simp only [List.mem_singleton] at h; exact h ▸ h1⟩
  intro c hc
  simp only [pairE, List.mem_cons, List.not_mem_nil, or_false] at hc
  rcases hc with rfl | rfl
  · refine ⟨by decide, by decide, fun b hb => ?_⟩
    simp only [List.mem_cons, List.not_mem_nil, or_false] at hb
    rcases hb with rfl | rfl
    · exact h2
    · exact h0
  · refine ⟨by decide, by decide, fun b hb => ?_⟩
    simp only [List.mem_cons, List.not_mem_nil, or_false] at hb
    rcases hb with rfl | rfl
    · exact h0
    · exact h0
theorem pair_sz1 : ∀ c ∈ (pairE.drop 0).take (1 - 0), ClOk c := fun c hc => pair_sz c (List.mem_of_mem_drop (List.mem_of_mem_take hc))
theorem pair_line : lineE pairE subN = (pairE, 0) := by kernel_rfl
theorem pair_flat : flatC pairE = flatS := by kernel_rfl
theorem pair_vars : varsC flatS = varsS := by kernel_rfl
end Go.Proofs.YtcabngjnmipflaaDoor
set_option linter.unusedSimpArgs false
set_option maxRecDepth 8000
set_option linter.unusedVariables false
namespace Go.Proofs.YtcabngjnmipflaaDoor
open Go.Sim
theorem anc_ok (src : List Cl) (c0 : Cl) (hs : src.length ≤ 1000000) : CallT Tryd.prog 51 [Rp.slice eC src, Rp.agg (eC c0)] [] (.one (Rp.tuple [Rp.slice eC (ancE src c0).1, Rp.bool (ancE src c0).2])) := by
  refine W.enter (fn := Tryd.f51) (n := 29) Tryd.func51 rfl Tryd.ntmps51 rfl (fun w₀ C₀ => ?_)
  simp only [argS]
  refine W.seq ?_
  refine W.region ?_
  refine L.box rfl rfl (GSpec.plain rfl (spec_box rfl (GetC.agg (Get.tmp rfl)))) (fun r3 => ?_)
  refine L.op1 rfl rfl (GSpec.plain rfl (spec_assign rfl (Get.cnil (E := eC)))) ?_
  refine L.op1 rfl rfl (GSpec.plain rfl (spec_assign rfl Get.cbool)) ?_
  refine L.nil ?_
  refine N.thenW ?_
  refine W.seq ?_
  refine W.region ?_
  refine L.op1 rfl rfl (GSpec.plain rfl (spec_loadW (k := 0) rfl Tryd.isAgg25 Tryd.sizeOf25 (Get.tmp rfl) rfl rfl)) ?_
  refine L.op rfl rfl (GSpec.plain rfl (spec_buildSlice1O (y := c0) (E := eC) rfl Tryd.underlying38 ti25 z25 (by decide) (GetC.agg (Get.tmp rfl)) (fun _ => rfl))) (fun v8 => ?_)
  refine L.op1 rfl rfl (GSpec.plain rfl (spec_assign rfl (Get.tmp rfl))) ?_
  refine L.nil ?_
  refine N.thenW ?_
  refine W.seq ?_
  refine W.block ?_
  -- assigned in the loop, not kept: [4, 5]
  refine W.loopK (σ := List Cl × Cl × Value) (.cons (t := 0) rfl (.cons (t := 3) rfl .nil)) (fun z => [(6, Rp.val z.2.2)]) (fun z => [MF.box r3 25 (eC z.2.1), MF.osl z.2.2 25 4 eC (z.1 ++ [z.2.1])]) (fun z => AncI src c0 z.1 z.2.1 ∧ True) (fun z => src.length - z.1.length) ([], c0, v8) ⟨anc_0 src c0, trivial⟩ (.cons (t := 6) rfl .nil) (.cons 1 rfl (.cons 0 rfl .nil)) ?_
  intro ⟨p, c, vo⟩ hI S' M' hS hM
  obtain ⟨hI1, _⟩ := hI
  try dsimp only at hS hM
  simp only [List.cons_append, List.nil_append] at hS hM
  subst hS hM
  try dsimp only
  try dsimp only at hI1
  refine W.seq ?_
  refine W.seq ?_
  refine W.region ?_
  refine L.op1 rfl rfl (GSpec.plain rfl (spec_fieldAddr (f := 1) (off' := 1) rfl Tryd.underlying25 rfl Tryd.sizeOf9 (Get.tmp rfl) rfl)) ?_
  refine L.op1 rfl rfl (GSpec.plain rfl (spec_load1 (k := 0) rfl Tryd.isAgg9 (Get.tmp rfl) rfl rfl)) ?_
  refine L.op1 rfl rfl (GSpec.plain rfl (spec_neqS rfl (Get.tmp rfl) (Get.cstr (l := []) rfl rfl))) ?_
  refine L.nil ?_
  refine N.thenW ?_
  refine W.cond (Get.tmp rfl) (fun h1 => ?_) (fun h1 => ?_)
  · have hp : c.parent ≠ [] := by have h := h1; simpa using h
    refine W.skip ?_
    refine N.thenW ?_
    refine W.block ?_
    refine W.seq ?_
    refine W.seq ?_
    refine W.region ?_
    refine L.op1 rfl rfl (GSpec.plain rfl (spec_move rfl (Get.tmp rfl))) ?_
    refine L.op1 rfl rfl (GSpec.plain rfl (spec_lenO (k := 1) rfl Tryd.underlying38 (Get.tmp rfl) rfl)) ?_
    refine L.op1 rfl rfl (GSpec.plain rfl (spec_move rfl (Get.tmp rfl))) ?_
    refine L.op1 rfl rfl (GSpec.plain rfl (spec_len rfl Tryd.underlying38 (Get.tmp rfl))) ?_
    refine L.op1 rfl rfl (GSpec.plain rfl (spec_gtr rfl (Get.tmp rfl) (Get.tmp rfl))) ?_
    refine L.nil ?_
    refine N.thenW ?_
    refine W.cond (Get.tmp rfl) (fun h2 => ?_) (fun h2 => ?_)
    · have hd : src.length < p.length + 1 := by have h := h2; simp only [decide_eq_true_eq, List.length_append, List.length_cons, List.length_nil] at h; omega
      refine W.seq ?_
      refine W.region ?_
      refine L.op1 rfl rfl (GSpec.plain rfl (spec_assign rfl (Get.cnil (E := eC)))) ?_
      refine L.op1 rfl rfl (GSpec.plain rfl (spec_assign rfl Get.cbool)) ?_
      refine L.nil ?_
      refine N.thenW ?_
      refine W.ret ?_
      refine N.ret () rfl (.tmp (t := 4) (Get.tmp rfl) (.tmp (t := 5) (Get.tmp rfl) .nil)) (res2w (eqSl ?_) (eqB ?_)) .nil (fun _ _ h => h)
      all_goals rw [anc_deep hI1 hp hd]
    · have hd : p.length + 1 ≤ src.length := by have h := h2; simp only [decide_eq_false_iff_not, List.length_append, List.length_cons, List.length_nil] at h; omega
      refine W.skip ?_
      refine N.thenW ?_
      refine W.seq ?_
      refine W.region ?_
      refine L.op1 rfl rfl (GSpec.plain rfl (spec_move rfl (Get.tmp rfl))) ?_
      refine L.op1 rfl rfl (GSpec.plain rfl (spec_fieldAddr (f := 1) (off' := 1) rfl Tryd.underlying25 rfl Tryd.sizeOf9 (Get.tmp rfl) rfl)) ?_
      refine L.op1 rfl rfl (GSpec.plain rfl (spec_load1 (k := 0) rfl Tryd.isAgg9 (Get.tmp rfl) rfl rfl)) ?_
      refine L.op1 rfl rfl (GSpec.plain rfl (spec_call rfl Tryd.call48 (find_ok _ _) (.cons (Get.tmp rfl) (.cons (Get.tmp rfl) .nil)))) ?_
      refine L.op1 rfl rfl (GSpec.plain rfl (spec_move rfl (Get.tmp rfl))) ?_
      refine L.op1 rfl rfl (GSpec.plain rfl (spec_extract rfl (Get.tmp rfl) rfl)) ?_
      refine L.op1 rfl rfl (GSpec.plain rfl (spec_extract rfl (Get.tmp rfl) rfl)) ?_
      refine L.storeW (k := 0) rfl rfl rfl Tryd.sizeOf25 (Get.tmp rfl) (Get.tmp rfl) rfl rfl rfl ?_
      refine L.nil ?_
      refine N.thenW ?_
      refine W.region ?_
      refine L.op1 rfl rfl (GSpec.plain rfl (spec_move rfl (Get.tmp rfl))) ?_
      refine L.op1 rfl rfl (GSpec.plain rfl (spec_loadW (k := 0) rfl Tryd.isAgg25 Tryd.sizeOf25 (Get.tmp rfl) rfl rfl)) ?_
      refine L.op1 rfl rfl (GSpec.plain rfl (spec_buildSlice1 (y := (findC src c.parent).1) (E := eC) rfl Tryd.underlying38 ti25 z25 (by decide) (GetC.agg (Get.tmp rfl)) (fun _ => rfl))) ?_
      refine L.append (k := 1) (E := eC) rfl rfl rfl rfl Tryd.underlying38 ti25 rfl (by decide) (fun _ => rfl) (Get.tmp rfl) (Get.tmp rfl) rfl (by (simp only [List.length_append, List.length_cons, List.length_nil]; omega)) (by (simp only [List.length_append, List.length_cons, List.length_nil]; omega)) (fun v27 => ?_)
      refine L.op1 rfl rfl (GSpec.plain rfl (spec_assign rfl (Get.tmp rfl))) ?_
      refine L.nil ?_
      refine N.blockNormal ?_
      refine N.roundK (p ++ [c], (findC src c.parent).1, v27) ?hI1 ?hmu1 ?hs1 ?hk1 ?hp1
      case hs1 => exact (.cons (t := 6) rfl .nil)
      case hk1 => exact (.cons (t := 0) rfl (.cons (t := 3) rfl .nil))
      case hp1 => exact (.cons 0 rfl (.cons 0 rfl .nil))
      case hI1 => exact ⟨anc_next hI1 hp hd, trivial⟩
      case hmu1 => simp; omega
  · have hp : c.parent = [] := by have h := h1; simpa using h
    refine W.exit ?_
    refine N.thenExit ?_
    refine N.thenExit ?_
    refine N.blockExit ?_
    refine N.thenW ?_
    refine W.pub (t := 6) (k := 1) rfl rfl (fun _ => rfl) ?_
    refine W.keep (.cons (t := 6) rfl .nil) .refl ?_
    refine W.seq ?_
    refine W.region ?_
    refine L.op1 rfl rfl (GSpec.plain rfl (spec_move rfl (Get.tmp rfl))) ?_
    refine L.op1 rfl rfl (GSpec.plain rfl (spec_assign rfl (Get.tmp rfl))) ?_
    refine L.op1 rfl rfl (GSpec.plain rfl (spec_assign rfl Get.cbool)) ?_
    refine L.nil ?_
    refine N.thenW ?_
    refine W.ret ?_
    refine N.ret () rfl (.tmp (t := 4) (Get.tmp rfl) (.tmp (t := 5) (Get.tmp rfl) .nil)) (res2w (eqSl ?_) (eqB ?_)) .nil (fun _ _ h => h)
    all_goals rw [anc_root hI1 hp]

end Go.Proofs.YtcabngjnmipflaaDoor
set_option linter.unusedSimpArgs false
set_option maxRecDepth 8000
set_option linter.unusedVariables false
namespace Go.Proofs.YtcabngjnmipflaaDoor
open Go.Sim
theorem check_ok (src : List Cl) (hok : ∀ c ∈ src, ClOk c) : CallT Tryd.prog 25 [Rp.slice eC src] [kwG] (.one (Rp.int .i64 (checkE src))) := by
  refine W.enter (fn := Tryd.f25) (n := 81) Tryd.func25 rfl Tryd.ntmps25 rfl (fun w₀ C₀ => ?_)
  simp only [argS]
  refine W.fact 0 rfl slice_fact fun hl => ?_
  refine W.seq ?_
  refine W.region ?_
  refine L.op1 rfl rfl (GSpec.plain rfl (spec_assign rfl (Get.cint rfl))) ?_
  refine L.nil ?_
  refine N.thenW ?_
  refine W.seq ?_
  refine W.seq ?_
  refine W.region ?_
  refine L.op1 rfl rfl (GSpec.plain rfl (spec_move rfl (Get.tmp rfl))) ?_
  refine L.op1 rfl rfl (GSpec.plain rfl (spec_len rfl Tryd.underlying38 (Get.tmp rfl))) ?_
  refine L.op1 rfl rfl (GSpec.plain rfl (spec_gtr rfl (Get.tmp rfl) (Get.cint rfl))) ?_
  refine L.nil ?_
  refine N.thenW ?_
  refine W.cond (Get.tmp rfl) (fun h1 => ?_) (fun h1 => ?_)
  · have hn32 : 32 < src.length := by have h := of_decide_eq_true h1; omega
    refine W.seq ?_
    refine W.region ?_
    refine L.op1 rfl rfl (GSpec.plain rfl (spec_assign rfl (Get.cint rfl))) ?_
    refine L.nil ?_
    refine N.thenW ?_
    refine W.ret ?_
    refine N.ret () rfl (.tmp (t := 2) (Get.tmp rfl) .nil) (res1 (eqI ?_)) .nil (fun _ _ h => h)
    unfold checkE; rw [if_pos hn32]
  · have hn32 : ¬ 32 < src.length := by have h := of_decide_eq_false h1; omega
    refine W.skip ?_
    refine N.thenW ?_
    refine W.seq ?_
    refine W.seq ?_
    refine W.region ?_
    refine L.op1 rfl rfl (GSpec.plain rfl (spec_move rfl (Get.tmp rfl))) ?_
    refine L.op1 rfl rfl (GSpec.plain rfl (spec_len rfl Tryd.underlying38 (Get.tmp rfl))) ?_
    refine L.op1 rfl rfl (GSpec.plain rfl (spec_move rfl (Get.cint rfl))) ?_
    refine L.nil ?_
    refine N.thenW ?_
    refine W.block ?_
    -- assigned in the loop, not kept: [2]
    refine W.loopK (σ := Nat) (.cons (t := 0) rfl (.cons (t := 17) rfl (.cons (t := 18) rfl .nil))) (fun z => [(19, Rp.int .i64 (z : Nat))]) (fun z => []) (fun z => z ≤ src.length ∧ ∀ j : Nat, j < z → validC (src.getD j default) = 0) (fun z => src.length - z) 0 ⟨Nat.zero_le _, fun j hj => by omega⟩ (.cons (t := 19) rfl .nil) (.cons 0 rfl .nil) ?_
    intro i hI S' M' hS hM
    obtain ⟨hI1, hI2⟩ := hI
    try dsimp only at hS hM
    simp only [List.cons_append, List.nil_append] at hS hM
    subst hS hM
    try dsimp only
    refine W.seq ?_
    refine W.region ?_
    refine L.op1 rfl rfl (GSpec.plain rfl (spec_lss rfl (Get.tmp rfl) (Get.tmp rfl))) ?_
    refine L.nil ?_
    refine N.thenW ?_
    refine W.seq ?_
    refine W.cond (Get.tmp rfl) (fun h2 => ?_) (fun h2 => ?_)
    · have ph2 := h2; try simp only [decide_eq_true_eq, decide_eq_false_iff_not, Bool.and_eq_true, Bool.or_eq_true, Bool.and_eq_false_iff, Bool.or_eq_false_iff, Bool.not_eq_true', Bool.not_eq_false', Bool.not_true, Bool.not_false, Int.not_lt, Int.not_le] at ph2
      refine W.skip ?_
      refine N.thenW ?_
      refine W.seq ?_
      refine W.block ?_
      refine W.seq ?_
      refine W.region ?_
      refine L.op1 rfl rfl (GSpec.plain rfl (spec_indexAddrD (E := eC) rfl Tryd.underlying38 Tryd.sizeOf25 (fun _ => rfl) (Get.tmp rfl) (Get.tmp rfl) (by omega))) ?_
      refine L.op1 rfl rfl (GSpec.plain rfl (spec_loadPA rfl Tryd.isAgg25 Tryd.sizeOf25 (Get.tmp rfl) rfl)) ?_
      refine L.box rfl rfl (GSpec.plain rfl (spec_alloc rfl ti25 z25)) (fun r4 => ?_)
      refine L.storeW (k := 0) rfl rfl rfl Tryd.sizeOf25 (Get.tmp rfl) (Get.tmp rfl) rfl rfl rfl ?_
      refine L.nil ?_
      refine N.thenW ?_
      refine W.seq ?_
      refine W.region ?_
      refine L.op1 rfl rfl (GSpec.plain rfl (spec_loadW (k := 0) rfl Tryd.isAgg25 Tryd.sizeOf25 (Get.tmp rfl) rfl rfl)) ?_
      refine L.op1 rfl rfl (GSpec.plain rfl (spec_callG (k := 1) rfl Tryd.call15 rfl (validC_ok _) (.cons (Get.tmp rfl) .nil))) ?_
      refine L.op1 rfl rfl (GSpec.plain rfl (spec_assign rfl (Get.tmp rfl))) ?_
      refine L.nil ?_
      refine N.thenW ?_
      refine W.seq ?_
      refine W.region ?_
      refine L.op1 rfl rfl (GSpec.plain rfl (spec_move rfl (Get.tmp rfl))) ?_
      refine L.op1 rfl rfl (GSpec.plain rfl (spec_neq rfl (Get.tmp rfl) (Get.cint rfl))) ?_
      refine L.nil ?_
      refine N.thenW ?_
      refine W.cond (Get.tmp rfl) (fun h3 => ?_) (fun h3 => ?_)
      · have ph3 := h3; try simp only [decide_eq_true_eq, decide_eq_false_iff_not, Bool.and_eq_true, Bool.or_eq_true, Bool.and_eq_false_iff, Bool.or_eq_false_iff, Bool.not_eq_true', Bool.not_eq_false', Bool.not_true, Bool.not_false, Int.not_lt, Int.not_le] at ph3
        refine W.seq ?_
        refine W.region ?_
        refine L.op1 rfl rfl (GSpec.plain rfl (spec_move rfl (Get.tmp rfl))) ?_
        refine L.op1 rfl rfl (GSpec.plain rfl (spec_assign rfl (Get.tmp rfl))) ?_
        refine L.nil ?_
        refine N.thenW ?_
        refine W.ret ?_
        refine N.ret () rfl (.tmp (t := 2) (Get.tmp rfl) .nil) (res1 (eqI ?_)) .nil (fun _ _ h => h)
        unfold checkE; rw [if_neg hn32, (firstE_at (e := validC) (i := i) (by omega) (by simpa using h3) hI2), if_pos (by simpa using h3)]
        rfl
      · have ph3 := h3; try simp only [decide_eq_true_eq, decide_eq_false_iff_not, Bool.and_eq_true, Bool.or_eq_true, Bool.and_eq_false_iff, Bool.or_eq_false_iff, Bool.not_eq_true', Bool.not_eq_false', Bool.not_true, Bool.not_false, Int.not_lt, Int.not_le] at ph3
        refine W.skip ?_
        refine N.blockNormal ?_
        refine N.thenW ?_
        refine W.region ?_
        first | refine L.op1 rfl rfl (GSpec.plain rfl (fit_i64 (by omega) (by omega) (spec_add rfl (Get.tmp rfl) (Get.cint rfl)))) ?_ | refine L.op1 rfl rfl (GSpec.plain rfl (spec_add rfl (Get.tmp rfl) (Get.cint rfl))) ?_
        refine L.op1 rfl rfl (GSpec.plain rfl (spec_move rfl (Get.tmp rfl))) ?_
        refine L.nil ?_
        refine N.roundK (i + 1) ?hI1 ?hmu1 ?hs1 ?hk1 ?hp1
        case hs1 => exact (.cons (t := 19) rfl .nil)
        case hk1 => exact (.cons (t := 0) rfl (.cons (t := 17) rfl (.cons (t := 18) rfl .nil)))
        case hp1 => exact (.cons 1 rfl .nil)
        case hI1 => exact ⟨by omega, upto hI2 (by simpa using h3)⟩
        case hmu1 => omega
    · have ph2 := h2; try simp only [decide_eq_true_eq, decide_eq_false_iff_not, Bool.and_eq_true, Bool.or_eq_true, Bool.and_eq_false_iff, Bool.or_eq_false_iff, Bool.not_eq_true', Bool.not_eq_false', Bool.not_true, Bool.not_false, Int.not_lt, Int.not_le] at ph2
      refine W.exit ?_
      refine N.thenExit ?_
      refine N.thenExit ?_
      refine N.blockExit ?_
      refine N.thenW ?_
      have hv0 : firstE validC src = 0 := firstE_none fun j hj => hI2 j (by omega)
      have hsd := sound_of hok hn32 hv0
      refine W.seq ?_
      refine W.seq ?_
      refine W.region ?_
      refine L.op1 rfl rfl (GSpec.plain rfl (spec_move rfl (Get.tmp rfl))) ?_
      refine L.op1 rfl rfl (GSpec.plain rfl (spec_call rfl Tryd.call50 (names_ok _) (.cons (Get.tmp rfl) .nil))) ?_
      refine L.op1 rfl rfl (GSpec.plain rfl (spec_assign rfl (Get.tmp rfl))) ?_
      refine L.nil ?_
      refine N.thenW ?_
      refine W.keep (.cons (t := 0) rfl (.cons (t := 6) rfl .nil)) .refl ?_
      refine W.seq ?_
      refine W.region ?_
      refine L.op1 rfl rfl (GSpec.plain rfl (spec_move rfl (Get.tmp rfl))) ?_
      refine L.op1 rfl rfl (GSpec.plain rfl (spec_neq rfl (Get.tmp rfl) (Get.cint rfl))) ?_
      refine L.nil ?_
      refine N.thenW ?_
      refine W.cond (Get.tmp rfl) (fun h4 => ?_) (fun h4 => ?_)
      · have ph4 := h4; try simp only [decide_eq_true_eq, decide_eq_false_iff_not, Bool.and_eq_true, Bool.or_eq_true, Bool.and_eq_false_iff, Bool.or_eq_false_iff, Bool.not_eq_true', Bool.not_eq_false', Bool.not_true, Bool.not_false, Int.not_lt, Int.not_le] at ph4
        refine W.seq ?_
        refine W.region ?_
        refine L.op1 rfl rfl (GSpec.plain rfl (spec_move rfl (Get.tmp rfl))) ?_
        refine L.op1 rfl rfl (GSpec.plain rfl (spec_assign rfl (Get.tmp rfl))) ?_
        refine L.nil ?_
        refine N.thenW ?_
        refine W.ret ?_
        refine N.ret () rfl (.tmp (t := 2) (Get.tmp rfl) .nil) (res1 (eqI ?_)) .nil (fun _ _ h => h)
        unfold checkE; rw [if_neg hn32, if_neg (by rw [hv0]; simp), if_pos (by simpa using h4)]
      · have hnm : namesE src = 0 := by have h := h4; simpa using h
        refine W.skip ?_
        refine N.thenW ?_
        refine W.seq ?_
        refine W.region ?_
        refine L.op1 rfl rfl (GSpec.plain rfl (spec_assign rfl Get.cbool)) ?_
        refine L.op1 rfl rfl (GSpec.plain rfl (spec_assign rfl Get.cbool)) ?_
        refine L.nil ?_
        refine N.thenW ?_
        refine W.seq ?_
        refine W.seq ?_
        refine W.region ?_
        refine L.op1 rfl rfl (GSpec.plain rfl (spec_move rfl (Get.tmp rfl))) ?_
        refine L.op1 rfl rfl (GSpec.plain rfl (spec_len rfl Tryd.underlying38 (Get.tmp rfl))) ?_
        refine L.op1 rfl rfl (GSpec.plain rfl (spec_move rfl (Get.cint rfl))) ?_
        refine L.nil ?_
        refine N.thenW ?_
        refine W.block ?_
        refine W.loopK (σ := Nat) (.cons (t := 0) rfl (.cons (t := 34) rfl (.cons (t := 35) rfl .nil))) (fun z => [(36, Rp.int .i64 (z : Nat)), (7, Rp.bool ((src.take z).any (clashC src))), (8, Rp.bool ((src.take z).any (largeC src)))]) (fun z => []) (fun z => z ≤ src.length ∧ ∀ j : Nat, j < z → (!(ancE src (src.getD j default)).2) = false) (fun z => src.length - z) 0 ⟨Nat.zero_le _, fun j hj => by omega⟩ (.cons (t := 36) rfl (.cons (t := 7) rfl (.cons (t := 8) rfl .nil))) (.cons 0 rfl .nil) ?_
        intro i hI S' M' hS hM
        obtain ⟨hI1, hI2⟩ := hI
        try dsimp only at hS hM
        simp only [List.cons_append, List.nil_append] at hS hM
        subst hS hM
        try dsimp only
        refine W.seq ?_
        refine W.region ?_
        refine L.op1 rfl rfl (GSpec.plain rfl (spec_lss rfl (Get.tmp rfl) (Get.tmp rfl))) ?_
        refine L.nil ?_
        refine N.thenW ?_
        refine W.seq ?_
        refine W.cond (Get.tmp rfl) (fun h5 => ?_) (fun h5 => ?_)
        · have ph5 := h5; try simp only [decide_eq_true_eq, decide_eq_false_iff_not, Bool.and_eq_true, Bool.or_eq_true, Bool.and_eq_false_iff, Bool.or_eq_false_iff, Bool.not_eq_true', Bool.not_eq_false', Bool.not_true, Bool.not_false, Int.not_lt, Int.not_le] at ph5
          refine W.skip ?_
          refine N.thenW ?_
          refine W.seq ?_
          refine W.block ?_
          refine W.seq ?_
          refine W.region ?_
          refine L.op1 rfl rfl (GSpec.plain rfl (spec_indexAddrD (E := eC) rfl Tryd.underlying38 Tryd.sizeOf25 (fun _ => rfl) (Get.tmp rfl) (Get.tmp rfl) (by omega))) ?_
          refine L.op1 rfl rfl (GSpec.plain rfl (spec_loadPA rfl Tryd.isAgg25 Tryd.sizeOf25 (Get.tmp rfl) rfl)) ?_
          refine L.box rfl rfl (GSpec.plain rfl (spec_alloc rfl ti25 z25)) (fun r10 => ?_)
          refine L.storeW (k := 0) rfl rfl rfl Tryd.sizeOf25 (Get.tmp rfl) (Get.tmp rfl) rfl rfl rfl ?_
          refine L.nil ?_
          refine N.thenW ?_
          refine W.seq ?_
          refine W.region ?_
          refine L.op1 rfl rfl (GSpec.plain rfl (spec_move rfl (Get.tmp rfl))) ?_
          refine L.op1 rfl rfl (GSpec.plain rfl (spec_loadW (k := 0) rfl Tryd.isAgg25 Tryd.sizeOf25 (Get.tmp rfl) rfl rfl)) ?_
          refine L.op1 rfl rfl (GSpec.plain rfl (spec_call rfl Tryd.call51 (anc_ok _ _ (by omega)) (.cons (Get.tmp rfl) (.cons (Get.tmp rfl) .nil)))) ?_
          refine L.op1 rfl rfl (GSpec.plain rfl (spec_move rfl (Get.tmp rfl))) ?_
          refine L.op1 rfl rfl (GSpec.plain rfl (spec_extract rfl (Get.tmp rfl) rfl)) ?_
          refine L.op1 rfl rfl (GSpec.plain rfl (spec_extract rfl (Get.tmp rfl) rfl)) ?_
          refine L.op1 rfl rfl (GSpec.plain rfl (spec_assign rfl (Get.tmp rfl))) ?_
          refine L.op1 rfl rfl (GSpec.plain rfl (spec_assign rfl (Get.tmp rfl))) ?_
          refine L.nil ?_
          refine N.thenW ?_
          refine W.seq ?_
          refine W.seq ?_
          refine W.region ?_
          refine L.op1 rfl rfl (GSpec.plain rfl (spec_move rfl (Get.tmp rfl))) ?_
          refine L.op1 rfl rfl (GSpec.plain rfl (spec_not rfl (Get.tmp rfl))) ?_
          refine L.nil ?_
          refine N.thenW ?_
          refine W.cond (Get.tmp rfl) (fun h6 => ?_) (fun h6 => ?_)
          · have ph6 := h6; try simp only [decide_eq_true_eq, decide_eq_false_iff_not, Bool.and_eq_true, Bool.or_eq_true, Bool.and_eq_false_iff, Bool.or_eq_false_iff, Bool.not_eq_true', Bool.not_eq_false', Bool.not_true, Bool.not_false, Int.not_lt, Int.not_le] at ph6
            refine W.seq ?_
            refine W.region ?_
            refine L.op1 rfl rfl (GSpec.plain rfl (spec_assign rfl (Get.cint rfl))) ?_
            refine L.nil ?_
            refine N.thenW ?_
            refine W.ret ?_
            refine N.ret () rfl (.tmp (t := 2) (Get.tmp rfl) .nil) (res1 (eqI ?_)) .nil (fun _ _ h => h)
            unfold checkE; rw [if_neg hn32, if_neg (by rw [hv0]; simp), if_neg (by rw [hnm]; simp), if_pos (any_yes (p := fun c => !(ancE src c).2) (i := i) (by omega) (by simpa using h6))]
          · have ph6 := h6; try simp only [decide_eq_true_eq, decide_eq_false_iff_not, Bool.and_eq_true, Bool.or_eq_true, Bool.and_eq_false_iff, Bool.or_eq_false_iff, Bool.not_eq_true', Bool.not_eq_false', Bool.not_true, Bool.not_false, Int.not_lt, Int.not_le] at ph6
            refine W.skip ?_
            refine N.thenW ?_
            have hfl := anc_few hsd (.inl (getD_mem' (show i < src.length by omega)))
            refine W.seq ?_
            refine W.region ?_
            refine L.op1 rfl rfl (GSpec.plain rfl (spec_move rfl (Get.tmp rfl))) ?_
            refine L.op1 rfl rfl (GSpec.plain rfl (spec_call rfl Tryd.call45 (flatten_ok _ hfl.1 hfl.2) (.cons (Get.tmp rfl) .nil))) ?_
            refine L.op1 rfl rfl (GSpec.plain rfl (spec_assign rfl (Get.tmp rfl))) ?_
            refine L.nil ?_
            refine N.thenW ?_
            refine W.seq ?_
            refine W.region ?_
            refine L.op1 rfl rfl (GSpec.plain rfl (spec_move rfl (Get.tmp rfl))) ?_
            refine L.op1 rfl rfl (GSpec.plain rfl (spec_move rfl (Get.tmp rfl))) ?_
            refine L.op1 rfl rfl (GSpec.guard rfl rfl rfl fun hg => (spec_move rfl (Get.tmp rfl))) ?_
            refine L.op1 rfl rfl (GSpec.guard rfl rfl rfl fun hg => (spec_nilCheck rfl (Get.opt rfl hg))) ?_
            refine L.op1 rfl rfl (GSpec.guard rfl rfl rfl fun hg => (spec_fieldAddrP (f := 1) rfl Tryd.underlying72 rfl Tryd.sizeOf4 (Get.opt rfl hg) rfl rfl)) ?_
            refine L.op1 rfl rfl (GSpec.guard rfl rfl rfl fun hg => (spec_loadP1 rfl Tryd.isAgg4 (Get.opt rfl hg))) ?_
            refine L.op1 rfl rfl (GSpec.plain rfl (spec_or rfl (Get.tmp rfl) (fun hb => (Get.opt rfl hb)))) ?_
            refine L.op1 rfl rfl (GSpec.plain rfl (spec_assign rfl (Get.tmp rfl))) ?_
            refine L.nil ?_
            refine N.thenW ?_
            refine W.region ?_
            refine L.op1 rfl rfl (GSpec.plain rfl (spec_move rfl (Get.tmp rfl))) ?_
            refine L.op1 rfl rfl (GSpec.plain rfl (spec_move rfl (Get.tmp rfl))) ?_
            refine L.op1 rfl rfl (GSpec.guard rfl rfl rfl fun hg => (spec_move rfl (Get.tmp rfl))) ?_
            refine L.op1 rfl rfl (GSpec.guard rfl rfl rfl fun hg => (spec_nilCheck rfl (Get.opt rfl hg))) ?_
            refine L.op1 rfl rfl (GSpec.guard rfl rfl rfl fun hg => (spec_fieldAddrP (f := 0) rfl Tryd.underlying72 rfl Tryd.sizeOf25 (Get.opt rfl hg) rfl rfl)) ?_
            refine L.op1 rfl rfl (GSpec.guard rfl rfl rfl fun hg => (spec_fieldAddrP (f := 2) rfl Tryd.underlying25 rfl Tryd.sizeOf22 (Get.opt rfl hg) rfl rfl)) ?_
            refine L.op1 rfl rfl (GSpec.guard rfl rfl rfl fun hg => (spec_loadP1 rfl Tryd.isAgg22 (Get.opt rfl hg))) ?_
            refine L.op1 rfl rfl (GSpec.guard rfl rfl rfl fun hg => (spec_len rfl Tryd.underlying22 (Get.opt rfl hg))) ?_
            refine L.op1 rfl rfl (GSpec.guard rfl rfl rfl fun hg => (spec_gtr rfl (Get.opt rfl hg) (Get.cint rfl))) ?_
            refine L.op1 rfl rfl (GSpec.plain rfl (spec_or rfl (Get.tmp rfl) (fun hb => (Get.opt rfl hb)))) ?_
            refine L.op1 rfl rfl (GSpec.plain rfl (spec_move rfl (Get.tmp rfl))) ?_
            refine L.op1 rfl rfl (GSpec.guard rfl rfl rfl fun hg => (spec_move rfl (Get.tmp rfl))) ?_
            refine L.op1 rfl rfl (GSpec.guard rfl rfl rfl fun hg => (spec_nilCheck rfl (Get.opt rfl hg))) ?_
            refine L.op1 rfl rfl (GSpec.guard rfl rfl rfl fun hg => (spec_fieldAddrP (f := 0) rfl Tryd.underlying72 rfl Tryd.sizeOf25 (Get.opt rfl hg) rfl rfl)) ?_
            refine L.op1 rfl rfl (GSpec.guard rfl rfl rfl fun hg => (spec_fieldAddrP (f := 3) rfl Tryd.underlying25 rfl Tryd.sizeOf23 (Get.opt rfl hg) rfl rfl)) ?_
            refine L.op1 rfl rfl (GSpec.guard rfl rfl rfl fun hg => (spec_loadP1 rfl Tryd.isAgg23 (Get.opt rfl hg))) ?_
            refine L.op1 rfl rfl (GSpec.guard rfl rfl rfl fun hg => (spec_len rfl Tryd.underlying23 (Get.opt rfl hg))) ?_
            refine L.op1 rfl rfl (GSpec.guard rfl rfl rfl fun hg => (spec_gtr rfl (Get.opt rfl hg) (Get.cint rfl))) ?_
            refine L.op1 rfl rfl (GSpec.plain rfl (spec_or rfl (Get.tmp rfl) (fun hb => (Get.opt rfl hb)))) ?_
            refine L.op1 rfl rfl (GSpec.plain rfl (spec_assign rfl (Get.tmp rfl))) ?_
            refine L.nil ?_
            refine N.blockNormal ?_
            refine N.thenW ?_
            refine W.region ?_
            first | refine L.op1 rfl rfl (GSpec.plain rfl (fit_i64 (by omega) (by omega) (spec_add rfl (Get.tmp rfl) (Get.cint rfl)))) ?_ | refine L.op1 rfl rfl (GSpec.plain rfl (spec_add rfl (Get.tmp rfl) (Get.cint rfl))) ?_
            refine L.op1 rfl rfl (GSpec.plain rfl (spec_move rfl (Get.tmp rfl))) ?_
            refine L.nil ?_
            refine N.roundK (i + 1) ?hI2 ?hmu2 ?hs2 ?hk2 ?hp2
            case hs2 => exact (.cons (t := 36) rfl (.weak (t := 7) rfl (eqB (by simp only [Int.toNat_natCast, Bool.or_assoc, ← any_step _ (show i < src.length by omega)]; rfl)) (.weak (t := 8) rfl (eqB (by simp only [Int.toNat_natCast, Bool.or_assoc, ← any_step _ (show i < src.length by omega)]; rfl)) .nil)))
            case hk2 => exact (.cons (t := 0) rfl (.cons (t := 34) rfl (.cons (t := 35) rfl .nil)))
            case hp2 => exact (.cons 1 rfl .nil)
            case hI2 => exact ⟨by omega, upto hI2 (by simpa using h6)⟩
            case hmu2 => omega
        · have ph5 := h5; try simp only [decide_eq_true_eq, decide_eq_false_iff_not, Bool.and_eq_true, Bool.or_eq_true, Bool.and_eq_false_iff, Bool.or_eq_false_iff, Bool.not_eq_true', Bool.not_eq_false', Bool.not_true, Bool.not_false, Int.not_lt, Int.not_le] at ph5
          refine W.exit ?_
          refine N.thenExit ?_
          refine N.thenExit ?_
          refine N.blockExit ?_
          refine N.thenW ?_
          have hi : i = src.length := by omega
          subst hi
          rw [List.take_length]
          have han : (src.any fun c => !(ancE src c).2) = false := any_no (p := fun c => !(ancE src c).2) hI2
          refine W.seq ?_
          refine W.block ?_
          refine W.seq ?_
          refine W.region ?_
          refine L.op1 rfl rfl (GSpec.plain rfl (spec_move rfl (Get.tmp rfl))) ?_
          refine L.op1 rfl rfl (GSpec.plain rfl (spec_assign rfl (Get.tmp rfl))) ?_
          refine L.nil ?_
          refine N.thenW ?_
          refine W.keep (.cons (t := 8) rfl (.cons (t := 77) rfl .nil)) .refl ?_
          refine W.cond (Get.tmp rfl) (fun h7 => ?_) (fun h7 => ?_)
          · have hcl := h7
            refine W.seq ?_
            refine W.region ?_
            refine L.op1 rfl rfl (GSpec.plain rfl (spec_assign rfl (Get.cint rfl))) ?_
            refine L.nil ?_
            refine N.thenW ?_
            refine W.ret ?_
            refine N.ret () rfl (.tmp (t := 2) (Get.tmp rfl) .nil) (res1 (eqI ?_)) .nil (fun _ _ h => h)
            unfold checkE; rw [if_neg hn32, if_neg (by rw [hv0]; simp), if_neg (by rw [hnm]; simp), if_neg (by rw [han]; simp), if_pos hcl]
          · have hcl := h7
            refine W.seq ?_
            refine W.region ?_
            refine L.op1 rfl rfl (GSpec.plain rfl (spec_move rfl (Get.tmp rfl))) ?_
            refine L.op1 rfl rfl (GSpec.plain rfl (spec_assign rfl (Get.tmp rfl))) ?_
            refine L.nil ?_
            refine N.thenW ?_
            refine W.cond (Get.tmp rfl) (fun h8 => ?_) (fun h8 => ?_)
            · have hlg := h8
              refine W.seq ?_
              refine W.region ?_
              refine L.op1 rfl rfl (GSpec.plain rfl (spec_assign rfl (Get.cint rfl))) ?_
              refine L.nil ?_
              refine N.thenW ?_
              refine W.ret ?_
              refine N.ret () rfl (.tmp (t := 2) (Get.tmp rfl) .nil) (res1 (eqI ?_)) .nil (fun _ _ h => h)
              unfold checkE; rw [if_neg hn32, if_neg (by rw [hv0]; simp), if_neg (by rw [hnm]; simp), if_neg (by rw [han]; simp), if_neg (by rw [hcl]; simp), if_pos hlg]
            · have hlg := h8
              refine W.skip ?_
              refine N.blockNormal ?_
              refine N.thenW ?_
              refine W.seq ?_
              refine W.region ?_
              refine L.op1 rfl rfl (GSpec.plain rfl (spec_assign rfl (Get.cint rfl))) ?_
              refine L.nil ?_
              refine N.thenW ?_
              refine W.ret ?_
              refine N.ret () rfl (.tmp (t := 2) (Get.tmp rfl) .nil) (res1 (eqI ?_)) .nil (fun _ _ h => h)
              unfold checkE; rw [if_neg hn32, if_neg (by rw [hv0]; simp), if_neg (by rw [hnm]; simp), if_neg (by rw [han]; simp), if_neg (by rw [hcl]; simp), if_neg (by rw [hlg]; simp)]

end Go.Proofs.YtcabngjnmipflaaDoor
set_option linter.unusedSimpArgs false
set_option maxRecDepth 8000
set_option linter.unusedVariables false
namespace Go.Proofs.YtcabngjnmipflaaDoor
open Go.Sim
theorem line_ok (src : List Cl) (s : List UInt8) (hok : ∀ c ∈ src, ClOk c) : CallT Tryd.prog 43 [Rp.slice eC src, Rp.str s] [kwG] (.one (Rp.tuple [Rp.slice eC (lineE src s).1, Rp.int .i64 (lineE src s).2])) := by
  refine W.enter (fn := Tryd.f43) (n := 31) Tryd.func43 rfl Tryd.ntmps43 rfl (fun w₀ C₀ => ?_)
  simp only [argS]
  refine W.seq ?_
  refine W.region ?_
  refine L.op1 rfl rfl (GSpec.plain rfl (spec_assign rfl (Get.cnil (E := eC)))) ?_
  refine L.op1 rfl rfl (GSpec.plain rfl (spec_assign rfl (Get.cint rfl))) ?_
  refine L.nil ?_
  refine N.thenW ?_
  refine W.seq ?_
  refine W.seq ?_
  refine W.region ?_
  refine L.op1 rfl rfl (GSpec.plain rfl (spec_move rfl (Get.tmp rfl))) ?_
  refine L.op1 rfl rfl (GSpec.plain rfl (spec_callG (k := 0) rfl Tryd.call25 rfl (check_ok _ (by assumption)) (.cons (Get.tmp rfl) .nil))) ?_
  refine L.op1 rfl rfl (GSpec.plain rfl (spec_assign rfl (Get.tmp rfl))) ?_
  refine L.nil ?_
  refine N.thenW ?_
  refine W.seq ?_
  refine W.region ?_
  refine L.op1 rfl rfl (GSpec.plain rfl (spec_move rfl (Get.tmp rfl))) ?_
  refine L.op1 rfl rfl (GSpec.plain rfl (spec_neq rfl (Get.tmp rfl) (Get.cint rfl))) ?_
  refine L.nil ?_
  refine N.thenW ?_
  refine W.cond (Get.tmp rfl) (fun h1 => ?_) (fun h1 => ?_)
  · have hc : checkE src ≠ 0 := by have h := h1; simpa using h
    refine W.seq ?_
    refine W.region ?_
    refine L.op1 rfl rfl (GSpec.plain rfl (spec_move rfl (Get.tmp rfl))) ?_
    refine L.op1 rfl rfl (GSpec.plain rfl (spec_assign rfl (Get.cnil (E := eC)))) ?_
    refine L.op1 rfl rfl (GSpec.plain rfl (spec_assign rfl (Get.tmp rfl))) ?_
    refine L.nil ?_
    refine N.thenW ?_
    refine W.keep (.cons (t := 0) rfl (.cons (t := 1) rfl (.cons (t := 4) rfl (.cons (t := 5) rfl .nil)))) .refl ?_
    refine W.ret ?_
    refine N.ret () rfl (.tmp (t := 4) (Get.tmp rfl) (.tmp (t := 5) (Get.tmp rfl) .nil)) (res2w (eqSl ?_) (eqI ?_)) .nil (fun _ _ h => h)
    all_goals (unfold lineE; rw [if_pos hc])
  · have hc : checkE src = 0 := by have h := h1; simpa using h
    have hsd := sound_check hok hc
    have hn := hsd.n
    refine W.skip ?_
    refine N.thenW ?_
    refine W.seq ?_
    refine W.region ?_
    refine L.op1 rfl rfl (GSpec.plain rfl (spec_move rfl (Get.tmp rfl))) ?_
    refine L.op1 rfl rfl (GSpec.plain rfl (spec_move rfl (Get.tmp rfl))) ?_
    refine L.op1 rfl rfl (GSpec.plain rfl (spec_call rfl Tryd.call48 (find_ok _ _) (.cons (Get.tmp rfl) (.cons (Get.tmp rfl) .nil)))) ?_
    refine L.op1 rfl rfl (GSpec.plain rfl (spec_move rfl (Get.tmp rfl))) ?_
    refine L.op1 rfl rfl (GSpec.plain rfl (spec_extract rfl (Get.tmp rfl) rfl)) ?_
    refine L.op1 rfl rfl (GSpec.plain rfl (spec_extract rfl (Get.tmp rfl) rfl)) ?_
    refine L.box rfl rfl (GSpec.plain rfl (spec_alloc rfl ti25 z25)) (fun r7 => ?_)
    refine L.storeW (k := 0) rfl rfl rfl Tryd.sizeOf25 (Get.tmp rfl) (Get.tmp rfl) rfl rfl rfl ?_
    refine L.op1 rfl rfl (GSpec.plain rfl (spec_assign rfl (Get.tmp rfl))) ?_
    refine L.nil ?_
    refine N.thenW ?_
    refine W.keep (.cons (t := 0) rfl (.cons (t := 4) rfl (.cons (t := 5) rfl (.cons (t := 7) rfl (.cons (t := 8) rfl .nil))))) .refl ?_
    refine W.seq ?_
    refine W.seq ?_
    refine W.region ?_
    refine L.op1 rfl rfl (GSpec.plain rfl (spec_move rfl (Get.tmp rfl))) ?_
    refine L.op1 rfl rfl (GSpec.plain rfl (spec_not rfl (Get.tmp rfl))) ?_
    refine L.nil ?_
    refine N.thenW ?_
    refine W.cond (Get.tmp rfl) (fun h2 => ?_) (fun h2 => ?_)
    · have hf : (findC src s).2 = false := by have h := h2; simpa using h
      refine W.seq ?_
      refine W.region ?_
      refine L.op1 rfl rfl (GSpec.plain rfl (spec_assign rfl (Get.cnil (E := eC)))) ?_
      refine L.op1 rfl rfl (GSpec.plain rfl (spec_assign rfl (Get.cint rfl))) ?_
      refine L.nil ?_
      refine N.thenW ?_
      refine W.ret ?_
      refine N.ret () rfl (.tmp (t := 4) (Get.tmp rfl) (.tmp (t := 5) (Get.tmp rfl) .nil)) (res2w (eqSl ?_) (eqI ?_)) .nil (fun _ _ h => h)
      all_goals (unfold lineE; rw [if_neg (by rw [hc]; simp), if_pos hf])
    · have hf : (findC src s).2 = true := by have h := h2; simpa using h
      refine W.skip ?_
      refine N.thenW ?_
      refine W.seq ?_
      refine W.region ?_
      refine L.op1 rfl rfl (GSpec.plain rfl (spec_move rfl (Get.tmp rfl))) ?_
      refine L.op1 rfl rfl (GSpec.plain rfl (spec_loadW (k := 0) rfl Tryd.isAgg25 Tryd.sizeOf25 (Get.tmp rfl) rfl rfl)) ?_
      refine L.op1 rfl rfl (GSpec.plain rfl (spec_call rfl Tryd.call51 (anc_ok _ _ (by omega)) (.cons (Get.tmp rfl) (.cons (Get.tmp rfl) .nil)))) ?_
      refine L.op1 rfl rfl (GSpec.plain rfl (spec_move rfl (Get.tmp rfl))) ?_
      refine L.op1 rfl rfl (GSpec.plain rfl (spec_extract rfl (Get.tmp rfl) rfl)) ?_
      refine L.op1 rfl rfl (GSpec.plain rfl (spec_extract rfl (Get.tmp rfl) rfl)) ?_
      refine L.op1 rfl rfl (GSpec.plain rfl (spec_assign rfl (Get.tmp rfl))) ?_
      refine L.op1 rfl rfl (GSpec.plain rfl (spec_assign rfl (Get.tmp rfl))) ?_
      refine L.nil ?_
      refine N.thenW ?_
      refine W.keep (.cons (t := 4) rfl (.cons (t := 5) rfl (.cons (t := 9) rfl .nil))) .refl ?_
      refine W.seq ?_
      refine W.region ?_
      refine L.op1 rfl rfl (GSpec.plain rfl (spec_move rfl (Get.tmp rfl))) ?_
      refine L.op1 rfl rfl (GSpec.plain rfl (spec_assign rfl (Get.tmp rfl))) ?_
      refine L.op1 rfl rfl (GSpec.plain rfl (spec_assign rfl (Get.cint rfl))) ?_
      refine L.nil ?_
      refine N.thenW ?_
      refine W.ret ?_
      refine N.ret () rfl (.tmp (t := 4) (Get.tmp rfl) (.tmp (t := 5) (Get.tmp rfl) .nil)) (res2w (eqSl ?_) (eqI ?_)) .nil (fun _ _ h => h)
      all_goals (unfold lineE; rw [if_neg (by rw [hc]; simp), if_neg (by rw [hf]; simp)])

end Go.Proofs.YtcabngjnmipflaaDoor
set_option linter.unusedSimpArgs false
set_option maxRecDepth 8000
set_option linter.unusedVariables false
namespace Go.Proofs.YtcabngjnmipflaaDoor
open Go.Sim
theorem LineX_ok (src : List Cl) (s : List UInt8) (hok : ∀ c ∈ src, ClOk c) : CallT Tryd.prog 18 [Rp.slice eC src, Rp.str s] [kwG] (.one (Rp.tuple [Rp.slice eS (namesL (lineE src s)), Rp.int .i64 (lineE src s).2])) := by
  refine W.enter (fn := Tryd.f18) (n := 33) Tryd.func18 rfl Tryd.ntmps18 rfl (fun w₀ C₀ => ?_)
  simp only [argS]
  have hfw := line_few hok s
  have hln := hfw.2.1
  refine W.seq ?_
  refine W.region ?_
  refine L.op1 rfl rfl (GSpec.plain rfl (spec_assign rfl (Get.cnil (E := eS)))) ?_
  refine L.op1 rfl rfl (GSpec.plain rfl (spec_assign rfl (Get.cint rfl))) ?_
  refine L.nil ?_
  refine N.thenW ?_
  refine W.seq ?_
  refine W.region ?_
  refine L.op1 rfl rfl (GSpec.plain rfl (spec_move rfl (Get.tmp rfl))) ?_
  refine L.op1 rfl rfl (GSpec.plain rfl (spec_move rfl (Get.tmp rfl))) ?_
  refine L.op1 rfl rfl (GSpec.plain rfl (spec_callG (k := 0) rfl Tryd.call43 rfl (line_ok _ _ (by assumption)) (.cons (Get.tmp rfl) (.cons (Get.tmp rfl) .nil)))) ?_
  refine L.op1 rfl rfl (GSpec.plain rfl (spec_move rfl (Get.tmp rfl))) ?_
  refine L.op1 rfl rfl (GSpec.plain rfl (spec_extract rfl (Get.tmp rfl) rfl)) ?_
  refine L.op1 rfl rfl (GSpec.plain rfl (spec_extract rfl (Get.tmp rfl) rfl)) ?_
  refine L.op1 rfl rfl (GSpec.plain rfl (spec_assign rfl (Get.tmp rfl))) ?_
  refine L.op1 rfl rfl (GSpec.plain rfl (spec_assign rfl (Get.tmp rfl))) ?_
  refine L.nil ?_
  refine N.thenW ?_
  refine W.keep (.cons (t := 4) rfl (.cons (t := 5) rfl (.cons (t := 6) rfl (.cons (t := 7) rfl .nil)))) .refl ?_
  refine W.seq ?_
  refine W.seq ?_
  refine W.region ?_
  refine L.op1 rfl rfl (GSpec.plain rfl (spec_move rfl (Get.tmp rfl))) ?_
  refine L.op1 rfl rfl (GSpec.plain rfl (spec_neq rfl (Get.tmp rfl) (Get.cint rfl))) ?_
  refine L.nil ?_
  refine N.thenW ?_
  refine W.cond (Get.tmp rfl) (fun h1 => ?_) (fun h1 => ?_)
  · have hc : (lineE src s).2 ≠ 0 := by have h := h1; simpa using h
    refine W.seq ?_
    refine W.region ?_
    refine L.op1 rfl rfl (GSpec.plain rfl (spec_move rfl (Get.tmp rfl))) ?_
    refine L.op1 rfl rfl (GSpec.plain rfl (spec_assign rfl (Get.cnil (E := eS)))) ?_
    refine L.op1 rfl rfl (GSpec.plain rfl (spec_assign rfl (Get.tmp rfl))) ?_
    refine L.nil ?_
    refine N.thenW ?_
    refine W.keep (.cons (t := 4) rfl (.cons (t := 5) rfl (.cons (t := 6) rfl .nil))) .refl ?_
    refine W.ret ?_
    refine N.ret () rfl (.tmp (t := 4) (Get.tmp rfl) (.tmp (t := 5) (Get.tmp rfl) .nil)) (res2w (eqSl ?_) (eqI ?_)) .nil (fun _ _ h => h)
    all_goals first | (unfold namesL; rw [if_pos hc]) | rfl
  · have hc : (lineE src s).2 = 0 := by have h := h1; simpa using h
    refine W.skip ?_
    refine N.thenW ?_
    refine W.seq ?_
    refine W.region ?_
    refine L.op1 rfl rfl (GSpec.plain rfl (spec_assign rfl Get.cval)) ?_
    refine L.nil ?_
    refine N.thenW ?_
    refine W.nil 9 1 eS ?_
    refine W.seq ?_
    refine W.seq ?_
    refine W.region ?_
    refine L.op1 rfl rfl (GSpec.plain rfl (spec_move rfl (Get.tmp rfl))) ?_
    refine L.op1 rfl rfl (GSpec.plain rfl (spec_len rfl Tryd.underlying38 (Get.tmp rfl))) ?_
    refine L.op1 rfl rfl (GSpec.plain rfl (spec_move rfl (Get.cint rfl))) ?_
    refine L.nil ?_
    refine N.thenW ?_
    refine W.block ?_
    refine W.loopK (σ := Nat × Value) (.cons (t := 4) rfl (.cons (t := 5) rfl (.cons (t := 20) rfl (.cons (t := 21) rfl .nil)))) (fun z => [(22, Rp.int .i64 (z.1 : Nat)), (8, Rp.val z.2)]) (fun z => [MF.osl z.2 9 1 eS (((lineE src s).1.take z.1).map Cl.name)]) (fun z => z.1 ≤ (lineE src s).1.length) (fun z => (lineE src s).1.length - z.1) (0, .slice none 0 0) (Nat.zero_le _) (.cons (t := 22) rfl (.cons (t := 8) rfl .nil)) (.cons 0 rfl (.cons 0 rfl .nil)) ?_
    intro ⟨i, vo⟩ hI S' M' hS hM
    try dsimp only at hS hM
    simp only [List.cons_append, List.nil_append] at hS hM
    subst hS hM
    try dsimp only
    try dsimp only at hI
    refine W.seq ?_
    refine W.region ?_
    refine L.op1 rfl rfl (GSpec.plain rfl (spec_lss rfl (Get.tmp rfl) (Get.tmp rfl))) ?_
    refine L.nil ?_
    refine N.thenW ?_
    refine W.seq ?_
    refine W.cond (Get.tmp rfl) (fun h2 => ?_) (fun h2 => ?_)
    · have ph2 := h2; try simp only [decide_eq_true_eq, decide_eq_false_iff_not, Bool.and_eq_true, Bool.or_eq_true, Bool.and_eq_false_iff, Bool.or_eq_false_iff, Bool.not_eq_true', Bool.not_eq_false', Bool.not_true, Bool.not_false, Int.not_lt, Int.not_le] at ph2
      refine W.skip ?_
      refine N.thenW ?_
      refine W.seq ?_
      refine W.block ?_
      refine W.seq ?_
      refine W.region ?_
      refine L.op1 rfl rfl (GSpec.plain rfl (spec_indexAddrD (E := eC) rfl Tryd.underlying38 Tryd.sizeOf25 (fun _ => rfl) (Get.tmp rfl) (Get.tmp rfl) (by (first | omega | (simp only [Int.toNat_natCast]; omega))))) ?_
      refine L.op1 rfl rfl (GSpec.plain rfl (spec_loadPA rfl Tryd.isAgg25 Tryd.sizeOf25 (Get.tmp rfl) rfl)) ?_
      refine L.box rfl rfl (GSpec.plain rfl (spec_alloc rfl ti25 z25)) (fun r10 => ?_)
      refine L.storeW (k := 0) rfl rfl rfl Tryd.sizeOf25 (Get.tmp rfl) (Get.tmp rfl) rfl rfl rfl ?_
      refine L.nil ?_
      refine N.thenW ?_
      refine W.region ?_
      refine L.op1 rfl rfl (GSpec.plain rfl (spec_move rfl (Get.tmp rfl))) ?_
      refine L.op1 rfl rfl (GSpec.plain rfl (spec_fieldAddr (f := 0) (off' := 0) rfl Tryd.underlying25 rfl Tryd.sizeOf9 (Get.tmp rfl) rfl)) ?_
      refine L.op1 rfl rfl (GSpec.plain rfl (spec_load1 (k := 0) rfl Tryd.isAgg9 (Get.tmp rfl) rfl rfl)) ?_
      refine L.op1 rfl rfl (GSpec.plain rfl (spec_buildSlice1 (y := ((lineE src s).1.getD i default).name) (E := eS) rfl Tryd.underlying40 ti9 z9 (by decide) (GetC.one (Get.tmp rfl)) (fun _ => rfl))) ?_
      refine L.append (k := 1) (E := eS) rfl rfl rfl rfl Tryd.underlying40 ti9 rfl (by decide) (fun _ => rfl) (Get.tmp rfl) (Get.tmp rfl) rfl (by (simp only [List.length_map, List.length_take, List.length_cons, List.length_nil]; omega)) (by (simp only [List.length_map, List.length_take, List.length_cons, List.length_nil]; omega)) (fun v30 => ?_)
      refine L.op1 rfl rfl (GSpec.plain rfl (spec_assign rfl (Get.tmp rfl))) ?_
      refine L.nil ?_
      refine N.blockNormal ?_
      refine N.thenW ?_
      refine W.region ?_
      first | refine L.op1 rfl rfl (GSpec.plain rfl (fit_i64 (by (first | omega | (simp only [Int.toNat_natCast]; omega))) (by (first | omega | (simp only [Int.toNat_natCast]; omega))) (spec_add rfl (Get.tmp rfl) (Get.cint rfl)))) ?_ | refine L.op1 rfl rfl (GSpec.plain rfl (spec_add rfl (Get.tmp rfl) (Get.cint rfl))) ?_
      refine L.op1 rfl rfl (GSpec.plain rfl (spec_move rfl (Get.tmp rfl))) ?_
      refine L.nil ?_
      refine N.roundK (i + 1, v30) ?hI1 ?hmu1 ?hs1 ?hk1 ?hp1
      case hs1 => exact (.cons (t := 22) rfl (.cons (t := 8) rfl .nil))
      case hk1 => exact (.cons (t := 4) rfl (.cons (t := 5) rfl (.cons (t := 20) rfl (.cons (t := 21) rfl .nil))))
      case hp1 => dsimp only; rw [take_succ (show i < (lineE src s).1.length by omega), List.map_append]; exact (.cons 1 rfl (.cons 1 rfl .nil))
      case hI1 => dsimp only; omega
      case hmu1 => dsimp only; omega
    · have ph2 := h2; try simp only [decide_eq_true_eq, decide_eq_false_iff_not, Bool.and_eq_true, Bool.or_eq_true, Bool.and_eq_false_iff, Bool.or_eq_false_iff, Bool.not_eq_true', Bool.not_eq_false', Bool.not_true, Bool.not_false, Int.not_lt, Int.not_le] at ph2
      refine W.exit ?_
      refine N.thenExit ?_
      refine N.thenExit ?_
      refine N.blockExit ?_
      refine N.thenW ?_
      have hi : i = (lineE src s).1.length := by omega
      subst hi
      rw [List.take_length]
      refine W.pub (t := 8) (k := 0) rfl rfl (fun _ => rfl) ?_
      refine W.seq ?_
      refine W.region ?_
      refine L.op1 rfl rfl (GSpec.plain rfl (spec_move rfl (Get.tmp rfl))) ?_
      refine L.op1 rfl rfl (GSpec.plain rfl (spec_assign rfl (Get.tmp rfl))) ?_
      refine L.op1 rfl rfl (GSpec.plain rfl (spec_assign rfl (Get.cint rfl))) ?_
      refine L.nil ?_
      refine N.thenW ?_
      refine W.keep (.cons (t := 4) rfl (.cons (t := 5) rfl .nil)) .refl ?_
      refine W.ret ?_
      refine N.ret () rfl (.tmp (t := 4) (Get.tmp rfl) (.tmp (t := 5) (Get.tmp rfl) .nil)) (res2w (eqSl ?_) (eqI ?_)) .nil (fun _ _ h => h)
      all_goals first | (unfold namesL; rw [if_neg (by rw [hc]; simp)]) | exact hc.symm

end Go.Proofs.YtcabngjnmipflaaDoor
set_option linter.unusedSimpArgs false
set_option maxRecDepth 8000
set_option linter.unusedVariables false
namespace Go.Proofs.YtcabngjnmipflaaDoor
open Go.Sim
theorem FlattenX_ok (src : List Cl) (s : List UInt8) (hok : ∀ c ∈ src, ClOk c) : CallT Tryd.prog 20 [Rp.slice eC src, Rp.str s] [kwG] (.one (Rp.tuple [Rp.agg (eC (flatL (lineE src s))), Rp.int .i64 (lineE src s).2])) := by
  refine W.enter (fn := Tryd.f20) (n := 23) Tryd.func20 rfl Tryd.ntmps20 rfl (fun w₀ C₀ => ?_)
  simp only [argS]
  have hfl := line_few hok s
  refine W.seq ?_
  refine W.region ?_
  refine L.box rfl rfl (GSpec.plain rfl (spec_alloc rfl ti25 z25)) (fun r4 => ?_)
  refine L.op1 rfl rfl (GSpec.plain rfl (spec_assign rfl (Get.cint rfl))) ?_
  refine L.nil ?_
  refine N.thenW ?_
  refine W.seq ?_
  refine W.region ?_
  refine L.op1 rfl rfl (GSpec.plain rfl (spec_move rfl (Get.tmp rfl))) ?_
  refine L.op1 rfl rfl (GSpec.plain rfl (spec_move rfl (Get.tmp rfl))) ?_
  refine L.op1 rfl rfl (GSpec.plain rfl (spec_callG (k := 1) rfl Tryd.call43 rfl (line_ok _ _ (by assumption)) (.cons (Get.tmp rfl) (.cons (Get.tmp rfl) .nil)))) ?_
  refine L.op1 rfl rfl (GSpec.plain rfl (spec_move rfl (Get.tmp rfl))) ?_
  refine L.op1 rfl rfl (GSpec.plain rfl (spec_extract rfl (Get.tmp rfl) rfl)) ?_
  refine L.op1 rfl rfl (GSpec.plain rfl (spec_extract rfl (Get.tmp rfl) rfl)) ?_
  refine L.op1 rfl rfl (GSpec.plain rfl (spec_assign rfl (Get.tmp rfl))) ?_
  refine L.op1 rfl rfl (GSpec.plain rfl (spec_assign rfl (Get.tmp rfl))) ?_
  refine L.nil ?_
  refine N.thenW ?_
  refine W.keep (.cons (t := 4) rfl (.cons (t := 5) rfl (.cons (t := 6) rfl (.cons (t := 7) rfl .nil)))) .refl ?_
  refine W.seq ?_
  refine W.seq ?_
  refine W.region ?_
  refine L.op1 rfl rfl (GSpec.plain rfl (spec_move rfl (Get.tmp rfl))) ?_
  refine L.op1 rfl rfl (GSpec.plain rfl (spec_neq rfl (Get.tmp rfl) (Get.cint rfl))) ?_
  refine L.nil ?_
  refine N.thenW ?_
  refine W.cond (Get.tmp rfl) (fun h1 => ?_) (fun h1 => ?_)
  · have hc : (lineE src s).2 ≠ 0 := by have h := h1; simpa using h
    refine W.seq ?_
    refine W.region ?_
    refine L.op1 rfl rfl (GSpec.plain rfl (spec_build (Rs := [Rp.str [], Rp.str [], Rp.slice eF [], Rp.slice eBk []]) rfl ti25 z25 Tryd.underlying25 pl25 .nil)) ?_
    refine L.op1 rfl rfl (GSpec.plain rfl (spec_move rfl (Get.tmp rfl))) ?_
    refine L.storeW (k := 0) rfl rfl rfl Tryd.sizeOf25 (Get.tmp rfl) (Get.tmp rfl) rfl rfl rfl ?_
    refine L.op1 rfl rfl (GSpec.plain rfl (spec_assign rfl (Get.tmp rfl))) ?_
    refine L.nil ?_
    refine N.thenW ?_
    refine W.keep (.cons (t := 4) rfl (.cons (t := 5) rfl (.cons (t := 6) rfl .nil))) .refl ?_
    refine W.ret ?_
    refine N.ret () rfl (.cellA (k := 0) (Get.tmp (t := 4) rfl) rfl Tryd.isAgg25 Tryd.sizeOf25 rfl (.tmp (t := 5) (Get.tmp rfl) .nil)) (res2w (eqA ?_) (eqI ?_)) .nil (fun _ _ h => h)
    all_goals first | (unfold flatL; rw [if_pos hc]; rfl) | rfl
  · have hc : (lineE src s).2 = 0 := by have h := h1; simpa using h
    refine W.skip ?_
    refine N.thenW ?_
    refine W.seq ?_
    refine W.region ?_
    refine L.op1 rfl rfl (GSpec.plain rfl (spec_move rfl (Get.tmp rfl))) ?_
    refine L.op1 rfl rfl (GSpec.plain rfl (spec_call rfl Tryd.call45 (flatten_ok _ hfl.1 hfl.2) (.cons (Get.tmp rfl) .nil))) ?_
    refine L.op1 rfl rfl (GSpec.plain rfl (spec_nilCheck rfl (Get.tmp rfl))) ?_
    refine L.op1 rfl rfl (GSpec.plain rfl (spec_fieldAddrP (f := 0) rfl Tryd.underlying72 rfl Tryd.sizeOf25 (Get.tmp rfl) rfl rfl)) ?_
    refine L.op1 rfl rfl (GSpec.plain rfl (spec_loadPA rfl Tryd.isAgg25 Tryd.sizeOf25 (Get.tmp rfl) rfl)) ?_
    refine L.storeW (k := 0) rfl rfl rfl Tryd.sizeOf25 (Get.tmp rfl) (Get.tmp rfl) rfl rfl rfl ?_
    refine L.op1 rfl rfl (GSpec.plain rfl (spec_assign rfl (Get.cint rfl))) ?_
    refine L.nil ?_
    refine N.thenW ?_
    refine W.keep (.cons (t := 4) rfl (.cons (t := 5) rfl .nil)) .refl ?_
    refine W.ret ?_
    refine N.ret () rfl (.cellA (k := 0) (Get.tmp (t := 4) rfl) rfl Tryd.isAgg25 Tryd.sizeOf25 rfl (.tmp (t := 5) (Get.tmp rfl) .nil)) (res2w (eqA ?_) (eqI ?_)) .nil (fun _ _ h => h)
    all_goals first | (unfold flatL; rw [if_neg (by rw [hc]; simp)]; done) | (unfold flatL; rw [if_neg (by rw [hc]; simp)]; rfl) | exact hc.symm

end Go.Proofs.YtcabngjnmipflaaDoor
set_option linter.unusedSimpArgs false
set_option maxRecDepth 8000
set_option linter.unusedVariables false
namespace Go.Proofs.YtcabngjnmipflaaDoor
open Go.Sim
theorem varsX_ok (c : Cl) : CallT Tryd.prog 11 [Rp.agg (eC c)] [kwG] (.one (Rp.slice eVr (varsC c))) := by
  refine W.enter (fn := Tryd.f11) (n := 54) Tryd.func11 rfl Tryd.ntmps11 rfl (fun w₀ C₀ => ?_)
  simp only [argS]
  refine W.seq ?_
  refine W.region ?_
  refine L.box rfl rfl (GSpec.plain rfl (spec_box rfl (GetC.agg (Get.tmp rfl)))) (fun r1 => ?_)
  refine L.op1 rfl rfl (GSpec.plain rfl (spec_assign rfl (Get.cnil (E := eVr)))) ?_
  refine L.nil ?_
  refine N.thenW ?_
  refine W.seq ?_
  refine W.seq ?_
  refine W.region ?_
  refine L.op1 rfl rfl (GSpec.plain rfl (spec_loadW (k := 0) rfl Tryd.isAgg25 Tryd.sizeOf25 (Get.tmp rfl) rfl rfl)) ?_
  refine L.op1 rfl rfl (GSpec.plain rfl (spec_callG (k := 1) rfl Tryd.call15 rfl (validC_ok _) (.cons (Get.tmp rfl) .nil))) ?_
  refine L.op1 rfl rfl (GSpec.plain rfl (spec_neq rfl (Get.tmp rfl) (Get.cint rfl))) ?_
  refine L.nil ?_
  refine N.thenW ?_
  refine W.cond (Get.tmp rfl) (fun h1 => ?_) (fun h1 => ?_)
  · have hv : validC c ≠ 0 := by have h := h1; simpa using h
    refine W.seq ?_
    refine W.region ?_
    refine L.op1 rfl rfl (GSpec.plain rfl (spec_assign rfl (Get.cnil (E := eVr)))) ?_
    refine L.nil ?_
    refine N.thenW ?_
    refine W.ret ?_
    refine N.ret () rfl (.tmp (t := 2) (Get.tmp rfl) .nil) (res1 (eqSl ?_)) .nil (fun _ _ h => h)
    unfold varsC; rw [if_pos hv]
  · have hv : validC c = 0 := by have h := h1; simpa using h
    have hfl := valid_len hv
    refine W.skip ?_
    refine N.thenW ?_
    refine W.seq ?_
    refine W.region ?_
    refine L.op1 rfl rfl (GSpec.plain rfl (spec_assign rfl Get.cval)) ?_
    refine L.nil ?_
    refine N.thenW ?_
    refine W.nil 33 4 eVr ?_
    refine W.seq ?_
    refine W.seq ?_
    refine W.region ?_
    refine L.op1 rfl rfl (GSpec.plain rfl (spec_fieldAddr (f := 2) (off' := 2) rfl Tryd.underlying25 rfl Tryd.sizeOf22 (Get.tmp rfl) rfl)) ?_
    refine L.op1 rfl rfl (GSpec.plain rfl (spec_load1 (k := 1) rfl Tryd.isAgg22 (Get.tmp rfl) rfl rfl)) ?_
    refine L.op1 rfl rfl (GSpec.plain rfl (spec_len rfl Tryd.underlying22 (Get.tmp rfl))) ?_
    refine L.op1 rfl rfl (GSpec.plain rfl (spec_move rfl (Get.cint rfl))) ?_
    refine L.nil ?_
    refine N.thenW ?_
    refine W.block ?_
    refine W.loopK (σ := Nat × Value) (.cons (t := 2) rfl (.cons (t := 12) rfl (.cons (t := 13) rfl .nil))) (fun z => [(14, Rp.int .i64 (z.1 : Nat)), (3, Rp.val z.2)]) (fun z => [MF.osl z.2 33 4 eVr ((c.fields.take z.1).flatMap varsF)]) (fun z => z.1 ≤ c.fields.length) (fun z => c.fields.length - z.1) (0, .slice none 0 0) (Nat.zero_le _) (.cons (t := 14) rfl (.cons (t := 3) rfl .nil)) (.cons 0 rfl (.cons 0 rfl (.cons 0 rfl .nil))) ?_
    intro ⟨i, vo⟩ hI S' M' hS hM
    try dsimp only at hS hM
    simp only [List.cons_append, List.nil_append] at hS hM
    subst hS hM
    try dsimp only
    try dsimp only at hI
    refine W.seq ?_
    refine W.region ?_
    refine L.op1 rfl rfl (GSpec.plain rfl (spec_lss rfl (Get.tmp rfl) (Get.tmp rfl))) ?_
    refine L.nil ?_
    refine N.thenW ?_
    refine W.seq ?_
    refine W.cond (Get.tmp rfl) (fun h2 => ?_) (fun h2 => ?_)
    · have ph2 := h2; try simp only [decide_eq_true_eq, decide_eq_false_iff_not, Bool.and_eq_true, Bool.or_eq_true, Bool.and_eq_false_iff, Bool.or_eq_false_iff, Bool.not_eq_true', Bool.not_eq_false', Bool.not_true, Bool.not_false, Int.not_lt, Int.not_le] at ph2
      refine W.skip ?_
      refine N.thenW ?_
      obtain ⟨hfn, hf0, hf8⟩ := valid_field hv (getD_mem' (show i < c.fields.length by omega))
      have hnl := name_len hfn
      have hpl := vars_len hv i
      refine W.seq ?_
      refine W.block ?_
      refine W.seq ?_
      refine W.region ?_
      refine L.op1 rfl rfl (GSpec.plain rfl (spec_indexAddrD (E := eF) rfl Tryd.underlying22 Tryd.sizeOf27 (fun _ => rfl) (Get.tmp rfl) (Get.tmp rfl) (by (first | omega | (simp only [Int.toNat_natCast]; omega))))) ?_
      refine L.op1 rfl rfl (GSpec.plain rfl (spec_loadPA rfl Tryd.isAgg27 Tryd.sizeOf27 (Get.tmp rfl) rfl)) ?_
      refine L.box rfl rfl (GSpec.plain rfl (spec_alloc rfl ti27 z27)) (fun r5 => ?_)
      refine L.storeW (k := 0) rfl rfl rfl Tryd.sizeOf27 (Get.tmp rfl) (Get.tmp rfl) rfl rfl rfl ?_
      refine L.nil ?_
      refine N.thenW ?_
      refine W.seq ?_
      refine W.region ?_
      refine L.op1 rfl rfl (GSpec.plain rfl (spec_fieldAddr (f := 0) (off' := 0) rfl Tryd.underlying27 rfl Tryd.sizeOf9 (Get.tmp rfl) rfl)) ?_
      refine L.op1 rfl rfl (GSpec.plain rfl (spec_load1 (k := 0) rfl Tryd.isAgg9 (Get.tmp rfl) rfl rfl)) ?_
      refine L.op1 rfl rfl (GSpec.plain rfl (spec_fieldAddr (f := 1) (off' := 1) rfl Tryd.underlying27 rfl Tryd.sizeOf3 (Get.tmp rfl) rfl)) ?_
      refine L.op1 rfl rfl (GSpec.plain rfl (spec_load1 (k := 0) rfl Tryd.isAgg3 (Get.tmp rfl) rfl rfl)) ?_
      refine L.op1 rfl rfl (GSpec.plain rfl (spec_fieldAddr (f := 3) (off' := 3) rfl Tryd.underlying27 rfl Tryd.sizeOf3 (Get.tmp rfl) rfl)) ?_
      refine L.op1 rfl rfl (GSpec.plain rfl (spec_load1 (k := 0) rfl Tryd.isAgg3 (Get.tmp rfl) rfl rfl)) ?_
      refine L.op1 rfl rfl (GSpec.plain rfl (spec_fieldAddr (f := 4) (off' := 4) rfl Tryd.underlying27 rfl Tryd.sizeOf3 (Get.tmp rfl) rfl)) ?_
      refine L.op1 rfl rfl (GSpec.plain rfl (spec_load1 (k := 0) rfl Tryd.isAgg3 (Get.tmp rfl) rfl rfl)) ?_
      refine L.op1 rfl rfl (GSpec.plain rfl (spec_build (Rs := [_, _, _, _]) rfl ti33 z33 Tryd.underlying33 pl33 (.cons (GetC.one (Get.tmp rfl)) rfl rfl rfl (.cons (GetC.one (Get.tmp rfl)) rfl rfl rfl (.cons (GetC.one (Get.tmp rfl)) rfl rfl rfl (.cons (GetC.one (Get.tmp rfl)) rfl rfl rfl .nil)))))) ?_
      refine L.box rfl rfl (GSpec.plain rfl (spec_alloc rfl ti33 z33)) (fun r6 => ?_)
      refine L.storeW (k := 0) rfl rfl rfl Tryd.sizeOf33 (Get.tmp rfl) (Get.tmp rfl) rfl rfl rfl ?_
      refine L.nil ?_
      refine N.thenW ?_
      refine W.cut (σ := {z : List Vr × Value // z.1 = (c.fields.take i).flatMap varsF ++ headV (c.fields.getD i default)}) (fun z => [(2, Rp.slice eVr []), (12, Rp.slice eF c.fields), (13, Rp.int .i64 (c.fields.length : Nat)), (14, Rp.int .i64 (i : Nat)), (3, Rp.val z.1.2), (5, Rp.ptr r5 0), (6, Rp.ptr r6 0)]) (fun z => [MF.box r1 25 (eC c), MF.box r5 27 (eF (c.fields.getD i default)), MF.box r6 33 [Rp.str (c.fields.getD i default).name, Rp.int .i64 (c.fields.getD i default).width, Rp.int .i64 (c.fields.getD i default).mode, Rp.int .i64 (c.fields.getD i default).init], MF.osl z.1.2 33 4 eVr z.1.1, kwG]) ?_ ?_
      · refine W.seq ?_
        refine W.region ?_
        refine L.op1 rfl rfl (GSpec.plain rfl (spec_fieldAddr (f := 2) (off' := 2) rfl Tryd.underlying27 rfl Tryd.sizeOf3 (Get.tmp rfl) rfl)) ?_
        refine L.op1 rfl rfl (GSpec.plain rfl (spec_load1 (k := 1) rfl Tryd.isAgg3 (Get.tmp rfl) rfl rfl)) ?_
        refine L.op1 rfl rfl (GSpec.plain rfl (spec_eql rfl (Get.tmp rfl) (Get.cint rfl))) ?_
        refine L.nil ?_
        refine N.thenW ?_
        refine W.cond (Get.tmp rfl) (fun h3 => ?_) (fun h3 => ?_)
        · have hz : (c.fields.getD i default).size = 0 := by have h := h3; simpa using h
          refine W.region ?_
          refine L.op1 rfl rfl (GSpec.plain rfl (spec_move rfl (Get.tmp rfl))) ?_
          refine L.op1 rfl rfl (GSpec.plain rfl (spec_loadW (k := 0) rfl Tryd.isAgg33 Tryd.sizeOf33 (Get.tmp rfl) rfl rfl)) ?_
          refine L.op1 rfl rfl (GSpec.plain rfl (spec_buildSlice1 (y := vr0 (c.fields.getD i default)) (E := eVr) rfl Tryd.underlying30 ti33 z33 (by decide) (GetC.agg (Get.tmp rfl)) (fun _ => rfl))) ?_
          refine L.append (k := 2) (E := eVr) rfl rfl rfl rfl Tryd.underlying30 ti33 rfl (by decide) (fun _ => rfl) (Get.tmp rfl) (Get.tmp rfl) rfl (by (simp only [List.length_cons, List.length_nil]; omega)) (by (simp only [List.length_cons, List.length_nil]; omega)) (fun v33 => ?_)
          refine L.op1 rfl rfl (GSpec.plain rfl (spec_assign rfl (Get.tmp rfl))) ?_
          refine L.nil ?_
          refine N.mid ⟨((c.fields.take i).flatMap varsF ++ [vr0 (c.fields.getD i default)], v33), by rw [headV, if_pos hz]⟩ ?hs1 ?hp1
          case hs1 => exact (.cons (t := 2) rfl (.cons (t := 12) rfl (.cons (t := 13) rfl (.cons (t := 14) rfl (.cons (t := 3) rfl (.cons (t := 5) rfl (.cons (t := 6) rfl .nil)))))))
          case hp1 => exact (.cons 3 rfl (.cons 1 rfl (.cons 0 rfl (.cons 0 rfl (.cons 0 rfl .nil)))))
        · have hz : (c.fields.getD i default).size ≠ 0 := by have h := h3; simpa using h
          refine W.skip ?_
          refine N.mid ⟨((c.fields.take i).flatMap varsF, vo), by rw [headV, if_neg hz, List.append_nil]⟩ ?hs2 ?hp2
          case hs2 => exact (.cons (t := 2) rfl (.cons (t := 12) rfl (.cons (t := 13) rfl (.cons (t := 14) rfl (.cons (t := 3) rfl (.cons (t := 5) rfl (.cons (t := 6) rfl .nil)))))))
          case hp2 => exact (.cons 3 rfl (.cons 1 rfl (.cons 0 rfl (.cons 0 rfl (.cons 0 rfl .nil)))))
      intro ⟨⟨pv, vh⟩, hpv⟩
      try dsimp only
      dsimp only at hpv
      subst hpv
      refine W.seq ?_
      refine W.region ?_
      refine L.op1 rfl rfl (GSpec.plain rfl (spec_fieldAddr (f := 2) (off' := 2) rfl Tryd.underlying27 rfl Tryd.sizeOf3 (Get.tmp rfl) rfl)) ?_
      refine L.op1 rfl rfl (GSpec.plain rfl (spec_load1 (k := 1) rfl Tryd.isAgg3 (Get.tmp rfl) rfl rfl)) ?_
      refine L.op1 rfl rfl (GSpec.plain rfl (spec_move rfl (Get.cint rfl))) ?_
      refine L.nil ?_
      refine N.thenW ?_
      refine W.block ?_
      refine W.loopK (σ := Nat × List UInt8 × Value) (.cons (t := 2) rfl (.cons (t := 5) rfl (.cons (t := 6) rfl (.cons (t := 12) rfl (.cons (t := 13) rfl (.cons (t := 14) rfl (.cons (t := 34) rfl (.cons (t := 35) rfl .nil)))))))) (fun z => [(36, Rp.int .i64 (z.1 : Nat)), (3, Rp.val z.2.2)]) (fun z => [MF.box r6 33 [Rp.str z.2.1, Rp.int .i64 (c.fields.getD i default).width, Rp.int .i64 (c.fields.getD i default).mode, Rp.int .i64 (c.fields.getD i default).init], MF.osl z.2.2 33 4 eVr ((c.fields.take i).flatMap varsF ++ headV (c.fields.getD i default) ++ arrV (c.fields.getD i default) z.1)]) (fun z => z.1 ≤ (c.fields.getD i default).size.toNat) (fun z => (c.fields.getD i default).size.toNat - z.1) (0, (c.fields.getD i default).name, vh) (Nat.zero_le _) (.cons (t := 36) rfl (.cons (t := 3) rfl .nil)) (by dsimp only; rw [show (c.fields.take i).flatMap varsF ++ headV (c.fields.getD i default) ++ arrV (c.fields.getD i default) 0 = (c.fields.take i).flatMap varsF ++ headV (c.fields.getD i default) from List.append_nil _]; exact (.cons 2 rfl (.cons 2 rfl (.cons 0 rfl (.cons 0 rfl (.cons 0 rfl .nil)))))) ?_
      intro ⟨k, nm, vk⟩ hI S' M' hS hM
      try dsimp only at hS hM
      simp only [List.cons_append, List.nil_append] at hS hM
      subst hS hM
      try dsimp only
      try dsimp only at hI
      refine W.seq ?_
      refine W.region ?_
      refine L.op1 rfl rfl (GSpec.plain rfl (spec_lss rfl (Get.tmp rfl) (Get.tmp rfl))) ?_
      refine L.nil ?_
      refine N.thenW ?_
      refine W.seq ?_
      refine W.cond (Get.tmp rfl) (fun h4 => ?_) (fun h4 => ?_)
      · have ph4 := h4; try simp only [decide_eq_true_eq, decide_eq_false_iff_not, Bool.and_eq_true, Bool.or_eq_true, Bool.and_eq_false_iff, Bool.or_eq_false_iff, Bool.not_eq_true', Bool.not_eq_false', Bool.not_true, Bool.not_false, Int.not_lt, Int.not_le] at ph4
        refine W.skip ?_
        refine N.thenW ?_
        refine W.seq ?_
        refine W.block ?_
        refine W.seq ?_
        refine W.region ?_
        refine L.op1 rfl rfl (GSpec.plain rfl (spec_move rfl (Get.tmp rfl))) ?_
        refine L.op1 rfl rfl (GSpec.plain rfl (spec_assign rfl (Get.tmp rfl))) ?_
        refine L.nil ?_
        refine N.thenW ?_
        refine W.seq ?_
        apply W.any 8 mixed (by kernel_rfl)
        · apply Head.one rfl rfl (GSpec.plain rfl (spec_fieldAddr (f := 0) (off' := 0) rfl Tryd.underlying27 rfl Tryd.sizeOf9 (Get.tmp rfl) rfl))
          apply Head.one rfl rfl (GSpec.plain rfl (spec_load1 (k := 3) rfl Tryd.isAgg9 (Get.tmp rfl) rfl rfl))
          apply Head.one rfl rfl (GSpec.plain rfl (spec_addS rfl (Get.tmp rfl) (Get.cstr (l := [91]) rfl rfl) (by (simp only [List.length_append, List.length_cons, List.length_nil, digT]; omega))))
          apply Head.one rfl rfl (GSpec.plain rfl (spec_move rfl (Get.tmp rfl)))
          apply Head.one rfl rfl (GSpec.plain rfl (spec_call rfl Tryd.call31 (itoa_ok _ (by omega)) (.cons (Get.tmp rfl) .nil)))
          apply Head.one rfl rfl (GSpec.plain rfl (spec_addS rfl (Get.tmp rfl) (Get.tmp rfl) (by (simp only [List.length_append, List.length_cons, List.length_nil, digT]; omega))))
          apply Head.one rfl rfl (GSpec.plain rfl (spec_addS rfl (Get.tmp rfl) (Get.cstr (l := [93]) rfl rfl) (by (simp only [List.length_append, List.length_cons, List.length_nil, digT]; omega))))
          apply Head.one rfl rfl (GSpec.plain rfl (spec_fieldAddr (f := 0) (off' := 0) rfl Tryd.underlying33 rfl Tryd.sizeOf9 (Get.tmp rfl) rfl))
          exact Head.nil
        refine Fin.one ?_
        refine Fin.one ?_
        refine Fin.one ?_
        refine Fin.one ?_
        refine Fin.one ?_
        refine Fin.one ?_
        refine Fin.one ?_
        refine Fin.one ?_
        refine Fin.nil ?_
        refine L.storeB (k := 0) rfl rfl rfl Tryd.sizeOf9 (Get.tmp rfl) (Get.tmp rfl) rfl rfl ?_
        refine L.nil ?_
        refine N.thenW ?_
        refine W.region ?_
        refine L.op1 rfl rfl (GSpec.plain rfl (spec_move rfl (Get.tmp rfl))) ?_
        refine L.op1 rfl rfl (GSpec.plain rfl (spec_loadW (k := 0) rfl Tryd.isAgg33 Tryd.sizeOf33 (Get.tmp rfl) rfl rfl)) ?_
        refine L.op1 rfl rfl (GSpec.plain rfl (spec_buildSlice1 (y := vrK (c.fields.getD i default) k) (E := eVr) rfl Tryd.underlying30 ti33 z33 (by decide) (GetC.agg (Get.tmp rfl)) (fun _ => rfl))) ?_
        refine L.append (k := 1) (E := eVr) rfl rfl rfl rfl Tryd.underlying30 ti33 rfl (by decide) (fun _ => rfl) (Get.tmp rfl) (Get.tmp rfl) rfl (by (have hh := headV_len (c.fields.getD i default); simp only [arrV, List.length_append, List.length_map, List.length_range, List.length_cons, List.length_nil]; omega)) (by (have hh := headV_len (c.fields.getD i default); simp only [arrV, List.length_append, List.length_map, List.length_range, List.length_cons, List.length_nil]; omega)) (fun v50 => ?_)
        refine L.op1 rfl rfl (GSpec.plain rfl (spec_assign rfl (Get.tmp rfl))) ?_
        refine L.nil ?_
        refine N.blockNormal ?_
        refine N.thenW ?_
        refine W.region ?_
        first | refine L.op1 rfl rfl (GSpec.plain rfl (fit_i64 (by (first | omega | (simp only [Int.toNat_natCast]; omega))) (by (first | omega | (simp only [Int.toNat_natCast]; omega))) (spec_add rfl (Get.tmp rfl) (Get.cint rfl)))) ?_ | refine L.op1 rfl rfl (GSpec.plain rfl (spec_add rfl (Get.tmp rfl) (Get.cint rfl))) ?_
        refine L.op1 rfl rfl (GSpec.plain rfl (spec_move rfl (Get.tmp rfl))) ?_
        refine L.nil ?_
        refine N.roundK (k + 1, (c.fields.getD i default).name ++ [91] ++ digT k ++ [93], v50) ?hI3 ?hmu3 ?hs3 ?hk3 ?hp3
        case hs3 => exact (.cons (t := 36) rfl (.cons (t := 3) rfl .nil))
        case hk3 => exact (.cons (t := 2) rfl (.cons (t := 5) rfl (.cons (t := 6) rfl (.cons (t := 12) rfl (.cons (t := 13) rfl (.cons (t := 14) rfl (.cons (t := 34) rfl (.cons (t := 35) rfl .nil))))))))
        case hp3 => dsimp only; rw [arr_next]; exact (.cons 0 rfl (.cons 0 rfl (.cons 0 rfl (.cons 0 rfl (.cons 0 rfl .nil)))))
        case hI3 => dsimp only; omega
        case hmu3 => dsimp only; omega
      · have ph4 := h4; try simp only [decide_eq_true_eq, decide_eq_false_iff_not, Bool.and_eq_true, Bool.or_eq_true, Bool.and_eq_false_iff, Bool.or_eq_false_iff, Bool.not_eq_true', Bool.not_eq_false', Bool.not_true, Bool.not_false, Int.not_lt, Int.not_le] at ph4
        refine W.exit ?_
        refine N.thenExit ?_
        refine N.thenExit ?_
        refine N.blockExit ?_
        refine N.blockNormal ?_
        refine N.thenW ?_
        have hk : k = (c.fields.getD i default).size.toNat := by omega
        subst hk
        rw [show (c.fields.take i).flatMap varsF ++ headV (c.fields.getD i default) ++ arrV (c.fields.getD i default) (c.fields.getD i default).size.toNat = (c.fields.take i).flatMap varsF ++ varsF (c.fields.getD i default) from List.append_assoc _ _ _]
        refine W.region ?_
        first | refine L.op1 rfl rfl (GSpec.plain rfl (fit_i64 (by (first | omega | (simp only [Int.toNat_natCast]; omega))) (by (first | omega | (simp only [Int.toNat_natCast]; omega))) (spec_add rfl (Get.tmp rfl) (Get.cint rfl)))) ?_ | refine L.op1 rfl rfl (GSpec.plain rfl (spec_add rfl (Get.tmp rfl) (Get.cint rfl))) ?_
        refine L.op1 rfl rfl (GSpec.plain rfl (spec_move rfl (Get.tmp rfl))) ?_
        refine L.nil ?_
        refine N.roundK (i + 1, vk) ?hI4 ?hmu4 ?hs4 ?hk4 ?hp4
        case hs4 => exact (.cons (t := 14) rfl (.cons (t := 3) rfl .nil))
        case hk4 => exact (.cons (t := 2) rfl (.cons (t := 12) rfl (.cons (t := 13) rfl .nil)))
        case hp4 => dsimp only; rw [vars_next (show i < c.fields.length by omega)]; exact (.cons 1 rfl (.cons 1 rfl (.cons 2 rfl .nil)))
        case hI4 => dsimp only; omega
        case hmu4 => dsimp only; omega
    · have ph2 := h2; try simp only [decide_eq_true_eq, decide_eq_false_iff_not, Bool.and_eq_true, Bool.or_eq_true, Bool.and_eq_false_iff, Bool.or_eq_false_iff, Bool.not_eq_true', Bool.not_eq_false', Bool.not_true, Bool.not_false, Int.not_lt, Int.not_le] at ph2
      refine W.exit ?_
      refine N.thenExit ?_
      refine N.thenExit ?_
      refine N.blockExit ?_
      refine N.thenW ?_
      have hi : i = c.fields.length := by omega
      subst hi
      rw [List.take_length]
      refine W.pub (t := 3) (k := 0) rfl rfl (fun _ => rfl) ?_
      refine W.seq ?_
      refine W.region ?_
      refine L.op1 rfl rfl (GSpec.plain rfl (spec_move rfl (Get.tmp rfl))) ?_
      refine L.op1 rfl rfl (GSpec.plain rfl (spec_assign rfl (Get.tmp rfl))) ?_
      refine L.nil ?_
      refine N.thenW ?_
      refine W.keep (.cons (t := 2) rfl .nil) .refl ?_
      refine W.ret ?_
      refine N.ret () rfl (.tmp (t := 2) (Get.tmp rfl) .nil) (res1 (eqSl ?_)) .nil (fun _ _ h => h)
      unfold varsC; rw [if_neg (by rw [hv]; simp)]

end Go.Proofs.YtcabngjnmipflaaDoor
set_option linter.unusedSimpArgs false
set_option maxRecDepth 8000
set_option linter.unusedVariables false
namespace Go.Proofs.YtcabngjnmipflaaDoor
open Go.Sim
theorem pair_ok  : CallT Tryd.prog 30 [] [] (.one (Rp.slice eC pairE)) := by
  refine W.enter (fn := Tryd.f30) (n := 23) Tryd.func30 rfl Tryd.ntmps30 rfl (fun w₀ C₀ => ?_)
  simp only [argS]
  refine W.seq ?_
  refine W.region ?_
  refine L.op1 rfl rfl (GSpec.plain rfl (spec_assign rfl (Get.cnil (E := eC)))) ?_
  refine L.nil ?_
  refine N.thenW ?_
  refine W.seq ?_
  refine W.region ?_
  refine L.op1 rfl rfl (GSpec.plain rfl (spec_build (Rs := [_, _, Rp.str [], Rp.exs []]) rfl ti83 z83 Tryd.underlying83 pl83 (.cons (GetC.one (Get.cint rfl)) rfl rfl rfl (.cons (GetC.one (Get.cint rfl)) rfl rfl rfl .nil)))) ?_
  refine L.op1 rfl rfl (GSpec.plain rfl (spec_build (Rs := [_, _, _, _, _, Rp.str [], Rp.str [], Rp.slice eW [], Rp.its [], Rp.its [], Rp.slice eS [], Rp.slice eS []]) rfl ti86 z86 Tryd.underlying86 pl86 (.cons (GetC.one (Get.cint rfl)) rfl rfl rfl (.cons (GetC.agg (Get.tmp rfl)) rfl rfl rfl .nil)))) ?_
  refine L.op1 rfl rfl (GSpec.plain rfl (spec_buildSlice1 (y := it1) (E := eIt) rfl Tryd.underlying52 ti86 z86 (by decide) (GetC.agg (Get.tmp rfl)) (fun _ => rfl))) ?_
  refine L.op1 rfl rfl (GSpec.plain rfl (spec_assign rfl (Get.tmp rfl))) ?_
  refine L.nil ?_
  refine N.thenW ?_
  refine W.seq ?_
  refine W.region ?_
  refine L.op1 rfl rfl (GSpec.plain rfl (spec_build (Rs := [_, _, Rp.int .i64 0, Rp.int .i64 0, Rp.int .i64 0]) rfl ti27 z27 Tryd.underlying27 pl27 (.cons (GetC.one (Get.cstr (l := [97]) rfl rfl)) rfl rfl rfl (.cons (GetC.one (Get.cint rfl)) rfl rfl rfl .nil)))) ?_
  refine L.op1 rfl rfl (GSpec.plain rfl (spec_buildSlice1 (y := fdA) (E := eF) rfl Tryd.underlying22 ti27 z27 (by decide) (GetC.agg (Get.tmp rfl)) (fun _ => rfl))) ?_
  refine L.op1 rfl rfl (GSpec.plain rfl (spec_build (Rs := [_, Rp.its []]) rfl ti54 z54 Tryd.underlying54 pl54 (.cons (GetC.one (Get.cstr (l := [112]) rfl rfl)) rfl rfl rfl .nil))) ?_
  refine L.op1 rfl rfl (GSpec.plain rfl (spec_build (Rs := [_, Rp.its []]) rfl ti54 z54 Tryd.underlying54 pl54 (.cons (GetC.one (Get.cstr (l := [113]) rfl rfl)) rfl rfl rfl .nil))) ?_
  refine L.op1 rfl rfl (GSpec.plain rfl (spec_buildSliceN (xs := [⟨[112], []⟩, ⟨[113], []⟩]) (E := eBk) rfl Tryd.underlying23 ti54 z54 (by first | decide | simp) rfl (.cons (GetC.agg (Get.tmp rfl)) rfl rfl rfl (.cons (GetC.agg (Get.tmp rfl)) rfl rfl rfl .nil)) rfl rfl)) ?_
  refine L.op1 rfl rfl (GSpec.plain rfl (spec_build (Rs := [_, Rp.str [], _, _]) rfl ti25 z25 Tryd.underlying25 pl25 (.cons (GetC.one (Get.cstr (l := [98, 97, 115, 101]) rfl rfl)) rfl rfl rfl (.cons (GetC.one (Get.tmp rfl)) rfl rfl rfl (.cons (GetC.one (Get.tmp rfl)) rfl rfl rfl .nil))))) ?_
  refine L.box rfl rfl (GSpec.plain rfl (spec_alloc rfl ti25 z25)) (fun r2 => ?_)
  refine L.storeW (k := 0) rfl rfl rfl Tryd.sizeOf25 (Get.tmp rfl) (Get.tmp rfl) rfl rfl rfl ?_
  refine L.nil ?_
  refine N.thenW ?_
  refine W.keep (.cons (t := 0) rfl (.cons (t := 1) rfl (.cons (t := 2) rfl .nil))) .refl ?_
  refine W.seq ?_
  refine W.region ?_
  refine L.op1 rfl rfl (GSpec.plain rfl (spec_build (Rs := [_, _, _, _, Rp.int .i64 0]) rfl ti27 z27 Tryd.underlying27 pl27 (.cons (GetC.one (Get.cstr (l := [98]) rfl rfl)) rfl rfl rfl (.cons (GetC.one (Get.cint rfl)) rfl rfl rfl (.cons (GetC.one (Get.cint rfl)) rfl rfl rfl (.cons (GetC.one (Get.cint rfl)) rfl rfl rfl .nil)))))) ?_
  refine L.op1 rfl rfl (GSpec.plain rfl (spec_buildSlice1 (y := fdB) (E := eF) rfl Tryd.underlying22 ti27 z27 (by decide) (GetC.agg (Get.tmp rfl)) (fun _ => rfl))) ?_
  refine L.op1 rfl rfl (GSpec.plain rfl (spec_move rfl (Get.tmp rfl))) ?_
  refine L.op1 rfl rfl (GSpec.plain rfl (spec_build (Rs := [_, _]) rfl ti54 z54 Tryd.underlying54 pl54 (.cons (GetC.one (Get.cstr (l := [113]) rfl rfl)) rfl rfl rfl (.cons (GetC.one (Get.eq (its_eq _).symm (Get.tmp rfl))) rfl rfl rfl .nil)))) ?_
  refine L.op1 rfl rfl (GSpec.plain rfl (spec_build (Rs := [_, Rp.its []]) rfl ti54 z54 Tryd.underlying54 pl54 (.cons (GetC.one (Get.cstr (l := [114]) rfl rfl)) rfl rfl rfl .nil))) ?_
  refine L.op1 rfl rfl (GSpec.plain rfl (spec_buildSliceN (xs := [⟨[113], [it1]⟩, ⟨[114], []⟩]) (E := eBk) rfl Tryd.underlying23 ti54 z54 (by first | decide | simp) rfl (.cons (GetC.agg (Get.tmp rfl)) rfl rfl rfl (.cons (GetC.agg (Get.tmp rfl)) rfl rfl rfl .nil)) rfl rfl)) ?_
  refine L.op1 rfl rfl (GSpec.plain rfl (spec_build (Rs := [_, _, _, _]) rfl ti25 z25 Tryd.underlying25 pl25 (.cons (GetC.one (Get.cstr (l := [115, 117, 98]) rfl rfl)) rfl rfl rfl (.cons (GetC.one (Get.cstr (l := [98, 97, 115, 101]) rfl rfl)) rfl rfl rfl (.cons (GetC.one (Get.tmp rfl)) rfl rfl rfl (.cons (GetC.one (Get.tmp rfl)) rfl rfl rfl .nil)))))) ?_
  refine L.box rfl rfl (GSpec.plain rfl (spec_alloc rfl ti25 z25)) (fun r3 => ?_)
  refine L.storeW (k := 0) rfl rfl rfl Tryd.sizeOf25 (Get.tmp rfl) (Get.tmp rfl) rfl rfl rfl ?_
  refine L.nil ?_
  refine N.thenW ?_
  refine W.keep (.cons (t := 0) rfl (.cons (t := 2) rfl (.cons (t := 3) rfl .nil))) .refl ?_
  refine W.seq ?_
  refine W.region ?_
  refine L.op1 rfl rfl (GSpec.plain rfl (spec_loadW (k := 0) rfl Tryd.isAgg25 Tryd.sizeOf25 (Get.tmp rfl) rfl rfl)) ?_
  refine L.op1 rfl rfl (GSpec.plain rfl (spec_loadW (k := 1) rfl Tryd.isAgg25 Tryd.sizeOf25 (Get.tmp rfl) rfl rfl)) ?_
  refine L.op1 rfl rfl (GSpec.plain rfl (spec_buildSliceN (xs := pairE) (E := eC) rfl Tryd.underlying38 ti25 z25 (by first | decide | simp) rfl (.cons (GetC.agg (Get.tmp rfl)) rfl rfl rfl (.cons (GetC.agg (Get.tmp rfl)) rfl rfl rfl .nil)) rfl rfl)) ?_
  refine L.op1 rfl rfl (GSpec.plain rfl (spec_assign rfl (Get.tmp rfl))) ?_
  refine L.nil ?_
  refine N.thenW ?_
  refine W.keep (.cons (t := 0) rfl .nil) .refl ?_
  refine W.ret ?_
  refine N.ret () rfl (.tmp (t := 0) (Get.tmp rfl) .nil) (res1 (eqSl ?_)) .nil (fun _ _ h => h)
  rfl

theorem hasBk_ok (l : List Bk) (s : List UInt8) : CallT Tryd.prog 27 [Rp.slice eBk l, Rp.str s] [] (.one (Rp.bool (hasBk l s))) := by
  refine W.enter (fn := Tryd.f27) (n := 19) Tryd.func27 rfl Tryd.ntmps27 rfl (fun w₀ C₀ => ?_)
  simp only [argS]
  refine W.fact 0 rfl slice_fact fun hl => ?_
  refine W.seq ?_
  refine W.region ?_
  refine L.op1 rfl rfl (GSpec.plain rfl (spec_assign rfl Get.cbool)) ?_
  refine L.nil ?_
  refine N.thenW ?_
  refine W.seq ?_
  refine W.seq ?_
  refine W.region ?_
  refine L.op1 rfl rfl (GSpec.plain rfl (spec_assign rfl (Get.cint rfl))) ?_
  refine L.nil ?_
  refine N.thenW ?_
  refine W.block ?_
  -- assigned in the loop, not kept: [4]
  refine W.loopK (σ := Nat) (.cons (t := 0) rfl (.cons (t := 1) rfl .nil)) (fun z => [(5, Rp.int .i64 (z : Nat))]) (fun z => []) (fun z => z ≤ l.length ∧ ∀ j : Nat, j < z → ((l.getD j default).name == s) = false) (fun z => l.length - z) 0 ⟨Nat.zero_le _, fun j hj => by omega⟩ (.cons (t := 5) rfl .nil) .nil ?_
  intro i hI S' M' hS hM
  obtain ⟨hI1, hI2⟩ := hI
  try dsimp only at hS hM
  simp only [List.cons_append, List.nil_append] at hS hM
  subst hS hM
  try dsimp only
  refine W.seq ?_
  refine W.seq ?_
  refine W.region ?_
  refine L.op1 rfl rfl (GSpec.plain rfl (spec_move rfl (Get.tmp rfl))) ?_
  refine L.op1 rfl rfl (GSpec.plain rfl (spec_move rfl (Get.tmp rfl))) ?_
  refine L.op1 rfl rfl (GSpec.plain rfl (spec_len rfl Tryd.underlying23 (Get.tmp rfl))) ?_
  refine L.op1 rfl rfl (GSpec.plain rfl (spec_lss rfl (Get.tmp rfl) (Get.tmp rfl))) ?_
  refine L.nil ?_
  refine N.thenW ?_
  refine W.cond (Get.tmp rfl) (fun h1 => ?_) (fun h1 => ?_)
  · have ph1 := h1; try simp only [decide_eq_true_eq, decide_eq_false_iff_not, Bool.and_eq_true, Bool.or_eq_true, Bool.and_eq_false_iff, Bool.or_eq_false_iff, Bool.not_eq_true', Bool.not_eq_false', Bool.not_true, Bool.not_false, Int.not_lt, Int.not_le] at ph1
    refine W.skip ?_
    refine N.thenW ?_
    refine W.seq ?_
    refine W.block ?_
    refine W.seq ?_
    refine W.region ?_
    refine L.op1 rfl rfl (GSpec.plain rfl (spec_move rfl (Get.tmp rfl))) ?_
    refine L.op1 rfl rfl (GSpec.plain rfl (spec_move rfl (Get.tmp rfl))) ?_
    refine L.op1 rfl rfl (GSpec.plain rfl (spec_indexAddrD (E := eBk) rfl Tryd.underlying23 Tryd.sizeOf54 (fun _ => rfl) (Get.tmp rfl) (Get.tmp rfl) (by omega))) ?_
    refine L.op1 rfl rfl (GSpec.plain rfl (spec_fieldAddrP (f := 0) rfl Tryd.underlying54 rfl Tryd.sizeOf9 (Get.tmp rfl) rfl rfl)) ?_
    refine L.op1 rfl rfl (GSpec.plain rfl (spec_loadP1 rfl Tryd.isAgg9 (Get.tmp rfl))) ?_
    refine L.op1 rfl rfl (GSpec.plain rfl (spec_move rfl (Get.tmp rfl))) ?_
    refine L.op1 rfl rfl (GSpec.plain rfl (spec_eqlS rfl (Get.tmp rfl) (Get.tmp rfl))) ?_
    refine L.nil ?_
    refine N.thenW ?_
    refine W.cond (Get.tmp rfl) (fun h2 => ?_) (fun h2 => ?_)
    · have ph2 := h2; try simp only [decide_eq_true_eq, decide_eq_false_iff_not, Bool.and_eq_true, Bool.or_eq_true, Bool.and_eq_false_iff, Bool.or_eq_false_iff, Bool.not_eq_true', Bool.not_eq_false', Bool.not_true, Bool.not_false, Int.not_lt, Int.not_le] at ph2
      refine W.seq ?_
      refine W.region ?_
      refine L.op1 rfl rfl (GSpec.plain rfl (spec_assign rfl Get.cbool)) ?_
      refine L.nil ?_
      refine N.thenW ?_
      refine W.ret ?_
      refine N.ret () rfl (.tmp (t := 4) (Get.tmp rfl) .nil) (res1 (eqB ?_)) .nil (fun _ _ h => h)
      exact (any_yes (p := fun b : Bk => b.name == s) (i := i) (by omega) (by simpa using h2)).symm
    · have ph2 := h2; try simp only [decide_eq_true_eq, decide_eq_false_iff_not, Bool.and_eq_true, Bool.or_eq_true, Bool.and_eq_false_iff, Bool.or_eq_false_iff, Bool.not_eq_true', Bool.not_eq_false', Bool.not_true, Bool.not_false, Int.not_lt, Int.not_le] at ph2
      refine W.skip ?_
      refine N.blockNormal ?_
      refine N.thenW ?_
      refine W.region ?_
      refine L.op1 rfl rfl (GSpec.plain rfl (spec_move rfl (Get.tmp rfl))) ?_
      first | refine L.op1 rfl rfl (GSpec.plain rfl (fit_i64 (by omega) (by omega) (spec_add rfl (Get.tmp rfl) (Get.cint rfl)))) ?_ | refine L.op1 rfl rfl (GSpec.plain rfl (spec_add rfl (Get.tmp rfl) (Get.cint rfl))) ?_
      refine L.op1 rfl rfl (GSpec.plain rfl (spec_assign rfl (Get.tmp rfl))) ?_
      refine L.nil ?_
      refine N.roundK (i + 1) ?hI1 ?hmu1 ?hs1 ?hk1 ?hp1
      case hs1 => exact (.cons (t := 5) rfl .nil)
      case hk1 => exact (.cons (t := 0) rfl (.cons (t := 1) rfl .nil))
      case hp1 => exact .nil
      case hI1 => exact ⟨by omega, upto hI2 (by simpa using h2)⟩
      case hmu1 => omega
  · have ph1 := h1; try simp only [decide_eq_true_eq, decide_eq_false_iff_not, Bool.and_eq_true, Bool.or_eq_true, Bool.and_eq_false_iff, Bool.or_eq_false_iff, Bool.not_eq_true', Bool.not_eq_false', Bool.not_true, Bool.not_false, Int.not_lt, Int.not_le] at ph1
    refine W.exit ?_
    refine N.thenExit ?_
    refine N.thenExit ?_
    refine N.blockExit ?_
    refine N.thenW ?_
    refine W.keep .nil .refl ?_
    refine W.seq ?_
    refine W.region ?_
    refine L.op1 rfl rfl (GSpec.plain rfl (spec_assign rfl Get.cbool)) ?_
    refine L.nil ?_
    refine N.thenW ?_
    refine W.ret ?_
    refine N.ret () rfl (.tmp (t := 4) (Get.tmp rfl) .nil) (res1 (eqB ?_)) .nil (fun _ _ h => h)
    exact (any_no (p := fun b : Bk => b.name == s) fun j hj => hI2 j (by omega)).symm

theorem withBk_ok (l : List Bk) (b : Bk) : CallT Tryd.prog 28 [Rp.slice eBk l, Rp.agg (eBk b)] [] (.one (Rp.bool (withBk l b))) := by
  refine W.enter (fn := Tryd.f28) (n := 30) Tryd.func28 rfl Tryd.ntmps28 rfl (fun w₀ C₀ => ?_)
  simp only [argS]
  refine W.fact 0 rfl slice_fact fun hl => ?_
  refine W.seq ?_
  refine W.region ?_
  refine L.box rfl rfl (GSpec.plain rfl (spec_box rfl (GetC.agg (Get.tmp rfl)))) (fun r3 => ?_)
  refine L.op1 rfl rfl (GSpec.plain rfl (spec_assign rfl Get.cbool)) ?_
  refine L.nil ?_
  refine N.thenW ?_
  refine W.seq ?_
  refine W.seq ?_
  refine W.region ?_
  refine L.op1 rfl rfl (GSpec.plain rfl (spec_assign rfl (Get.cint rfl))) ?_
  refine L.nil ?_
  refine N.thenW ?_
  refine W.block ?_
  -- assigned in the loop, not kept: [4]
  refine W.loopK (σ := Nat) (.cons (t := 0) rfl (.cons (t := 3) rfl .nil)) (fun z => [(5, Rp.int .i64 (z : Nat))]) (fun z => []) (fun z => z ≤ l.length ∧ ∀ j : Nat, j < z → (fun x : Bk => x.name == b.name && decide (x.items = b.items)) (l.getD j default) = false) (fun z => l.length - z) 0 ⟨Nat.zero_le _, fun j hj => by omega⟩ (.cons (t := 5) rfl .nil) (.cons 0 rfl .nil) ?_
  intro i hI S' M' hS hM
  obtain ⟨hI1, hI2⟩ := hI
  try dsimp only at hS hM
  simp only [List.cons_append, List.nil_append] at hS hM
  subst hS hM
  try dsimp only
  refine W.seq ?_
  refine W.seq ?_
  refine W.region ?_
  refine L.op1 rfl rfl (GSpec.plain rfl (spec_move rfl (Get.tmp rfl))) ?_
  refine L.op1 rfl rfl (GSpec.plain rfl (spec_move rfl (Get.tmp rfl))) ?_
  refine L.op1 rfl rfl (GSpec.plain rfl (spec_len rfl Tryd.underlying23 (Get.tmp rfl))) ?_
  refine L.op1 rfl rfl (GSpec.plain rfl (spec_lss rfl (Get.tmp rfl) (Get.tmp rfl))) ?_
  refine L.nil ?_
  refine N.thenW ?_
  refine W.cond (Get.tmp rfl) (fun h1 => ?_) (fun h1 => ?_)
  · have ph1 := h1; try simp only [decide_eq_true_eq, decide_eq_false_iff_not, Bool.and_eq_true, Bool.or_eq_true, Bool.and_eq_false_iff, Bool.or_eq_false_iff, Bool.not_eq_true', Bool.not_eq_false', Bool.not_true, Bool.not_false, Int.not_lt, Int.not_le] at ph1
    refine W.skip ?_
    refine N.thenW ?_
    refine W.seq ?_
    refine W.block ?_
    refine W.seq ?_
    apply W.any 18 mixed (by kernel_rfl)
    · apply Head.one rfl rfl (GSpec.plain rfl (spec_move rfl (Get.tmp rfl)))
      apply Head.one rfl rfl (GSpec.plain rfl (spec_move rfl (Get.tmp rfl)))
      apply Head.one rfl rfl (GSpec.plain rfl (spec_indexAddrD (E := eBk) rfl Tryd.underlying23 Tryd.sizeOf54 (fun _ => rfl) (Get.tmp rfl) (Get.tmp rfl) (by (first | omega | (simp only [Int.toNat_natCast]; omega)))))
      apply Head.one rfl rfl (GSpec.plain rfl (spec_fieldAddrP (f := 0) rfl Tryd.underlying54 rfl Tryd.sizeOf9 (Get.tmp rfl) rfl rfl))
      apply Head.one rfl rfl (GSpec.plain rfl (spec_loadP1 rfl Tryd.isAgg9 (Get.tmp rfl)))
      apply Head.one rfl rfl (GSpec.plain rfl (spec_fieldAddr (f := 0) (off' := 0) rfl Tryd.underlying54 rfl Tryd.sizeOf9 (Get.tmp rfl) rfl))
      apply Head.one rfl rfl (GSpec.plain rfl (spec_load1 (k := 0) rfl Tryd.isAgg9 (Get.tmp rfl) rfl rfl))
      apply Head.one rfl rfl (GSpec.plain rfl (spec_eqlS rfl (Get.tmp rfl) (Get.tmp rfl)))
      apply Head.one rfl rfl (GSpec.plain rfl (spec_move rfl (Get.tmp rfl)))
      apply Head.one rfl rfl (GSpec.guard rfl rfl rfl fun hg => (spec_move rfl (Get.tmp rfl)))
      apply Head.one rfl rfl (GSpec.guard rfl rfl rfl fun hg => (spec_move rfl (Get.tmp rfl)))
      apply Head.one rfl rfl (GSpec.guard rfl rfl rfl fun hg => (spec_indexAddrD (E := eBk) rfl Tryd.underlying23 Tryd.sizeOf54 (fun _ => rfl) (Get.opt rfl hg) (Get.opt rfl hg) (by (first | omega | (simp only [decide_eq_true_eq, decide_eq_false_iff_not, Bool.and_eq_true, Bool.or_eq_true, Bool.and_eq_false_iff, Bool.or_eq_false_iff, Bool.not_eq_true', Bool.not_eq_false', Bool.not_true, Bool.not_false, Int.not_lt, Int.not_le] at hg; omega)))))
      apply Head.one rfl rfl (GSpec.guard rfl rfl rfl fun hg => (spec_fieldAddrP (f := 1) rfl Tryd.underlying54 rfl Tryd.sizeOf52 (Get.opt rfl hg) rfl rfl))
      apply Head.one rfl rfl (GSpec.guard rfl rfl rfl fun hg => (Spec.eq (its_eq _) (spec_loadP1 rfl Tryd.isAgg52 (Get.opt rfl hg))))
      apply Head.one rfl rfl (GSpec.guard rfl rfl rfl fun hg => (spec_fieldAddr (f := 1) (off' := 1) rfl Tryd.underlying54 rfl Tryd.sizeOf52 (Get.tmp rfl) rfl))
      apply Head.one rfl rfl (GSpec.guard rfl rfl rfl fun hg => (Spec.eq (its_eq _) (spec_load1 (k := 0) rfl Tryd.isAgg52 (Get.opt rfl hg) rfl rfl)))
      apply Head.one rfl rfl (GSpec.guard rfl rfl rfl fun hg => (spec_call rfl Tryd.call47 (sameL_ok _ _) (.cons (Get.opt rfl hg) (.cons (Get.opt rfl hg) .nil))))
      apply Head.one rfl rfl (GSpec.plain rfl (spec_and rfl (Get.tmp rfl) (fun hb => (Get.opt rfl hb))))
      exact Head.nil
    refine Fin.one ?_
    refine Fin.one ?_
    refine Fin.one ?_
    refine Fin.one ?_
    refine Fin.one ?_
    refine Fin.one ?_
    refine Fin.one ?_
    refine Fin.one ?_
    refine Fin.one ?_
    refine Fin.one ?_
    refine Fin.one ?_
    refine Fin.one ?_
    refine Fin.one ?_
    refine Fin.one ?_
    refine Fin.one ?_
    refine Fin.one ?_
    refine Fin.one ?_
    refine Fin.one ?_
    refine Fin.nil ?_
    refine L.nil ?_
    refine N.thenW ?_
    refine W.cond (Get.tmp rfl) (fun h2 => ?_) (fun h2 => ?_)
    · have ph2 := h2; try simp only [decide_eq_true_eq, decide_eq_false_iff_not, Bool.and_eq_true, Bool.or_eq_true, Bool.and_eq_false_iff, Bool.or_eq_false_iff, Bool.not_eq_true', Bool.not_eq_false', Bool.not_true, Bool.not_false, Int.not_lt, Int.not_le] at ph2
      refine W.seq ?_
      refine W.region ?_
      refine L.op1 rfl rfl (GSpec.plain rfl (spec_assign rfl Get.cbool)) ?_
      refine L.nil ?_
      refine N.thenW ?_
      refine W.ret ?_
      refine N.ret () rfl (.tmp (t := 4) (Get.tmp rfl) .nil) (res1 (eqB ?_)) .nil (fun _ _ h => h)
      exact (any_yes (p := (fun x : Bk => x.name == b.name && decide (x.items = b.items))) (i := i) (by omega) (by simpa using h2)).symm
    · have ph2 := h2; try simp only [decide_eq_true_eq, decide_eq_false_iff_not, Bool.and_eq_true, Bool.or_eq_true, Bool.and_eq_false_iff, Bool.or_eq_false_iff, Bool.not_eq_true', Bool.not_eq_false', Bool.not_true, Bool.not_false, Int.not_lt, Int.not_le] at ph2
      refine W.skip ?_
      refine N.blockNormal ?_
      refine N.thenW ?_
      refine W.region ?_
      refine L.op1 rfl rfl (GSpec.plain rfl (spec_move rfl (Get.tmp rfl))) ?_
      first | refine L.op1 rfl rfl (GSpec.plain rfl (fit_i64 (by (first | omega | (simp only [Int.toNat_natCast]; omega))) (by (first | omega | (simp only [Int.toNat_natCast]; omega))) (spec_add rfl (Get.tmp rfl) (Get.cint rfl)))) ?_ | refine L.op1 rfl rfl (GSpec.plain rfl (spec_add rfl (Get.tmp rfl) (Get.cint rfl))) ?_
      refine L.op1 rfl rfl (GSpec.plain rfl (spec_assign rfl (Get.tmp rfl))) ?_
      refine L.nil ?_
      refine N.roundK (i + 1) ?hI2 ?hmu2 ?hs2 ?hk2 ?hp2
      case hs2 => exact (.cons (t := 5) rfl .nil)
      case hk2 => exact (.cons (t := 0) rfl (.cons (t := 3) rfl .nil))
      case hp2 => exact (.cons 0 rfl .nil)
      case hI2 => exact ⟨by omega, upto hI2 (by simpa using h2)⟩
      case hmu2 => omega
  · have ph1 := h1; try simp only [decide_eq_true_eq, decide_eq_false_iff_not, Bool.and_eq_true, Bool.or_eq_true, Bool.and_eq_false_iff, Bool.or_eq_false_iff, Bool.not_eq_true', Bool.not_eq_false', Bool.not_true, Bool.not_false, Int.not_lt, Int.not_le] at ph1
    refine W.exit ?_
    refine N.thenExit ?_
    refine N.thenExit ?_
    refine N.blockExit ?_
    refine N.thenW ?_
    refine W.keep .nil .refl ?_
    refine W.seq ?_
    refine W.region ?_
    refine L.op1 rfl rfl (GSpec.plain rfl (spec_assign rfl Get.cbool)) ?_
    refine L.nil ?_
    refine N.thenW ?_
    refine W.ret ?_
    refine N.ret () rfl (.tmp (t := 4) (Get.tmp rfl) .nil) (res1 (eqB ?_)) .nil (fun _ _ h => h)
    exact (any_no (p := (fun x : Bk => x.name == b.name && decide (x.items = b.items))) fun j hj => hI2 j (by omega)).symm

end Go.Proofs.YtcabngjnmipflaaDoor
namespace Go.Proofs.YtcabngjnmipflaaDoor
open Go.Sim
theorem pairFlat_ok : CallT Tryd.prog 20 [Rp.slice eC pairE, Rp.str subN] [kwG] (.one (Rp.tuple [Rp.agg (eC flatS), Rp.int .i64 0])) := by
  have := FlattenX_ok pairE subN pair_sz
  rw [pair_line] at this
  rw [show flatL (pairE, 0) = flatS from pair_flat] at this
  exact this
theorem pairLine_ok : CallT Tryd.prog 18 [Rp.slice eC pairE, Rp.str subN] [kwG] (.one (Rp.tuple [Rp.slice eS [subN, [98, 97, 115, 101]], Rp.int .i64 0])) := by
  have := LineX_ok pairE subN pair_sz
  rw [pair_line] at this
  exact this
theorem pairVars_ok : CallT Tryd.prog 11 [Rp.agg (eC flatS)] [kwG] (.one (Rp.slice eVr varsS)) := pair_vars ▸ varsX_ok flatS
end Go.Proofs.YtcabngjnmipflaaDoor
set_option linter.unusedSimpArgs false
set_option maxRecDepth 8000
set_option linter.unusedVariables false
namespace Go.Proofs.YtcabngjnmipflaaDoor
open Go.Sim
theorem awake_ok  : CallT Tryd.prog 10 [] [kwG] (.one (Rp.bool true)) := by
  refine W.enter (fn := Tryd.f10) (n := 82) Tryd.func10 rfl Tryd.ntmps10 rfl (fun w₀ C₀ => ?_)
  simp only [argS]
  refine W.seq ?_
  refine W.region ?_
  refine L.op1 rfl rfl (GSpec.plain rfl (spec_assign rfl Get.cbool)) ?_
  refine L.nil ?_
  refine N.thenW ?_
  refine W.seq ?_
  refine W.region ?_
  refine L.op1 rfl rfl (GSpec.plain rfl (spec_call rfl Tryd.call30 (pair_ok ) .nil)) ?_
  refine L.op1 rfl rfl (GSpec.plain rfl (spec_callG (k := 0) rfl Tryd.call20 rfl pairFlat_ok (.cons (Get.tmp rfl) (.cons (Get.cstr (l := [115, 117, 98]) rfl rfl) .nil)))) ?_
  refine L.op1 rfl rfl (GSpec.plain rfl (spec_move rfl (Get.tmp rfl))) ?_
  refine L.op1 rfl rfl (GSpec.plain rfl (spec_extract rfl (Get.tmp rfl) rfl)) ?_
  refine L.op1 rfl rfl (GSpec.plain rfl (spec_extract rfl (Get.tmp rfl) rfl)) ?_
  refine L.box rfl rfl (GSpec.plain rfl (spec_alloc rfl ti25 z25)) (fun r1 => ?_)
  refine L.storeW (k := 0) rfl rfl rfl Tryd.sizeOf25 (Get.tmp rfl) (Get.tmp rfl) rfl rfl rfl ?_
  refine L.op1 rfl rfl (GSpec.plain rfl (spec_assign rfl (Get.tmp rfl))) ?_
  refine L.nil ?_
  refine N.thenW ?_
  refine W.seq ?_
  refine W.region ?_
  refine L.op1 rfl rfl (GSpec.plain rfl (spec_call rfl Tryd.call30 (pair_ok ) .nil)) ?_
  refine L.op1 rfl rfl (GSpec.plain rfl (spec_callG (k := 1) rfl Tryd.call18 rfl pairLine_ok (.cons (Get.tmp rfl) (.cons (Get.cstr (l := [115, 117, 98]) rfl rfl) .nil)))) ?_
  refine L.op1 rfl rfl (GSpec.plain rfl (spec_move rfl (Get.tmp rfl))) ?_
  refine L.op1 rfl rfl (GSpec.plain rfl (spec_extract rfl (Get.tmp rfl) rfl)) ?_
  refine L.op1 rfl rfl (GSpec.plain rfl (spec_extract rfl (Get.tmp rfl) rfl)) ?_
  refine L.op1 rfl rfl (GSpec.plain rfl (spec_assign rfl (Get.tmp rfl))) ?_
  refine L.op1 rfl rfl (GSpec.plain rfl (spec_assign rfl (Get.tmp rfl))) ?_
  refine L.nil ?_
  refine N.thenW ?_
  refine W.keep (.cons (t := 0) rfl (.cons (t := 1) rfl (.cons (t := 2) rfl (.cons (t := 3) rfl (.cons (t := 4) rfl .nil))))) .refl ?_
  refine W.seq ?_
  refine W.region ?_
  refine L.op1 rfl rfl (GSpec.plain rfl (spec_loadW (k := 0) rfl Tryd.isAgg25 Tryd.sizeOf25 (Get.tmp rfl) rfl rfl)) ?_
  refine L.op1 rfl rfl (GSpec.plain rfl (spec_callG (k := 1) rfl Tryd.call11 rfl pairVars_ok (.cons (Get.tmp rfl) .nil))) ?_
  refine L.op1 rfl rfl (GSpec.plain rfl (spec_assign rfl (Get.tmp rfl))) ?_
  refine L.nil ?_
  refine N.thenW ?_
  refine W.seq ?_
  refine W.region ?_
  refine L.op1 rfl rfl (GSpec.plain rfl (spec_move rfl (Get.tmp rfl))) ?_
  refine L.op1 rfl rfl (GSpec.plain rfl (spec_eql rfl (Get.tmp rfl) (Get.cint rfl))) ?_
  refine L.op1 rfl rfl (GSpec.plain rfl (spec_move rfl (Get.tmp rfl))) ?_
  refine L.op1 rfl rfl (GSpec.guard rfl rfl rfl fun hg => (spec_fieldAddr (f := 2) (off' := 2) rfl Tryd.underlying25 rfl Tryd.sizeOf22 (Get.tmp rfl) rfl)) ?_
  refine L.op1 rfl rfl (GSpec.guard rfl rfl rfl fun hg => (spec_load1 (k := 0) rfl Tryd.isAgg22 (Get.opt rfl hg) rfl rfl)) ?_
  refine L.op1 rfl rfl (GSpec.guard rfl rfl rfl fun hg => (spec_len rfl Tryd.underlying22 (Get.opt rfl hg))) ?_
  refine L.op1 rfl rfl (GSpec.guard rfl rfl rfl fun hg => (spec_eql rfl (Get.opt rfl hg) (Get.cint rfl))) ?_
  refine L.op1 rfl rfl (GSpec.plain rfl (spec_and rfl (Get.tmp rfl) (fun hb => (Get.opt rfl hb)))) ?_
  refine L.op1 rfl rfl (GSpec.plain rfl (spec_move rfl (Get.tmp rfl))) ?_
  refine L.op1 rfl rfl (GSpec.guard rfl rfl rfl fun hg => (spec_fieldAddr (f := 2) (off' := 2) rfl Tryd.underlying25 rfl Tryd.sizeOf22 (Get.tmp rfl) rfl)) ?_
  refine L.op1 rfl rfl (GSpec.guard rfl rfl rfl fun hg => (spec_load1 (k := 0) rfl Tryd.isAgg22 (Get.opt rfl hg) rfl rfl)) ?_
  refine L.op1 rfl rfl (GSpec.guard rfl rfl rfl fun hg => (spec_indexAddrD (E := eF) rfl Tryd.underlying22 Tryd.sizeOf27 (fun _ => rfl) (Get.opt rfl hg) (Get.cint rfl) (by (first | omega | (simp only [decide_eq_true_eq, decide_eq_false_iff_not, Bool.and_eq_true, Bool.or_eq_true, Bool.and_eq_false_iff, Bool.or_eq_false_iff, Bool.not_eq_true', Bool.not_eq_false', Bool.not_true, Bool.not_false, Int.not_lt, Int.not_le] at hg; omega))))) ?_
  refine L.op1 rfl rfl (GSpec.guard rfl rfl rfl fun hg => (spec_fieldAddrP (f := 0) rfl Tryd.underlying27 rfl Tryd.sizeOf9 (Get.opt rfl hg) rfl rfl)) ?_
  refine L.op1 rfl rfl (GSpec.guard rfl rfl rfl fun hg => (spec_loadP1 rfl Tryd.isAgg9 (Get.opt rfl hg))) ?_
  refine L.op1 rfl rfl (GSpec.guard rfl rfl rfl fun hg => (spec_eqlS rfl (Get.opt rfl hg) (Get.cstr (l := [97]) rfl rfl))) ?_
  refine L.op1 rfl rfl (GSpec.plain rfl (spec_and rfl (Get.tmp rfl) (fun hb => (Get.opt rfl hb)))) ?_
  refine L.op1 rfl rfl (GSpec.plain rfl (spec_move rfl (Get.tmp rfl))) ?_
  refine L.op1 rfl rfl (GSpec.guard rfl rfl rfl fun hg => (spec_fieldAddr (f := 3) (off' := 3) rfl Tryd.underlying25 rfl Tryd.sizeOf23 (Get.tmp rfl) rfl)) ?_
  refine L.op1 rfl rfl (GSpec.guard rfl rfl rfl fun hg => (spec_load1 (k := 0) rfl Tryd.isAgg23 (Get.opt rfl hg) rfl rfl)) ?_
  refine L.op1 rfl rfl (GSpec.guard rfl rfl rfl fun hg => (spec_len rfl Tryd.underlying23 (Get.opt rfl hg))) ?_
  refine L.op1 rfl rfl (GSpec.guard rfl rfl rfl fun hg => (spec_eql rfl (Get.opt rfl hg) (Get.cint rfl))) ?_
  refine L.op1 rfl rfl (GSpec.plain rfl (spec_and rfl (Get.tmp rfl) (fun hb => (Get.opt rfl hb)))) ?_
  refine L.op1 rfl rfl (GSpec.plain rfl (spec_move rfl (Get.tmp rfl))) ?_
  refine L.op1 rfl rfl (GSpec.guard rfl rfl rfl fun hg => (spec_fieldAddr (f := 3) (off' := 3) rfl Tryd.underlying25 rfl Tryd.sizeOf23 (Get.tmp rfl) rfl)) ?_
  refine L.op1 rfl rfl (GSpec.guard rfl rfl rfl fun hg => (spec_load1 (k := 0) rfl Tryd.isAgg23 (Get.opt rfl hg) rfl rfl)) ?_
  refine L.op1 rfl rfl (GSpec.guard rfl rfl rfl fun hg => (spec_indexAddrD (E := eBk) rfl Tryd.underlying23 Tryd.sizeOf54 (fun _ => rfl) (Get.opt rfl hg) (Get.cint rfl) (by (first | omega | (simp only [decide_eq_true_eq, decide_eq_false_iff_not, Bool.and_eq_true, Bool.or_eq_true, Bool.and_eq_false_iff, Bool.or_eq_false_iff, Bool.not_eq_true', Bool.not_eq_false', Bool.not_true, Bool.not_false, Int.not_lt, Int.not_le] at hg; omega))))) ?_
  refine L.op1 rfl rfl (GSpec.guard rfl rfl rfl fun hg => (spec_fieldAddrP (f := 1) rfl Tryd.underlying54 rfl Tryd.sizeOf52 (Get.opt rfl hg) rfl rfl)) ?_
  refine L.op1 rfl rfl (GSpec.guard rfl rfl rfl fun hg => (Spec.eq (its_eq _) (spec_loadP1 rfl Tryd.isAgg52 (Get.opt rfl hg)))) ?_
  refine L.op1 rfl rfl (GSpec.guard rfl rfl rfl fun hg => (spec_len rfl Tryd.underlying52 (Get.opt rfl hg))) ?_
  refine L.op1 rfl rfl (GSpec.guard rfl rfl rfl fun hg => (spec_eql rfl (Get.opt rfl hg) (Get.cint rfl))) ?_
  refine L.op1 rfl rfl (GSpec.plain rfl (spec_and rfl (Get.tmp rfl) (fun hb => (Get.opt rfl hb)))) ?_
  refine L.op1 rfl rfl (GSpec.plain rfl (spec_move rfl (Get.tmp rfl))) ?_
  refine L.op1 rfl rfl (GSpec.guard rfl rfl rfl fun hg => (spec_move rfl (Get.tmp rfl))) ?_
  refine L.op1 rfl rfl (GSpec.guard rfl rfl rfl fun hg => (spec_eql rfl (Get.opt rfl hg) (Get.cint rfl))) ?_
  refine L.op1 rfl rfl (GSpec.plain rfl (spec_and rfl (Get.tmp rfl) (fun hb => (Get.opt rfl hb)))) ?_
  refine L.op1 rfl rfl (GSpec.plain rfl (spec_move rfl (Get.tmp rfl))) ?_
  refine L.op1 rfl rfl (GSpec.guard rfl rfl rfl fun hg => (spec_move rfl (Get.tmp rfl))) ?_
  refine L.op1 rfl rfl (GSpec.guard rfl rfl rfl fun hg => (spec_len rfl Tryd.underlying40 (Get.opt rfl hg))) ?_
  refine L.op1 rfl rfl (GSpec.guard rfl rfl rfl fun hg => (spec_eql rfl (Get.opt rfl hg) (Get.cint rfl))) ?_
  refine L.op1 rfl rfl (GSpec.plain rfl (spec_and rfl (Get.tmp rfl) (fun hb => (Get.opt rfl hb)))) ?_
  refine L.op1 rfl rfl (GSpec.plain rfl (spec_move rfl (Get.tmp rfl))) ?_
  refine L.op1 rfl rfl (GSpec.guard rfl rfl rfl fun hg => (spec_move rfl (Get.tmp rfl))) ?_
  refine L.op1 rfl rfl (GSpec.guard rfl rfl rfl fun hg => (spec_indexAddrD (E := eS) rfl Tryd.underlying40 Tryd.sizeOf9 (fun _ => rfl) (Get.opt rfl hg) (Get.cint rfl) (by (first | omega | (simp only [decide_eq_true_eq, decide_eq_false_iff_not, Bool.and_eq_true, Bool.or_eq_true, Bool.and_eq_false_iff, Bool.or_eq_false_iff, Bool.not_eq_true', Bool.not_eq_false', Bool.not_true, Bool.not_false, Int.not_lt, Int.not_le] at hg; omega))))) ?_
  refine L.op1 rfl rfl (GSpec.guard rfl rfl rfl fun hg => (spec_loadP1 rfl Tryd.isAgg9 (Get.opt rfl hg))) ?_
  refine L.op1 rfl rfl (GSpec.guard rfl rfl rfl fun hg => (spec_eqlS rfl (Get.opt rfl hg) (Get.cstr (l := [98, 97, 115, 101]) rfl rfl))) ?_
  refine L.op1 rfl rfl (GSpec.plain rfl (spec_and rfl (Get.tmp rfl) (fun hb => (Get.opt rfl hb)))) ?_
  refine L.op1 rfl rfl (GSpec.plain rfl (spec_move rfl (Get.tmp rfl))) ?_
  refine L.op1 rfl rfl (GSpec.guard rfl rfl rfl fun hg => (spec_move rfl (Get.tmp rfl))) ?_
  refine L.op1 rfl rfl (GSpec.guard rfl rfl rfl fun hg => (spec_len rfl Tryd.underlying30 (Get.opt rfl hg))) ?_
  refine L.op1 rfl rfl (GSpec.guard rfl rfl rfl fun hg => (spec_eql rfl (Get.opt rfl hg) (Get.cint rfl))) ?_
  refine L.op1 rfl rfl (GSpec.plain rfl (spec_and rfl (Get.tmp rfl) (fun hb => (Get.opt rfl hb)))) ?_
  refine L.op1 rfl rfl (GSpec.plain rfl (spec_move rfl (Get.tmp rfl))) ?_
  refine L.op1 rfl rfl (GSpec.guard rfl rfl rfl fun hg => (spec_move rfl (Get.tmp rfl))) ?_
  refine L.op1 rfl rfl (GSpec.guard rfl rfl rfl fun hg => (spec_indexAddrD (E := eVr) rfl Tryd.underlying30 Tryd.sizeOf33 (fun _ => rfl) (Get.opt rfl hg) (Get.cint rfl) (by (first | omega | (simp only [decide_eq_true_eq, decide_eq_false_iff_not, Bool.and_eq_true, Bool.or_eq_true, Bool.and_eq_false_iff, Bool.or_eq_false_iff, Bool.not_eq_true', Bool.not_eq_false', Bool.not_true, Bool.not_false, Int.not_lt, Int.not_le] at hg; omega))))) ?_
  refine L.op1 rfl rfl (GSpec.guard rfl rfl rfl fun hg => (spec_loadPA rfl Tryd.isAgg33 Tryd.sizeOf33 (Get.opt rfl hg) rfl)) ?_
  refine L.op1 rfl rfl (GSpec.guard rfl rfl rfl fun hg => (spec_build (Rs := [_, _, _, Rp.int .i64 0]) rfl ti33 z33 Tryd.underlying33 pl33 (.cons (GetC.one (Get.cstr (l := [98, 91, 49, 93]) rfl rfl)) rfl rfl rfl (.cons (GetC.one (Get.cint rfl)) rfl rfl rfl (.cons (GetC.one (Get.cint rfl)) rfl rfl rfl .nil))))) ?_
  refine L.op1 rfl rfl (GSpec.guard rfl rfl rfl fun hg => (eql33 (m := ⟨[98, 91, 49, 93], 2, 1, 0⟩) rfl (Get.opt rfl hg) (Get.opt rfl hg))) ?_
  refine L.op1 rfl rfl (GSpec.plain rfl (spec_and rfl (Get.tmp rfl) (fun hb => (Get.opt rfl hb)))) ?_
  refine L.op1 rfl rfl (GSpec.plain rfl (spec_move rfl (Get.tmp rfl))) ?_
  refine L.op1 rfl rfl (GSpec.guard rfl rfl rfl fun hg => (spec_call rfl Tryd.call30 (pair_ok ) .nil)) ?_
  refine L.op1 rfl rfl (GSpec.guard rfl rfl rfl fun hg => (spec_slice (E := eC) rfl Tryd.underlying38 Tryd.sizeOf25 (fun _ => rfl) (Get.opt rfl hg) .none (.some (Get.cint rfl) (by (first | decide | (simp [pairE]; done) | omega))) (by (first | decide | (simp [pairE]; done) | omega)))) ?_
  refine L.op1 rfl rfl (GSpec.guard rfl rfl rfl fun hg => (spec_callG (k := 1) rfl Tryd.call25 rfl (check_ok _ pair_sz1) (.cons (Get.opt rfl hg) .nil))) ?_
  refine L.op1 rfl rfl (GSpec.guard rfl rfl rfl fun hg => (spec_eql rfl (Get.opt rfl hg) (Get.cint rfl))) ?_
  refine L.op1 rfl rfl (GSpec.plain rfl (spec_and rfl (Get.tmp rfl) (fun hb => (Get.opt rfl hb)))) ?_
  refine L.op1 rfl rfl (GSpec.plain rfl (spec_assign rfl (Get.tmp rfl))) ?_
  refine L.nil ?_
  refine N.thenW ?_
  refine W.keep (.cons (t := 0) rfl .nil) .refl ?_
  refine W.ret ?_
  refine N.ret () rfl (.tmp (t := 0) (Get.tmp rfl) .nil) (res1 (eqB ?_)) .nil (fun _ _ h => h)
  kernel_rfl

end Go.Proofs.YtcabngjnmipflaaDoor
set_option linter.unusedSimpArgs false
set_option maxRecDepth 8000
set_option linter.unusedVariables false
namespace Go.Proofs.YtcabngjnmipflaaDoor
open Go.Sim
theorem rvars_ok (c : Cl) : CallT Tryd.prog 12 [Rp.agg (eC c)] [] (.one (Rp.slice eVr (varsC c))) := by
  refine W.enter (fn := Tryd.f12) (n := 58) Tryd.func12 rfl Tryd.ntmps12 rfl (fun w₀ C₀ => ?_)
  simp only [argS]
  refine W.seq ?_
  refine W.region ?_
  refine L.box rfl rfl (GSpec.plain rfl (spec_box rfl (GetC.agg (Get.tmp rfl)))) (fun r1 => ?_)
  refine L.op1 rfl rfl (GSpec.plain rfl (spec_assign rfl (Get.cnil (E := eVr)))) ?_
  refine L.nil ?_
  refine N.thenW ?_
  refine W.seq ?_
  refine W.seq ?_
  refine W.region ?_
  refine L.op1 rfl rfl (GSpec.plain rfl (spec_loadW (k := 0) rfl Tryd.isAgg25 Tryd.sizeOf25 (Get.tmp rfl) rfl rfl)) ?_
  refine L.op1 rfl rfl (GSpec.plain rfl (spec_call rfl Tryd.call16 (rvalidC_ok _) (.cons (Get.tmp rfl) .nil))) ?_
  refine L.op1 rfl rfl (GSpec.plain rfl (spec_neq rfl (Get.tmp rfl) (Get.cint rfl))) ?_
  refine L.nil ?_
  refine N.thenW ?_
  refine W.cond (Get.tmp rfl) (fun h1 => ?_) (fun h1 => ?_)
  · have hv : validC c ≠ 0 := by have h := h1; simpa using h
    refine W.seq ?_
    refine W.region ?_
    refine L.op1 rfl rfl (GSpec.plain rfl (spec_assign rfl (Get.cnil (E := eVr)))) ?_
    refine L.nil ?_
    refine N.thenW ?_
    refine W.ret ?_
    refine N.ret () rfl (.tmp (t := 2) (Get.tmp rfl) .nil) (res1 (eqSl ?_)) .nil (fun _ _ h => h)
    unfold varsC; rw [if_pos hv]
  · have hv : validC c = 0 := by have h := h1; simpa using h
    have hfl := valid_len hv
    refine W.skip ?_
    refine N.thenW ?_
    refine W.seq ?_
    refine W.region ?_
    refine L.op1 rfl rfl (GSpec.plain rfl (spec_assign rfl Get.cval)) ?_
    refine L.nil ?_
    refine N.thenW ?_
    refine W.nil 33 4 eVr ?_
    refine W.seq ?_
    refine W.seq ?_
    refine W.region ?_
    refine L.op1 rfl rfl (GSpec.plain rfl (spec_assign rfl (Get.cint rfl))) ?_
    refine L.nil ?_
    refine N.thenW ?_
    refine W.block ?_
    refine W.loopK (σ := Nat × Value) (.cons (t := 1) rfl (.cons (t := 2) rfl .nil)) (fun z => [(4, Rp.int .i64 (z.1 : Nat)), (3, Rp.val z.2)]) (fun z => [MF.osl z.2 33 4 eVr ((c.fields.take z.1).flatMap varsF)]) (fun z => z.1 ≤ c.fields.length) (fun z => c.fields.length - z.1) (0, .slice none 0 0) (Nat.zero_le _) (.cons (t := 4) rfl (.cons (t := 3) rfl .nil)) (.cons 0 rfl (.cons 0 rfl .nil)) ?_
    intro ⟨i, vo⟩ hI S' M' hS hM
    try dsimp only at hS hM
    simp only [List.cons_append, List.nil_append] at hS hM
    subst hS hM
    try dsimp only
    try dsimp only at hI
    refine W.seq ?_
    refine W.seq ?_
    refine W.region ?_
    refine L.op1 rfl rfl (GSpec.plain rfl (spec_move rfl (Get.tmp rfl))) ?_
    refine L.op1 rfl rfl (GSpec.plain rfl (spec_fieldAddr (f := 2) (off' := 2) rfl Tryd.underlying25 rfl Tryd.sizeOf22 (Get.tmp rfl) rfl)) ?_
    refine L.op1 rfl rfl (GSpec.plain rfl (spec_load1 (k := 1) rfl Tryd.isAgg22 (Get.tmp rfl) rfl rfl)) ?_
    refine L.op1 rfl rfl (GSpec.plain rfl (spec_len rfl Tryd.underlying22 (Get.tmp rfl))) ?_
    refine L.op1 rfl rfl (GSpec.plain rfl (spec_lss rfl (Get.tmp rfl) (Get.tmp rfl))) ?_
    refine L.nil ?_
    refine N.thenW ?_
    refine W.cond (Get.tmp rfl) (fun h2 => ?_) (fun h2 => ?_)
    · have ph2 := h2; try simp only [decide_eq_true_eq, decide_eq_false_iff_not, Bool.and_eq_true, Bool.or_eq_true, Bool.and_eq_false_iff, Bool.or_eq_false_iff, Bool.not_eq_true', Bool.not_eq_false', Bool.not_true, Bool.not_false, Int.not_lt, Int.not_le] at ph2
      refine W.skip ?_
      refine N.thenW ?_
      obtain ⟨hfn, hf0, hf8⟩ := valid_field hv (getD_mem' (show i < c.fields.length by omega))
      have hnl := name_len hfn
      have hpl := vars_len hv i
      refine W.seq ?_
      refine W.block ?_
      refine W.seq ?_
      refine W.region ?_
      refine L.op1 rfl rfl (GSpec.plain rfl (spec_fieldAddr (f := 2) (off' := 2) rfl Tryd.underlying25 rfl Tryd.sizeOf22 (Get.tmp rfl) rfl)) ?_
      refine L.op1 rfl rfl (GSpec.plain rfl (spec_load1 (k := 1) rfl Tryd.isAgg22 (Get.tmp rfl) rfl rfl)) ?_
      refine L.op1 rfl rfl (GSpec.plain rfl (spec_move rfl (Get.tmp rfl))) ?_
      refine L.op1 rfl rfl (GSpec.plain rfl (spec_indexAddrD (E := eF) rfl Tryd.underlying22 Tryd.sizeOf27 (fun _ => rfl) (Get.tmp rfl) (Get.tmp rfl) (by (first | omega | (simp only [Int.toNat_natCast]; omega))))) ?_
      refine L.op1 rfl rfl (GSpec.plain rfl (spec_loadPA rfl Tryd.isAgg27 Tryd.sizeOf27 (Get.tmp rfl) rfl)) ?_
      refine L.box rfl rfl (GSpec.plain rfl (spec_alloc rfl ti27 z27)) (fun r5 => ?_)
      refine L.storeW (k := 0) rfl rfl rfl Tryd.sizeOf27 (Get.tmp rfl) (Get.tmp rfl) rfl rfl rfl ?_
      refine L.nil ?_
      refine N.thenW ?_
      refine W.seq ?_
      refine W.region ?_
      refine L.op1 rfl rfl (GSpec.plain rfl (spec_fieldAddr (f := 0) (off' := 0) rfl Tryd.underlying27 rfl Tryd.sizeOf9 (Get.tmp rfl) rfl)) ?_
      refine L.op1 rfl rfl (GSpec.plain rfl (spec_load1 (k := 0) rfl Tryd.isAgg9 (Get.tmp rfl) rfl rfl)) ?_
      refine L.op1 rfl rfl (GSpec.plain rfl (spec_fieldAddr (f := 1) (off' := 1) rfl Tryd.underlying27 rfl Tryd.sizeOf3 (Get.tmp rfl) rfl)) ?_
      refine L.op1 rfl rfl (GSpec.plain rfl (spec_load1 (k := 0) rfl Tryd.isAgg3 (Get.tmp rfl) rfl rfl)) ?_
      refine L.op1 rfl rfl (GSpec.plain rfl (spec_fieldAddr (f := 3) (off' := 3) rfl Tryd.underlying27 rfl Tryd.sizeOf3 (Get.tmp rfl) rfl)) ?_
      refine L.op1 rfl rfl (GSpec.plain rfl (spec_load1 (k := 0) rfl Tryd.isAgg3 (Get.tmp rfl) rfl rfl)) ?_
      refine L.op1 rfl rfl (GSpec.plain rfl (spec_fieldAddr (f := 4) (off' := 4) rfl Tryd.underlying27 rfl Tryd.sizeOf3 (Get.tmp rfl) rfl)) ?_
      refine L.op1 rfl rfl (GSpec.plain rfl (spec_load1 (k := 0) rfl Tryd.isAgg3 (Get.tmp rfl) rfl rfl)) ?_
      refine L.op1 rfl rfl (GSpec.plain rfl (spec_build (Rs := [_, _, _, _]) rfl ti33 z33 Tryd.underlying33 pl33 (.cons (GetC.one (Get.tmp rfl)) rfl rfl rfl (.cons (GetC.one (Get.tmp rfl)) rfl rfl rfl (.cons (GetC.one (Get.tmp rfl)) rfl rfl rfl (.cons (GetC.one (Get.tmp rfl)) rfl rfl rfl .nil)))))) ?_
      refine L.box rfl rfl (GSpec.plain rfl (spec_alloc rfl ti33 z33)) (fun r6 => ?_)
      refine L.storeW (k := 0) rfl rfl rfl Tryd.sizeOf33 (Get.tmp rfl) (Get.tmp rfl) rfl rfl rfl ?_
      refine L.nil ?_
      refine N.thenW ?_
      refine W.cut (σ := {z : List Vr × Value // z.1 = (c.fields.take i).flatMap varsF ++ headV (c.fields.getD i default)}) (fun z => [(2, Rp.slice eVr []), (1, Rp.ptr r1 0), (4, Rp.int .i64 (i : Nat)), (3, Rp.val z.1.2), (5, Rp.ptr r5 0), (6, Rp.ptr r6 0)]) (fun z => [MF.box r1 25 (eC c), MF.box r5 27 (eF (c.fields.getD i default)), MF.box r6 33 [Rp.str (c.fields.getD i default).name, Rp.int .i64 (c.fields.getD i default).width, Rp.int .i64 (c.fields.getD i default).mode, Rp.int .i64 (c.fields.getD i default).init], MF.osl z.1.2 33 4 eVr z.1.1]) ?_ ?_
      · refine W.seq ?_
        refine W.region ?_
        refine L.op1 rfl rfl (GSpec.plain rfl (spec_fieldAddr (f := 2) (off' := 2) rfl Tryd.underlying27 rfl Tryd.sizeOf3 (Get.tmp rfl) rfl)) ?_
        refine L.op1 rfl rfl (GSpec.plain rfl (spec_load1 (k := 1) rfl Tryd.isAgg3 (Get.tmp rfl) rfl rfl)) ?_
        refine L.op1 rfl rfl (GSpec.plain rfl (spec_eql rfl (Get.tmp rfl) (Get.cint rfl))) ?_
        refine L.nil ?_
        refine N.thenW ?_
        refine W.cond (Get.tmp rfl) (fun h3 => ?_) (fun h3 => ?_)
        · have hz : (c.fields.getD i default).size = 0 := by have h := h3; simpa using h
          refine W.region ?_
          refine L.op1 rfl rfl (GSpec.plain rfl (spec_move rfl (Get.tmp rfl))) ?_
          refine L.op1 rfl rfl (GSpec.plain rfl (spec_loadW (k := 0) rfl Tryd.isAgg33 Tryd.sizeOf33 (Get.tmp rfl) rfl rfl)) ?_
          refine L.op1 rfl rfl (GSpec.plain rfl (spec_buildSlice1 (y := vr0 (c.fields.getD i default)) (E := eVr) rfl Tryd.underlying30 ti33 z33 (by decide) (GetC.agg (Get.tmp rfl)) (fun _ => rfl))) ?_
          refine L.append (k := 2) (E := eVr) rfl rfl rfl rfl Tryd.underlying30 ti33 rfl (by decide) (fun _ => rfl) (Get.tmp rfl) (Get.tmp rfl) rfl (by (simp only [List.length_cons, List.length_nil]; omega)) (by (simp only [List.length_cons, List.length_nil]; omega)) (fun v38 => ?_)
          refine L.op1 rfl rfl (GSpec.plain rfl (spec_assign rfl (Get.tmp rfl))) ?_
          refine L.nil ?_
          refine N.mid ⟨((c.fields.take i).flatMap varsF ++ [vr0 (c.fields.getD i default)], v38), by rw [headV, if_pos hz]⟩ ?hs1 ?hp1
          case hs1 => exact (.cons (t := 2) rfl (.cons (t := 1) rfl (.cons (t := 4) rfl (.cons (t := 3) rfl (.cons (t := 5) rfl (.cons (t := 6) rfl .nil))))))
          case hp1 => exact (.cons 3 rfl (.cons 1 rfl (.cons 0 rfl (.cons 0 rfl .nil))))
        · have hz : (c.fields.getD i default).size ≠ 0 := by have h := h3; simpa using h
          refine W.skip ?_
          refine N.mid ⟨((c.fields.take i).flatMap varsF, vo), by rw [headV, if_neg hz, List.append_nil]⟩ ?hs2 ?hp2
          case hs2 => exact (.cons (t := 2) rfl (.cons (t := 1) rfl (.cons (t := 4) rfl (.cons (t := 3) rfl (.cons (t := 5) rfl (.cons (t := 6) rfl .nil))))))
          case hp2 => exact (.cons 3 rfl (.cons 1 rfl (.cons 0 rfl (.cons 0 rfl .nil))))
      intro ⟨⟨pv, vh⟩, hpv⟩
      try dsimp only
      dsimp only at hpv
      subst hpv
      refine W.seq ?_
      refine W.region ?_
      refine L.op1 rfl rfl (GSpec.plain rfl (spec_assign rfl (Get.cint rfl))) ?_
      refine L.nil ?_
      refine N.thenW ?_
      refine W.block ?_
      refine W.loopK (σ := Nat × List UInt8 × Value) (.cons (t := 1) rfl (.cons (t := 2) rfl (.cons (t := 4) rfl (.cons (t := 5) rfl (.cons (t := 6) rfl .nil))))) (fun z => [(7, Rp.int .i64 (z.1 : Nat)), (3, Rp.val z.2.2)]) (fun z => [MF.box r6 33 [Rp.str z.2.1, Rp.int .i64 (c.fields.getD i default).width, Rp.int .i64 (c.fields.getD i default).mode, Rp.int .i64 (c.fields.getD i default).init], MF.osl z.2.2 33 4 eVr ((c.fields.take i).flatMap varsF ++ headV (c.fields.getD i default) ++ arrV (c.fields.getD i default) z.1)]) (fun z => z.1 ≤ (c.fields.getD i default).size.toNat) (fun z => (c.fields.getD i default).size.toNat - z.1) (0, (c.fields.getD i default).name, vh) (Nat.zero_le _) (.cons (t := 7) rfl (.cons (t := 3) rfl .nil)) (by dsimp only; rw [show (c.fields.take i).flatMap varsF ++ headV (c.fields.getD i default) ++ arrV (c.fields.getD i default) 0 = (c.fields.take i).flatMap varsF ++ headV (c.fields.getD i default) from List.append_nil _]; exact (.cons 2 rfl (.cons 2 rfl (.cons 0 rfl (.cons 0 rfl .nil))))) ?_
      intro ⟨k, nm, vk⟩ hI S' M' hS hM
      try dsimp only at hS hM
      simp only [List.cons_append, List.nil_append] at hS hM
      subst hS hM
      try dsimp only
      try dsimp only at hI
      refine W.seq ?_
      refine W.seq ?_
      refine W.region ?_
      refine L.op1 rfl rfl (GSpec.plain rfl (spec_move rfl (Get.tmp rfl))) ?_
      refine L.op1 rfl rfl (GSpec.plain rfl (spec_fieldAddr (f := 2) (off' := 2) rfl Tryd.underlying27 rfl Tryd.sizeOf3 (Get.tmp rfl) rfl)) ?_
      refine L.op1 rfl rfl (GSpec.plain rfl (spec_load1 (k := 3) rfl Tryd.isAgg3 (Get.tmp rfl) rfl rfl)) ?_
      refine L.op1 rfl rfl (GSpec.plain rfl (spec_lss rfl (Get.tmp rfl) (Get.tmp rfl))) ?_
      refine L.nil ?_
      refine N.thenW ?_
      refine W.cond (Get.tmp rfl) (fun h4 => ?_) (fun h4 => ?_)
      · have ph4 := h4; try simp only [decide_eq_true_eq, decide_eq_false_iff_not, Bool.and_eq_true, Bool.or_eq_true, Bool.and_eq_false_iff, Bool.or_eq_false_iff, Bool.not_eq_true', Bool.not_eq_false', Bool.not_true, Bool.not_false, Int.not_lt, Int.not_le] at ph4
        refine W.skip ?_
        refine N.thenW ?_
        refine W.seq ?_
        refine W.block ?_
        refine W.seq ?_
        apply W.any 8 mixed (by kernel_rfl)
        · apply Head.one rfl rfl (GSpec.plain rfl (spec_fieldAddr (f := 0) (off' := 0) rfl Tryd.underlying27 rfl Tryd.sizeOf9 (Get.tmp rfl) rfl))
          apply Head.one rfl rfl (GSpec.plain rfl (spec_load1 (k := 3) rfl Tryd.isAgg9 (Get.tmp rfl) rfl rfl))
          apply Head.one rfl rfl (GSpec.plain rfl (spec_addS rfl (Get.tmp rfl) (Get.cstr (l := [91]) rfl rfl) (by (simp only [List.length_append, List.length_cons, List.length_nil, digT]; omega))))
          apply Head.one rfl rfl (GSpec.plain rfl (spec_move rfl (Get.tmp rfl)))
          apply Head.one rfl rfl (GSpec.plain rfl (spec_call rfl Tryd.call32 (format_ok _ (by omega)) (.cons (Get.tmp rfl) .nil)))
          apply Head.one rfl rfl (GSpec.plain rfl (spec_addS rfl (Get.tmp rfl) (Get.tmp rfl) (by (simp only [List.length_append, List.length_cons, List.length_nil, digT]; omega))))
          apply Head.one rfl rfl (GSpec.plain rfl (spec_addS rfl (Get.tmp rfl) (Get.cstr (l := [93]) rfl rfl) (by (simp only [List.length_append, List.length_cons, List.length_nil, digT]; omega))))
          apply Head.one rfl rfl (GSpec.plain rfl (spec_fieldAddr (f := 0) (off' := 0) rfl Tryd.underlying33 rfl Tryd.sizeOf9 (Get.tmp rfl) rfl))
          exact Head.nil
        refine Fin.one ?_
        refine Fin.one ?_
        refine Fin.one ?_
        refine Fin.one ?_
        refine Fin.one ?_
        refine Fin.one ?_
        refine Fin.one ?_
        refine Fin.one ?_
        refine Fin.nil ?_
        refine L.storeB (k := 0) rfl rfl rfl Tryd.sizeOf9 (Get.tmp rfl) (Get.tmp rfl) rfl rfl ?_
        refine L.nil ?_
        refine N.thenW ?_
        refine W.region ?_
        refine L.op1 rfl rfl (GSpec.plain rfl (spec_move rfl (Get.tmp rfl))) ?_
        refine L.op1 rfl rfl (GSpec.plain rfl (spec_loadW (k := 0) rfl Tryd.isAgg33 Tryd.sizeOf33 (Get.tmp rfl) rfl rfl)) ?_
        refine L.op1 rfl rfl (GSpec.plain rfl (spec_buildSlice1 (y := vrK (c.fields.getD i default) k) (E := eVr) rfl Tryd.underlying30 ti33 z33 (by decide) (GetC.agg (Get.tmp rfl)) (fun _ => rfl))) ?_
        refine L.append (k := 1) (E := eVr) rfl rfl rfl rfl Tryd.underlying30 ti33 rfl (by decide) (fun _ => rfl) (Get.tmp rfl) (Get.tmp rfl) rfl (by (have hh := headV_len (c.fields.getD i default); simp only [arrV, List.length_append, List.length_map, List.length_range, List.length_cons, List.length_nil]; omega)) (by (have hh := headV_len (c.fields.getD i default); simp only [arrV, List.length_append, List.length_map, List.length_range, List.length_cons, List.length_nil]; omega)) (fun v56 => ?_)
        refine L.op1 rfl rfl (GSpec.plain rfl (spec_assign rfl (Get.tmp rfl))) ?_
        refine L.nil ?_
        refine N.blockNormal ?_
        refine N.thenW ?_
        refine W.region ?_
        refine L.op1 rfl rfl (GSpec.plain rfl (spec_move rfl (Get.tmp rfl))) ?_
        first | refine L.op1 rfl rfl (GSpec.plain rfl (fit_i64 (by (first | omega | (simp only [Int.toNat_natCast]; omega))) (by (first | omega | (simp only [Int.toNat_natCast]; omega))) (spec_add rfl (Get.tmp rfl) (Get.cint rfl)))) ?_ | refine L.op1 rfl rfl (GSpec.plain rfl (spec_add rfl (Get.tmp rfl) (Get.cint rfl))) ?_
        refine L.op1 rfl rfl (GSpec.plain rfl (spec_assign rfl (Get.tmp rfl))) ?_
        refine L.nil ?_
        refine N.roundK (k + 1, (c.fields.getD i default).name ++ [91] ++ digT k ++ [93], v56) ?hI3 ?hmu3 ?hs3 ?hk3 ?hp3
        case hs3 => exact (.cons (t := 7) rfl (.cons (t := 3) rfl .nil))
        case hk3 => exact (.cons (t := 1) rfl (.cons (t := 2) rfl (.cons (t := 4) rfl (.cons (t := 5) rfl (.cons (t := 6) rfl .nil)))))
        case hp3 => dsimp only; rw [arr_next]; exact (.cons 0 rfl (.cons 0 rfl (.cons 0 rfl (.cons 0 rfl .nil))))
        case hI3 => dsimp only; omega
        case hmu3 => dsimp only; omega
      · have ph4 := h4; try simp only [decide_eq_true_eq, decide_eq_false_iff_not, Bool.and_eq_true, Bool.or_eq_true, Bool.and_eq_false_iff, Bool.or_eq_false_iff, Bool.not_eq_true', Bool.not_eq_false', Bool.not_true, Bool.not_false, Int.not_lt, Int.not_le] at ph4
        refine W.exit ?_
        refine N.thenExit ?_
        refine N.thenExit ?_
        refine N.blockExit ?_
        refine N.blockNormal ?_
        refine N.thenW ?_
        have hk : k = (c.fields.getD i default).size.toNat := by omega
        subst hk
        rw [show (c.fields.take i).flatMap varsF ++ headV (c.fields.getD i default) ++ arrV (c.fields.getD i default) (c.fields.getD i default).size.toNat = (c.fields.take i).flatMap varsF ++ varsF (c.fields.getD i default) from List.append_assoc _ _ _]
        refine W.region ?_
        refine L.op1 rfl rfl (GSpec.plain rfl (spec_move rfl (Get.tmp rfl))) ?_
        first | refine L.op1 rfl rfl (GSpec.plain rfl (fit_i64 (by (first | omega | (simp only [Int.toNat_natCast]; omega))) (by (first | omega | (simp only [Int.toNat_natCast]; omega))) (spec_add rfl (Get.tmp rfl) (Get.cint rfl)))) ?_ | refine L.op1 rfl rfl (GSpec.plain rfl (spec_add rfl (Get.tmp rfl) (Get.cint rfl))) ?_
        refine L.op1 rfl rfl (GSpec.plain rfl (spec_assign rfl (Get.tmp rfl))) ?_
        refine L.nil ?_
        refine N.roundK (i + 1, vk) ?hI4 ?hmu4 ?hs4 ?hk4 ?hp4
        case hs4 => exact (.cons (t := 4) rfl (.cons (t := 3) rfl .nil))
        case hk4 => exact (.cons (t := 1) rfl (.cons (t := 2) rfl .nil))
        case hp4 => dsimp only; rw [vars_next (show i < c.fields.length by omega)]; exact (.cons 1 rfl (.cons 1 rfl .nil))
        case hI4 => dsimp only; omega
        case hmu4 => dsimp only; omega
    · have ph2 := h2; try simp only [decide_eq_true_eq, decide_eq_false_iff_not, Bool.and_eq_true, Bool.or_eq_true, Bool.and_eq_false_iff, Bool.or_eq_false_iff, Bool.not_eq_true', Bool.not_eq_false', Bool.not_true, Bool.not_false, Int.not_lt, Int.not_le] at ph2
      refine W.exit ?_
      refine N.thenExit ?_
      refine N.thenExit ?_
      refine N.blockExit ?_
      refine N.thenW ?_
      have hi : i = c.fields.length := by omega
      subst hi
      rw [List.take_length]
      refine W.pub (t := 3) (k := 0) rfl rfl (fun _ => rfl) ?_
      refine W.keep (.cons (t := 2) rfl (.cons (t := 3) rfl .nil)) .refl ?_
      refine W.seq ?_
      refine W.region ?_
      refine L.op1 rfl rfl (GSpec.plain rfl (spec_move rfl (Get.tmp rfl))) ?_
      refine L.op1 rfl rfl (GSpec.plain rfl (spec_assign rfl (Get.tmp rfl))) ?_
      refine L.nil ?_
      refine N.thenW ?_
      refine W.ret ?_
      refine N.ret () rfl (.tmp (t := 2) (Get.tmp rfl) .nil) (res1 (eqSl ?_)) .nil (fun _ _ h => h)
      unfold varsC; rw [if_neg (by rw [hv]; simp)]

end Go.Proofs.YtcabngjnmipflaaDoor
set_option linter.unusedSimpArgs false
set_option maxRecDepth 8000
set_option linter.unusedVariables false
namespace Go.Proofs.YtcabngjnmipflaaDoor
open Go.Sim
theorem classValid_ok (c : Cl) (f : Fd) : CallT Tryd.prog 3 [Rp.agg (eC c), Rp.agg (eF f)] [kwG] (.one (Rp.bool true)) := by
  refine W.enter (fn := Tryd.f3) (n := 57) Tryd.func3 rfl Tryd.ntmps3 rfl (fun w₀ C₀ => ?_)
  simp only [argS]
  refine W.seq ?_
  refine W.region ?_
  refine L.box rfl rfl (GSpec.plain rfl (spec_box rfl (GetC.agg (Get.tmp rfl)))) (fun r2 => ?_)
  refine L.box rfl rfl (GSpec.plain rfl (spec_box rfl (GetC.agg (Get.tmp rfl)))) (fun r3 => ?_)
  refine L.op1 rfl rfl (GSpec.plain rfl (spec_assign rfl Get.cbool)) ?_
  refine L.nil ?_
  refine N.thenW ?_
  refine W.seq ?_
  refine W.seq ?_
  refine W.region ?_
  refine L.op1 rfl rfl (GSpec.plain rfl (spec_loadW (k := 1) rfl Tryd.isAgg25 Tryd.sizeOf25 (Get.tmp rfl) rfl rfl)) ?_
  refine L.op rfl rfl (GSpec.plain rfl (spec_call rfl Tryd.call9 (smallC_ok _) (.cons (Get.tmp rfl) .nil))) (fun b9 => ?_)
  try dsimp only
  refine L.op1 rfl rfl (GSpec.plain rfl (spec_not rfl (Get.tmp rfl))) ?_
  refine L.op1 rfl rfl (GSpec.plain rfl (spec_move rfl (Get.tmp rfl))) ?_
  refine L.op1 rfl rfl (GSpec.guard rfl rfl rfl fun hg => (spec_fieldAddr (f := 0) (off' := 0) rfl Tryd.underlying27 rfl Tryd.sizeOf9 (Get.tmp rfl) rfl)) ?_
  refine L.op1 rfl rfl (GSpec.guard rfl rfl rfl fun hg => (spec_load1 (k := 0) rfl Tryd.isAgg9 (Get.opt rfl hg) rfl rfl)) ?_
  refine L.op1 rfl rfl (GSpec.guard rfl rfl rfl fun hg => (spec_lenS rfl Tryd.underlying9 (Get.opt rfl hg))) ?_
  refine L.op1 rfl rfl (GSpec.guard rfl rfl rfl fun hg => (spec_gtr rfl (Get.opt rfl hg) (Get.cint rfl))) ?_
  refine L.op1 rfl rfl (GSpec.plain rfl (spec_or rfl (Get.tmp rfl) (fun hb => (Get.opt rfl hb)))) ?_
  refine L.nil ?_
  refine N.thenW ?_
  refine W.keep (.cons (t := 2) rfl (.cons (t := 3) rfl (.cons (t := 4) rfl (.cons (t := 16) rfl .nil)))) .refl ?_
  refine W.cond (Get.tmp rfl) (fun h1 => ?_) (fun h1 => ?_)
  · have ph1 := h1; try simp only [decide_eq_true_eq, decide_eq_false_iff_not, Bool.and_eq_true, Bool.or_eq_true, Bool.and_eq_false_iff, Bool.or_eq_false_iff, Bool.not_eq_true', Bool.not_eq_false', Bool.not_true, Bool.not_false, Int.not_lt, Int.not_le] at ph1
    refine W.seq ?_
    refine W.region ?_
    refine L.op1 rfl rfl (GSpec.plain rfl (spec_callG (k := 2) rfl Tryd.call10 rfl (awake_ok ) .nil)) ?_
    refine L.op1 rfl rfl (GSpec.plain rfl (spec_assign rfl (Get.tmp rfl))) ?_
    refine L.nil ?_
    refine N.thenW ?_
    refine W.ret ?_
    refine N.ret () rfl (.tmp (t := 4) (Get.tmp rfl) .nil) (res1 (eqB ?_)) .nil (fun _ _ h => h)
    rfl
  · have ph1 := h1; try simp only [decide_eq_true_eq, decide_eq_false_iff_not, Bool.and_eq_true, Bool.or_eq_true, Bool.and_eq_false_iff, Bool.or_eq_false_iff, Bool.not_eq_true', Bool.not_eq_false', Bool.not_true, Bool.not_false, Int.not_lt, Int.not_le] at ph1
    refine W.skip ?_
    refine N.thenW ?_
    refine W.seq ?_
    refine W.region ?_
    refine L.op1 rfl rfl (GSpec.plain rfl (spec_loadW (k := 1) rfl Tryd.isAgg25 Tryd.sizeOf25 (Get.tmp rfl) rfl rfl)) ?_
    refine L.op1 rfl rfl (GSpec.plain rfl (spec_callG (k := 2) rfl Tryd.call11 rfl (varsX_ok _) (.cons (Get.tmp rfl) .nil))) ?_
    refine L.op1 rfl rfl (GSpec.plain rfl (spec_assign rfl (Get.tmp rfl))) ?_
    refine L.nil ?_
    refine N.thenW ?_
    refine W.seq ?_
    refine W.region ?_
    refine L.op1 rfl rfl (GSpec.plain rfl (spec_loadW (k := 1) rfl Tryd.isAgg25 Tryd.sizeOf25 (Get.tmp rfl) rfl rfl)) ?_
    refine L.op1 rfl rfl (GSpec.plain rfl (spec_call rfl Tryd.call12 (rvars_ok _) (.cons (Get.tmp rfl) .nil))) ?_
    refine L.op1 rfl rfl (GSpec.plain rfl (spec_assign rfl (Get.tmp rfl))) ?_
    refine L.nil ?_
    refine N.thenW ?_
    refine W.seq ?_
    refine W.seq ?_
    refine W.region ?_
    refine L.op1 rfl rfl (GSpec.plain rfl (spec_move rfl (Get.tmp rfl))) ?_
    refine L.op1 rfl rfl (GSpec.plain rfl (spec_len rfl Tryd.underlying30 (Get.tmp rfl))) ?_
    refine L.op1 rfl rfl (GSpec.plain rfl (spec_move rfl (Get.tmp rfl))) ?_
    refine L.op1 rfl rfl (GSpec.plain rfl (spec_len rfl Tryd.underlying30 (Get.tmp rfl))) ?_
    refine L.op1 rfl rfl (GSpec.plain rfl (spec_neq rfl (Get.tmp rfl) (Get.tmp rfl))) ?_
    refine L.nil ?_
    refine N.thenW ?_
    refine W.keep (.cons (t := 2) rfl (.cons (t := 3) rfl (.cons (t := 4) rfl (.cons (t := 5) rfl (.cons (t := 6) rfl (.cons (t := 26) rfl .nil)))))) .refl ?_
    refine W.cond (Get.tmp rfl) (fun h2 => ?_) (fun h2 => ?_)
    · have ph2 := h2; try simp only [decide_eq_true_eq, decide_eq_false_iff_not, Bool.and_eq_true, Bool.or_eq_true, Bool.and_eq_false_iff, Bool.or_eq_false_iff, Bool.not_eq_true', Bool.not_eq_false', Bool.not_true, Bool.not_false, Int.not_lt, Int.not_le] at ph2
      refine W.seq ?_
      refine W.region ?_
      refine L.op1 rfl rfl (GSpec.plain rfl (spec_assign rfl Get.cbool)) ?_
      refine L.nil ?_
      refine N.thenW ?_
      refine W.ret ?_
      refine N.ret () rfl (.tmp (t := 4) (Get.tmp rfl) .nil) (res1 (eqB ?_)) .nil (fun _ _ h => h)
      exfalso; simp at h2
    · have ph2 := h2; try simp only [decide_eq_true_eq, decide_eq_false_iff_not, Bool.and_eq_true, Bool.or_eq_true, Bool.and_eq_false_iff, Bool.or_eq_false_iff, Bool.not_eq_true', Bool.not_eq_false', Bool.not_true, Bool.not_false, Int.not_lt, Int.not_le] at ph2
      refine W.skip ?_
      refine N.thenW ?_
      refine W.fact 5 rfl slice_fact fun hvl => ?_
      refine W.seq ?_
      refine W.seq ?_
      refine W.region ?_
      refine L.op1 rfl rfl (GSpec.plain rfl (spec_assign rfl (Get.cint rfl))) ?_
      refine L.nil ?_
      refine N.thenW ?_
      refine W.block ?_
      -- assigned in the loop, not kept: [4]
      refine W.loopK (σ := Nat) (.cons (t := 2) rfl (.cons (t := 3) rfl (.cons (t := 5) rfl (.cons (t := 6) rfl .nil)))) (fun z => [(7, Rp.int .i64 (z : Nat))]) (fun z => []) (fun z => z ≤ (varsC c).length) (fun z => (varsC c).length - z) 0 (Nat.zero_le _) (.cons (t := 7) rfl .nil) (.cons 0 rfl (.cons 0 rfl (.cons 0 rfl .nil))) ?_
      intro i hI S' M' hS hM
      try dsimp only at hS hM
      simp only [List.cons_append, List.nil_append] at hS hM
      subst hS hM
      try dsimp only
      refine W.seq ?_
      refine W.seq ?_
      refine W.region ?_
      refine L.op1 rfl rfl (GSpec.plain rfl (spec_move rfl (Get.tmp rfl))) ?_
      refine L.op1 rfl rfl (GSpec.plain rfl (spec_move rfl (Get.tmp rfl))) ?_
      refine L.op1 rfl rfl (GSpec.plain rfl (spec_len rfl Tryd.underlying30 (Get.tmp rfl))) ?_
      refine L.op1 rfl rfl (GSpec.plain rfl (spec_lss rfl (Get.tmp rfl) (Get.tmp rfl))) ?_
      refine L.nil ?_
      refine N.thenW ?_
      refine W.cond (Get.tmp rfl) (fun h3 => ?_) (fun h3 => ?_)
      · have ph3 := h3; try simp only [decide_eq_true_eq, decide_eq_false_iff_not, Bool.and_eq_true, Bool.or_eq_true, Bool.and_eq_false_iff, Bool.or_eq_false_iff, Bool.not_eq_true', Bool.not_eq_false', Bool.not_true, Bool.not_false, Int.not_lt, Int.not_le] at ph3
        refine W.skip ?_
        refine N.thenW ?_
        refine W.seq ?_
        refine W.block ?_
        refine W.seq ?_
        apply W.any 9 mixed (by kernel_rfl)
        · apply Head.one rfl rfl (GSpec.plain rfl (spec_move rfl (Get.tmp rfl)))
          apply Head.one rfl rfl (GSpec.plain rfl (spec_move rfl (Get.tmp rfl)))
          apply Head.one rfl rfl (GSpec.plain rfl (spec_indexAddrD (E := eVr) rfl Tryd.underlying30 Tryd.sizeOf33 (fun _ => rfl) (Get.tmp rfl) (Get.tmp rfl) (by omega)))
          apply Head.one rfl rfl (GSpec.plain rfl (spec_loadPA rfl Tryd.isAgg33 Tryd.sizeOf33 (Get.tmp rfl) rfl))
          apply Head.one rfl rfl (GSpec.plain rfl (spec_move rfl (Get.tmp rfl)))
          apply Head.one rfl rfl (GSpec.plain rfl (spec_move rfl (Get.tmp rfl)))
          apply Head.one rfl rfl (GSpec.plain rfl (spec_indexAddrD (E := eVr) rfl Tryd.underlying30 Tryd.sizeOf33 (fun _ => rfl) (Get.tmp rfl) (Get.tmp rfl) (by omega)))
          apply Head.one rfl rfl (GSpec.plain rfl (spec_loadPA rfl Tryd.isAgg33 Tryd.sizeOf33 (Get.tmp rfl) rfl))
          apply Head.one rfl rfl (GSpec.plain rfl (neq33 rfl (Get.tmp rfl) (Get.tmp rfl)))
          exact Head.nil
        refine Fin.one ?_
        refine Fin.one ?_
        refine Fin.one ?_
        refine Fin.one ?_
        refine Fin.one ?_
        refine Fin.one ?_
        refine Fin.one ?_
        refine Fin.one ?_
        refine Fin.one ?_
        refine Fin.nil ?_
        refine L.nil ?_
        refine N.thenW ?_
        refine W.cond (Get.tmp rfl) (fun h4 => ?_) (fun h4 => ?_)
        · have ph4 := h4; try simp only [decide_eq_true_eq, decide_eq_false_iff_not, Bool.and_eq_true, Bool.or_eq_true, Bool.and_eq_false_iff, Bool.or_eq_false_iff, Bool.not_eq_true', Bool.not_eq_false', Bool.not_true, Bool.not_false, Int.not_lt, Int.not_le] at ph4
          refine W.seq ?_
          refine W.region ?_
          refine L.op1 rfl rfl (GSpec.plain rfl (spec_assign rfl Get.cbool)) ?_
          refine L.nil ?_
          refine N.thenW ?_
          refine W.ret ?_
          refine N.ret () rfl (.tmp (t := 4) (Get.tmp rfl) .nil) (res1 (eqB ?_)) .nil (fun _ _ h => h)
          exfalso; simp at h4
        · have ph4 := h4; try simp only [decide_eq_true_eq, decide_eq_false_iff_not, Bool.and_eq_true, Bool.or_eq_true, Bool.and_eq_false_iff, Bool.or_eq_false_iff, Bool.not_eq_true', Bool.not_eq_false', Bool.not_true, Bool.not_false, Int.not_lt, Int.not_le] at ph4
          refine W.skip ?_
          refine N.blockNormal ?_
          refine N.thenW ?_
          refine W.region ?_
          refine L.op1 rfl rfl (GSpec.plain rfl (spec_move rfl (Get.tmp rfl))) ?_
          first | refine L.op1 rfl rfl (GSpec.plain rfl (fit_i64 (by omega) (by omega) (spec_add rfl (Get.tmp rfl) (Get.cint rfl)))) ?_ | refine L.op1 rfl rfl (GSpec.plain rfl (spec_add rfl (Get.tmp rfl) (Get.cint rfl))) ?_
          refine L.op1 rfl rfl (GSpec.plain rfl (spec_assign rfl (Get.tmp rfl))) ?_
          refine L.nil ?_
          refine N.roundK (i + 1) ?hI1 ?hmu1 ?hs1 ?hk1 ?hp1
          case hs1 => exact (.cons (t := 7) rfl .nil)
          case hk1 => exact (.cons (t := 2) rfl (.cons (t := 3) rfl (.cons (t := 5) rfl (.cons (t := 6) rfl .nil))))
          case hp1 => exact (.cons 0 rfl (.cons 0 rfl (.cons 0 rfl .nil)))
          all_goals (first | rfl | trivial | omega | (simp_all; done))
      · have ph3 := h3; try simp only [decide_eq_true_eq, decide_eq_false_iff_not, Bool.and_eq_true, Bool.or_eq_true, Bool.and_eq_false_iff, Bool.or_eq_false_iff, Bool.not_eq_true', Bool.not_eq_false', Bool.not_true, Bool.not_false, Int.not_lt, Int.not_le] at ph3
        refine W.exit ?_
        refine N.thenExit ?_
        refine N.thenExit ?_
        refine N.blockExit ?_
        refine N.thenW ?_
        refine W.keep (.cons (t := 2) rfl (.cons (t := 3) rfl .nil)) .refl ?_
        refine W.seq ?_
        apply W.any 16 mixed (by kernel_rfl)
        · apply Head.one rfl rfl (GSpec.plain rfl (spec_loadW (k := 0) rfl Tryd.isAgg27 Tryd.sizeOf27 (Get.tmp rfl) rfl rfl))
          apply Head.one rfl rfl (GSpec.plain rfl (spec_callG (k := 2) rfl Tryd.call13 rfl (validF_ok_ _) (.cons (Get.tmp rfl) .nil)))
          apply Head.one rfl rfl (GSpec.plain rfl (spec_loadW (k := 0) rfl Tryd.isAgg27 Tryd.sizeOf27 (Get.tmp rfl) rfl rfl))
          apply Head.one rfl rfl (GSpec.plain rfl (spec_call rfl Tryd.call14 (rvalidF_ok _) (.cons (Get.tmp rfl) .nil)))
          apply Head.one rfl rfl (GSpec.plain rfl (spec_eql rfl (Get.tmp rfl) (Get.tmp rfl)))
          apply Head.one rfl rfl (GSpec.plain rfl (spec_move rfl (Get.tmp rfl)))
          apply Head.one rfl rfl (GSpec.guard rfl rfl rfl fun hg => (spec_loadW (k := 1) rfl Tryd.isAgg25 Tryd.sizeOf25 (Get.tmp rfl) rfl rfl))
          apply Head.one rfl rfl (GSpec.guard rfl rfl rfl fun hg => (spec_callG (k := 2) rfl Tryd.call15 rfl (validC_ok _) (.cons (Get.opt rfl hg) .nil)))
          apply Head.one rfl rfl (GSpec.guard rfl rfl rfl fun hg => (spec_loadW (k := 1) rfl Tryd.isAgg25 Tryd.sizeOf25 (Get.tmp rfl) rfl rfl))
          apply Head.one rfl rfl (GSpec.guard rfl rfl rfl fun hg => (spec_call rfl Tryd.call16 (rvalidC_ok _) (.cons (Get.opt rfl hg) .nil)))
          apply Head.one rfl rfl (GSpec.guard rfl rfl rfl fun hg => (spec_eql rfl (Get.opt rfl hg) (Get.opt rfl hg)))
          apply Head.one rfl rfl (GSpec.plain rfl (spec_and rfl (Get.tmp rfl) (fun hb => (Get.opt rfl hb))))
          apply Head.one rfl rfl (GSpec.plain rfl (spec_move rfl (Get.tmp rfl)))
          apply Head.one rfl rfl (GSpec.guard rfl rfl rfl fun hg => (spec_callG (k := 2) rfl Tryd.call10 rfl (awake_ok ) .nil))
          apply Head.one rfl rfl (GSpec.plain rfl (spec_and rfl (Get.tmp rfl) (fun hb => (Get.opt rfl hb))))
          apply Head.one rfl rfl (GSpec.plain rfl (spec_assign rfl (Get.tmp rfl)))
          exact Head.nil
        refine Fin.one ?_
        refine Fin.one ?_
        refine Fin.one ?_
        refine Fin.one ?_
        refine Fin.one ?_
        refine Fin.one ?_
        refine Fin.one ?_
        refine Fin.one ?_
        refine Fin.one ?_
        refine Fin.one ?_
        refine Fin.one ?_
        refine Fin.one ?_
        refine Fin.one ?_
        refine Fin.one ?_
        refine Fin.one ?_
        refine Fin.one ?_
        refine Fin.nil ?_
        refine L.nil ?_
        refine N.thenW ?_
        refine W.keep (.cons (t := 4) rfl .nil) .refl ?_
        refine W.ret ?_
        refine N.ret () rfl (.tmp (t := 4) (Get.tmp rfl) .nil) (res1 (eqB ?_)) .nil (fun _ _ h => h)
        simp

end Go.Proofs.YtcabngjnmipflaaDoor
/- The lines of a sound source: both ways to find them agree. -/
set_option linter.unusedSimpArgs false
set_option linter.unusedVariables false
namespace Go.Proofs.YtcabngjnmipflaaDoor
open Go.Sim
def NoLost (src : List Cl) : Prop := ∀ c ∈ src, lostB src c = false
theorem found_of {src : List Cl} (h : NoLost src) {c : Cl} (hc : c ∈ src) (hp : c.parent ≠ []) : (findC src c.parent).2 = true ∧ (findC src c.parent).1 ∈ src := by
  have := h c hc
  unfold lostB at this
  have h2 : (findC src c.parent).2 = true := by simpa [hp] using this
  exact ⟨h2, (find_mem h2).1⟩
theorem root_one {c : Cl} : rootB [c] = (c.parent == []) := by simp [rootB]
theorem root_cons {c : Cl} {l : List Cl} (h : l ≠ []) : rootB (c :: l) = rootB l := by
  unfold rootB
  cases l with
  | nil => exact absurd rfl h
  | cons d l => simp [List.getLast?_cons_cons]
theorem chn_ne (src : List Cl) (n : Nat) (c : Cl) : chn src n c ≠ [] := by
  cases n with
  | zero => simp [chn]
  | succ n => rw [chn]; split <;> simp
theorem chn_head (src : List Cl) (n : Nat) (c : Cl) : ∃ r, chn src n c = c :: r := by
  cases n with
  | zero => exact ⟨[], rfl⟩
  | succ n => rw [chn]; split; exact ⟨_, rfl⟩; exact ⟨_, rfl⟩
/-- A chain that has reached a root does not grow. -/
theorem chn_more {src : List Cl} : ∀ {n m : Nat} {c : Cl}, rootB (chn src n c) = true → n ≤ m → chn src m c = chn src n c
  | 0, m, c, h, _ => by
    rw [chn, root_one] at h
    have hp : c.parent = [] := by simpa using h
    cases m with
    | zero => rfl
    | succ m => exact (show chn src (m + 1) c = [c] by rw [chn, if_pos hp])
  | n + 1, m, c, h, hm => by
    obtain ⟨m, rfl⟩ : ∃ k, m = k + 1 := ⟨m - 1, by omega⟩
    rw [chn, chn]
    split
    · rfl
    · rename_i hp
      rw [chn, if_neg hp, root_cons (chn_ne _ _ _)] at h
      rw [chn_more h (by omega)]
/-- One that is short enough is there earlier. -/
theorem chn_less {src : List Cl} : ∀ {n m : Nat} {c : Cl}, rootB (chn src n c) = true → (chn src n c).length ≤ m + 1 → chn src m c = chn src n c
  | 0, m, c, h, _ => chn_more h (Nat.zero_le _)
  | n + 1, m, c, h, hl => by
    rw [chn] at h hl ⊢
    split
    · rename_i hp
      cases m with
      | zero => rfl
      | succ m => rw [chn, if_pos hp]
    · rename_i hp
      rw [if_neg hp] at h hl
      rw [root_cons (chn_ne _ _ _)] at h
      have hpos : 0 < (chn src n (findC src c.parent).1).length := List.length_pos_iff.2 (chn_ne _ _ _)
      simp only [List.length_cons] at hl
      obtain ⟨m, rfl⟩ : ∃ k, m = k + 1 := ⟨m - 1, by omega⟩
      rw [chn, if_neg hp, chn_less h (by omega)]
theorem chn_long {src : List Cl} : ∀ {n : Nat} {c : Cl}, rootB (chn src n c) = false → (chn src n c).length = n + 1
  | 0, c, _ => rfl
  | n + 1, c, h => by
    rw [chn] at h ⊢
    split
    · rename_i hp; rw [if_pos hp, root_one] at h; simp [hp] at h
    · rename_i hp
      rw [if_neg hp, root_cons (chn_ne _ _ _)] at h
      rw [List.length_cons, chn_long h]
theorem chn_src {src : List Cl} (h : NoLost src) : ∀ {n : Nat} {c x : Cl}, c ∈ src → x ∈ chn src n c → x ∈ src
  | 0, c, x, hc, hx => by simp only [chn, List.mem_singleton] at hx; exact hx ▸ hc
  | n + 1, c, x, hc, hx => by
    rw [chn] at hx
    split at hx
    · simp only [List.mem_singleton] at hx; exact hx ▸ hc
    · rename_i hp
      rcases List.mem_cons.1 hx with hx | hx
      · exact hx ▸ hc
      · exact chn_src h (found_of h hc hp).2 hx
theorem up_chn {src : List Cl} (h : NoLost src) : ∀ {n : Nat} {c : Cl}, c ∈ src → upN src n c = chn src n c
  | 0, c, _ => rfl
  | n + 1, c, hc => by
    rw [upN, chn]
    by_cases hp : c.parent = []
    · rw [if_pos (.inl hp), if_pos hp]
    · rw [if_neg (by rw [(found_of h hc hp).1]; simp [hp]), if_neg hp, up_chn h (found_of h hc hp).2]
/-- What stands in a chain goes on as the chain does. -/
theorem chn_at {src : List Cl} : ∀ {n : Nat} {c x : Cl}, rootB (chn src n c) = true → x ∈ chn src n c → ∃ m, m ≤ n ∧ rootB (chn src m x) = true ∧ (chn src m x).length ≤ (chn src n c).length
  | 0, c, x, h, hx => by simp only [chn, List.mem_singleton] at hx; subst hx; exact ⟨0, Nat.le_refl _, h, Nat.le_refl _⟩
  | n + 1, c, x, h, hx => by
    by_cases hxc : x = c
    · subst hxc; exact ⟨n + 1, Nat.le_refl _, h, Nat.le_refl _⟩
    · rw [chn] at h hx ⊢
      split at hx
      · simp only [List.mem_singleton] at hx; exact absurd hx hxc
      · rename_i hp
        rw [if_neg hp] at h ⊢
        rw [root_cons (chn_ne _ _ _)] at h
        obtain ⟨m, h1, h2, h3⟩ := chn_at h ((List.mem_cons.1 hx).resolve_left hxc)
        exact ⟨m, by omega, h2, by rw [List.length_cons]; omega⟩
theorem chn_nodup {src : List Cl} : ∀ {n : Nat} {c : Cl}, rootB (chn src n c) = true → (chn src n c).Nodup
  | 0, c, _ => by simp [chn]
  | n + 1, c, h => by
    have h0 := h
    have e0 : chn src (n + 1) c = if c.parent = [] then [c] else c :: chn src n (findC src c.parent).1 := rfl
    rw [e0] at h ⊢
    split
    · simp
    · rename_i hp
      rw [if_neg hp, root_cons (chn_ne _ _ _)] at h
      rw [List.nodup_cons]
      refine ⟨fun hm => ?_, chn_nodup h⟩
      obtain ⟨m, h1, h2, h3⟩ := chn_at h hm
      have e := chn_more h2 (show m ≤ n + 1 by omega)
      rw [e0, if_neg hp] at e
      have := congrArg List.length e
      rw [List.length_cons] at this; omega
theorem nodup_sub {α : Type} : ∀ {l m : List α}, l.Nodup → (∀ x ∈ l, x ∈ m) → l.length ≤ m.length
  | [], m, _, _ => Nat.zero_le _
  | a :: l, m, hn, hs => by
    obtain ⟨p, q, rfl⟩ := List.append_of_mem (hs a List.mem_cons_self)
    rw [List.nodup_cons] at hn
    have := nodup_sub (m := p ++ q) hn.2 fun x hx => by
      have := hs x (List.mem_cons_of_mem _ hx)
      simp only [List.mem_append, List.mem_cons] at this ⊢
      rcases this with h | h | h
      · exact .inl h
      · subst h; exact absurd hx hn.1
      · exact .inr h
    simp only [List.length_append, List.length_cons] at this ⊢; omega
theorem chn_short {src : List Cl} (h : NoLost src) {n : Nat} {c : Cl} (hc : c ∈ src) (hr : rootB (chn src n c) = true) : (chn src n c).length ≤ src.length :=
  nodup_sub (chn_nodup hr) fun x hx => chn_src h hc hx
theorem anc_2 (src : List Cl) (c : Cl) : (ancE src c).2 = rootB (chn src src.length c) := by
  unfold ancE; split
  · rename_i h; exact h.symm
  · rename_i h; simpa using h
theorem anc_1 {src : List Cl} {c : Cl} (h : (ancE src c).2 = true) : (ancE src c).1 = chn src src.length c := by
  rw [anc_2] at h; unfold ancE; rw [if_pos h]
theorem up_eq {src : List Cl} (h : NoLost src) (hn : src.length ≤ 32) {c : Cl} (hc : c ∈ src) (ha : (ancE src c).2 = true) : upE src c = (ancE src c).1 := by
  rw [anc_1 ha]; rw [anc_2] at ha
  exact (up_chn h hc).trans (chn_more ha hn)
theorem up_bad {src : List Cl} (h : NoLost src) (hn : src.length ≤ 32) {c : Cl} (hc : c ∈ src) : decide (src.length < (upE src c).length) = !(ancE src c).2 := by
  by_cases ha : (ancE src c).2 = true
  · have h2 := chn_short h hc (by rw [← anc_2]; exact ha)
    rw [ha, up_eq h hn hc ha, anc_1 ha]
    exact decide_eq_false (by omega)
  · have hb : (ancE src c).2 = false := by simpa using ha
    rw [hb]
    rw [anc_2] at hb
    have e : upE src c = chn src 32 c := up_chn h hc
    rw [e]
    refine decide_eq_true ?_
    cases hr : rootB (chn src 32 c) with
    | true =>
      have h2 := chn_short h hc hr
      rw [chn_less hr (show _ ≤ src.length + 1 by omega), hr] at hb
      cases hb
    | false => rw [chn_long hr]; omega
theorem hasF_flat {r : List Cl} {s : List UInt8} : hasF (flF r) s = r.any fun x => hasF x.fields s := by
  unfold flF hasF
  rw [List.any_flatMap, List.any_reverse]
theorem any_swap {α β : Type} (l : List α) (m : List β) (p : α → β → Bool) : (l.any fun a => m.any fun b => p a b) = m.any fun b => l.any fun a => p a b := by
  rw [Bool.eq_iff_iff]; simp only [List.any_eq_true]
  exact ⟨fun ⟨a, ha, b, hb, h⟩ => ⟨b, hb, a, ha, h⟩, fun ⟨b, hb, a, ha, h⟩ => ⟨a, ha, b, hb, h⟩⟩
theorem inh_clash (c : Cl) (r : List Cl) : inhB (c :: r) = clashB (flF r) c.fields := by
  unfold inhB clashB
  simp only [List.drop_succ_cons, List.drop_zero, List.getD_cons_zero, hasF_flat]
  exact any_swap _ _ _
theorem clash_cons (c : Cl) (r : List Cl) : clashL (c :: r) = (clashL r || inhB (c :: r)) := by rw [inh_clash]; rfl
/-- A clash in a line is one of a class with its ancestors. -/
theorem clash_at {src : List Cl} (h : NoLost src) : ∀ {n : Nat} {c : Cl}, n ≤ src.length → c ∈ src → rootB (chn src n c) = true → clashL (chn src n c) = true → ∃ x ∈ src, inhB (chn src src.length x) = true := by
  intro n
  induction n with
  | zero =>
    intro c hn hc hr hl
    rw [chn, clash_cons] at hl
    refine ⟨c, hc, ?_⟩
    rw [chn_more hr hn]
    show inhB [c] = true
    simpa [clashL] using hl
  | succ n ih =>
    intro c hn hc hr hl
    by_cases hp : c.parent = []
    · refine ⟨c, hc, ?_⟩
      rw [chn_more hr hn]
      rw [chn, if_pos hp, clash_cons] at hl
      rw [chn, if_pos hp]
      simpa [clashL] using hl
    · have hr0 := hr
      rw [chn, if_neg hp] at hr hl
      rw [root_cons (chn_ne _ _ _)] at hr
      rw [clash_cons, Bool.or_eq_true] at hl
      rcases hl with hl | hl
      · exact ih (by omega) (found_of h hc hp).2 hr hl
      · refine ⟨c, hc, ?_⟩
        rw [chn_more hr0 hn, chn, if_neg hp]; exact hl
theorem any_congr' {α : Type} {l : List α} {p q : α → Bool} (h : ∀ x ∈ l, p x = q x) : l.any p = l.any q := by
  induction l with
  | nil => rfl
  | cons a l ih => rw [List.any_cons, List.any_cons, h a List.mem_cons_self, ih fun x hx => h x (List.mem_cons_of_mem _ hx)]
theorem any_false {α : Type} {l : List α} {p : α → Bool} (h : l.any p = false) : ∀ x ∈ l, p x = false := fun x hx => by
  have := List.any_eq_false.1 h x hx; simpa using this
theorem check_same (src : List Cl) : checkE src = rcheckE src := by
  unfold checkE rcheckE
  by_cases h1 : 32 < src.length
  · rw [if_pos h1, if_pos h1]
  rw [if_neg h1, if_neg h1]
  by_cases h2 : firstE validC src ≠ 0
  · rw [if_pos h2, if_pos h2]
  rw [if_neg h2, if_neg h2]
  by_cases h3 : repB Cl.name src = true
  · rw [if_pos h3, show namesE src = 8 by unfold namesE; rw [if_pos h3]]; rfl
  rw [if_neg h3]
  by_cases h4 : src.any (lostB src) = true
  · rw [if_pos h4, show namesE src = 7 by unfold namesE; rw [if_neg h3, if_pos h4]]; rfl
  rw [if_neg h4, show namesE src = 0 by unfold namesE; rw [if_neg h3, if_neg h4], if_neg (by simp)]
  have hl : NoLost src := any_false (by simpa using h4)
  have hn : src.length ≤ 32 := by omega
  rw [show (src.any fun c => decide (src.length < (upE src c).length)) = src.any fun c => !(ancE src c).2 from any_congr' fun c hc => up_bad hl hn hc]
  by_cases h5 : (src.any fun c => !(ancE src c).2) = true
  · rw [if_pos h5, if_pos h5]
  rw [if_neg h5, if_neg h5]
  have ha : ∀ c ∈ src, (ancE src c).2 = true := fun c hc => by
    have := any_false (Bool.eq_false_iff.2 h5) c hc; simpa using this
  have hu : ∀ c ∈ src, upE src c = (ancE src c).1 := fun c hc => up_eq hl hn hc (ha c hc)
  have e6 : (src.any fun c => inhB (upE src c)) = src.any (clashC src) := by
    rw [Bool.eq_iff_iff]; simp only [List.any_eq_true]
    constructor
    · rintro ⟨c, hc, h⟩
      refine ⟨c, hc, ?_⟩
      unfold clashC
      rw [hu c hc, anc_1 (ha c hc)] at h
      rw [anc_1 (ha c hc)]
      obtain ⟨r, hr⟩ := chn_head src src.length c
      rw [hr] at h ⊢
      rw [clash_cons, h, Bool.or_true]
    · rintro ⟨c, hc, h⟩
      unfold clashC at h
      rw [anc_1 (ha c hc)] at h
      obtain ⟨x, hx, hi⟩ := clash_at hl (Nat.le_refl _) hc (by rw [← anc_2]; exact ha c hc) h
      exact ⟨x, hx, by rw [hu x hx, anc_1 (ha x hx)]; exact hi⟩
  have e7 : (src.any fun c => largeL (upE src c)) = src.any (largeC src) := any_congr' fun c hc => by rw [hu c hc]; rfl
  rw [e6, e7]
/-- A source without an error. -/
structure Good (src : List Cl) : Prop where
  n : src.length ≤ 32
  v : ∀ c ∈ src, validC c = 0
  rep : repB Cl.name src = false
  lost : NoLost src
  anc : ∀ c ∈ src, (ancE src c).2 = true
  clash : ∀ c ∈ src, clashC src c = false
  large : ∀ c ∈ src, largeC src c = false
theorem good_iff (src : List Cl) : checkE src = 0 ↔ Good src := by
  constructor
  · intro h
    unfold checkE at h
    split at h; · cases h
    rename_i h1
    split at h; · rename_i h2; exact absurd h h2
    rename_i h2
    split at h; · rename_i h3; exact absurd h h3
    rename_i h3
    split at h; · cases h
    rename_i h5
    split at h; · cases h
    rename_i h6
    split at h; · cases h
    rename_i h7
    have h3' : namesE src = 0 := by simpa using h3
    unfold namesE at h3'
    split at h3'; · cases h3'
    rename_i h8
    split at h3'; · cases h3'
    rename_i h9
    exact ⟨by omega, firstE_ok (by simpa using h2), by simpa using h8, any_false (by simpa using h9), fun c hc => by have := any_false (Bool.eq_false_iff.2 h5) c hc; simpa using this, any_false (by simpa using h6), any_false (by simpa using h7)⟩
  · intro h
    unfold checkE
    have h2 : firstE validC src = 0 := firstE_none fun j hj => h.v _ (getD_mem' hj)
    have h3 : namesE src = 0 := by
      unfold namesE
      rw [if_neg (by rw [h.rep]; simp), if_neg (by rw [List.any_eq_true]; rintro ⟨c, hc, e⟩; rw [h.lost c hc] at e; cases e)]
    rw [if_neg (by have := h.n; omega), if_neg (by rw [h2]; simp), if_neg (by rw [h3]; simp), if_neg (by rw [List.any_eq_true]; rintro ⟨c, hc, e⟩; rw [h.anc c hc] at e; cases e),
      if_neg (by rw [List.any_eq_true]; rintro ⟨c, hc, e⟩; rw [h.clash c hc] at e; cases e), if_neg (by rw [List.any_eq_true]; rintro ⟨c, hc, e⟩; rw [h.large c hc] at e; cases e)]
theorem line_same (src : List Cl) (s : List UInt8) : rlineE src s = lineE src s := by
  unfold rlineE lineE
  rw [← check_same]
  by_cases h : checkE src ≠ 0
  · rw [if_pos h, if_pos h]
  rw [if_neg h, if_neg h]
  have hg := (good_iff src).1 (by simpa using h)
  cases hf : (findC src s).2 with
  | false => rfl
  | true =>
    have hm := (find_mem hf).1
    simp only [Bool.true_eq_false, if_false]
    rw [up_eq hg.lost hg.n hm (hg.anc _ hm)]
end Go.Proofs.YtcabngjnmipflaaDoor
