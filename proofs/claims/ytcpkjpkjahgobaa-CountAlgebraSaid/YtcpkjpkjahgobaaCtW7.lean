import Derived.Test.YtcpkjpkjahgobaaCtW6
set_option linter.unusedSimpArgs false
set_option maxRecDepth 8000
set_option linter.unusedVariables false
namespace Go.Proofs.Ytcpkjpkjahgobaa
open Go.Sim
theorem visitM_ok  : ∀ (l : List Node) (hg : Good l) (f : Int) (hf : okNode l f) (cb : Node → Nat → Nat → Nat) (ok : Node → Nat → Nat → Prop) (e0 e1 : Nat) (hcb : ∀ k, Reach l f k → 1 < k → ok (nd l k) (fold l cb e0 e1 (nd l k).lo) (fold l cb e0 e1 (nd l k).hi)) (rv : Nat) (vk vd : Value) (j : Nat) (k : Int) (hk : k.toNat < j) (hr : Reach l f k) (K : List Nat) (D : List Bool) (hV : VOk l cb e0 e1 f K D), CallT Try.prog 56 [Rp.int .i64 k, Rp.at (eA e0 ++ eA e1), Rp.at [Rp.val vd], Rp.at (dagR l), Rp.self rv 56 [Rp.at (eA e0 ++ eA e1), Rp.at [Rp.val vd], Rp.at (dagR l)] [Rp.at [cR rM cb ok], Rp.at [Rp.val vk]], Rp.at [cR rM cb ok], Rp.at [Rp.val vk]] [MF.osl vk 65 2 eA K, MF.osl vd 4 1 eB D] (visX rM eA 65 2 l cb e0 e1 f vk vd k) := by
  intro l hg f hf cb ok e0 e1 hcb rv vk vd j
  refine Nat.strongRecOn j fun j ih => ?_
  intro k hk hr K D hV
  obtain ⟨hok, hkf⟩ := hr.ok hg hf
  have hok1 := hok; unfold okNode at hok1
  have hlk := hV.lenK; have hld := hV.lenD
  refine W.enter (fn := Try.f56) (n := 50) Try.func56 rfl Try.ntmps56 rfl (fun w₀ C₀ => ?_)
  simp only [argS]
  refine W.seq ?_
  refine W.region ?_
  refine L.box rfl rfl (GSpec.plain rfl (spec_alloc rfl ti65 z65)) (fun r8 => ?_)
  refine L.nil ?_
  refine N.thenW ?_
  refine W.seq ?_
  refine W.seq ?_
  refine W.region ?_
  refine L.op1 rfl rfl (GSpec.plain rfl (spec_move rfl (Get.tmp rfl))) ?_
  refine L.op1 rfl rfl (GSpec.plain rfl (spec_lss rfl (Get.tmp rfl) (Get.cint rfl))) ?_
  refine L.nil ?_
  refine N.thenW ?_
  refine W.cond (Get.tmp rfl) (fun h1 => ?_) (fun h1 => ?_)
  · have hk2 : k < 2 := of_decide_eq_true h1
    refine W.seq ?_
    refine W.region ?_
    refine L.op1 rfl rfl (GSpec.plain rfl (spec_move rfl (Get.tmp rfl))) ?_
    refine L.op1 rfl rfl (GSpec.plain rfl (spec_indexAddrAP (n := 2) (sz := 2) rfl Try.underlying67 Try.sizeOf65 (Get.tmp rfl) (Get.tmp rfl) (by omega) (Nat.le_of_eq rfl) (ends_row (E := eA) (fun _ => rfl) (by omega) hk2))) ?_
    refine L.op1 rfl rfl (GSpec.plain rfl (spec_loadPA rfl Try.isAgg65 Try.sizeOf65 (Get.tmp rfl) rfl)) ?_
    refine L.storeW (k := 0) rfl rfl rfl Try.sizeOf65 (Get.tmp rfl) (Get.tmp rfl) rfl rfl rfl ?_
    refine L.nil ?_
    refine N.thenW ?_
    refine W.ret ?_
    refine N.ret (X := (visX rM eA 65 2 l cb e0 e1 f vk vd k)) ⟨(K, D), hV⟩ rfl (.cellA (k := 0) (Get.tmp (t := 8) rfl) rfl Try.isAgg65 Try.sizeOf65 rfl .nil) (res1 (eqA ?_)) (.cons 1 rfl (.cons 1 rfl .nil)) (fun _ _ h => h)
    exact congrArg eA ((fold_end hk2).symm)
  · have hk2 : ¬ k < 2 := of_decide_eq_false h1
    have hkd := hg.lohi hok (by omega)
    have b1 := hkd.1.1; have b2 := hkd.2.1.1
    refine W.skip ?_
    refine N.thenW ?_
    refine W.seq ?_
    refine W.seq ?_
    refine W.region ?_
    refine L.op1 rfl rfl (GSpec.plain rfl (spec_loadP1 rfl Try.isAgg33 (Get.tmp rfl))) ?_
    refine L.op1 rfl rfl (GSpec.plain rfl (spec_move rfl (Get.tmp rfl))) ?_
    refine L.op1 rfl rfl (GSpec.plain rfl (spec_indexAddrO (k := 2) (E := eB) rfl Try.underlying33 Try.sizeOf4 (Get.tmp rfl) (Get.tmp rfl) rfl (by (first | omega | (simp only [List.length_set]; omega))))) ?_
    refine L.op1 rfl rfl (GSpec.plain rfl (spec_loadO1 (k := 2) (j := 0) (E := eB) rfl Try.isAgg4 (fun _ => rfl) (Get.tmp rfl) rfl rfl (getD_some (by (first | omega | (simp only [List.length_set]; omega)))) rfl)) ?_
    refine L.op1 rfl rfl (GSpec.plain rfl (spec_not rfl (Get.tmp rfl))) ?_
    refine L.nil ?_
    refine N.thenW ?_
    refine W.cond (Get.tmp rfl) (fun h2 => ?_) (fun h2 => ?_)
    · have ph2 := h2; try simp only [decide_eq_true_eq, decide_eq_false_iff_not, Bool.and_eq_true, Bool.or_eq_true, Bool.and_eq_false_iff, Bool.or_eq_false_iff, Bool.not_eq_true', Bool.not_eq_false', Bool.not_true, Bool.not_false, Int.not_lt, Int.not_le] at ph2
      refine W.seq ?_
      refine W.region ?_
      refine L.op1 rfl rfl (GSpec.plain rfl (spec_fieldAddrP (f := 0) rfl Try.underlying24 rfl Try.sizeOf22 (Get.tmp rfl) rfl rfl)) ?_
      refine L.op1 rfl rfl (GSpec.plain rfl (spec_loadP1 rfl Try.isAgg22 (Get.tmp rfl))) ?_
      refine L.op1 rfl rfl (GSpec.plain rfl (spec_move rfl (Get.tmp rfl))) ?_
      refine L.op1 rfl rfl (GSpec.plain rfl (spec_indexAddrD (E := eN) rfl Try.underlying22 Try.sizeOf50 (fun _ => rfl) (Get.tmp rfl) (Get.tmp rfl) (by (first | omega | (simp only [List.length_set]; omega))))) ?_
      refine L.op1 rfl rfl (GSpec.plain rfl (spec_loadPA rfl Try.isAgg50 Try.sizeOf50 (Get.tmp rfl) rfl)) ?_
      refine L.box rfl rfl (GSpec.plain rfl (spec_alloc rfl ti50 z50)) (fun r9 => ?_)
      refine L.storeW (k := 0) rfl rfl rfl Try.sizeOf50 (Get.tmp rfl) (Get.tmp rfl) rfl rfl rfl ?_
      refine L.nil ?_
      refine N.thenW ?_
      refine W.keep (.cons (t := 0) rfl (.cons (t := 2) rfl (.cons (t := 4) rfl (.cons (t := 5) rfl (.cons (t := 6) rfl (.cons (t := 8) rfl (.cons (t := 9) rfl .nil))))))) .refl ?_
      refine W.cut (σ := Nat × Nat × {x : List Nat × List Bool // VOk l cb e0 e1 f x.1 x.2}) (fun z => [(0, Rp.int .i64 k), (2, Rp.at [Rp.val vd]), (5, Rp.at [cR rM cb ok]), (6, Rp.at [Rp.val vk]), (8, Rp.ptr r8 0), (9, Rp.ptr r9 0), (10, Rp.ptr z.1 0), (11, Rp.ptr z.2.1 0)]) (fun z => [MF.box r8 65 [Rp.int .i64 0, Rp.bool false], MF.box r9 50 (eN (nd l k)), MF.box z.1 65 (eA (fold l cb e0 e1 (nd l k).lo)), MF.box z.2.1 65 (eA (fold l cb e0 e1 (nd l k).hi)), MF.osl vk 65 2 eA z.2.2.1.1, MF.osl vd 4 1 eB z.2.2.1.2]) ?_ ?_
      · apply W.anyH [_, _] [_, _] mixed (.cons 2 rfl (.cons 2 rfl (.cons 0 rfl (.cons 0 rfl .nil))))
        refine AH.first 0 rfl (by kernel_rfl) (by kernel_rfl) (by kernel_rfl) rfl rfl rfl (QSpec.plain rfl (qs_loadSelf rfl Try.isAgg84 (Get.tmp rfl))) ?_
        refine AH.first 1 rfl (by kernel_rfl) (by kernel_rfl) (by kernel_rfl) rfl rfl rfl (QSpec.plain rfl (qs_fieldAddr (f := 1) (off' := 1) rfl Try.underlying50 rfl Try.sizeOf3 (Get.tmp rfl) rfl)) ?_
        refine AH.first 2 rfl (by kernel_rfl) (by kernel_rfl) (by kernel_rfl) rfl rfl rfl (QSpec.plain rfl (qs_load1 (k := 0) rfl Try.isAgg3 (Get.tmp rfl) rfl rfl)) ?_
        refine AH.first 4 rfl (by kernel_rfl) (by kernel_rfl) (by kernel_rfl) rfl rfl rfl (QSpec.plain rfl (qs_loadSelf rfl Try.isAgg84 (Get.tmp rfl))) ?_
        refine AH.first 5 rfl (by kernel_rfl) (by kernel_rfl) (by kernel_rfl) rfl rfl rfl (QSpec.plain rfl (qs_fieldAddr (f := 2) (off' := 2) rfl Try.underlying50 rfl Try.sizeOf3 (Get.tmp rfl) rfl)) ?_
        refine AH.first 6 rfl (by kernel_rfl) (by kernel_rfl) (by kernel_rfl) rfl rfl rfl (QSpec.plain rfl (qs_load1 (k := 0) rfl Try.isAgg3 (Get.tmp rfl) rfl rfl)) ?_
        refine AH.forks 3 [8, 9] (by kernel_rfl) rfl ⟨⟨_, rfl, fun w1 C1 => ?_⟩, ⟨_, rfl, fun w1 C1 => ?_⟩, ⟨_, rfl, fun w1 C1 => ?_⟩, trivial⟩
        · refine L.callC (A := [_]) rfl rfl rfl rfl (Get.tmp rfl) Try.call56 (ih k.toNat hk (nd l k).lo (by omega) (.lo hr (by omega)) K D hV) (.cons 0 rfl (.cons 0 rfl .refl)) (.cons (Get.tmp rfl) .nil) (fun ⟨⟨K30, D30⟩, hV30⟩ => ?_)
          try dsimp only
          dsimp only [visX]
          refine L.nil ?_
          refine AftH.next ?_
          refine AH.forks 7 [8, 9] (by kernel_rfl) rfl ⟨⟨_, rfl, fun w2 C2 => ?_⟩, ⟨_, rfl, fun w2 C2 => ?_⟩, ⟨_, rfl, fun w2 C2 => ?_⟩, trivial⟩
          · refine L.callC (A := [_]) rfl rfl rfl rfl (Get.tmp rfl) Try.call56 (ih k.toNat hk (nd l k).hi (by omega) (.hi hr (by omega)) K30 D30 hV30) (.cons 0 rfl (.cons 0 rfl .refl)) (.cons (Get.tmp rfl) .nil) (fun ⟨⟨K34, D34⟩, hV34⟩ => ?_)
            try dsimp only
            dsimp only [visX]
            have hlk2 := hV34.lenK; have hld2 := hV34.lenD
            dsimp only at hlk2 hld2
            refine L.nil ?_
            refine AftH.next ?_
            refine AH.forks 8 [9] (by kernel_rfl) rfl ⟨⟨_, rfl, fun w3 C3 => ?_⟩, ⟨_, rfl, fun w3 C3 => ?_⟩, trivial⟩
            · refine L.box rfl rfl (GSpec.plain rfl (spec_alloc rfl ti65 z65)) (fun r10 => ?_)
              refine L.nil ?_
              refine AftH.next ?_
              refine AH.only 9 rfl (by kernel_rfl) rfl (fun w4 C4 => ?_)
              refine L.box rfl rfl (GSpec.plain rfl (spec_alloc rfl ti65 z65)) (fun r11 => ?_)
              refine L.nil ?_
              refine AftH.next ?_
              refine AH.only 10 rfl (by kernel_rfl) rfl (fun w5 C5 => ?_)
              refine L.storeW (k := 1) rfl rfl rfl Try.sizeOf65 (Get.tmp rfl) (Get.tmp rfl) rfl rfl rfl ?_
              refine L.nil ?_
              refine AftH.next ?_
              refine AH.only 11 rfl (by kernel_rfl) rfl (fun w6 C6 => ?_)
              refine L.storeW (k := 0) rfl rfl rfl Try.sizeOf65 (Get.tmp rfl) (Get.tmp rfl) rfl rfl rfl ?_
              refine L.nil ?_
              refine AftH.next ?_
              refine AH.done (by kernel_rfl) ?_
              try simp only [List.cons_append, List.nil_append]
              refine N.mid (r10, r11, ⟨(K34, D34), hV34⟩) ?hs1 ?hp1
              case hs1 => exact (.cons (t := 0) rfl (.cons (t := 2) rfl (.cons (t := 5) rfl (.cons (t := 6) rfl (.cons (t := 8) rfl (.cons (t := 9) rfl (.cons (t := 10) rfl (.cons (t := 11) rfl .nil))))))))
              case hp1 => exact (.cons 5 rfl (.cons 4 rfl (.cons 1 rfl (.cons 0 rfl (.cons 0 rfl (.cons 0 rfl .nil))))))
            · refine L.box rfl rfl (GSpec.plain rfl (spec_alloc rfl ti65 z65)) (fun r11 => ?_)
              refine L.nil ?_
              refine AftH.next ?_
              refine AH.only 8 rfl (by kernel_rfl) rfl (fun w7 C7 => ?_)
              refine L.box rfl rfl (GSpec.plain rfl (spec_alloc rfl ti65 z65)) (fun r10 => ?_)
              refine L.nil ?_
              refine AftH.next ?_
              refine AH.only 10 rfl (by kernel_rfl) rfl (fun w8 C8 => ?_)
              refine L.storeW (k := 0) rfl rfl rfl Try.sizeOf65 (Get.tmp rfl) (Get.tmp rfl) rfl rfl rfl ?_
              refine L.nil ?_
              refine AftH.next ?_
              refine AH.only 11 rfl (by kernel_rfl) rfl (fun w9 C9 => ?_)
              refine L.storeW (k := 1) rfl rfl rfl Try.sizeOf65 (Get.tmp rfl) (Get.tmp rfl) rfl rfl rfl ?_
              refine L.nil ?_
              refine AftH.next ?_
              refine AH.done (by kernel_rfl) ?_
              try simp only [List.cons_append, List.nil_append]
              refine N.mid (r10, r11, ⟨(K34, D34), hV34⟩) ?hs2 ?hp2
              case hs2 => exact (.cons (t := 0) rfl (.cons (t := 2) rfl (.cons (t := 5) rfl (.cons (t := 6) rfl (.cons (t := 8) rfl (.cons (t := 9) rfl (.cons (t := 10) rfl (.cons (t := 11) rfl .nil))))))))
              case hp2 => exact (.cons 5 rfl (.cons 4 rfl (.cons 0 rfl (.cons 0 rfl (.cons 0 rfl (.cons 0 rfl .nil))))))
          · refine L.box rfl rfl (GSpec.plain rfl (spec_alloc rfl ti65 z65)) (fun r10 => ?_)
            refine L.nil ?_
            refine AftH.next ?_
            refine AH.forks 7 [9] (by kernel_rfl) rfl ⟨⟨_, rfl, fun w10 C10 => ?_⟩, ⟨_, rfl, fun w10 C10 => ?_⟩, trivial⟩
            · refine L.callC (A := [_]) rfl rfl rfl rfl (Get.tmp rfl) Try.call56 (ih k.toNat hk (nd l k).hi (by omega) (.hi hr (by omega)) K30 D30 hV30) (.cons 1 rfl (.cons 1 rfl .refl)) (.cons (Get.tmp rfl) .nil) (fun ⟨⟨K34, D34⟩, hV34⟩ => ?_)
              try dsimp only
              dsimp only [visX]
              have hlk2 := hV34.lenK; have hld2 := hV34.lenD
              dsimp only at hlk2 hld2
              refine L.nil ?_
              refine AftH.next ?_
              refine AH.only 9 rfl (by kernel_rfl) rfl (fun w11 C11 => ?_)
              refine L.box rfl rfl (GSpec.plain rfl (spec_alloc rfl ti65 z65)) (fun r11 => ?_)
              refine L.nil ?_
              refine AftH.next ?_
              refine AH.only 10 rfl (by kernel_rfl) rfl (fun w12 C12 => ?_)
              refine L.storeW (k := 3) rfl rfl rfl Try.sizeOf65 (Get.tmp rfl) (Get.tmp rfl) rfl rfl rfl ?_
              refine L.nil ?_
              refine AftH.next ?_
              refine AH.only 11 rfl (by kernel_rfl) rfl (fun w13 C13 => ?_)
              refine L.storeW (k := 0) rfl rfl rfl Try.sizeOf65 (Get.tmp rfl) (Get.tmp rfl) rfl rfl rfl ?_
              refine L.nil ?_
              refine AftH.next ?_
              refine AH.done (by kernel_rfl) ?_
              try simp only [List.cons_append, List.nil_append]
              refine N.mid (r10, r11, ⟨(K34, D34), hV34⟩) ?hs3 ?hp3
              case hs3 => exact (.cons (t := 0) rfl (.cons (t := 2) rfl (.cons (t := 5) rfl (.cons (t := 6) rfl (.cons (t := 8) rfl (.cons (t := 9) rfl (.cons (t := 10) rfl (.cons (t := 11) rfl .nil))))))))
              case hp3 => exact (.cons 5 rfl (.cons 4 rfl (.cons 3 rfl (.cons 0 rfl (.cons 0 rfl (.cons 0 rfl .nil))))))
            · refine L.box rfl rfl (GSpec.plain rfl (spec_alloc rfl ti65 z65)) (fun r11 => ?_)
              refine L.nil ?_
              refine AftH.next ?_
              refine AH.only 7 rfl (by kernel_rfl) rfl (fun w14 C14 => ?_)
              refine L.callC (A := [_]) rfl rfl rfl rfl (Get.tmp rfl) Try.call56 (ih k.toNat hk (nd l k).hi (by omega) (.hi hr (by omega)) K30 D30 hV30) (.cons 2 rfl (.cons 2 rfl .refl)) (.cons (Get.tmp rfl) .nil) (fun ⟨⟨K34, D34⟩, hV34⟩ => ?_)
              try dsimp only
              dsimp only [visX]
              have hlk2 := hV34.lenK; have hld2 := hV34.lenD
              dsimp only at hlk2 hld2
              refine L.nil ?_
              refine AftH.next ?_
              refine AH.only 10 rfl (by kernel_rfl) rfl (fun w15 C15 => ?_)
              refine L.storeW (k := 3) rfl rfl rfl Try.sizeOf65 (Get.tmp rfl) (Get.tmp rfl) rfl rfl rfl ?_
              refine L.nil ?_
              refine AftH.next ?_
              refine AH.only 11 rfl (by kernel_rfl) rfl (fun w16 C16 => ?_)
              refine L.storeW (k := 2) rfl rfl rfl Try.sizeOf65 (Get.tmp rfl) (Get.tmp rfl) rfl rfl rfl ?_
              refine L.nil ?_
              refine AftH.next ?_
              refine AH.done (by kernel_rfl) ?_
              try simp only [List.cons_append, List.nil_append]
              refine N.mid (r10, r11, ⟨(K34, D34), hV34⟩) ?hs4 ?hp4
              case hs4 => exact (.cons (t := 0) rfl (.cons (t := 2) rfl (.cons (t := 5) rfl (.cons (t := 6) rfl (.cons (t := 8) rfl (.cons (t := 9) rfl (.cons (t := 10) rfl (.cons (t := 11) rfl .nil))))))))
              case hp4 => exact (.cons 5 rfl (.cons 4 rfl (.cons 3 rfl (.cons 2 rfl (.cons 0 rfl (.cons 0 rfl .nil))))))
          · refine L.box rfl rfl (GSpec.plain rfl (spec_alloc rfl ti65 z65)) (fun r11 => ?_)
            refine L.nil ?_
            refine AftH.next ?_
            refine AH.forks 7 [8] (by kernel_rfl) rfl ⟨⟨_, rfl, fun w17 C17 => ?_⟩, ⟨_, rfl, fun w17 C17 => ?_⟩, trivial⟩
            · refine L.callC (A := [_]) rfl rfl rfl rfl (Get.tmp rfl) Try.call56 (ih k.toNat hk (nd l k).hi (by omega) (.hi hr (by omega)) K30 D30 hV30) (.cons 1 rfl (.cons 1 rfl .refl)) (.cons (Get.tmp rfl) .nil) (fun ⟨⟨K34, D34⟩, hV34⟩ => ?_)
              try dsimp only
              dsimp only [visX]
              have hlk2 := hV34.lenK; have hld2 := hV34.lenD
              dsimp only at hlk2 hld2
              refine L.nil ?_
              refine AftH.next ?_
              refine AH.only 8 rfl (by kernel_rfl) rfl (fun w18 C18 => ?_)
              refine L.box rfl rfl (GSpec.plain rfl (spec_alloc rfl ti65 z65)) (fun r10 => ?_)
              refine L.nil ?_
              refine AftH.next ?_
              refine AH.only 10 rfl (by kernel_rfl) rfl (fun w19 C19 => ?_)
              refine L.storeW (k := 0) rfl rfl rfl Try.sizeOf65 (Get.tmp rfl) (Get.tmp rfl) rfl rfl rfl ?_
              refine L.nil ?_
              refine AftH.next ?_
              refine AH.only 11 rfl (by kernel_rfl) rfl (fun w20 C20 => ?_)
              refine L.storeW (k := 3) rfl rfl rfl Try.sizeOf65 (Get.tmp rfl) (Get.tmp rfl) rfl rfl rfl ?_
              refine L.nil ?_
              refine AftH.next ?_
              refine AH.done (by kernel_rfl) ?_
              try simp only [List.cons_append, List.nil_append]
              refine N.mid (r10, r11, ⟨(K34, D34), hV34⟩) ?hs5 ?hp5
              case hs5 => exact (.cons (t := 0) rfl (.cons (t := 2) rfl (.cons (t := 5) rfl (.cons (t := 6) rfl (.cons (t := 8) rfl (.cons (t := 9) rfl (.cons (t := 10) rfl (.cons (t := 11) rfl .nil))))))))
              case hp5 => exact (.cons 5 rfl (.cons 4 rfl (.cons 0 rfl (.cons 2 rfl (.cons 0 rfl (.cons 0 rfl .nil))))))
            · refine L.box rfl rfl (GSpec.plain rfl (spec_alloc rfl ti65 z65)) (fun r10 => ?_)
              refine L.nil ?_
              refine AftH.next ?_
              refine AH.only 7 rfl (by kernel_rfl) rfl (fun w21 C21 => ?_)
              refine L.callC (A := [_]) rfl rfl rfl rfl (Get.tmp rfl) Try.call56 (ih k.toNat hk (nd l k).hi (by omega) (.hi hr (by omega)) K30 D30 hV30) (.cons 2 rfl (.cons 2 rfl .refl)) (.cons (Get.tmp rfl) .nil) (fun ⟨⟨K34, D34⟩, hV34⟩ => ?_)
              try dsimp only
              dsimp only [visX]
              have hlk2 := hV34.lenK; have hld2 := hV34.lenD
              dsimp only at hlk2 hld2
              refine L.nil ?_
              refine AftH.next ?_
              refine AH.only 10 rfl (by kernel_rfl) rfl (fun w22 C22 => ?_)
              refine L.storeW (k := 2) rfl rfl rfl Try.sizeOf65 (Get.tmp rfl) (Get.tmp rfl) rfl rfl rfl ?_
              refine L.nil ?_
              refine AftH.next ?_
              refine AH.only 11 rfl (by kernel_rfl) rfl (fun w23 C23 => ?_)
              refine L.storeW (k := 3) rfl rfl rfl Try.sizeOf65 (Get.tmp rfl) (Get.tmp rfl) rfl rfl rfl ?_
              refine L.nil ?_
              refine AftH.next ?_
              refine AH.done (by kernel_rfl) ?_
              try simp only [List.cons_append, List.nil_append]
              refine N.mid (r10, r11, ⟨(K34, D34), hV34⟩) ?hs6 ?hp6
              case hs6 => exact (.cons (t := 0) rfl (.cons (t := 2) rfl (.cons (t := 5) rfl (.cons (t := 6) rfl (.cons (t := 8) rfl (.cons (t := 9) rfl (.cons (t := 10) rfl (.cons (t := 11) rfl .nil))))))))
              case hp6 => exact (.cons 5 rfl (.cons 4 rfl (.cons 2 rfl (.cons 2 rfl (.cons 0 rfl (.cons 0 rfl .nil))))))
        · refine L.box rfl rfl (GSpec.plain rfl (spec_alloc rfl ti65 z65)) (fun r10 => ?_)
          refine L.nil ?_
          refine AftH.next ?_
          refine AH.forks 3 [9] (by kernel_rfl) rfl ⟨⟨_, rfl, fun w24 C24 => ?_⟩, ⟨_, rfl, fun w24 C24 => ?_⟩, trivial⟩
          · refine L.callC (A := [_]) rfl rfl rfl rfl (Get.tmp rfl) Try.call56 (ih k.toNat hk (nd l k).lo (by omega) (.lo hr (by omega)) K D hV) (.cons 1 rfl (.cons 1 rfl .refl)) (.cons (Get.tmp rfl) .nil) (fun ⟨⟨K30, D30⟩, hV30⟩ => ?_)
            try dsimp only
            dsimp only [visX]
            refine L.nil ?_
            refine AftH.next ?_
            refine AH.forks 7 [9] (by kernel_rfl) rfl ⟨⟨_, rfl, fun w25 C25 => ?_⟩, ⟨_, rfl, fun w25 C25 => ?_⟩, trivial⟩
            · refine L.callC (A := [_]) rfl rfl rfl rfl (Get.tmp rfl) Try.call56 (ih k.toNat hk (nd l k).hi (by omega) (.hi hr (by omega)) K30 D30 hV30) (.cons 0 rfl (.cons 0 rfl .refl)) (.cons (Get.tmp rfl) .nil) (fun ⟨⟨K34, D34⟩, hV34⟩ => ?_)
              try dsimp only
              dsimp only [visX]
              have hlk2 := hV34.lenK; have hld2 := hV34.lenD
              dsimp only at hlk2 hld2
              refine L.nil ?_
              refine AftH.next ?_
              refine AH.only 9 rfl (by kernel_rfl) rfl (fun w26 C26 => ?_)
              refine L.box rfl rfl (GSpec.plain rfl (spec_alloc rfl ti65 z65)) (fun r11 => ?_)
              refine L.nil ?_
              refine AftH.next ?_
              refine AH.only 10 rfl (by kernel_rfl) rfl (fun w27 C27 => ?_)
              refine L.storeW (k := 3) rfl rfl rfl Try.sizeOf65 (Get.tmp rfl) (Get.tmp rfl) rfl rfl rfl ?_
              refine L.nil ?_
              refine AftH.next ?_
              refine AH.only 11 rfl (by kernel_rfl) rfl (fun w28 C28 => ?_)
              refine L.storeW (k := 0) rfl rfl rfl Try.sizeOf65 (Get.tmp rfl) (Get.tmp rfl) rfl rfl rfl ?_
              refine L.nil ?_
              refine AftH.next ?_
              refine AH.done (by kernel_rfl) ?_
              try simp only [List.cons_append, List.nil_append]
              refine N.mid (r10, r11, ⟨(K34, D34), hV34⟩) ?hs7 ?hp7
              case hs7 => exact (.cons (t := 0) rfl (.cons (t := 2) rfl (.cons (t := 5) rfl (.cons (t := 6) rfl (.cons (t := 8) rfl (.cons (t := 9) rfl (.cons (t := 10) rfl (.cons (t := 11) rfl .nil))))))))
              case hp7 => exact (.cons 5 rfl (.cons 4 rfl (.cons 3 rfl (.cons 0 rfl (.cons 0 rfl (.cons 0 rfl .nil))))))
            · refine L.box rfl rfl (GSpec.plain rfl (spec_alloc rfl ti65 z65)) (fun r11 => ?_)
              refine L.nil ?_
              refine AftH.next ?_
              refine AH.only 7 rfl (by kernel_rfl) rfl (fun w29 C29 => ?_)
              refine L.callC (A := [_]) rfl rfl rfl rfl (Get.tmp rfl) Try.call56 (ih k.toNat hk (nd l k).hi (by omega) (.hi hr (by omega)) K30 D30 hV30) (.cons 1 rfl (.cons 1 rfl .refl)) (.cons (Get.tmp rfl) .nil) (fun ⟨⟨K34, D34⟩, hV34⟩ => ?_)
              try dsimp only
              dsimp only [visX]
              have hlk2 := hV34.lenK; have hld2 := hV34.lenD
              dsimp only at hlk2 hld2
              refine L.nil ?_
              refine AftH.next ?_
              refine AH.only 10 rfl (by kernel_rfl) rfl (fun w30 C30 => ?_)
              refine L.storeW (k := 3) rfl rfl rfl Try.sizeOf65 (Get.tmp rfl) (Get.tmp rfl) rfl rfl rfl ?_
              refine L.nil ?_
              refine AftH.next ?_
              refine AH.only 11 rfl (by kernel_rfl) rfl (fun w31 C31 => ?_)
              refine L.storeW (k := 2) rfl rfl rfl Try.sizeOf65 (Get.tmp rfl) (Get.tmp rfl) rfl rfl rfl ?_
              refine L.nil ?_
              refine AftH.next ?_
              refine AH.done (by kernel_rfl) ?_
              try simp only [List.cons_append, List.nil_append]
              refine N.mid (r10, r11, ⟨(K34, D34), hV34⟩) ?hs8 ?hp8
              case hs8 => exact (.cons (t := 0) rfl (.cons (t := 2) rfl (.cons (t := 5) rfl (.cons (t := 6) rfl (.cons (t := 8) rfl (.cons (t := 9) rfl (.cons (t := 10) rfl (.cons (t := 11) rfl .nil))))))))
              case hp8 => exact (.cons 5 rfl (.cons 4 rfl (.cons 3 rfl (.cons 2 rfl (.cons 0 rfl (.cons 0 rfl .nil))))))
          · refine L.box rfl rfl (GSpec.plain rfl (spec_alloc rfl ti65 z65)) (fun r11 => ?_)
            refine L.nil ?_
            refine AftH.next ?_
            refine AH.only 3 rfl (by kernel_rfl) rfl (fun w32 C32 => ?_)
            refine L.callC (A := [_]) rfl rfl rfl rfl (Get.tmp rfl) Try.call56 (ih k.toNat hk (nd l k).lo (by omega) (.lo hr (by omega)) K D hV) (.cons 2 rfl (.cons 2 rfl .refl)) (.cons (Get.tmp rfl) .nil) (fun ⟨⟨K30, D30⟩, hV30⟩ => ?_)
            try dsimp only
            dsimp only [visX]
            refine L.nil ?_
            refine AftH.next ?_
            refine AH.only 7 rfl (by kernel_rfl) rfl (fun w33 C33 => ?_)
            refine L.callC (A := [_]) rfl rfl rfl rfl (Get.tmp rfl) Try.call56 (ih k.toNat hk (nd l k).hi (by omega) (.hi hr (by omega)) K30 D30 hV30) (.cons 0 rfl (.cons 0 rfl .refl)) (.cons (Get.tmp rfl) .nil) (fun ⟨⟨K34, D34⟩, hV34⟩ => ?_)
            try dsimp only
            dsimp only [visX]
            have hlk2 := hV34.lenK; have hld2 := hV34.lenD
            dsimp only at hlk2 hld2
            refine L.nil ?_
            refine AftH.next ?_
            refine AH.only 10 rfl (by kernel_rfl) rfl (fun w34 C34 => ?_)
            refine L.storeW (k := 3) rfl rfl rfl Try.sizeOf65 (Get.tmp rfl) (Get.tmp rfl) rfl rfl rfl ?_
            refine L.nil ?_
            refine AftH.next ?_
            refine AH.only 11 rfl (by kernel_rfl) rfl (fun w35 C35 => ?_)
            refine L.storeW (k := 2) rfl rfl rfl Try.sizeOf65 (Get.tmp rfl) (Get.tmp rfl) rfl rfl rfl ?_
            refine L.nil ?_
            refine AftH.next ?_
            refine AH.done (by kernel_rfl) ?_
            try simp only [List.cons_append, List.nil_append]
            refine N.mid (r10, r11, ⟨(K34, D34), hV34⟩) ?hs9 ?hp9
            case hs9 => exact (.cons (t := 0) rfl (.cons (t := 2) rfl (.cons (t := 5) rfl (.cons (t := 6) rfl (.cons (t := 8) rfl (.cons (t := 9) rfl (.cons (t := 10) rfl (.cons (t := 11) rfl .nil))))))))
            case hp9 => exact (.cons 5 rfl (.cons 4 rfl (.cons 3 rfl (.cons 2 rfl (.cons 0 rfl (.cons 0 rfl .nil))))))
        · refine L.box rfl rfl (GSpec.plain rfl (spec_alloc rfl ti65 z65)) (fun r11 => ?_)
          refine L.nil ?_
          refine AftH.next ?_
          refine AH.forks 3 [8] (by kernel_rfl) rfl ⟨⟨_, rfl, fun w36 C36 => ?_⟩, ⟨_, rfl, fun w36 C36 => ?_⟩, trivial⟩
          · refine L.callC (A := [_]) rfl rfl rfl rfl (Get.tmp rfl) Try.call56 (ih k.toNat hk (nd l k).lo (by omega) (.lo hr (by omega)) K D hV) (.cons 1 rfl (.cons 1 rfl .refl)) (.cons (Get.tmp rfl) .nil) (fun ⟨⟨K30, D30⟩, hV30⟩ => ?_)
            try dsimp only
            dsimp only [visX]
            refine L.nil ?_
            refine AftH.next ?_
            refine AH.forks 7 [8] (by kernel_rfl) rfl ⟨⟨_, rfl, fun w37 C37 => ?_⟩, ⟨_, rfl, fun w37 C37 => ?_⟩, trivial⟩
            · refine L.callC (A := [_]) rfl rfl rfl rfl (Get.tmp rfl) Try.call56 (ih k.toNat hk (nd l k).hi (by omega) (.hi hr (by omega)) K30 D30 hV30) (.cons 0 rfl (.cons 0 rfl .refl)) (.cons (Get.tmp rfl) .nil) (fun ⟨⟨K34, D34⟩, hV34⟩ => ?_)
              try dsimp only
              dsimp only [visX]
              have hlk2 := hV34.lenK; have hld2 := hV34.lenD
              dsimp only at hlk2 hld2
              refine L.nil ?_
              refine AftH.next ?_
              refine AH.only 8 rfl (by kernel_rfl) rfl (fun w38 C38 => ?_)
              refine L.box rfl rfl (GSpec.plain rfl (spec_alloc rfl ti65 z65)) (fun r10 => ?_)
              refine L.nil ?_
              refine AftH.next ?_
              refine AH.only 10 rfl (by kernel_rfl) rfl (fun w39 C39 => ?_)
              refine L.storeW (k := 0) rfl rfl rfl Try.sizeOf65 (Get.tmp rfl) (Get.tmp rfl) rfl rfl rfl ?_
              refine L.nil ?_
              refine AftH.next ?_
              refine AH.only 11 rfl (by kernel_rfl) rfl (fun w40 C40 => ?_)
              refine L.storeW (k := 3) rfl rfl rfl Try.sizeOf65 (Get.tmp rfl) (Get.tmp rfl) rfl rfl rfl ?_
              refine L.nil ?_
              refine AftH.next ?_
              refine AH.done (by kernel_rfl) ?_
              try simp only [List.cons_append, List.nil_append]
              refine N.mid (r10, r11, ⟨(K34, D34), hV34⟩) ?hs10 ?hp10
              case hs10 => exact (.cons (t := 0) rfl (.cons (t := 2) rfl (.cons (t := 5) rfl (.cons (t := 6) rfl (.cons (t := 8) rfl (.cons (t := 9) rfl (.cons (t := 10) rfl (.cons (t := 11) rfl .nil))))))))
              case hp10 => exact (.cons 5 rfl (.cons 4 rfl (.cons 0 rfl (.cons 2 rfl (.cons 0 rfl (.cons 0 rfl .nil))))))
            · refine L.box rfl rfl (GSpec.plain rfl (spec_alloc rfl ti65 z65)) (fun r10 => ?_)
              refine L.nil ?_
              refine AftH.next ?_
              refine AH.only 7 rfl (by kernel_rfl) rfl (fun w41 C41 => ?_)
              refine L.callC (A := [_]) rfl rfl rfl rfl (Get.tmp rfl) Try.call56 (ih k.toNat hk (nd l k).hi (by omega) (.hi hr (by omega)) K30 D30 hV30) (.cons 1 rfl (.cons 1 rfl .refl)) (.cons (Get.tmp rfl) .nil) (fun ⟨⟨K34, D34⟩, hV34⟩ => ?_)
              try dsimp only
              dsimp only [visX]
              have hlk2 := hV34.lenK; have hld2 := hV34.lenD
              dsimp only at hlk2 hld2
              refine L.nil ?_
              refine AftH.next ?_
              refine AH.only 10 rfl (by kernel_rfl) rfl (fun w42 C42 => ?_)
              refine L.storeW (k := 2) rfl rfl rfl Try.sizeOf65 (Get.tmp rfl) (Get.tmp rfl) rfl rfl rfl ?_
              refine L.nil ?_
              refine AftH.next ?_
              refine AH.only 11 rfl (by kernel_rfl) rfl (fun w43 C43 => ?_)
              refine L.storeW (k := 3) rfl rfl rfl Try.sizeOf65 (Get.tmp rfl) (Get.tmp rfl) rfl rfl rfl ?_
              refine L.nil ?_
              refine AftH.next ?_
              refine AH.done (by kernel_rfl) ?_
              try simp only [List.cons_append, List.nil_append]
              refine N.mid (r10, r11, ⟨(K34, D34), hV34⟩) ?hs11 ?hp11
              case hs11 => exact (.cons (t := 0) rfl (.cons (t := 2) rfl (.cons (t := 5) rfl (.cons (t := 6) rfl (.cons (t := 8) rfl (.cons (t := 9) rfl (.cons (t := 10) rfl (.cons (t := 11) rfl .nil))))))))
              case hp11 => exact (.cons 5 rfl (.cons 4 rfl (.cons 2 rfl (.cons 2 rfl (.cons 0 rfl (.cons 0 rfl .nil))))))
          · refine L.box rfl rfl (GSpec.plain rfl (spec_alloc rfl ti65 z65)) (fun r10 => ?_)
            refine L.nil ?_
            refine AftH.next ?_
            refine AH.only 3 rfl (by kernel_rfl) rfl (fun w44 C44 => ?_)
            refine L.callC (A := [_]) rfl rfl rfl rfl (Get.tmp rfl) Try.call56 (ih k.toNat hk (nd l k).lo (by omega) (.lo hr (by omega)) K D hV) (.cons 2 rfl (.cons 2 rfl .refl)) (.cons (Get.tmp rfl) .nil) (fun ⟨⟨K30, D30⟩, hV30⟩ => ?_)
            try dsimp only
            dsimp only [visX]
            refine L.nil ?_
            refine AftH.next ?_
            refine AH.only 7 rfl (by kernel_rfl) rfl (fun w45 C45 => ?_)
            refine L.callC (A := [_]) rfl rfl rfl rfl (Get.tmp rfl) Try.call56 (ih k.toNat hk (nd l k).hi (by omega) (.hi hr (by omega)) K30 D30 hV30) (.cons 0 rfl (.cons 0 rfl .refl)) (.cons (Get.tmp rfl) .nil) (fun ⟨⟨K34, D34⟩, hV34⟩ => ?_)
            try dsimp only
            dsimp only [visX]
            have hlk2 := hV34.lenK; have hld2 := hV34.lenD
            dsimp only at hlk2 hld2
            refine L.nil ?_
            refine AftH.next ?_
            refine AH.only 10 rfl (by kernel_rfl) rfl (fun w46 C46 => ?_)
            refine L.storeW (k := 2) rfl rfl rfl Try.sizeOf65 (Get.tmp rfl) (Get.tmp rfl) rfl rfl rfl ?_
            refine L.nil ?_
            refine AftH.next ?_
            refine AH.only 11 rfl (by kernel_rfl) rfl (fun w47 C47 => ?_)
            refine L.storeW (k := 3) rfl rfl rfl Try.sizeOf65 (Get.tmp rfl) (Get.tmp rfl) rfl rfl rfl ?_
            refine L.nil ?_
            refine AftH.next ?_
            refine AH.done (by kernel_rfl) ?_
            try simp only [List.cons_append, List.nil_append]
            refine N.mid (r10, r11, ⟨(K34, D34), hV34⟩) ?hs12 ?hp12
            case hs12 => exact (.cons (t := 0) rfl (.cons (t := 2) rfl (.cons (t := 5) rfl (.cons (t := 6) rfl (.cons (t := 8) rfl (.cons (t := 9) rfl (.cons (t := 10) rfl (.cons (t := 11) rfl .nil))))))))
            case hp12 => exact (.cons 5 rfl (.cons 4 rfl (.cons 2 rfl (.cons 2 rfl (.cons 0 rfl (.cons 0 rfl .nil))))))
      intro ⟨r10, r11, ⟨⟨K34, D34⟩, hV34⟩⟩
      try dsimp only
      have hlk2 := hV34.lenK; have hld2 := hV34.lenD
      dsimp only at hlk2 hld2
      apply W.anyH [_, _] [_, _, _, _] mixed (.cons 4 rfl (.cons 4 rfl (.cons 0 rfl (.cons 0 rfl (.cons 0 rfl (.cons 0 rfl .nil))))))
      refine AH.first 0 rfl (by kernel_rfl) (by kernel_rfl) (by kernel_rfl) rfl rfl rfl (QSpec.plain rfl (qs_loadP1 rfl Try.isAgg83 (Get.tmp rfl))) ?_
      refine AH.first 1 rfl (by kernel_rfl) (by kernel_rfl) (by kernel_rfl) rfl rfl rfl (QSpec.plain rfl (qs_move rfl (Get.tmp rfl))) ?_
      refine AH.first 2 rfl (by kernel_rfl) (by kernel_rfl) (by kernel_rfl) rfl rfl rfl (QSpec.plain rfl (qs_loadP1 rfl Try.isAgg33 (Get.tmp rfl))) ?_
      refine AH.first 3 rfl (by kernel_rfl) (by kernel_rfl) (by kernel_rfl) rfl rfl rfl (QSpec.plain rfl (qs_move rfl (Get.tmp rfl))) ?_
      refine AH.first 4 rfl (by kernel_rfl) (by kernel_rfl) (by kernel_rfl) rfl rfl rfl (QSpec.plain rfl (qs_loadP1 rfl Try.isAgg71 (Get.tmp rfl))) ?_
      refine AH.first 5 rfl (by kernel_rfl) (by kernel_rfl) (by kernel_rfl) rfl rfl rfl (QSpec.plain rfl (qs_loadW (k := 1) rfl Try.isAgg50 Try.sizeOf50 (Get.tmp rfl) rfl rfl)) ?_
      refine AH.first 6 rfl (by kernel_rfl) (by kernel_rfl) (by kernel_rfl) rfl rfl rfl (QSpec.plain rfl (qs_loadW (k := 2) rfl Try.isAgg65 Try.sizeOf65 (Get.tmp rfl) rfl rfl)) ?_
      refine AH.first 7 rfl (by kernel_rfl) (by kernel_rfl) (by kernel_rfl) rfl rfl rfl (QSpec.plain rfl (qs_loadW (k := 3) rfl Try.isAgg65 Try.sizeOf65 (Get.tmp rfl) rfl rfl)) ?_
      refine AH.only 8 rfl (by kernel_rfl) rfl (fun w48 C48 => ?_)
      refine L.op1 rfl rfl (GSpec.plain rfl (spec_callF (A := cA rM ok) (X := cX rM cb ok) (⟨(nd l k, _, _), hcb k hr (by omega)⟩ : cI ok) rfl (Get.tmp rfl) (.cons (Get.tmp rfl) (.cons (Get.tmp rfl) (.cons (Get.tmp rfl) .nil))))) ?_
      refine L.nil ?_
      refine AftH.next ?_
      refine AH.only 9 rfl (by kernel_rfl) rfl (fun w49 C49 => ?_)
      refine L.op1 rfl rfl (GSpec.plain rfl (spec_indexAddrO (k := 0) (E := eA) rfl Try.underlying83 Try.sizeOf65 (Get.tmp rfl) (Get.tmp rfl) rfl (by (first | omega | (simp only [List.length_set]; omega))))) ?_
      refine L.nil ?_
      refine AftH.next ?_
      refine AH.only 10 rfl (by kernel_rfl) rfl (fun w50 C50 => ?_)
      refine L.storeOA (k := 0) (E := eA) rfl rfl rfl Try.sizeOf65 (fun _ => rfl) (Get.tmp rfl) (Get.tmp rfl) rfl rfl (by (first | omega | (simp only [List.length_set]; omega))) ?_
      refine L.nil ?_
      refine AftH.next ?_
      refine AH.only 11 rfl (by kernel_rfl) rfl (fun w51 C51 => ?_)
      refine L.op1 rfl rfl (GSpec.plain rfl (spec_indexAddrO (k := 1) (E := eB) rfl Try.underlying33 Try.sizeOf4 (Get.tmp rfl) (Get.tmp rfl) rfl (by (first | omega | (simp only [List.length_set]; omega))))) ?_
      refine L.nil ?_
      refine AftH.next ?_
      refine AH.only 12 rfl (by kernel_rfl) rfl (fun w52 C52 => ?_)
      refine L.storeO1 (k := 1) (j := 0) (E := eB) rfl rfl rfl Try.sizeOf4 (fun _ => rfl) (Get.tmp rfl) Get.cbool rfl rfl (by decide) (getD_some (by (first | omega | (simp only [List.length_set]; omega)))) rfl ?_
      refine L.nil ?_
      refine AftH.next ?_
      refine AH.done (by kernel_rfl) ?_
      try simp only [List.cons_append, List.nil_append]
      refine N.thenW ?_
      refine W.keep (.cons (t := 0) rfl (.cons (t := 6) rfl (.cons (t := 8) rfl .nil))) .refl ?_
      refine W.seq ?_
      refine W.region ?_
      refine L.op1 rfl rfl (GSpec.plain rfl (spec_loadP1 rfl Try.isAgg83 (Get.tmp rfl))) ?_
      refine L.op1 rfl rfl (GSpec.plain rfl (spec_move rfl (Get.tmp rfl))) ?_
      refine L.op1 rfl rfl (GSpec.plain rfl (spec_indexAddrO (k := 0) (E := eA) rfl Try.underlying83 Try.sizeOf65 (Get.tmp rfl) (Get.tmp rfl) rfl (by (first | omega | (simp only [List.length_set]; omega))))) ?_
      refine L.op1 rfl rfl (GSpec.plain rfl (spec_loadOA (k := 0) (E := eA) rfl Try.isAgg65 Try.sizeOf65 (fun _ => rfl) (Get.tmp rfl) rfl rfl (getD_some (by (first | omega | (simp only [List.length_set]; omega)))))) ?_
      refine L.storeW (k := 2) rfl rfl rfl Try.sizeOf65 (Get.tmp rfl) (Get.tmp rfl) rfl rfl rfl ?_
      refine L.nil ?_
      refine N.thenW ?_
      refine W.keep (.cons (t := 8) rfl .nil) .refl ?_
      refine W.ret ?_
      refine N.ret (X := (visX rM eA 65 2 l cb e0 e1 f vk vd k)) ⟨(_, _), hV34.set hok1.1 hkf (fold_node hg hok (by omega)).symm⟩ rfl (.cellA (k := 2) (Get.tmp (t := 8) rfl) rfl Try.isAgg65 Try.sizeOf65 rfl .nil) (res1 (eqA ?_)) (.cons 0 rfl (.cons 0 rfl .nil)) (fun _ _ h => h)
      exact congrArg eA (hV34.at hok1.1 hkf (fold_node hg hok (by omega)).symm)
    · have ph2 := h2; try simp only [decide_eq_true_eq, decide_eq_false_iff_not, Bool.and_eq_true, Bool.or_eq_true, Bool.and_eq_false_iff, Bool.or_eq_false_iff, Bool.not_eq_true', Bool.not_eq_false', Bool.not_true, Bool.not_false, Int.not_lt, Int.not_le] at ph2
      refine W.skip ?_
      refine N.thenW ?_
      refine W.seq ?_
      refine W.region ?_
      refine L.op1 rfl rfl (GSpec.plain rfl (spec_loadP1 rfl Try.isAgg83 (Get.tmp rfl))) ?_
      refine L.op1 rfl rfl (GSpec.plain rfl (spec_move rfl (Get.tmp rfl))) ?_
      refine L.op1 rfl rfl (GSpec.plain rfl (spec_indexAddrO (k := 1) (E := eA) rfl Try.underlying83 Try.sizeOf65 (Get.tmp rfl) (Get.tmp rfl) rfl (by (first | omega | (simp only [List.length_set]; omega))))) ?_
      refine L.op1 rfl rfl (GSpec.plain rfl (spec_loadOA (k := 1) (E := eA) rfl Try.isAgg65 Try.sizeOf65 (fun _ => rfl) (Get.tmp rfl) rfl rfl (getD_some (by (first | omega | (simp only [List.length_set]; omega)))))) ?_
      refine L.storeW (k := 0) rfl rfl rfl Try.sizeOf65 (Get.tmp rfl) (Get.tmp rfl) rfl rfl rfl ?_
      refine L.nil ?_
      refine N.thenW ?_
      refine W.keep (.cons (t := 8) rfl .nil) .refl ?_
      refine W.ret ?_
      refine N.ret (X := (visX rM eA 65 2 l cb e0 e1 f vk vd k)) ⟨(K, D), hV⟩ rfl (.cellA (k := 0) (Get.tmp (t := 8) rfl) rfl Try.isAgg65 Try.sizeOf65 rfl .nil) (res1 (eqA ?_)) (.cons 1 rfl (.cons 1 rfl .nil)) (fun _ _ h => h)
      exact congrArg eA (hV.get hok1.1 (by simpa using h2))

theorem foldM_ok (l : List Node) (hg : Good l) (f : Int) (hf : okNode l f) (cb : Node → Nat → Nat → Nat) (ok : Node → Nat → Nat → Prop) (e0 e1 : Nat) (hcb : ∀ k, Reach l f k → 1 < k → ok (nd l k) (fold l cb e0 e1 (nd l k).lo) (fold l cb e0 e1 (nd l k).hi)) : CallT Try.prog 37 [Rp.agg (dagR l), Rp.int .i64 f, Rp.agg (eA e0 ++ eA e1), cR rM cb ok] [] (.one (rM (fold l cb e0 e1 f))) := by
  refine W.enter (fn := Try.f37) (n := 22) Try.func37 rfl Try.ntmps37 rfl (fun w₀ C₀ => ?_)
  simp only [argS]
  have hf1 := hf; unfold okNode at hf1
  have hsm := hg.small
  refine W.seq ?_
  refine W.region ?_
  refine L.box rfl rfl (GSpec.plain rfl (spec_box rfl (GetC.agg (Get.tmp rfl)))) (fun r4 => ?_)
  refine L.box rfl rfl (GSpec.plain rfl (spec_box rfl (GetC.agg (Get.tmp rfl)))) (fun r6 => ?_)
  refine L.box rfl rfl (GSpec.plain rfl (spec_box rfl (GetC.one (Get.tmp rfl)))) (fun r7 => ?_)
  refine L.box rfl rfl (GSpec.plain rfl (spec_alloc rfl ti65 z65)) (fun r8 => ?_)
  refine L.nil ?_
  refine N.thenW ?_
  refine W.seq ?_
  refine W.region ?_
  refine L.op1 rfl rfl (GSpec.plain rfl (spec_move rfl (Get.tmp rfl))) ?_
  first | refine L.op1 rfl rfl (GSpec.plain rfl (fit_i64 (by omega) (by omega) (spec_add rfl (Get.tmp rfl) (Get.cint rfl)))) ?_ | refine L.op1 rfl rfl (GSpec.plain rfl (spec_add rfl (Get.tmp rfl) (Get.cint rfl))) ?_
  refine L.op rfl rfl (GSpec.plain rfl (spec_makeSlice (z₀ := (0 : Nat)) (E := eA) rfl Try.underlying83 ti65 z65 (fun _ => rfl) (Get.tmp rfl) (Get.tmp rfl) (by omega) (by omega) (by omega))) (fun v14 => ?_)
  refine L.box rfl rfl (GSpec.plain rfl (spec_alloc rfl ti83 z83)) (fun r9 => ?_)
  refine L.factM 1 rfl osl_one fun hq => ?_
  haveI := One.val hq
  refine L.storeB (k := 0) (R := Rp.val v14) rfl rfl rfl Try.sizeOf83 (Get.tmp rfl) (Get.tmp rfl) rfl rfl ?_
  refine L.nil ?_
  refine N.thenW ?_
  refine W.seq ?_
  refine W.region ?_
  refine L.op1 rfl rfl (GSpec.plain rfl (spec_move rfl (Get.tmp rfl))) ?_
  first | refine L.op1 rfl rfl (GSpec.plain rfl (fit_i64 (by omega) (by omega) (spec_add rfl (Get.tmp rfl) (Get.cint rfl)))) ?_ | refine L.op1 rfl rfl (GSpec.plain rfl (spec_add rfl (Get.tmp rfl) (Get.cint rfl))) ?_
  refine L.op rfl rfl (GSpec.plain rfl (spec_makeSlice (z₀ := false) (E := eB) rfl Try.underlying33 ti4 z4 (fun _ => rfl) (Get.tmp rfl) (Get.tmp rfl) (by omega) (by omega) (by omega))) (fun v17 => ?_)
  refine L.box rfl rfl (GSpec.plain rfl (spec_alloc rfl ti33 z33)) (fun r10 => ?_)
  refine L.factM 1 rfl osl_one fun hq => ?_
  haveI := One.val hq
  refine L.storeB (k := 0) (R := Rp.val v17) rfl rfl rfl Try.sizeOf33 (Get.tmp rfl) (Get.tmp rfl) rfl rfl ?_
  refine L.nil ?_
  refine N.thenW ?_
  refine W.keep (.cons (t := 1) rfl (.cons (t := 4) rfl (.cons (t := 6) rfl (.cons (t := 7) rfl (.cons (t := 8) rfl (.cons (t := 9) rfl (.cons (t := 10) rfl .nil))))))) .refl ?_
  refine W.seq ?_
  refine W.region ?_
  refine L.box rfl rfl (GSpec.plain rfl (spec_alloc rfl ti84 z84)) (fun r11 => ?_)
  refine L.nil ?_
  refine N.thenW ?_
  refine W.pubB 4 8 rfl rfl ?_
  refine W.pubB 6 7 rfl rfl ?_
  refine W.pubB 7 6 rfl rfl ?_
  refine W.pubB 9 3 rfl rfl ?_
  refine W.pubB 10 1 rfl rfl ?_
  refine W.seq ?_
  refine W.region ?_
  refine L.op1 rfl rfl (GSpec.plain rfl (spec_makeFunc rfl (.cons (Get.tmp rfl) (.cons (Get.tmp rfl) (.cons (Get.tmp rfl) (.cons (Get.tmp rfl) (.cons (Get.tmp rfl) (.cons (Get.tmp rfl) .nil)))))))) ?_
  refine L.storeB (k := 0) rfl rfl rfl Try.sizeOf84 (Get.tmp rfl) (Get.tmp rfl) rfl rfl ?_
  refine L.nil ?_
  refine N.thenW ?_
  refine W.pubSelf (pre := [_, _, _]) (post := [_, _]) 11 0 rfl rfl ?_
  refine W.keep (.cons (t := 1) rfl (.cons (t := 8) rfl (.cons (t := 11) rfl .nil))) .refl ?_
  refine W.seq ?_
  refine W.region ?_
  refine L.op1 rfl rfl (GSpec.plain rfl (spec_loadSelf rfl Try.isAgg84 (Get.tmp rfl))) ?_
  refine L.op1 rfl rfl (GSpec.plain rfl (spec_move rfl (Get.tmp rfl))) ?_
  refine L.callC (A := [_]) rfl rfl rfl rfl (Get.tmp rfl) Try.call56 (visitM_ok l hg f hf cb ok e0 e1 hcb r11 v14 v17 (f.toNat + 1) f (by omega) .here (List.replicate (f + 1).toNat (0 : Nat)) (List.replicate (f + 1).toNat false) (vok_nil (by omega))) (.cons 1 rfl (.cons 0 rfl .refl)) (.cons (Get.tmp rfl) .nil) (fun ⟨⟨K21, D21⟩, hV21⟩ => ?_)
  try dsimp only
  dsimp only [visX]
  refine L.storeW (k := 2) rfl rfl rfl Try.sizeOf65 (Get.tmp rfl) (Get.tmp rfl) rfl rfl rfl ?_
  refine L.nil ?_
  refine N.thenW ?_
  refine W.ret ?_
  refine N.ret () rfl (.cellA (k := 2) (Get.tmp (t := 8) rfl) rfl Try.isAgg65 Try.sizeOf65 rfl .nil) (res1 (eqA ?_)) .nil (fun _ _ h => h)
  rfl

end Go.Proofs.Ytcpkjpkjahgobaa
