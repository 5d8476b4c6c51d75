/- WHAT IS PROVED: the given statement of this claim. Conditions: none beyond the given row. -/
import Derived.Test.YtnmgegodkmgdeaaDoorTie
import Derived.Test.YtnmgegodkmgdeaaDoorCards
import Derived.SevenTiedAt
import Derived.Test.YtnmgegodkmgdeaaDoorMo5
section
set_option linter.unusedVariables false
set_option linter.unusedSimpArgs false
set_option maxHeartbeats 4000000
set_option maxRecDepth 100000
namespace Go.Proofs.YtnmgegodkmgdeaaDoor
open Go.V
/-- What is known behind the copying. -/
structure MoreA (s : Sl) (H : Hp) (y : Nat × Nat × Nat) : Prop where
  h1 : H y.1 = none
  h2 : H y.2.1 = none
  h3 : H y.2.2 = none
  n12 : ¬ y.1 = y.2.1
  n13 : ¬ y.1 = y.2.2
  n23 : ¬ y.2.1 = y.2.2
/-- Behind the change nothing is written any more. -/
theorem cut_more {σ : Type} {inv : σ → Prop} {fr : σ → List (Nat × AV)} {hp : σ → Hp} {dsf : σ → List AD} {Q : Post} {sF : Fr} {ds : List AD} {A H : Hp} (x : Sl) (i11 ih is : Nat) (h2 : H ih = none) (h3 : H is = none) (n12 : ¬ i11 = ih) (n13 : ¬ i11 = is) (n23 : ¬ ih = is)
    (hH : Go.V.HSub A (((H.set ih (.row 2 x.hs.length (spF x.hs))).set is (.row 3 x.sh.length (shF x.sh))).set i11 (.box 2 1 fun _ => [.sl ih 2 x.hs.length, .sl is 3 x.sh.length])))
    (h : CutG inv fr hp dsf Q .normal sF ds (H.set i11 (.box 2 1 fun _ => x.cs))) : CutG inv fr hp dsf Q .normal sF ds A := by
  refine cutG_ent (Ent.weak (s' := sF) (fun t => AV.Le.refl _) hH ?_)
  refine cutG_ent (Ent.freezeBox (s' := sF) (id := ih) (st := 2) (n := x.hs.length) (f := spF x.hs) (j := i11) (st' := 2) (n' := 1) (g := fun _ => [.sl ih 2 x.hs.length, .sl is 3 x.sh.length]) (g' := fun _ => [spAV x.hs, .sl is 3 x.sh.length]) ?_ ?_ (fun t => .rfl) (fun _ _ => rfl) (fun q c hq hc => ?_) ?_)
  · rw [Hp.set_ne _ _ (fun e => n12 e.symm), Hp.set_ne _ _ n23, Hp.set_same]
  · exact Hp.set_same _ _ _
  · match c, hc with
    | 0, _ => exact .hit
    | 1, _ => exact .rfl
  refine cutG_ent (Ent.freezeBox (s' := sF) (id := is) (st := 3) (n := x.sh.length) (f := shF x.sh) (j := i11) (st' := 2) (n' := 1) (g := fun _ => [spAV x.hs, .sl is 3 x.sh.length]) (g' := fun _ => x.cs) ?_ ?_ (fun t => .rfl) (fun _ _ => rfl) (fun q c hq hc => ?_) ?_)
  · rw [Hp.set_ne _ _ (fun e => n13 e.symm), Hp.del_ne _ (fun e => n23 e.symm), Hp.set_ne _ _ (fun e => n13 e.symm), Hp.set_same]
  · exact Hp.set_same _ _ _
  · match c, hc with
    | 0, _ => exact .rfl
    | 1, _ => exact .hit
  refine cutG_ent (Ent.weak (s' := sF) (fun t => AV.Le.refl _) (H' := H.set i11 (.box 2 1 fun _ => x.cs)) ?_ h)
  intro q o hq
  by_cases e : q = i11
  · subst e
    rw [Hp.set_same] at hq ⊢
    exact ⟨_, hq, .refl _⟩
  · rw [Hp.set_ne _ _ e] at hq
    have e2 : q ≠ ih := fun e2 => by rw [e2, h2] at hq; cases hq
    have e3 : q ≠ is := fun e3 => by rw [e3, h3] at hq; cases hq
    exact ⟨o, by rw [Hp.set_ne _ _ e, Hp.del_ne _ e3, Hp.set_ne _ _ e, Hp.del_ne _ e2, Hp.set_ne _ _ e, Hp.set_ne _ _ e3, Hp.set_ne _ _ e2]; exact hq, .refl _⟩
theorem row_setG {α : Type} (en : α → List AV) (d : α) (l : List α) (st i : Nat) (x : α) (c : List AV) (hc : c = en x) (hi : i < l.length) : Obj.Le (.row st l.length (updF l.length i (fun k => en (l.getD k d)) c)) (.row st l.length (fun k => en ((l.set i x).getD k d))) := by
  refine row_ext fun q hq => ?_
  rw [upd_at hi q hq, getD_setG hi]
  split
  · exact hc
  · rfl
theorem row_setG2 {α : Type} (en : α → List AV) (d : α) (l : List α) (st i : Nat) (x : α) (c c' : List AV) (hc : c = en x) (hi : i < l.length) : Obj.Le (.row st l.length (updF l.length i (updF l.length i (fun k => en (l.getD k d)) c') c)) (.row st l.length (fun k => en ((l.set i x).getD k d))) := by
  refine row_ext fun q hq => ?_
  rw [upd_at hi q hq, getD_setG hi]
  split
  · exact hc
  · rename_i h; rw [upd_at hi q hq, if_neg h]
theorem more_law (s : Sl) (u : Bool) (N : Nat) (b : Nat → Int) (W T : Int) (H : Hp) (hN : N < 2 ^ 63) (hb : ∀ i, i < N → 0 ≤ b i ∧ b i ≤ 255) (hW : 0 ≤ W ∧ W ≤ 255) (hT : 0 ≤ T ∧ T ≤ 255) :
    PTri Tryd.prog (fnA 11) [s.av, boo u, .rsl N 1 (byF b), .lit (.int .u8 W), .lit (.int .u8 T)] H (boo true) := by
  refine Tri.drop ?_
  refine tri_w0 Tryd.func11 (by kernel_rfl) rfl (by simp only [List.length_append, List.length_cons, List.length_nil, Tryd.ntmps11]; decide) ?_
  refine wps_cutG4 (m := mset [58, 62]) (σ := Nat × Nat × Nat) (fun y => MoreA s H y ∧ Ok s ∧ 0 < s.sh.length)
    (fun y => [(1, boo u), (2, .rsl N 1 (byF b)), (3, .lit (.int .u8 W)), (4, .lit (.int .u8 T)), (5, .rptr 1 2 (fun _ => s.cs) 0 0), (11, .ref y.1 0 2 0 0)])
    (fun y => ((H.set y.2.1 (.row 2 s.hs.length (spF s.hs))).set y.2.2 (.row 3 s.sh.length (shF s.sh))).set y.1 (.box 2 1 fun _ => [.sl y.2.1 2 s.hs.length, .sl y.2.2 3 s.sh.length])) (fun _ => []) ?_ fun y hy => ?_
  · simp only [vsAll, loadA, loadRow, partA, partOk, boxA, boxZ, okAll, stAll, opsA, opA, dstOk, nilSliceOp, argFr, Nat.reduceAdd, Nat.reduceLT, Nat.reduceEqDiff, Nat.reduceBEq, ↓reduceIte, eq_self, wtAll, Tryd.ntmps11]
    refine callK_pure (long0_tri s _) ?_
    simp only [vsAll, loadA, loadRow, partA, partOk, opA, guardV, dstOk, Nat.reduceLT, Nat.reduceEqDiff, ↓reduceIte, implies_true, eq_self, wtAll]
    refine gcall _ (fun g => ⟨by simp only [vsAll, opA], by simp only [vsAll, okAll, opsA, opA, ↓reduceIte, eq_self, g], rslip_tri s _ (lng_near (l := []) (by simpa using g)).1⟩) ?_
    simp only [vsAll, binA, binLitA, intA, unA, loadA, loadRow, partA, partOk, fieldAddrA, lenA, pickA, opA, guardV, dstOk, Nat.reduceLT, Nat.reduceEqDiff, ↓reduceIte, implies_true, eq_self, wtAll]
    refine condV (fun hf => ?_) (fun hf => ?_)
    · simp only [vsAll, okAll, stAll, opsA, opA, dstOk, Nat.reduceLT]
      refine callK_pure (alive_tri _) ?_
      simp only [vsAll, opA, dstOk, nilSliceOp, resA, retA.eq_1, Nat.reduceLT, Nat.reduceBEq, ↓reduceIte, eq_self, Tryd.results11, CutG_ret]
      exact dropR_pure rfl (by (repeat (first | exact HSub_rfl | refine HSub_put_eq (by simp only [vsAll, binA, binLitA, intA, aggA, aggV, boolA, nilA2, isConst, unA, loadA, loadRow, partA, partOk, fieldAddrA, indexAddrA, indexA, fieldA, extractA, lenA, nilCheckA, boxA, boxZ, cellA, cellsA, fillA, okParts, buildSliceA, buildMutA, makeSliceA, partIdx, elemsA, lensA, ifaceA, convA, mmA, pickA, okAll, stAll, opsA, partsA, partsOk, opA, allocA, boxMutA, newCells, okCells, storeObj, appendA, guardV, taA, nM, mapUpA, lookA, sliceA, sliceS, boundsA, opO, okO, copyA, dstOk, nilA, quietOk, nilSliceOp, deferV, panA, resA, argFr, retA.eq_1, retA.eq_2, Nat.reduceAdd, Nat.reduceSub, Nat.reduceMul, Nat.reduceLT, Nat.reduceLeDiff, Nat.reduceEqDiff, Nat.reduceBEq, Int.reduceAdd, Int.reduceSub, Int.reduceMul, Int.reduceNeg, Int.reduceLE, Int.reduceLT, Int.reduceEq, Int.reduceNe, Int.reduceToNat, ↓reduceIte, reduceCtorEq, implies_true, forall_const, eq_self, ne_eq, wtAll, Tryd.ntmps11, Tryd.results11]) ?_ | refine HSub_drop2 (by simp only [vsAll, binA, binLitA, intA, aggA, aggV, boolA, nilA2, isConst, unA, loadA, loadRow, partA, partOk, fieldAddrA, indexAddrA, indexA, fieldA, extractA, lenA, nilCheckA, boxA, boxZ, cellA, cellsA, fillA, okParts, buildSliceA, buildMutA, makeSliceA, partIdx, elemsA, lensA, ifaceA, convA, mmA, pickA, okAll, stAll, opsA, partsA, partsOk, opA, allocA, boxMutA, newCells, okCells, storeObj, appendA, guardV, taA, nM, mapUpA, lookA, sliceA, sliceS, boundsA, opO, okO, copyA, dstOk, nilA, quietOk, nilSliceOp, deferV, panA, resA, argFr, retA.eq_1, retA.eq_2, Nat.reduceAdd, Nat.reduceSub, Nat.reduceMul, Nat.reduceLT, Nat.reduceLeDiff, Nat.reduceEqDiff, Nat.reduceBEq, Int.reduceAdd, Int.reduceSub, Int.reduceMul, Int.reduceNeg, Int.reduceLE, Int.reduceLT, Int.reduceEq, Int.reduceNe, Int.reduceToNat, ↓reduceIte, reduceCtorEq, implies_true, forall_const, eq_self, ne_eq, wtAll, Tryd.ntmps11, Tryd.results11]) ?_ | refine HSub_keep_eq (by simp only [vsAll, binA, binLitA, intA, aggA, aggV, boolA, nilA2, isConst, unA, loadA, loadRow, partA, partOk, fieldAddrA, indexAddrA, indexA, fieldA, extractA, lenA, nilCheckA, boxA, boxZ, cellA, cellsA, fillA, okParts, buildSliceA, buildMutA, makeSliceA, partIdx, elemsA, lensA, ifaceA, convA, mmA, pickA, okAll, stAll, opsA, partsA, partsOk, opA, allocA, boxMutA, newCells, okCells, storeObj, appendA, guardV, taA, nM, mapUpA, lookA, sliceA, sliceS, boundsA, opO, okO, copyA, dstOk, nilA, quietOk, nilSliceOp, deferV, panA, resA, argFr, retA.eq_1, retA.eq_2, Nat.reduceAdd, Nat.reduceSub, Nat.reduceMul, Nat.reduceLT, Nat.reduceLeDiff, Nat.reduceEqDiff, Nat.reduceBEq, Int.reduceAdd, Int.reduceSub, Int.reduceMul, Int.reduceNeg, Int.reduceLE, Int.reduceLT, Int.reduceEq, Int.reduceNe, Int.reduceToNat, ↓reduceIte, reduceCtorEq, implies_true, forall_const, eq_self, ne_eq, wtAll, Tryd.ntmps11, Tryd.results11]) ?_)))
    · rw [Bool.or_eq_false_iff, Bool.or_eq_false_iff] at hf
      have k : Ok s := by simpa using hf.1.2
      have hN0 : 0 < s.sh.length := by have := of_decide_eq_false hf.2; omega
      have nS := k.nS
      have nH := k.nH
      simp only [vsAll, loadA, loadRow, partA, partOk, cellA, cellsA, opA, allocA, newCells, okCells, storeObj, dstOk, Nat.reduceAdd, Nat.reduceLT, Nat.reduceEqDiff, ↓reduceIte, eq_self, wtAll]
      intro i11 hh_i11; (try simp only [Hp.set_none, ite_none] at hh_i11)
      rw [Hp.set_set]
      refine vs_draw3 [0, 3, 4, 7, 9, 11] [([1, 0, 0, 3, 5, 0, 0, 7, 4, 9, 10, 11], [([1, 2, 5, 6], [2, 6], 0), ([], [6], 3), ([8], [6], 4), ([], [], 7), ([], [], 9), ([10], [], 11)], []), ([1, 0, 0, 5, 3, 0, 0, 7, 6, 9, 10, 11], [([1, 2, 5, 6], [2, 6], 0), ([], [2, 6], 4), ([], [6], 3), ([8], [], 7), ([], [], 9), ([10], [], 11)], []), ([3, 0, 0, 5, 1, 0, 0, 7, 6, 9, 10, 11], [([1, 2, 5, 6], [2, 6], 4), ([], [2, 6], 0), ([], [6], 3), ([8], [], 7), ([], [], 9), ([10], [], 11)], [])] (by decide +kernel) fun p hp => ?_
      have okH : ∀ i, i < s.hs.length → okCells (spF s.hs i) := fun i _ => ⟨rfl, rfl, trivial⟩
      have okS' : ∀ i, i < s.sh.length → okCells (shF s.sh i) := fun i _ => ⟨rfl, rfl, rfl, trivial⟩
      have leH : Obj.Le (.row 2 s.hs.length (appF 0 s.hs.length (fun _ => []) (spF s.hs))) (.row 2 s.hs.length (spF s.hs)) := row_ext fun q hq => by rw [appF_at (by ((try clear hh_i11); omega)), if_neg (by ((try clear hh_i11); omega)), Nat.sub_zero]
      have leS : Obj.Le (.row 3 s.sh.length (appF 0 s.sh.length (fun _ => []) (shF s.sh))) (.row 3 s.sh.length (shF s.sh)) := row_ext fun q hq => by rw [appF_at (by ((try clear hh_i11); omega)), if_neg (by ((try clear hh_i11); omega)), Nat.sub_zero]
      simp only [List.mem_cons, List.not_mem_nil, or_false] at hp
      rcases hp with rfl | rfl | rfl
      · simp only [vsAll, loadA, loadRow, partA, partOk, fieldAddrA, cellA, cellsA, okParts, buildMutA, partIdx, elemsA, lensA, partsA, partsOk, opA, newCells, okCells, storeObj, appendA, dstOk, Nat.reduceAdd, Nat.reduceMul, Nat.reduceLT, Nat.reduceLeDiff, Nat.reduceEqDiff, Nat.reduceBEq, ↓reduceIte, eq_self, wtAll]
        intro ih hh_ih; (try simp only [ite_none] at hh_ih)
        simp only [↓reduceIte, hh_ih]
        refine ⟨okH, by ((try clear hh_i11); (try clear hh_ih); omega), by ((try clear hh_i11); (try clear hh_ih); omega), ?_⟩
        intro is hh_is; (try simp only [ite_none] at hh_is)
        simp only [vsAll, Nat.reduceLT, ↓reduceIte, eq_self, hh_is]
        refine ⟨okS', by ((try clear hh_i11); (try clear hh_ih); (try clear hh_is); omega), by ((try clear hh_i11); (try clear hh_ih); (try clear hh_is); omega), ?_⟩
        have q1 : H ih = none ∧ ¬ ih = i11 := ⟨hh_ih.2, hh_ih.1.1⟩
        have q2 : H is = none ∧ ¬ is = i11 ∧ ¬ is = ih := by simp_all
        refine cutG_of (i11, ih, is) ⟨⟨hh_i11, q1.1, q2.1, fun e => q1.2 e.symm, fun e => q2.2.1 e.symm, fun e => q2.2.2 e.symm⟩, k, hN0⟩ (by simp only [vsAll, argFr, Nat.reduceEqDiff, ↓reduceIte, eq_self]) rfl ?_
        simp only []
        refine HSub.trans (B := ((H.set ih (.row 2 s.hs.length (appF 0 s.hs.length (fun _ => []) (spF s.hs)))).set is (.row 3 s.sh.length (appF 0 s.sh.length (fun _ => []) (shF s.sh)))).set i11 (.box 2 1 fun _ => [.sl ih 2 s.hs.length, .sl is 3 s.sh.length])) (by (repeat (first | exact HSub_rfl | refine HSub_put_eq (by simp only [vsAll, ↓reduceIte, eq_self, hh_ih, hh_is]) ?_ | refine HSub_drop2 (by simp only [eq_self, hh_i11, hh_ih, hh_is]) ?_ | refine HSub_keep_eq (by simp only [vsAll, binA, binLitA, intA, aggA, aggV, boolA, nilA2, isConst, unA, loadA, loadRow, partA, partOk, fieldAddrA, indexAddrA, indexA, fieldA, extractA, lenA, nilCheckA, boxA, boxZ, cellA, cellsA, fillA, okParts, buildSliceA, buildMutA, makeSliceA, partIdx, elemsA, lensA, ifaceA, convA, mmA, pickA, okAll, stAll, opsA, partsA, partsOk, opA, allocA, boxMutA, newCells, okCells, storeObj, appendA, guardV, taA, nM, mapUpA, lookA, sliceA, sliceS, boundsA, opO, okO, copyA, dstOk, nilA, quietOk, nilSliceOp, deferV, panA, resA, argFr, retA.eq_1, retA.eq_2, Nat.reduceAdd, Nat.reduceSub, Nat.reduceMul, Nat.reduceLT, Nat.reduceLeDiff, Nat.reduceEqDiff, Nat.reduceBEq, Int.reduceAdd, Int.reduceSub, Int.reduceMul, Int.reduceNeg, Int.reduceLE, Int.reduceLT, Int.reduceEq, Int.reduceNe, Int.reduceToNat, ↓reduceIte, reduceCtorEq, implies_true, forall_const, eq_self, ne_eq, wtAll, Tryd.ntmps11, Tryd.results11, hh_i11, hh_ih, hh_is]) ?_))) (HSub.set (HSub.set (HSub.set (HSub.refl H) leH) leS) (.refl _))
      · simp only [vsAll, loadA, loadRow, partA, partOk, fieldAddrA, cellA, cellsA, okParts, buildMutA, partIdx, elemsA, lensA, partsA, partsOk, opA, newCells, okCells, storeObj, appendA, dstOk, Nat.reduceAdd, Nat.reduceMul, Nat.reduceLT, Nat.reduceLeDiff, Nat.reduceEqDiff, Nat.reduceBEq, ↓reduceIte, eq_self, wtAll]
        intro ih hh_ih; (try simp only [ite_none] at hh_ih); intro is hh_is; (try simp only [ite_none] at hh_is)
        simp only [vsAll, Nat.reduceLT, ↓reduceIte, eq_self, hh_ih, hh_is]
        refine ⟨okH, by ((try clear hh_i11); (try clear hh_ih); (try clear hh_is); omega), by ((try clear hh_i11); (try clear hh_ih); (try clear hh_is); omega), okS', by ((try clear hh_i11); (try clear hh_ih); (try clear hh_is); omega), by ((try clear hh_i11); (try clear hh_ih); (try clear hh_is); omega), ?_⟩
        have q1 : H ih = none ∧ ¬ ih = i11 := ⟨hh_ih.2, hh_ih.1.1⟩
        have q2 : H is = none ∧ ¬ is = i11 ∧ ¬ is = ih := by simp_all
        refine cutG_of (i11, ih, is) ⟨⟨hh_i11, q1.1, q2.1, fun e => q1.2 e.symm, fun e => q2.2.1 e.symm, fun e => q2.2.2 e.symm⟩, k, hN0⟩ (by simp only [vsAll, argFr, Nat.reduceEqDiff, ↓reduceIte, eq_self]) rfl ?_
        simp only []
        refine HSub.trans (B := ((H.set ih (.row 2 s.hs.length (appF 0 s.hs.length (fun _ => []) (spF s.hs)))).set is (.row 3 s.sh.length (appF 0 s.sh.length (fun _ => []) (shF s.sh)))).set i11 (.box 2 1 fun _ => [.sl ih 2 s.hs.length, .sl is 3 s.sh.length])) (by (repeat (first | exact HSub_rfl | refine HSub_put_eq (by simp only [vsAll, ↓reduceIte, eq_self, hh_ih, hh_is]) ?_ | refine HSub_drop2 (by simp only [eq_self, hh_i11, hh_ih, hh_is]) ?_ | refine HSub_keep_eq (by simp only [vsAll, binA, binLitA, intA, aggA, aggV, boolA, nilA2, isConst, unA, loadA, loadRow, partA, partOk, fieldAddrA, indexAddrA, indexA, fieldA, extractA, lenA, nilCheckA, boxA, boxZ, cellA, cellsA, fillA, okParts, buildSliceA, buildMutA, makeSliceA, partIdx, elemsA, lensA, ifaceA, convA, mmA, pickA, okAll, stAll, opsA, partsA, partsOk, opA, allocA, boxMutA, newCells, okCells, storeObj, appendA, guardV, taA, nM, mapUpA, lookA, sliceA, sliceS, boundsA, opO, okO, copyA, dstOk, nilA, quietOk, nilSliceOp, deferV, panA, resA, argFr, retA.eq_1, retA.eq_2, Nat.reduceAdd, Nat.reduceSub, Nat.reduceMul, Nat.reduceLT, Nat.reduceLeDiff, Nat.reduceEqDiff, Nat.reduceBEq, Int.reduceAdd, Int.reduceSub, Int.reduceMul, Int.reduceNeg, Int.reduceLE, Int.reduceLT, Int.reduceEq, Int.reduceNe, Int.reduceToNat, ↓reduceIte, reduceCtorEq, implies_true, forall_const, eq_self, ne_eq, wtAll, Tryd.ntmps11, Tryd.results11, hh_i11, hh_ih, hh_is]) ?_))) (HSub.set (HSub.set (HSub.set (HSub.refl H) leH) leS) (.refl _))
      · simp only [vsAll, loadA, loadRow, partA, partOk, fieldAddrA, cellA, cellsA, okParts, buildMutA, partIdx, elemsA, lensA, partsA, partsOk, opA, newCells, okCells, storeObj, appendA, dstOk, Nat.reduceAdd, Nat.reduceMul, Nat.reduceLT, Nat.reduceLeDiff, Nat.reduceEqDiff, Nat.reduceBEq, ↓reduceIte, eq_self, wtAll]
        intro is hh_is; (try simp only [ite_none] at hh_is); intro ih hh_ih; (try simp only [ite_none] at hh_ih)
        simp only [vsAll, Nat.reduceLT, ↓reduceIte, eq_self, hh_is, hh_ih]
        refine ⟨okH, by ((try clear hh_i11); (try clear hh_is); (try clear hh_ih); omega), by ((try clear hh_i11); (try clear hh_is); (try clear hh_ih); omega), okS', by ((try clear hh_i11); (try clear hh_is); (try clear hh_ih); omega), by ((try clear hh_i11); (try clear hh_is); (try clear hh_ih); omega), ?_⟩
        have q1 : H is = none ∧ ¬ is = i11 := ⟨hh_is.2, hh_is.1.1⟩
        have q2 : H ih = none ∧ ¬ ih = i11 ∧ ¬ ih = is := by simp_all
        refine cutG_of (i11, ih, is) ⟨⟨hh_i11, q2.1, q1.1, fun e => q2.2.1 e.symm, fun e => q1.2 e.symm, q2.2.2⟩, k, hN0⟩ (by simp only [vsAll, argFr, Nat.reduceEqDiff, ↓reduceIte, eq_self]) rfl ?_
        simp only []
        refine HSub.trans (B := ((H.set ih (.row 2 s.hs.length (appF 0 s.hs.length (fun _ => []) (spF s.hs)))).set is (.row 3 s.sh.length (appF 0 s.sh.length (fun _ => []) (shF s.sh)))).set i11 (.box 2 1 fun _ => [.sl ih 2 s.hs.length, .sl is 3 s.sh.length])) (by (repeat (first | exact HSub_rfl | refine HSub_put_eq (by simp only [vsAll, ↓reduceIte, eq_self, hh_is, hh_ih]) ?_ | refine HSub_drop2 (by simp only [eq_self, hh_i11, hh_is, hh_ih]) ?_ | refine HSub_keep_eq (by simp only [vsAll, binA, binLitA, intA, aggA, aggV, boolA, nilA2, isConst, unA, loadA, loadRow, partA, partOk, fieldAddrA, indexAddrA, indexA, fieldA, extractA, lenA, nilCheckA, boxA, boxZ, cellA, cellsA, fillA, okParts, buildSliceA, buildMutA, makeSliceA, partIdx, elemsA, lensA, ifaceA, convA, mmA, pickA, okAll, stAll, opsA, partsA, partsOk, opA, allocA, boxMutA, newCells, okCells, storeObj, appendA, guardV, taA, nM, mapUpA, lookA, sliceA, sliceS, boundsA, opO, okO, copyA, dstOk, nilA, quietOk, nilSliceOp, deferV, panA, resA, argFr, retA.eq_1, retA.eq_2, Nat.reduceAdd, Nat.reduceSub, Nat.reduceMul, Nat.reduceLT, Nat.reduceLeDiff, Nat.reduceEqDiff, Nat.reduceBEq, Int.reduceAdd, Int.reduceSub, Int.reduceMul, Int.reduceNeg, Int.reduceLE, Int.reduceLT, Int.reduceEq, Int.reduceNe, Int.reduceToNat, ↓reduceIte, reduceCtorEq, implies_true, forall_const, eq_self, ne_eq, wtAll, Tryd.ntmps11, Tryd.results11, hh_i11, hh_is, hh_ih]) ?_))) (HSub.set (HSub.set (HSub.set (HSub.refl H) leH) leS) (.refl _))
  · obtain ⟨i11, ih, is⟩ := y
    obtain ⟨⟨h1, h2, h3, n12, n13, n23⟩, k, hN0⟩ := hy
    simp only [] at h1 h2 h3 n12 n13 n23
    have m12 : ¬ ih = i11 := fun e => n12 e.symm
    have m13 : ¬ is = i11 := fun e => n13 e.symm
    have m23 : ¬ is = ih := fun e => n23 e.symm
    skip
    have kn := k.near
    have nS := k.nS
    have nH := k.nH
    refine wps_cutG2 (m := fun _ => false) (σ := Nat × Sl) (fun z => z.1 < s.sh.length ∧ Ok z.2 ∧ More s z.2 u u)
      (fun z => [(1, boo u), (2, .rsl N 1 (byF b)), (5, .rptr 1 2 (fun _ => s.cs) 0 0), (11, .ref i11 0 2 0 0), (12, i64 z.1)])
      (fun z => H.set i11 (.box 2 1 fun _ => z.2.cs)) (fun _ => []) ?_ fun z hz => ?_
    · simp only [vsAll, binA, binLitA, intA, loadA, loadRow, partA, partOk, fieldAddrA, lenA, convA, pickA, opA, guardV, dstOk, nilSliceOp, Nat.reduceLT, Nat.reduceEqDiff, Int.reduceEq, ↓reduceIte, implies_true, eq_self, ne_eq, wtAll, Tryd.ntmps11]
      have hi0 : 0 ≤ W.tmod (s.sh.length : Int) := Int.tmod_nonneg _ (by ((try clear h1); (try clear h2); (try clear h3); (try clear n12); (try clear n13); (try clear n23); (try clear m12); (try clear m13); (try clear m23); omega))
      have hi1 : W.tmod (s.sh.length : Int) < s.sh.length := Int.tmod_lt_of_pos _ (by ((try clear h1); (try clear h2); (try clear h3); (try clear n12); (try clear n13); (try clear n23); (try clear m12); (try clear m13); (try clear m23); omega))
      obtain ⟨i, hi⟩ : ∃ i : Nat, W.tmod (s.sh.length : Int) = (i : Int) := ⟨(W.tmod (s.sh.length : Int)).toNat, by ((try clear h1); (try clear h2); (try clear h3); (try clear n12); (try clear n13); (try clear n23); (try clear m12); (try clear m13); (try clear m23); omega)⟩
      rw [hi] at hi0 hi1 ⊢
      have his : i < s.sh.length := by ((try clear h1); (try clear h2); (try clear h3); (try clear n12); (try clear n13); (try clear n23); (try clear m12); (try clear m13); (try clear m23); omega)
      have hks := k.s i his
      unfold okS at hks
      have ht0 : 0 ≤ T.tdiv 3 := Int.tdiv_nonneg hT.1 (by ((try clear h1); (try clear h2); (try clear h3); (try clear n12); (try clear n13); (try clear n23); (try clear m12); (try clear m13); (try clear m23); omega))
      have ht1 : T.tdiv 3 ≤ T := Int.tdiv_le_self _ hT.1
      have hn0 : 0 ≤ (T.tdiv 3).tmod 4 := Int.tmod_nonneg _ (by ((try clear h1); (try clear h2); (try clear h3); (try clear n12); (try clear n13); (try clear n23); (try clear m12); (try clear m13); (try clear m23); omega))
      have hn1 : (T.tdiv 3).tmod 4 < 4 := Int.tmod_lt_of_pos _ (by ((try clear h1); (try clear h2); (try clear h3); (try clear n12); (try clear n13); (try clear n23); (try clear m12); (try clear m13); (try clear m23); omega))
      generalize T.tdiv 3 = t3 at ht0 ht1 hn0 hn1 ⊢
      generalize t3.tmod 4 = n at hn0 hn1 ⊢
      refine ⟨by simp only [InR_i64]; ((try clear h1); (try clear h2); (try clear h3); (try clear n12); (try clear n13); (try clear n23); (try clear m12); (try clear m13); (try clear m23); omega), by ((try clear h1); (try clear h2); (try clear h3); (try clear n12); (try clear n13); (try clear n23); (try clear m12); (try clear m13); (try clear m23); omega), by simp only [InR_i64]; ((try clear h1); (try clear h2); (try clear h3); (try clear n12); (try clear n13); (try clear n23); (try clear m12); (try clear m13); (try clear m23); omega), by simp only [InR_i64]; ((try clear h1); (try clear h2); (try clear h3); (try clear n12); (try clear n13); (try clear n23); (try clear m12); (try clear m13); (try clear m23); omega), by simp only [InR_i64]; ((try clear h1); (try clear h2); (try clear h3); (try clear n12); (try clear n13); (try clear n23); (try clear m12); (try clear m13); (try clear m23); omega), condV (fun hc => ?_) (fun hc => ?_)⟩
      · rw [Bool.and_eq_true, decide_eq_true_eq, decide_eq_true_eq] at hc
        have hH0 : 0 < s.hs.length := by ((try clear h1); (try clear h2); (try clear h3); (try clear n12); (try clear n13); (try clear n23); (try clear m12); (try clear m13); (try clear m23); omega)
        simp only [vsAll]
        refine vs_draw2 [0, 0, 0, 0, 0, 0, 0, 0, 0, 0] [] [0, 1, 2, 3, 4, 5, 6, 7, 8, 9] (by decide +kernel) ?_
        have hj0 : 0 ≤ W.tmod (s.hs.length : Int) := Int.tmod_nonneg _ (by ((try clear h1); (try clear h2); (try clear h3); (try clear n12); (try clear n13); (try clear n23); (try clear m12); (try clear m13); (try clear m23); omega))
        have hj1 : W.tmod (s.hs.length : Int) < s.hs.length := Int.tmod_lt_of_pos _ (by ((try clear h1); (try clear h2); (try clear h3); (try clear n12); (try clear n13); (try clear n23); (try clear m12); (try clear m13); (try clear m23); omega))
        obtain ⟨j, hj⟩ : ∃ j : Nat, W.tmod (s.hs.length : Int) = (j : Int) := ⟨(W.tmod (s.hs.length : Int)).toNat, by ((try clear h1); (try clear h2); (try clear h3); (try clear n12); (try clear n13); (try clear n23); (try clear m12); (try clear m13); (try clear m23); omega)⟩
        have hjs : j < s.hs.length := by ((try clear h1); (try clear h2); (try clear h3); (try clear n12); (try clear n13); (try clear n23); (try clear m12); (try clear m13); (try clear m23); omega)
        have hkh := k.h j hjs
        unfold okH at hkh
        simp only [vsAll, binA, binLitA, intA, loadA, loadRow, partA, partOk, fieldAddrA, indexAddrA, lenA, nilCheckA, convA, mmA, okAll, stAll, opsA, opA, dstOk, nilSliceOp, Nat.reduceLT, Nat.reduceEqDiff, ↓reduceIte, eq_self, ne_eq, wtAll, n23, m12, hj, spF_at]
        refine ⟨by simp only [InR_i64]; ((try clear h1); (try clear h2); (try clear h3); (try clear n12); (try clear n13); (try clear n23); (try clear m12); (try clear m13); (try clear m23); omega), by ((try clear h1); (try clear h2); (try clear h3); (try clear n12); (try clear n13); (try clear n23); (try clear m12); (try clear m13); (try clear m23); omega), ⟨by ((try clear h1); (try clear h2); (try clear h3); (try clear n12); (try clear n13); (try clear n23); (try clear m12); (try clear m13); (try clear m23); omega), by ((try clear h1); (try clear h2); (try clear h3); (try clear n12); (try clear n13); (try clear n23); (try clear m12); (try clear m13); (try clear m23); omega)⟩, by ((try clear h1); (try clear h2); (try clear h3); (try clear n12); (try clear n13); (try clear n23); (try clear m12); (try clear m13); (try clear m23); omega), by simp only [InR_i64]; ((try clear h1); (try clear h2); (try clear h3); (try clear n12); (try clear n13); (try clear n23); (try clear m12); (try clear m13); (try clear m23); omega), ?_⟩
        have hm0 : 0 ≤ min (1 + n) (50 - (s.hs.getD j (0, 0)).2) := by ((try clear h1); (try clear h2); (try clear h3); (try clear n12); (try clear n13); (try clear n23); (try clear m12); (try clear m13); (try clear m23); omega)
        have hm1 : min (1 + n) (50 - (s.hs.getD j (0, 0)).2) ≤ 50 - (s.hs.getD j (0, 0)).2 := Int.min_le_right _ _
        generalize min (1 + n) (50 - (s.hs.getD j (0, 0)).2) = m at hm0 hm1 ⊢
        refine vs_draw2 [0, 0, 0, 0, 0, 0, 0, 0, 0, 0, 0, 0, 0, 0, 0, 0, 1, 2, 2, 3] [([0, 1, 2, 3, 4, 5, 6, 7, 8, 9, 10, 11, 12, 13, 14, 15], [], 16), ([17, 18], [], 19)] [] (by decide +kernel) ?_
        simp only [vsAll, binA, binLitA, intA, loadA, loadRow, partA, partOk, fieldAddrA, nilCheckA, cellA, cellsA, opA, newCells, okCells, storeObj, dstOk, Nat.reduceAdd, Nat.reduceLT, Nat.reduceLeDiff, Nat.reduceEqDiff, ↓reduceIte, eq_self, wtAll, n23, m12, spF_at]
        obtain ⟨ox, mx⟩ := mvH_ok k hjs hm0 hm1
        refine ⟨hjs, by simp only [InR_i64]; ((try clear h1); (try clear h2); (try clear h3); (try clear n12); (try clear n13); (try clear n23); (try clear m12); (try clear m13); (try clear m23); omega), hjs, by simp only [InR_i64]; ((try clear h1); (try clear h2); (try clear h3); (try clear n12); (try clear n13); (try clear n23); (try clear m12); (try clear m13); (try clear m23); omega), hjs, hjs, cut_more (mvH s j m) i11 ih is h2 h3 n12 n13 n23 ?_ (cutG_of (i, mvH s j m) ⟨his, ox, mx u⟩ (by simp only [vsAll, Nat.reduceEqDiff, ↓reduceIte, eq_self]) rfl HSub_rfl)⟩
        have eu : updF s.hs.length j (spF s.hs) [i64 ((s.hs.getD j (0, 0)).1 + m), i64 (s.hs.getD j (0, 0)).2] j = [i64 ((s.hs.getD j (0, 0)).1 + m), i64 (s.hs.getD j (0, 0)).2] := by rw [upd_at hjs j hjs, if_pos rfl]
        rw [eu, show (mvH s j m).hs.length = s.hs.length from List.length_set]
        have hle := row_setG2 (fun x : Int × Int => [i64 x.1, i64 x.2]) (0, 0) s.hs 2 j ((s.hs.getD j (0, 0)).1 + m, (s.hs.getD j (0, 0)).2 + m) [i64 ((s.hs.getD j (0, 0)).1 + m), i64 ((s.hs.getD j (0, 0)).2 + m)] [i64 ((s.hs.getD j (0, 0)).1 + m), i64 (s.hs.getD j (0, 0)).2] rfl hjs
        generalize hg : updF s.hs.length j (updF s.hs.length j (spF s.hs) [i64 ((s.hs.getD j (0, 0)).1 + m), i64 (s.hs.getD j (0, 0)).2]) (List.take 1 [i64 ((s.hs.getD j (0, 0)).1 + m), i64 (s.hs.getD j (0, 0)).2] ++ [i64 ((s.hs.getD j (0, 0)).2 + m)] ++ List.drop 2 [i64 ((s.hs.getD j (0, 0)).1 + m), i64 (s.hs.getD j (0, 0)).2]) = g
        have hle' : Obj.Le (.row 2 s.hs.length g) (.row 2 s.hs.length (spF (mvH s j m).hs)) := by rw [← hg]; exact hle
        refine HSub.trans (B := ((H.set ih (.row 2 s.hs.length g)).set is (.row 3 s.sh.length (shF s.sh))).set i11 (.box 2 1 fun _ => [.sl ih 2 s.hs.length, .sl is 3 s.sh.length])) (by (repeat (first | exact HSub_rfl | refine HSub_put_eq (by simp only [vsAll, ↓reduceIte, eq_self, n12, m13, m23]) ?_ | refine HSub_drop2 (by simp only [eq_self, h1, h2, h3]) ?_ | refine HSub_keep_eq (by simp only [vsAll, binA, binLitA, intA, aggA, aggV, boolA, nilA2, isConst, unA, loadA, loadRow, partA, partOk, fieldAddrA, indexAddrA, indexA, fieldA, extractA, lenA, nilCheckA, boxA, boxZ, cellA, cellsA, fillA, okParts, buildSliceA, buildMutA, makeSliceA, partIdx, elemsA, lensA, ifaceA, convA, mmA, pickA, okAll, stAll, opsA, partsA, partsOk, opA, allocA, boxMutA, newCells, okCells, storeObj, appendA, guardV, taA, nM, mapUpA, lookA, sliceA, sliceS, boundsA, opO, okO, copyA, dstOk, nilA, quietOk, nilSliceOp, deferV, panA, resA, argFr, retA.eq_1, retA.eq_2, Nat.reduceAdd, Nat.reduceSub, Nat.reduceMul, Nat.reduceLT, Nat.reduceLeDiff, Nat.reduceEqDiff, Nat.reduceBEq, Int.reduceAdd, Int.reduceSub, Int.reduceMul, Int.reduceNeg, Int.reduceLE, Int.reduceLT, Int.reduceEq, Int.reduceNe, Int.reduceToNat, ↓reduceIte, reduceCtorEq, implies_true, forall_const, eq_self, ne_eq, wtAll, Tryd.ntmps11, Tryd.results11, h1, h2, h3, n12, n13, n23, m12, m13, m23]) ?_))) (HSub.set (HSub.set (HSub.set (HSub.refl H) hle') (.refl _)) (.refl _))
      · simp only [vsAll, binA, binLitA, intA, opA, dstOk, nilSliceOp, Nat.reduceLT, Nat.reduceEqDiff, Int.reduceEq, ↓reduceIte, eq_self, ne_eq]
        refine condV (fun hc2 => ?_) (fun hc2 => ?_)
        · refine vs_draw2 [0, 0, 0, 0, 0, 0, 0, 0, 0, 0, 0, 0, 0, 0, 1] [([0, 1, 2, 3, 4, 5, 6, 7, 8, 9, 10, 11, 12, 13], [], 14)] [] (by decide +kernel) ?_
          simp only [vsAll, binA, binLitA, intA, loadA, loadRow, partA, partOk, fieldAddrA, indexAddrA, cellA, cellsA, mmA, okAll, stAll, opsA, opA, newCells, okCells, storeObj, dstOk, Nat.reduceAdd, Nat.reduceLT, Nat.reduceLeDiff, Nat.reduceEqDiff, ↓reduceIte, eq_self, wtAll, m13, shF_at]
          refine ⟨⟨by ((try clear h1); (try clear h2); (try clear h3); (try clear n12); (try clear n13); (try clear n23); (try clear m12); (try clear m13); (try clear m23); omega), by ((try clear h1); (try clear h2); (try clear h3); (try clear n12); (try clear n13); (try clear n23); (try clear m12); (try clear m13); (try clear m23); omega)⟩, his, by simp only [InR_i64]; ((try clear h1); (try clear h2); (try clear h3); (try clear n12); (try clear n13); (try clear n23); (try clear m12); (try clear m13); (try clear m23); omega), ⟨by ((try clear h1); (try clear h2); (try clear h3); (try clear n12); (try clear n13); (try clear n23); (try clear m12); (try clear m13); (try clear m23); omega), by ((try clear h1); (try clear h2); (try clear h3); (try clear n12); (try clear n13); (try clear n23); (try clear m12); (try clear m13); (try clear m23); omega)⟩, his, ?_⟩
          obtain ⟨ox, mx⟩ := mvS_ok (x := ⟨(s.sh.getD i sh0).fr, max 0 ((s.sh.getD i sh0).nd - (1 + n)), (s.sh.getD i sh0).td⟩) k his (by unfold okS; simp only []; ((try clear h1); (try clear h2); (try clear h3); (try clear n12); (try clear n13); (try clear n23); (try clear m12); (try clear m13); (try clear m23); omega)) (by simp only []; ((try clear h1); (try clear h2); (try clear h3); (try clear n12); (try clear n13); (try clear n23); (try clear m12); (try clear m13); (try clear m23); omega)) (by simp only []; ((try clear h1); (try clear h2); (try clear h3); (try clear n12); (try clear n13); (try clear n23); (try clear m12); (try clear m13); (try clear m23); omega)) rfl
          refine cut_more (mvS s i ⟨(s.sh.getD i sh0).fr, max 0 ((s.sh.getD i sh0).nd - (1 + n)), (s.sh.getD i sh0).td⟩) i11 ih is h2 h3 n12 n13 n23 ?_ (cutG_of (i, mvS s i ⟨(s.sh.getD i sh0).fr, max 0 ((s.sh.getD i sh0).nd - (1 + n)), (s.sh.getD i sh0).td⟩) ⟨his, ox, mx u⟩ (by simp only [vsAll, Nat.reduceEqDiff, ↓reduceIte, eq_self]) rfl HSub_rfl)
          have hle : Obj.Le (.row 3 s.sh.length (updF s.sh.length i (shF s.sh) [i64 (s.sh.getD i sh0).fr, i64 (max 0 ((s.sh.getD i sh0).nd - (1 + n))), i64 (s.sh.getD i sh0).td])) (.row 3 s.sh.length (shF (mvS s i ⟨(s.sh.getD i sh0).fr, max 0 ((s.sh.getD i sh0).nd - (1 + n)), (s.sh.getD i sh0).td⟩).sh)) := row_setG (fun x : Sh => x.cs) sh0 s.sh 3 i (⟨(s.sh.getD i sh0).fr, max 0 ((s.sh.getD i sh0).nd - (1 + n)), (s.sh.getD i sh0).td⟩ : Sh) _ rfl his
          rw [show (mvS s i ⟨(s.sh.getD i sh0).fr, max 0 ((s.sh.getD i sh0).nd - (1 + n)), (s.sh.getD i sh0).td⟩).sh.length = s.sh.length from List.length_set]
          refine HSub.trans (B := ((H.set ih (.row 2 s.hs.length (spF s.hs))).set is _).set i11 (.box 2 1 fun _ => [.sl ih 2 s.hs.length, .sl is 3 s.sh.length])) (by (repeat (first | exact HSub_rfl | refine HSub_put_eq (by simp only [vsAll, ↓reduceIte, eq_self, n13, n23, m12]) ?_ | refine HSub_drop2 (by simp only [eq_self, h1, h2, h3]) ?_ | refine HSub_keep_eq (by simp only [vsAll, binA, binLitA, intA, aggA, aggV, boolA, nilA2, isConst, unA, loadA, loadRow, partA, partOk, fieldAddrA, indexAddrA, indexA, fieldA, extractA, lenA, nilCheckA, boxA, boxZ, cellA, cellsA, fillA, okParts, buildSliceA, buildMutA, makeSliceA, partIdx, elemsA, lensA, ifaceA, convA, mmA, pickA, okAll, stAll, opsA, partsA, partsOk, opA, allocA, boxMutA, newCells, okCells, storeObj, appendA, guardV, taA, nM, mapUpA, lookA, sliceA, sliceS, boundsA, opO, okO, copyA, dstOk, nilA, quietOk, nilSliceOp, deferV, panA, resA, argFr, retA.eq_1, retA.eq_2, Nat.reduceAdd, Nat.reduceSub, Nat.reduceMul, Nat.reduceLT, Nat.reduceLeDiff, Nat.reduceEqDiff, Nat.reduceBEq, Int.reduceAdd, Int.reduceSub, Int.reduceMul, Int.reduceNeg, Int.reduceLE, Int.reduceLT, Int.reduceEq, Int.reduceNe, Int.reduceToNat, ↓reduceIte, reduceCtorEq, implies_true, forall_const, eq_self, ne_eq, wtAll, Tryd.ntmps11, Tryd.results11, h1, h2, h3, n12, n13, n23, m12, m13, m23]) ?_))) (HSub.set (HSub.set (HSub.set (HSub.refl H) (.refl _)) hle) (.refl _))
        · refine vs_draw2 [0, 0, 0, 0, 0, 0, 0, 0, 0, 0, 0, 0, 0, 0, 1] [([0, 1, 2, 3, 4, 5, 6, 7, 8, 9, 10, 11, 12, 13], [], 14)] [] (by decide +kernel) ?_
          simp only [vsAll, binA, binLitA, intA, loadA, loadRow, partA, partOk, fieldAddrA, indexAddrA, cellA, cellsA, mmA, okAll, stAll, opsA, opA, newCells, okCells, storeObj, dstOk, Nat.reduceLT, Nat.reduceLeDiff, Nat.reduceEqDiff, ↓reduceIte, eq_self, wtAll, m13, shF_at]
          refine ⟨⟨by ((try clear h1); (try clear h2); (try clear h3); (try clear n12); (try clear n13); (try clear n23); (try clear m12); (try clear m13); (try clear m23); omega), by ((try clear h1); (try clear h2); (try clear h3); (try clear n12); (try clear n13); (try clear n23); (try clear m12); (try clear m13); (try clear m23); omega)⟩, his, by simp only [InR_i64]; ((try clear h1); (try clear h2); (try clear h3); (try clear n12); (try clear n13); (try clear n23); (try clear m12); (try clear m13); (try clear m23); omega), ⟨by ((try clear h1); (try clear h2); (try clear h3); (try clear n12); (try clear n13); (try clear n23); (try clear m12); (try clear m13); (try clear m23); omega), by ((try clear h1); (try clear h2); (try clear h3); (try clear n12); (try clear n13); (try clear n23); (try clear m12); (try clear m13); (try clear m23); omega)⟩, his, ?_⟩
          obtain ⟨ox, mx⟩ := mvS_ok (x := ⟨max 0 ((s.sh.getD i sh0).fr - (1 + n)), (s.sh.getD i sh0).nd, (s.sh.getD i sh0).td⟩) k his (by unfold okS; simp only []; ((try clear h1); (try clear h2); (try clear h3); (try clear n12); (try clear n13); (try clear n23); (try clear m12); (try clear m13); (try clear m23); omega)) (by simp only []; ((try clear h1); (try clear h2); (try clear h3); (try clear n12); (try clear n13); (try clear n23); (try clear m12); (try clear m13); (try clear m23); omega)) (by simp only []; ((try clear h1); (try clear h2); (try clear h3); (try clear n12); (try clear n13); (try clear n23); (try clear m12); (try clear m13); (try clear m23); omega)) rfl
          refine cut_more (mvS s i ⟨max 0 ((s.sh.getD i sh0).fr - (1 + n)), (s.sh.getD i sh0).nd, (s.sh.getD i sh0).td⟩) i11 ih is h2 h3 n12 n13 n23 ?_ (cutG_of (i, mvS s i ⟨max 0 ((s.sh.getD i sh0).fr - (1 + n)), (s.sh.getD i sh0).nd, (s.sh.getD i sh0).td⟩) ⟨his, ox, mx u⟩ (by simp only [vsAll, Nat.reduceEqDiff, ↓reduceIte, eq_self]) rfl HSub_rfl)
          have hle : Obj.Le (.row 3 s.sh.length (updF s.sh.length i (shF s.sh) [i64 (max 0 ((s.sh.getD i sh0).fr - (1 + n))), i64 (s.sh.getD i sh0).nd, i64 (s.sh.getD i sh0).td])) (.row 3 s.sh.length (shF (mvS s i ⟨max 0 ((s.sh.getD i sh0).fr - (1 + n)), (s.sh.getD i sh0).nd, (s.sh.getD i sh0).td⟩).sh)) := row_setG (fun x : Sh => x.cs) sh0 s.sh 3 i (⟨max 0 ((s.sh.getD i sh0).fr - (1 + n)), (s.sh.getD i sh0).nd, (s.sh.getD i sh0).td⟩ : Sh) _ rfl his
          rw [show (mvS s i ⟨max 0 ((s.sh.getD i sh0).fr - (1 + n)), (s.sh.getD i sh0).nd, (s.sh.getD i sh0).td⟩).sh.length = s.sh.length from List.length_set]
          refine HSub.trans (B := ((H.set ih (.row 2 s.hs.length (spF s.hs))).set is _).set i11 (.box 2 1 fun _ => [.sl ih 2 s.hs.length, .sl is 3 s.sh.length])) (by (repeat (first | exact HSub_rfl | refine HSub_put_eq (by simp only [vsAll, ↓reduceIte, eq_self, n13, n23, m12]) ?_ | refine HSub_drop2 (by simp only [eq_self, h1, h2, h3]) ?_ | refine HSub_keep_eq (by simp only [vsAll, binA, binLitA, intA, aggA, aggV, boolA, nilA2, isConst, unA, loadA, loadRow, partA, partOk, fieldAddrA, indexAddrA, indexA, fieldA, extractA, lenA, nilCheckA, boxA, boxZ, cellA, cellsA, fillA, okParts, buildSliceA, buildMutA, makeSliceA, partIdx, elemsA, lensA, ifaceA, convA, mmA, pickA, okAll, stAll, opsA, partsA, partsOk, opA, allocA, boxMutA, newCells, okCells, storeObj, appendA, guardV, taA, nM, mapUpA, lookA, sliceA, sliceS, boundsA, opO, okO, copyA, dstOk, nilA, quietOk, nilSliceOp, deferV, panA, resA, argFr, retA.eq_1, retA.eq_2, Nat.reduceAdd, Nat.reduceSub, Nat.reduceMul, Nat.reduceLT, Nat.reduceLeDiff, Nat.reduceEqDiff, Nat.reduceBEq, Int.reduceAdd, Int.reduceSub, Int.reduceMul, Int.reduceNeg, Int.reduceLE, Int.reduceLT, Int.reduceEq, Int.reduceNe, Int.reduceToNat, ↓reduceIte, reduceCtorEq, implies_true, forall_const, eq_self, ne_eq, wtAll, Tryd.ntmps11, Tryd.results11, h1, h2, h3, n12, n13, n23, m12, m13, m23]) ?_))) (HSub.set (HSub.set (HSub.set (HSub.refl H) (.refl _)) hle) (.refl _))
    · obtain ⟨i, x⟩ := z
      obtain ⟨his, kx, mx⟩ := hz
      simp only [] at his kx mx
      have e0 : cntE s = 0 := (cntV_ok k u).1
      have ex : cntE x = 0 := (cntV_ok kx u).1
      have c0 := (cntV_ok k u).2
      have cx := (cntV_ok kx u).2
      have mc := mx.cnt k kx
      have md := mx.drop k kx
      have hp : 2 ^ s.sh.length ≤ 2 ^ 5 := Nat.pow_le_pow_right (by decide) nS
      have hr0 := (drop_least k u).lt
      have hrx := (drop_least kx u).lt
      rw [mx.n] at hrx
      refine wps_vs (m := fun _ => false) ?_
      simp only [vsAll, loadA, loadRow, partA, partOk, okAll, stAll, opsA, opA, dstOk, Nat.reduceLT, Nat.reduceEqDiff, ↓reduceIte, eq_self, wtAll, Tryd.ntmps11]
      refine made_call k hN hb fun l hl => ?_
      have hlp := hl.planB
      have hll := hl.len
      have hlx : planB x l = true := by
        have hx : PlanM x l := ⟨by rw [hll, mx.n], hl.b⟩
        exact hx.planB
      simp only [vsAll, loadA, loadRow, partA, partOk, okAll, stAll, opsA, opA, dstOk, nilSliceOp, Nat.reduceLT, Nat.reduceEqDiff, ↓reduceIte, eq_self, wtAll]
      refine callK_pure (right_tri s u l _ k hlp (by ((try clear h1); (try clear h2); (try clear h3); (try clear n12); (try clear n13); (try clear n23); (try clear m12); (try clear m13); (try clear m23); omega))) ?_
      simp only [vsAll, loadA, loadRow, partA, partOk, opA, guardV, dstOk, Nat.reduceLT, Nat.reduceEqDiff, ↓reduceIte, implies_true, eq_self, wtAll]
      refine gcall (boo (rtB x u l)) (fun hg => ⟨by simp only [vsAll, opA], by simp only [vsAll, okAll, opsA, opA, Nat.reduceEqDiff, ↓reduceIte, eq_self, hg], right_tri x u l _ kx hlx (by ((try clear h1); (try clear h2); (try clear h3); (try clear n12); (try clear n13); (try clear n23); (try clear m12); (try clear m13); (try clear m23); omega))⟩) ?_
      simp only [vsAll, unA, pickA, opA, guardV, dstOk, Nat.reduceLT, Nat.reduceEqDiff, ↓reduceIte, implies_true, eq_self]
      have g1 : (rtB s u l && !rtB x u l) = false := by
        cases h : rtB s u l with
        | false => rfl
        | true => rw [mx.rt h]; rfl
      simp only [vsAll, loadA, loadRow, partA, partOk, okAll, stAll, opsA, opA, dstOk, Nat.reduceLT, Nat.reduceEqDiff, ↓reduceIte, eq_self, wtAll, g1]
      refine callK_pure (pcount_tri s u _ kn) ?_
      simp only [vsAll, loadA, loadRow, partA, partOk, extractA, okAll, stAll, opsA, opA, dstOk, nilSliceOp, Nat.reduceAdd, Nat.reduceLT, Nat.reduceEqDiff, ↓reduceIte, eq_self, wtAll]
      refine callK_pure (pcount_tri x u _ kx.near) ?_
      simp only [vsAll, loadA, loadRow, partA, partOk, extractA, okAll, stAll, opsA, opA, dstOk, nilSliceOp, Nat.reduceAdd, Nat.reduceLT, Nat.reduceEqDiff, ↓reduceIte, eq_self, wtAll]
      refine callK_pure (pdrop_tri s u _ kn) ?_
      simp only [vsAll, loadA, loadRow, partA, partOk, extractA, okAll, stAll, opsA, opA, dstOk, nilSliceOp, Nat.reduceAdd, Nat.reduceLT, Nat.reduceEqDiff, ↓reduceIte, eq_self, wtAll]
      refine callK_pure (pdrop_tri x u _ kx.near) ?_
      have hsr := fun H => size_tri (dropV s u) H (by ((try clear h1); (try clear h2); (try clear h3); (try clear n12); (try clear n13); (try clear n23); (try clear m12); (try clear m13); (try clear m23); omega))
      have hsx := fun H => size_tri (dropV x u) H (by ((try clear h1); (try clear h2); (try clear h3); (try clear n12); (try clear n13); (try clear n23); (try clear m12); (try clear m13); (try clear m23); omega))
      rw [← c0, ← cx] at mc
      generalize pop (dropV s u) = ps at md hsr
      generalize pop (dropV x u) = px at md hsx
      generalize dropV s u = rs at hr0 hsr ⊢
      generalize dropV x u = rx at hrx hsx ⊢
      have d1 : decide ((cntV x u : Int) < (cntV s u : Int)) = false := decide_eq_false (by ((try clear h1); (try clear h2); (try clear h3); (try clear n12); (try clear n13); (try clear n23); (try clear m12); (try clear m13); (try clear m23); omega))
      have d2 : decide ((rs : Int) < 0) = false := decide_eq_false (by ((try clear h1); (try clear h2); (try clear h3); (try clear n12); (try clear n13); (try clear n23); (try clear m12); (try clear m13); (try clear m23); omega))
      have d3 : decide ((rx : Int) < 0) = false := decide_eq_false (by ((try clear h1); (try clear h2); (try clear h3); (try clear n12); (try clear n13); (try clear n23); (try clear m12); (try clear m13); (try clear m23); omega))
      have d4 : decide ((ps : Int) < (px : Int)) = false := decide_eq_false (by ((try clear h1); (try clear h2); (try clear h3); (try clear n12); (try clear n13); (try clear n23); (try clear m12); (try clear m13); (try clear m23); omega))
      simp only [vsAll, binA, binLitA, intA, extractA, pickA, opA, guardV, dstOk, nilSliceOp, Nat.reduceAdd, Nat.reduceLT, Nat.reduceEqDiff, ↓reduceIte, implies_true, eq_self, e0, ex, d1, d2, d3]
      refine gcall (i64 px) (fun _ => ⟨by simp only [vsAll, opA, Nat.reduceEqDiff, ↓reduceIte, eq_self], by simp only [vsAll, okAll, opsA, opA, ↓reduceIte, eq_self], hsx _⟩) ?_
      simp only [vsAll, opA, guardV, dstOk, Nat.reduceLT, Nat.reduceEqDiff, ↓reduceIte, eq_self]
      refine gcall (i64 ps) (fun _ => ⟨by simp only [vsAll, opA, Nat.reduceEqDiff, ↓reduceIte, eq_self], by simp only [vsAll, okAll, opsA, opA, ↓reduceIte, eq_self], hsr _⟩) ?_
      simp only [vsAll, binA, binLitA, intA, loadA, loadRow, partA, partOk, fieldAddrA, lenA, pickA, opA, guardV, dstOk, Nat.reduceLT, Nat.reduceEqDiff, ↓reduceIte, implies_true, eq_self, wtAll, d4]
      refine vs_loop (σ := Nat) (fun q => q ≤ s.sh.length) (fun q => [(1, boo u), (5, .rptr 1 2 (fun _ => s.cs) 0 0), (11, .ref i11 0 2 0 0), (12, i64 i), (232, i64 s.sh.length), (233, i64 q)]) (fun _ => H.set i11 (.box 2 1 fun _ => x.cs)) (fun q => s.sh.length - q) 0 (Nat.zero_le _) ?_ HSub_rfl fun q hq => ?_
      · simp only [vsAll, Nat.reduceEqDiff, ↓reduceIte, eq_self, Int.natCast_zero]
      · simp only [vsAll, binA, binLitA, intA, opA, dstOk, Nat.reduceLT, Nat.reduceEqDiff, ↓reduceIte, eq_self]
        refine condD (fun hd => ?_) (fun hd => ?_)
        · have hqs : q < s.sh.length := by ((try clear h1); (try clear h2); (try clear h3); (try clear n12); (try clear n13); (try clear n23); (try clear m12); (try clear m13); (try clear m23); omega)
          simp only [vsAll, loadA, loadRow, partA, partOk, okAll, stAll, opsA, opA, dstOk, nilSliceOp, Nat.reduceLT, Nat.reduceEqDiff, ↓reduceIte, eq_self, wtAll]
          refine callK_pure (wtides_tri s q u _ kn) ?_
          simp only [vsAll, loadA, loadRow, partA, partOk, extractA, okAll, stAll, opsA, opA, dstOk, nilSliceOp, Nat.reduceAdd, Nat.reduceLT, Nat.reduceEqDiff, ↓reduceIte, eq_self, wtAll]
          refine callK_pure (wtides_tri x q u _ kx.near) ?_
          have b1 := tideV_lt k u (q : Int)
          have b2 := tideV_lt kx u (q : Int)
          have t1 := andNot0 fun j h => mx.tide k kx hqs h
          rw [tideE_ok k hqs, tideE_ok kx (i := q) (by rw [mx.n]; exact hqs)]
          generalize tideV s u (q : Int) = v1 at b1 t1 ⊢
          generalize tideV x u (q : Int) = v2 at b2 t1 ⊢
          simp only [vsAll, binA, binLitA, intA, extractA, pickA, opA, guardV, dstOk, nilSliceOp, Nat.reduceAdd, Nat.reduceLT, Nat.reduceEqDiff, ↓reduceIte, implies_true, forall_const, eq_self, t1]
          refine ⟨⟨by ((try clear h1); (try clear h2); (try clear h3); (try clear n12); (try clear n13); (try clear n23); (try clear m12); (try clear m13); (try clear m23); omega), by ((try clear h1); (try clear h2); (try clear h3); (try clear n12); (try clear n13); (try clear n23); (try clear m12); (try clear m13); (try clear m23); omega), by simp only [InR_i64]; ((try clear h1); (try clear h2); (try clear h3); (try clear n12); (try clear n13); (try clear n23); (try clear m12); (try clear m13); (try clear m23); omega), by simp only [InR_i64]; ((try clear h1); (try clear h2); (try clear h3); (try clear n12); (try clear n13); (try clear n23); (try clear m12); (try clear m13); (try clear m23); omega)⟩, by simp only [InR_i64]; ((try clear h1); (try clear h2); (try clear h3); (try clear n12); (try clear n13); (try clear n23); (try clear m12); (try clear m13); (try clear m23); omega), loop_next (q + 1) (by ((try clear h1); (try clear h2); (try clear h3); (try clear n12); (try clear n13); (try clear n23); (try clear m12); (try clear m13); (try clear m23); omega)) (by ((try clear h1); (try clear h2); (try clear h3); (try clear n12); (try clear n13); (try clear n23); (try clear m12); (try clear m13); (try clear m23); omega)) ?_ HSub_rfl⟩
          simp only [vsAll, Nat.reduceEqDiff, ↓reduceIte, eq_self, Int.natCast_add, Int.natCast_one]
        · have eq : q = s.sh.length := by ((try clear h1); (try clear h2); (try clear h3); (try clear n12); (try clear n13); (try clear n23); (try clear m12); (try clear m13); (try clear m23); omega)
          subst eq
          have hpw : (1 : Int) * 2 ^ i = ((2 ^ i : Nat) : Int) := by rw [Int.one_mul]; simp
          have hpi : 2 ^ i ≤ 2 ^ 5 := Nat.pow_le_pow_right (by decide) (by ((try clear h1); (try clear h2); (try clear h3); (try clear n12); (try clear n13); (try clear n23); (try clear m12); (try clear m13); (try clear m23); omega))
          have hwb := without_best (u := u) k (2 ^ i)
          have kw := woS_ok k (2 ^ i)
          have hwt := fun H => rwithout_tri s (2 ^ i) H kn (by ((try clear h1); (try clear h2); (try clear h3); (try clear n12); (try clear n13); (try clear n23); (try clear m12); (try clear m13); (try clear m23); omega))
          generalize woS s (2 ^ i) = w at hwb kw hwt
          simp only [vsAll, ↓reduceIte, eq_self]
          refine vs_draw2 [0, 0, 0, 0, 1, 3] [([0, 1, 2, 3], [0, 3], 4), ([], [], 5)] [] (by decide +kernel) ?_
          simp only [vsAll, binA, binLitA, intA, loadA, loadRow, partA, partOk, opA, dstOk, Nat.reduceLT, Nat.reduceEqDiff, ↓reduceIte, eq_self, wtAll, hpw]
          generalize 2 ^ i = pi at hpi hwt ⊢
          refine ⟨⟨by ((try clear h1); (try clear h2); (try clear h3); (try clear n12); (try clear n13); (try clear n23); (try clear m12); (try clear m13); (try clear m23); omega), by ((try clear h1); (try clear h2); (try clear h3); (try clear n12); (try clear n13); (try clear n23); (try clear m12); (try clear m13); (try clear m23); omega), by simp only [InR_i64]; ((try clear h1); (try clear h2); (try clear h3); (try clear n12); (try clear n13); (try clear n23); (try clear m12); (try clear m13); (try clear m23); omega)⟩, qcall _ ⟨trivial, by simp only [vsAll, okAll, opsA, opA, Nat.reduceEqDiff, ↓reduceIte, eq_self], hwt _⟩ ?_⟩
          simp only [vsAll, loadA, loadRow, partA, partOk, cellA, cellsA, okAll, stAll, opsA, opA, allocA, newCells, okCells, storeObj, dstOk, Nat.reduceAdd, Nat.reduceLT, Nat.reduceEqDiff, ↓reduceIte, eq_self, wtAll]
          intro i30 hh_i30; (try simp only [ite_none] at hh_i30)
          refine ⟨rcall _ ⟨trivial, by simp only [vsAll, okAll, opsA, opA, Nat.reduceEqDiff, ↓reduceIte, eq_self], hwt _⟩ (by simp only [vsAll, ↓reduceIte, eq_self]), ?_⟩
          rw [Hp.set_set]
          refine callK_pure (pbest_tri s u _ kn) ?_
          have k1 := bestA_st (wm s) s u
          have k2 := bestA_k (wm s) s u
          generalize bestA (wm s) s u = a1 at k1 k2 ⊢
          simp only [vsAll, loadA, loadRow, partA, partOk, extractA, okAll, stAll, opsA, opA, dstOk, nilSliceOp, Nat.reduceAdd, Nat.reduceLT, Nat.reduceEqDiff, ↓reduceIte, eq_self, wtAll, k1, k2]
          refine callK_pure (pbest_tri w u _ kw.near) ?_
          have k3 := bestA_st (wm w) w u
          have k4 := bestA_k (wm w) w u
          generalize bestA (wm w) w u = a2 at k3 k4 ⊢
          simp only [vsAll, loadA, loadRow, partA, partOk, extractA, okAll, stAll, opsA, opA, dstOk, nilSliceOp, Nat.reduceAdd, Nat.reduceLT, Nat.reduceEqDiff, ↓reduceIte, eq_self, wtAll, k3, k4]
          refine callK_pure (ptotal_tri s u _ kn) ?_
          have k5 := bestA_st (ws s) s u
          have k6 := bestA_k (ws s) s u
          generalize bestA (ws s) s u = a3 at k5 k6 ⊢
          simp only [vsAll, loadA, loadRow, partA, partOk, extractA, okAll, stAll, opsA, opA, dstOk, nilSliceOp, Nat.reduceAdd, Nat.reduceLT, Nat.reduceEqDiff, ↓reduceIte, eq_self, wtAll, k5, k6]
          refine callK_pure (ptotal_tri w u _ kw.near) ?_
          have k7 := bestA_st (ws w) w u
          have k8 := bestA_k (ws w) w u
          generalize bestA (ws w) w u = a4 at k7 k8 ⊢
          by_cases he : rgtE s u = 0
          · obtain ⟨q1, q2, q3⟩ := hwb he
            have d5 : decide (bestV (wm w) w u ≤ bestV (wm s) s u) = true := decide_eq_true q2
            have d6 : decide (bestV (ws w) w u ≤ bestV (ws s) s u) = true := decide_eq_true q3
            rw [he, q1]
            simp only [vsAll, binA, binLitA, intA, extractA, pickA, opA, guardV, dstOk, nilSliceOp, Nat.reduceAdd, Nat.reduceLT, Nat.reduceEqDiff, ↓reduceIte, implies_true, eq_self, k7, k8, d5, d6]
            refine gcall (boo true) (fun hg => ⟨trivial, by simp only [okAll, opsA], alive_tri _⟩) ?_
            simp only [vsAll, pickA, opA, dstOk, nilSliceOp, resA, retA.eq_1, Nat.reduceLT, Nat.reduceEqDiff, ↓reduceIte, implies_true, eq_self, Tryd.results11]
            exact dropR_pure rfl (by (repeat (first | exact HSub_rfl | refine HSub_put_eq (by simp only [vsAll, binA, binLitA, intA, aggA, aggV, boolA, nilA2, isConst, unA, loadA, loadRow, partA, partOk, fieldAddrA, indexAddrA, indexA, fieldA, extractA, lenA, nilCheckA, boxA, boxZ, cellA, cellsA, fillA, okParts, buildSliceA, buildMutA, makeSliceA, partIdx, elemsA, lensA, ifaceA, convA, mmA, pickA, okAll, stAll, opsA, partsA, partsOk, opA, allocA, boxMutA, newCells, okCells, storeObj, appendA, guardV, taA, nM, mapUpA, lookA, sliceA, sliceS, boundsA, opO, okO, copyA, dstOk, nilA, quietOk, nilSliceOp, deferV, panA, resA, argFr, retA.eq_1, retA.eq_2, Nat.reduceAdd, Nat.reduceSub, Nat.reduceMul, Nat.reduceLT, Nat.reduceLeDiff, Nat.reduceEqDiff, Nat.reduceBEq, Int.reduceAdd, Int.reduceSub, Int.reduceMul, Int.reduceNeg, Int.reduceLE, Int.reduceLT, Int.reduceEq, Int.reduceNe, Int.reduceToNat, ↓reduceIte, reduceCtorEq, implies_true, forall_const, eq_self, ne_eq, wtAll, Tryd.ntmps11, Tryd.results11, h1, h2, h3, n12, n13, n23, m12, m13, m23, hh_i30]) ?_ | refine HSub_drop2 (by simp only [eq_self, h1, hh_i30]) ?_ | refine HSub_keep_eq (by simp only [vsAll, binA, binLitA, intA, aggA, aggV, boolA, nilA2, isConst, unA, loadA, loadRow, partA, partOk, fieldAddrA, indexAddrA, indexA, fieldA, extractA, lenA, nilCheckA, boxA, boxZ, cellA, cellsA, fillA, okParts, buildSliceA, buildMutA, makeSliceA, partIdx, elemsA, lensA, ifaceA, convA, mmA, pickA, okAll, stAll, opsA, partsA, partsOk, opA, allocA, boxMutA, newCells, okCells, storeObj, appendA, guardV, taA, nM, mapUpA, lookA, sliceA, sliceS, boundsA, opO, okO, copyA, dstOk, nilA, quietOk, nilSliceOp, deferV, panA, resA, argFr, retA.eq_1, retA.eq_2, Nat.reduceAdd, Nat.reduceSub, Nat.reduceMul, Nat.reduceLT, Nat.reduceLeDiff, Nat.reduceEqDiff, Nat.reduceBEq, Int.reduceAdd, Int.reduceSub, Int.reduceMul, Int.reduceNeg, Int.reduceLE, Int.reduceLT, Int.reduceEq, Int.reduceNe, Int.reduceToNat, ↓reduceIte, reduceCtorEq, implies_true, forall_const, eq_self, ne_eq, wtAll, Tryd.ntmps11, Tryd.results11, h1, h2, h3, n12, n13, n23, m12, m13, m23, hh_i30]) ?_)))
          · have d7 : decide (rgtE s u = 0) = false := decide_eq_false he
            simp only [vsAll, binA, binLitA, intA, extractA, pickA, opA, guardV, dstOk, nilSliceOp, Nat.reduceAdd, Nat.reduceLT, Nat.reduceEqDiff, ↓reduceIte, implies_true, eq_self, k7, k8, d7]
            refine gcall (boo true) (fun hg => ⟨trivial, by simp only [okAll, opsA], alive_tri _⟩) ?_
            simp only [vsAll, pickA, opA, dstOk, nilSliceOp, resA, retA.eq_1, Nat.reduceLT, Nat.reduceEqDiff, ↓reduceIte, implies_true, eq_self, Tryd.results11]
            exact dropR_pure rfl (by (repeat (first | exact HSub_rfl | refine HSub_put_eq (by simp only [vsAll, binA, binLitA, intA, aggA, aggV, boolA, nilA2, isConst, unA, loadA, loadRow, partA, partOk, fieldAddrA, indexAddrA, indexA, fieldA, extractA, lenA, nilCheckA, boxA, boxZ, cellA, cellsA, fillA, okParts, buildSliceA, buildMutA, makeSliceA, partIdx, elemsA, lensA, ifaceA, convA, mmA, pickA, okAll, stAll, opsA, partsA, partsOk, opA, allocA, boxMutA, newCells, okCells, storeObj, appendA, guardV, taA, nM, mapUpA, lookA, sliceA, sliceS, boundsA, opO, okO, copyA, dstOk, nilA, quietOk, nilSliceOp, deferV, panA, resA, argFr, retA.eq_1, retA.eq_2, Nat.reduceAdd, Nat.reduceSub, Nat.reduceMul, Nat.reduceLT, Nat.reduceLeDiff, Nat.reduceEqDiff, Nat.reduceBEq, Int.reduceAdd, Int.reduceSub, Int.reduceMul, Int.reduceNeg, Int.reduceLE, Int.reduceLT, Int.reduceEq, Int.reduceNe, Int.reduceToNat, ↓reduceIte, reduceCtorEq, implies_true, forall_const, eq_self, ne_eq, wtAll, Tryd.ntmps11, Tryd.results11, h1, h2, h3, n12, n13, n23, m12, m13, m23, hh_i30]) ?_ | refine HSub_drop2 (by simp only [eq_self, h1, hh_i30]) ?_ | refine HSub_keep_eq (by simp only [vsAll, binA, binLitA, intA, aggA, aggV, boolA, nilA2, isConst, unA, loadA, loadRow, partA, partOk, fieldAddrA, indexAddrA, indexA, fieldA, extractA, lenA, nilCheckA, boxA, boxZ, cellA, cellsA, fillA, okParts, buildSliceA, buildMutA, makeSliceA, partIdx, elemsA, lensA, ifaceA, convA, mmA, pickA, okAll, stAll, opsA, partsA, partsOk, opA, allocA, boxMutA, newCells, okCells, storeObj, appendA, guardV, taA, nM, mapUpA, lookA, sliceA, sliceS, boundsA, opO, okO, copyA, dstOk, nilA, quietOk, nilSliceOp, deferV, panA, resA, argFr, retA.eq_1, retA.eq_2, Nat.reduceAdd, Nat.reduceSub, Nat.reduceMul, Nat.reduceLT, Nat.reduceLeDiff, Nat.reduceEqDiff, Nat.reduceBEq, Int.reduceAdd, Int.reduceSub, Int.reduceMul, Int.reduceNeg, Int.reduceLE, Int.reduceLT, Int.reduceEq, Int.reduceNe, Int.reduceToNat, ↓reduceIte, reduceCtorEq, implies_true, forall_const, eq_self, ne_eq, wtAll, Tryd.ntmps11, Tryd.results11, h1, h2, h3, n12, n13, n23, m12, m13, m23, hh_i30]) ?_)))
theorem more_l (s : Sl) (u : Bool) (N : Nat) (b : Nat → Int) (W T : Int) (H : Hp) (h0 : s.hs.length < 2 ^ 63 ∧ s.sh.length < 2 ^ 63) (hb : N < 2 ^ 63 ∧ ∀ i, i < N → 0 ≤ b i ∧ b i ≤ 255) (hW : 0 ≤ W ∧ W ≤ 255) (hT : 0 ≤ T ∧ T ≤ 255) :
    PTri Tryd.prog (fnA 11) [s.av, boo u, .rsl N 1 (byF b), .lit (.int .u8 W), .lit (.int .u8 T)] H (boo true) := more_law s u N b W T H hb.1 hb.2 hW hT
end Go.Proofs.YtnmgegodkmgdeaaDoor
end
section
set_option linter.unusedVariables false
set_option linter.unusedSimpArgs false
set_option maxRecDepth 100000
namespace Go.Proofs.YtnmgegodkmgdeaaDoor
open Go.V Go.ChangeShapes Go.WideShapes Go.ChangeAt Go.RowKit
theorem slipMore_lifted (os : Os) (started : os.Started) (H : Type) (enc : TypeId × Value → H) :
    ReturnsInHanded {} Tryd.checked os 11 .any (fun w args => (Rows.slipMoreSpec.pre enc Tryd.prog Tryd.f11 [] false w args ∧ laidMetH Tryd.prog lSlip w) ∧ sizedMet enc Tryd.prog Tryd.f11 (OpenSpec.ofChange Rows.slipMoreSpec) false w args)
      (Rows.slipMoreSpec.post enc Tryd.prog Tryd.f11 false true false false) := by
  refine returnsInHanded_of_change_and (C := Tryd.checked) (X := fun w _ => laidMetH Tryd.prog lSlip w) (fun _ _ _ hh h => h.of_heap hh) Tryd.own started (by kernel_rfl) Tryd.func11
    (ChangeSpec.witness_at (enc := enc) (C := Tryd.checked) (os := os) (X := fun w _ => laidMetH Tryd.prog lSlip w) false (laidWorld os) #[.agg #[.slice none 0 0, .slice none 0 0], .bool false, .slice none 0 0, .int .u8 0, .int .u8 0] 8 rfl (by kernel_rfl) (by kernel_rfl) (by kernel_rfl) (by kernel_rfl) (by kernel_rfl) (laidWorld_met os _)) ?_
  intro W base args ds gs before hval hW hcnd _ hL _
  have hW' := hW
  obtain ⟨p, q, hA, hV, rfl, hfz, hnd⟩ := hW
  obtain ⟨rfl, rfl⟩ := trodVars_none hV
  rw [show Tryd.f11.params.toList = [25, 4, 42, 5, 5] from by kernel_rfl] at hA
  obtain ⟨v0, v1, v2, v3, v4, d0, d1, d2, d3, d4, p0, p1, p2, p3, p4, rfl, rfl, rfl, h0, h1, h2, h3, h4⟩ := trodAll_five hA
  have hval : ∀ (j : Nat) t v, Tryd.f11.params[j]? = some t → (#[v0, v1, v2, v3, v4] : Array Value)[j]? = some v → Value.okWide Tryd.prog W .any base t v := hval
  rw [show Tryd.f11.params = #[25, 4, 42, 5, 5] from by kernel_rfl] at hval
  obtain ⟨x0, b0, r0⟩ := slip_rel (hval 0 25 v0 rfl rfl) h0
  obtain ⟨x1, rfl, rfl, rfl⟩ := open_bool u4 (hval 1 4 v1 rfl rfl) h1
  obtain ⟨N2, x2, b2, r2⟩ := by_rel (hval 2 42 v2 rfl rfl) h2
  obtain ⟨x3, rfl, rfl, rfl, w3⟩ := open_int u5 (hval 3 5 v3 rfl rfl) h3
  obtain ⟨x4, rfl, rfl, rfl, w4⟩ := open_int u5 (hval 4 5 v4 rfl rfl) h4
  refine (law_calls (W := W) (args := #[v0, .bool x1, v2, .int .u8 x3, .int .u8 x4]) Tryd.func11 (by kernel_rfl) rfl (Tri.mono (more_l x0 x1 N2 x2 x3 x4 H0 b0 b2 (wf_u8 w3) (wf_u8 w4)) ?_) (giv_of_laid hL) ⟨rfl, fun k hk => match k, hk with | 0, _ => r0 | 1, _ => .lit _ | 2, _ => r2 | 3, _ => .lit _ | 4, _ => .lit _⟩).mono fun e W' he => ?_
  · rintro r H' ⟨rfl, _⟩; rfl
  · obtain ⟨rfl, hh, ho, hp⟩ := he
    exact ⟨_, rfl, law_post (d := 6) rfl (tb := 4) (by kernel_rfl) u4 (by decide +kernel) hW' rfl hh ho hp⟩

theorem slipMore_row : Rows.SlipMoreSaid :=
  OpenClaim.holds_of_wide 11 Tryd.f11 rfl rfl rfl rfl rfl rfl rfl ⟨rfl, rfl, rfl, rfl, rfl⟩ rfl rfl rfl rfl rfl (by kernel_rfl) Tryd.func11 (by kernel_rfl)
    (of_decide_eq_true (by kernel_rfl)) (by unfold Func.isWrapper; first | (rw [if_pos (by decide +kernel)]; kernel_rfl) | (rw [if_neg (by decide +kernel)]; exact ⟨rfl, rfl⟩))
    (fun os started H enc _ => slipMore_lifted os started H enc)

theorem slipMore_holds : Rows.SlipMoreCardSaid :=
  Claim7.holds_tied_plain_at .later [] [.data, .data] true (true, "35477dcbd51abce31e2037b7b22eab23991c623f17c820fe62b7e760d96395d7") true
    slipMore_row (fun _ h => by cases h) (by kernel_rfl) (fun _ h => by cases h) slipMore_row_tie rfl ⟨rfl, rfl⟩ (by kernel_rfl) rfl
    (fun f fn hf hfn => by
      obtain rfl : f = 11 := Option.some.inj ((show Tryd.prog.funcNamed Rows.slipMoreRow.func = some 11 by kernel_rfl).symm.trans hf) |>.symm
      obtain rfl : fn = Tryd.f11 := (Option.some.inj (Tryd.func11.symm.trans hfn)).symm
      refine ⟨by kernel_rfl, fun j t ht => ?_⟩
      have hall : ∀ t ∈ Tryd.f11.params.toList, Tryd.prog.wantsStandIn t = false := by
        rw [show Tryd.f11.params.toList = [25, 4, 42, 5, 5] from by kernel_rfl]
        intro t ht
        simp only [List.mem_cons, List.not_mem_nil, or_false] at ht
        rcases ht with rfl | rfl | rfl | rfl | rfl <;> kernel_rfl
      exact hall t (List.mem_of_getElem? (by rw [Array.getElem?_toList]; exact ht)))
    (by kernel_rfl)

end Go.Proofs.YtnmgegodkmgdeaaDoor
end
