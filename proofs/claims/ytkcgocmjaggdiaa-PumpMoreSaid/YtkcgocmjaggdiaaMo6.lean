/- WHAT IS PROVED: the given statement of this claim. Conditions: none beyond the given row. -/
import Derived.Test.YtkcgocmjaggdiaaMo5
section
set_option linter.unusedVariables false
set_option linter.unusedSimpArgs false
set_option maxHeartbeats 4000000
set_option maxRecDepth 100000
namespace Go.Proofs.Ytkcgocmjaggdiaa
open Go.V Wl
structure MoreA (H : Hp) (y : Nat × Nat × Nat) : Prop where
 h1 : H y.1 = none
 h2 : H y.2.1 = none
 h3 : H y.2.2 = none
 n12 : ¬ y.1 = y.2.1
 n13 : ¬ y.1 = y.2.2
 n23 : ¬ y.2.1 = y.2.2
abbrev mxC (x : Pu) (a b : Nat) : List AV := [.sl a 2 x.fl.length, i64 x.ca, .sl b 4 x.ws.length, flAV x.ho.n x.ho.fl, sdAV x.ho.m x.ho.sd]
theorem cut_more {σ : Type} {inv : σ → Prop} {fr : σ → List (Nat × AV)} {hp : σ → Hp} {dsf : σ → List AD} {Q : Post} {sF : Fr} {ds : List AD} {A H : Hp} (x : Pu) (i18 ih is : Nat) (h2 : H ih = none) (h3 : H is = none) (n12 : ¬ i18 = ih) (n13 : ¬ i18 = is) (n23 : ¬ ih = is)
 (hH : Go.V.HSub A (((H.set ih (.row 2 x.fl.length (spanF x.fl))).set is (.row 4 x.ws.length (wsF x.ws))).set i18 (.box 5 1 fun _ => mxC x ih is)))
 (h : CutG inv fr hp dsf Q .normal sF ds (H.set i18 (.box 5 1 fun _ => x.cs))) : CutG inv fr hp dsf Q .normal sF ds A := by
 refine cutG_ent (Ent.weak (s' := sF) (fun t => AV.Le.refl _) hH ?_)
 refine cutG_ent (Ent.freezeBox (s' := sF) (id := ih) (st := 2) (n := x.fl.length) (f := spanF x.fl) (j := i18) (st' := 5) (n' := 1) (g := fun _ => mxC x ih is) (g' := fun _ => [spansAV x.fl, i64 x.ca, .sl is 4 x.ws.length, flAV x.ho.n x.ho.fl, sdAV x.ho.m x.ho.sd]) ?_ ?_ (fun t => .rfl) (fun _ _ => rfl) (fun q c hq hc => ?_) ?_)
 ·rw [Hp.set_ne _ _ (fun e => n12 e.symm), Hp.set_ne _ _ n23, Hp.set_same]
 ·exact Hp.set_same _ _ _
 ·match c, hc with
  | 0, _ => exact .hit
  | 1, _ => exact .rfl
  | 2, _ => exact .rfl
  | 3, _ => exact .rfl
  | 4, _ => exact .rfl
 refine cutG_ent (Ent.freezeBox (s' := sF) (id := is) (st := 4) (n := x.ws.length) (f := wsF x.ws) (j := i18) (st' := 5) (n' := 1) (g := fun _ => [spansAV x.fl, i64 x.ca, .sl is 4 x.ws.length, flAV x.ho.n x.ho.fl, sdAV x.ho.m x.ho.sd]) (g' := fun _ => x.cs) ?_ ?_ (fun t => .rfl) (fun _ _ => rfl) (fun q c hq hc => ?_) ?_)
 ·rw [Hp.set_ne _ _ (fun e => n13 e.symm), Hp.del_ne _ (fun e => n23 e.symm), Hp.set_ne _ _ (fun e => n13 e.symm), Hp.set_same]
 ·exact Hp.set_same _ _ _
 ·match c, hc with
  | 0, _ => exact .rfl
  | 1, _ => exact .rfl
  | 2, _ => exact .hit
  | 3, _ => exact .rfl
  | 4, _ => exact .rfl
 refine cutG_ent (Ent.weak (s' := sF) (fun t => AV.Le.refl _) (H' := H.set i18 (.box 5 1 fun _ => x.cs)) ?_ h)
 intro q o hq
 by_cases e : q = i18
 ·subst e
  rw [Hp.set_same] at hq ⊢
  exact ⟨_, hq, .refl _⟩
 ·rw [Hp.set_ne _ _ e] at hq
  have e2 : q ≠ ih := fun e2 => by rw [e2, h2] at hq; cases hq
  have e3 : q ≠ is := fun e3 => by rw [e3, h3] at hq; cases hq
  exact ⟨o, by rw [Hp.set_ne _ _ e, Hp.del_ne _ e3, Hp.set_ne _ _ e, Hp.del_ne _ e2, Hp.set_ne _ _ e, Hp.set_ne _ _ e3, Hp.set_ne _ _ e2]; exact hq, .refl _⟩
theorem row_setG {α : Type} (en : α → List AV) (d : α) (l : List α) (st i : Nat) (x : α) (c : List AV) (hc : c = en x) (hi : i < l.length) : Obj.Le (.row st l.length (updF l.length i (fun k => en (l.getD k d)) c)) (.row st l.length (fun k => en ((l.set i x).getD k d))) := by
 refine row_ext fun q hq => ?_
 rw [updF_at hi hq, getD_setI hi]
 split
 ·exact hc
 ·rfl
/-- What is known of the plan and of what is told of it. -/
structure MoreB (p : Pu) (l : List Int) : Prop where
 k : Ok p
 he : errE p true = 0
 hl : planB p l = true
theorem more_law (p : Pu) (N : Nat) (b : Nat → Int) (W C U : Int) (H : Hp) (hb : N < 2 ^ 63 ∧ ∀ i, i < N → 0 ≤ b i ∧ b i ≤ 255) (hW : 0 ≤ W ∧ W ≤ 255) (hC : 0 ≤ C ∧ C ≤ 255) (hU : 0 ≤ U ∧ U ≤ 255) :
 PTri Try.prog (fnA 9) [p.av, .rsl N 1 (byF b), .lit (.int .u8 W), .lit (.int .u8 C), .lit (.int .u8 U)] H (boo true) := by
 refine Tri.drop ?_
 refine tri_w0 Try.func9 (by kernel_rfl) rfl (by simp only [List.length_append, List.length_cons, List.length_nil, Try.ntmps9]; decide) ?_
 refine wps_cutG8 (m := fun _ => false) (σ := List Int) (fun l => MoreB p l)
  (fun l => [(2, .lit (.int .u8 W)), (3, .lit (.int .u8 C)), (4, .lit (.int .u8 U)), (5, pptr p), (11, intsAV l), (14, spansAV (playV p l))])
  (fun _ => H) (fun _ => []) ?_ fun l hy => ?_
 ·simp only [vsAll, loadA, loadRow, partA, partOk, boxA, boxZ, okAll, stAll, opsA, opA, dstOk, nilSliceOp, argFr, Nat.reduceAdd, Nat.reduceLT, Nat.reduceEqDiff, ↓reduceIte, eq_self, wtAll, Try.ntmps9]
  refine callK_pure (fine_tri p _) ?_
  simp only [vsAll, unA, opA, dstOk, Nat.reduceLT, ↓reduceIte, eq_self]
  refine condV (fun hc => ?_) (fun hc => ?_)
  ·simp only [vsAll, okAll, stAll, opsA, opA, dstOk, Nat.reduceLT]
   refine callK_pure (awake_tri _) ?_
   simp only [vsAll, opA, dstOk, nilSliceOp, resA, retA.eq_1, Nat.reduceLT, ↓reduceIte, eq_self, Try.results9, CutG_ret]
   exact dropR_pure rfl (by (repeat (first | exact HSub_rfl | refine HSub_put_eq (by simp only [vsAll, binA, binLitA, intA, aggA, aggV, boolA, nilA2, isConst, unA, loadA, loadRow, partA, partOk, fieldAddrA, indexAddrA, indexA, fieldA, extractA, lenA, nilCheckA, boxA, boxZ, cellA, cellsA, fillA, okParts, buildSliceA, buildMutA, makeSliceA, partIdx, elemsA, lensA, ifaceA, convA, mmA, pickA, okAll, stAll, opsA, partsA, partsOk, opA, allocA, boxMutA, newCells, okCells, storeObj, appendA, guardV, taA, nM, mapUpA, lookA, sliceA, sliceS, boundsA, opO, okO, copyA, dstOk, nilA, quietOk, nilSliceOp, deferV, panA, resA, argFr, retA.eq_1, retA.eq_2, Nat.reduceAdd, Nat.reduceSub, Nat.reduceMul, Nat.reduceLT, Nat.reduceLeDiff, Nat.reduceEqDiff, Nat.reduceBEq, Int.reduceAdd, Int.reduceSub, Int.reduceMul, Int.reduceNeg, Int.reduceLE, Int.reduceLT, Int.reduceEq, Int.reduceNe, Int.reduceToNat, ↓reduceIte, reduceCtorEq, implies_true, forall_const, eq_self, ne_eq, wtAll, Try.ntmps9, Try.results9]) ?_ | refine HSub_drop2 (by simp only [vsAll, binA, binLitA, intA, aggA, aggV, boolA, nilA2, isConst, unA, loadA, loadRow, partA, partOk, fieldAddrA, indexAddrA, indexA, fieldA, extractA, lenA, nilCheckA, boxA, boxZ, cellA, cellsA, fillA, okParts, buildSliceA, buildMutA, makeSliceA, partIdx, elemsA, lensA, ifaceA, convA, mmA, pickA, okAll, stAll, opsA, partsA, partsOk, opA, allocA, boxMutA, newCells, okCells, storeObj, appendA, guardV, taA, nM, mapUpA, lookA, sliceA, sliceS, boundsA, opO, okO, copyA, dstOk, nilA, quietOk, nilSliceOp, deferV, panA, resA, argFr, retA.eq_1, retA.eq_2, Nat.reduceAdd, Nat.reduceSub, Nat.reduceMul, Nat.reduceLT, Nat.reduceLeDiff, Nat.reduceEqDiff, Nat.reduceBEq, Int.reduceAdd, Int.reduceSub, Int.reduceMul, Int.reduceNeg, Int.reduceLE, Int.reduceLT, Int.reduceEq, Int.reduceNe, Int.reduceToNat, ↓reduceIte, reduceCtorEq, implies_true, forall_const, eq_self, ne_eq, wtAll, Try.ntmps9, Try.results9]) ?_ | refine HSub_keep_eq (by simp only [vsAll, binA, binLitA, intA, aggA, aggV, boolA, nilA2, isConst, unA, loadA, loadRow, partA, partOk, fieldAddrA, indexAddrA, indexA, fieldA, extractA, lenA, nilCheckA, boxA, boxZ, cellA, cellsA, fillA, okParts, buildSliceA, buildMutA, makeSliceA, partIdx, elemsA, lensA, ifaceA, convA, mmA, pickA, okAll, stAll, opsA, partsA, partsOk, opA, allocA, boxMutA, newCells, okCells, storeObj, appendA, guardV, taA, nM, mapUpA, lookA, sliceA, sliceS, boundsA, opO, okO, copyA, dstOk, nilA, quietOk, nilSliceOp, deferV, panA, resA, argFr, retA.eq_1, retA.eq_2, Nat.reduceAdd, Nat.reduceSub, Nat.reduceMul, Nat.reduceLT, Nat.reduceLeDiff, Nat.reduceEqDiff, Nat.reduceBEq, Int.reduceAdd, Int.reduceSub, Int.reduceMul, Int.reduceNeg, Int.reduceLE, Int.reduceLT, Int.reduceEq, Int.reduceNe, Int.reduceToNat, ↓reduceIte, reduceCtorEq, implies_true, forall_const, eq_self, ne_eq, wtAll, Try.ntmps9, Try.results9]) ?_)))
  ·obtain ⟨k, kn⟩ := fine_ok (by simpa using hc)
   have nF := k.nF
   have nW := k.nW
   simp only [vsAll, loadA, loadRow, partA, partOk, okAll, stAll, opsA, opA, dstOk, argFr, Nat.reduceLT, Nat.reduceEqDiff, ↓reduceIte, eq_self, wtAll]
   refine callK (made_tri p N b _ k hb.1 hb.2) ?_
   rintro r H' ⟨rfl, l, hl, rfl⟩
   obtain ⟨ell, hlr⟩ := plan_rng hl
   have epl := playE_of hl
   simp only [vsAll, loadA, loadRow, partA, partOk, okAll, stAll, opsA, opA, dstOk, nilSliceOp, Nat.reduceLT, Nat.reduceEqDiff, ↓reduceIte, eq_self, wtAll]
   refine callK_pure (spa_tri p l _ kn (by omega)) ?_
   simp only [vsAll, loadA, loadRow, partA, partOk, extractA, okAll, stAll, opsA, opA, dstOk, nilSliceOp, Nat.reduceAdd, Nat.reduceLT, Nat.reduceEqDiff, ↓reduceIte, eq_self, wtAll]
   refine callK_pure (wplay_tri p l _ kn (by omega)) ?_
   rcases err_cases k with ⟨hA, he⟩ | ⟨hA, he⟩
   ·rw [he] at epl
    have e1 : spaE p l = 10 := by unfold spaE; rw [if_neg (by omega), epl]
    have e2 : spaV p l = 0 := by unfold spaV losE; rw [if_neg (by rw [if_neg (by omega), epl]; decide)]
    simp only [vsAll, binA, binLitA, intA, extractA, pickA, opA, guardV, dstOk, nilSliceOp, Nat.reduceAdd, Nat.reduceLT, Nat.reduceEqDiff, Int.reduceEq, ↓reduceIte, implies_true, eq_self, epl, e1, e2]
    refine gcall (boo true) (fun hg => ⟨by simp only [vsAll, opA], by simp only [okAll, opsA], awake_tri _⟩) ?_
    simp only [vsAll, pickA, opA, dstOk, nilSliceOp, resA, retA.eq_1, Nat.reduceLT, Nat.reduceEqDiff, ↓reduceIte, implies_true, eq_self, Try.results9, CutG_ret]
    exact dropR_pure rfl (by (repeat (first | exact HSub_rfl | refine HSub_put_eq (by simp only [vsAll, binA, binLitA, intA, aggA, aggV, boolA, nilA2, isConst, unA, loadA, loadRow, partA, partOk, fieldAddrA, indexAddrA, indexA, fieldA, extractA, lenA, nilCheckA, boxA, boxZ, cellA, cellsA, fillA, okParts, buildSliceA, buildMutA, makeSliceA, partIdx, elemsA, lensA, ifaceA, convA, mmA, pickA, okAll, stAll, opsA, partsA, partsOk, opA, allocA, boxMutA, newCells, okCells, storeObj, appendA, guardV, taA, nM, mapUpA, lookA, sliceA, sliceS, boundsA, opO, okO, copyA, dstOk, nilA, quietOk, nilSliceOp, deferV, panA, resA, argFr, retA.eq_1, retA.eq_2, Nat.reduceAdd, Nat.reduceSub, Nat.reduceMul, Nat.reduceLT, Nat.reduceLeDiff, Nat.reduceEqDiff, Nat.reduceBEq, Int.reduceAdd, Int.reduceSub, Int.reduceMul, Int.reduceNeg, Int.reduceLE, Int.reduceLT, Int.reduceEq, Int.reduceNe, Int.reduceToNat, ↓reduceIte, reduceCtorEq, implies_true, forall_const, eq_self, ne_eq, wtAll, Try.ntmps9, Try.results9]) ?_ | refine HSub_drop2 (by simp only [vsAll, binA, binLitA, intA, aggA, aggV, boolA, nilA2, isConst, unA, loadA, loadRow, partA, partOk, fieldAddrA, indexAddrA, indexA, fieldA, extractA, lenA, nilCheckA, boxA, boxZ, cellA, cellsA, fillA, okParts, buildSliceA, buildMutA, makeSliceA, partIdx, elemsA, lensA, ifaceA, convA, mmA, pickA, okAll, stAll, opsA, partsA, partsOk, opA, allocA, boxMutA, newCells, okCells, storeObj, appendA, guardV, taA, nM, mapUpA, lookA, sliceA, sliceS, boundsA, opO, okO, copyA, dstOk, nilA, quietOk, nilSliceOp, deferV, panA, resA, argFr, retA.eq_1, retA.eq_2, Nat.reduceAdd, Nat.reduceSub, Nat.reduceMul, Nat.reduceLT, Nat.reduceLeDiff, Nat.reduceEqDiff, Nat.reduceBEq, Int.reduceAdd, Int.reduceSub, Int.reduceMul, Int.reduceNeg, Int.reduceLE, Int.reduceLT, Int.reduceEq, Int.reduceNe, Int.reduceToNat, ↓reduceIte, reduceCtorEq, implies_true, forall_const, eq_self, ne_eq, wtAll, Try.ntmps9, Try.results9]) ?_ | refine HSub_keep_eq (by simp only [vsAll, binA, binLitA, intA, aggA, aggV, boolA, nilA2, isConst, unA, loadA, loadRow, partA, partOk, fieldAddrA, indexAddrA, indexA, fieldA, extractA, lenA, nilCheckA, boxA, boxZ, cellA, cellsA, fillA, okParts, buildSliceA, buildMutA, makeSliceA, partIdx, elemsA, lensA, ifaceA, convA, mmA, pickA, okAll, stAll, opsA, partsA, partsOk, opA, allocA, boxMutA, newCells, okCells, storeObj, appendA, guardV, taA, nM, mapUpA, lookA, sliceA, sliceS, boundsA, opO, okO, copyA, dstOk, nilA, quietOk, nilSliceOp, deferV, panA, resA, argFr, retA.eq_1, retA.eq_2, Nat.reduceAdd, Nat.reduceSub, Nat.reduceMul, Nat.reduceLT, Nat.reduceLeDiff, Nat.reduceEqDiff, Nat.reduceBEq, Int.reduceAdd, Int.reduceSub, Int.reduceMul, Int.reduceNeg, Int.reduceLE, Int.reduceLT, Int.reduceEq, Int.reduceNe, Int.reduceToNat, ↓reduceIte, reduceCtorEq, implies_true, forall_const, eq_self, ne_eq, wtAll, Try.ntmps9, Try.results9]) ?_)))
   ·rw [he] at epl
    have hsa := saf_eq epl
    have fin : MoreB p l := ⟨k, he, hl⟩
    rcases spa_cases epl with ⟨s1, s2, s3⟩ | ⟨s1, s2, n, s3, s4, s5, s6⟩
    ·rw [s1] at hsa
     simp only [vsAll, binA, binLitA, intA, loadA, loadRow, partA, partOk, extractA, okAll, stAll, opsA, opA, dstOk, nilSliceOp, Nat.reduceAdd, Nat.reduceLT, Nat.reduceEqDiff, Int.reduceEq, ↓reduceIte, eq_self, wtAll, epl, s2, s3]
     refine callK_pure (safe_tri p l _ kn (by omega)) ?_
     simp only [vsAll, binA, binLitA, intA, boolA, pickA, opA, guardV, dstOk, Nat.reduceLT, Nat.reduceEqDiff, Int.reduceLT, Int.reduceEq, ↓reduceIte, implies_true, eq_self, wtAll, hsa, beq_self_eq_true]
     exact cutG_of l fin (by simp only [vsAll, argFr, Nat.reduceEqDiff, ↓reduceIte, eq_self]) rfl (by (repeat (first | exact HSub_rfl | refine HSub_put_eq (by simp only [vsAll, binA, binLitA, intA, aggA, aggV, boolA, nilA2, isConst, unA, loadA, loadRow, partA, partOk, fieldAddrA, indexAddrA, indexA, fieldA, extractA, lenA, nilCheckA, boxA, boxZ, cellA, cellsA, fillA, okParts, buildSliceA, buildMutA, makeSliceA, partIdx, elemsA, lensA, ifaceA, convA, mmA, pickA, okAll, stAll, opsA, partsA, partsOk, opA, allocA, boxMutA, newCells, okCells, storeObj, appendA, guardV, taA, nM, mapUpA, lookA, sliceA, sliceS, boundsA, opO, okO, copyA, dstOk, nilA, quietOk, nilSliceOp, deferV, panA, resA, argFr, retA.eq_1, retA.eq_2, Nat.reduceAdd, Nat.reduceSub, Nat.reduceMul, Nat.reduceLT, Nat.reduceLeDiff, Nat.reduceEqDiff, Nat.reduceBEq, Int.reduceAdd, Int.reduceSub, Int.reduceMul, Int.reduceNeg, Int.reduceLE, Int.reduceLT, Int.reduceEq, Int.reduceNe, Int.reduceToNat, ↓reduceIte, reduceCtorEq, implies_true, forall_const, eq_self, ne_eq, wtAll, Try.ntmps9, Try.results9]) ?_ | refine HSub_drop2 (by simp only [vsAll, binA, binLitA, intA, aggA, aggV, boolA, nilA2, isConst, unA, loadA, loadRow, partA, partOk, fieldAddrA, indexAddrA, indexA, fieldA, extractA, lenA, nilCheckA, boxA, boxZ, cellA, cellsA, fillA, okParts, buildSliceA, buildMutA, makeSliceA, partIdx, elemsA, lensA, ifaceA, convA, mmA, pickA, okAll, stAll, opsA, partsA, partsOk, opA, allocA, boxMutA, newCells, okCells, storeObj, appendA, guardV, taA, nM, mapUpA, lookA, sliceA, sliceS, boundsA, opO, okO, copyA, dstOk, nilA, quietOk, nilSliceOp, deferV, panA, resA, argFr, retA.eq_1, retA.eq_2, Nat.reduceAdd, Nat.reduceSub, Nat.reduceMul, Nat.reduceLT, Nat.reduceLeDiff, Nat.reduceEqDiff, Nat.reduceBEq, Int.reduceAdd, Int.reduceSub, Int.reduceMul, Int.reduceNeg, Int.reduceLE, Int.reduceLT, Int.reduceEq, Int.reduceNe, Int.reduceToNat, ↓reduceIte, reduceCtorEq, implies_true, forall_const, eq_self, ne_eq, wtAll, Try.ntmps9, Try.results9]) ?_ | refine HSub_keep_eq (by simp only [vsAll, binA, binLitA, intA, aggA, aggV, boolA, nilA2, isConst, unA, loadA, loadRow, partA, partOk, fieldAddrA, indexAddrA, indexA, fieldA, extractA, lenA, nilCheckA, boxA, boxZ, cellA, cellsA, fillA, okParts, buildSliceA, buildMutA, makeSliceA, partIdx, elemsA, lensA, ifaceA, convA, mmA, pickA, okAll, stAll, opsA, partsA, partsOk, opA, allocA, boxMutA, newCells, okCells, storeObj, appendA, guardV, taA, nM, mapUpA, lookA, sliceA, sliceS, boundsA, opO, okO, copyA, dstOk, nilA, quietOk, nilSliceOp, deferV, panA, resA, argFr, retA.eq_1, retA.eq_2, Nat.reduceAdd, Nat.reduceSub, Nat.reduceMul, Nat.reduceLT, Nat.reduceLeDiff, Nat.reduceEqDiff, Nat.reduceBEq, Int.reduceAdd, Int.reduceSub, Int.reduceMul, Int.reduceNeg, Int.reduceLE, Int.reduceLT, Int.reduceEq, Int.reduceNe, Int.reduceToNat, ↓reduceIte, reduceCtorEq, implies_true, forall_const, eq_self, ne_eq, wtAll, Try.ntmps9, Try.results9]) ?_)))
    ·rw [s1] at hsa
     have d1 : decide ((n : Int) < 0) = false := decide_eq_false (by omega)
     have d2 : decide (40 < (n : Int)) = false := decide_eq_false (by omega)
     have ka := more_near kn (n : Int)
     have kb := more_near kn ((n : Int) + 1)
     have ea : (!farB (moreP p n) 0 && decide (Ok (moreP p n))) = true → safF (moreP p n) l = true := fun h => by
      obtain ⟨kx, _⟩ := fine_ok h
      rw [saf_eq (more_play k epl kx)]; exact s5
     have eb : (!farB (moreP p ((n : Int) + 1)) 0 && decide (Ok (moreP p ((n : Int) + 1)))) = true → n < 40 → safF (moreP p ((n : Int) + 1)) l = false := fun h h2 => by
      obtain ⟨kx, _⟩ := fine_ok h
      rw [saf_eq (more_play k epl kx)]; exact s6 h2
     have z1 : (!farB (moreP p n) 0 && decide (Ok (moreP p n)) && !safF (moreP p n) l) = false := by
      cases h : !farB (moreP p n) 0 && decide (Ok (moreP p n)) with
      | false => rfl
      | true => rw [ea h]; rfl
     have z2 : (!farB (moreP p ((n : Int) + 1)) 0 && decide (Ok (moreP p ((n : Int) + 1))) && safF (moreP p ((n : Int) + 1)) l && decide ((n : Int) < 40)) = false := by
      cases h : !farB (moreP p ((n : Int) + 1)) 0 && decide (Ok (moreP p ((n : Int) + 1))) with
      | false => rfl
      | true =>
        by_cases h2 : n < 40
        ·rw [eb h h2]; rfl
        ·rw [decide_eq_false (by omega : ¬ (n : Int) < 40), Bool.and_false]
     simp only [vsAll, binA, binLitA, intA, loadA, loadRow, partA, partOk, extractA, okAll, stAll, opsA, opA, dstOk, nilSliceOp, Nat.reduceAdd, Nat.reduceLT, Nat.reduceEqDiff, ↓reduceIte, eq_self, wtAll, epl, s2, s3]
     refine callK_pure (safe_tri p l _ kn (by omega)) ?_
     simp only [vsAll, binA, binLitA, intA, boolA, pickA, opA, guardV, dstOk, Nat.reduceLT, Nat.reduceEqDiff, Int.reduceEq, ↓reduceIte, implies_true, eq_self, wtAll, hsa, d1, d2, beq_self_eq_true]
     refine vs_draw3 [7, 8, 9, 10] [([0, 0, 0, 0, 0, 0, 0, 1, 3, 5, 7], [([0, 1, 2, 3, 4, 5, 6], [0, 2, 3, 6], 7), ([], [0, 2, 3, 6], 8), ([], [], 9), ([], [], 10)], []), ([0, 0, 0, 0, 0, 0, 0, 3, 1, 5, 7], [([0, 1, 2, 3, 4, 5, 6], [0, 2, 3, 6], 8), ([], [0, 2, 3, 6], 7), ([], [], 9), ([], [], 10)], [])] (by decide +kernel) fun pn hpn => ?_
     simp only [List.mem_cons, List.not_mem_nil, or_false] at hpn
     rcases hpn with rfl | rfl
     ·simp only [vsAll, loadA, loadRow, partA, partOk, opA, dstOk, Nat.reduceLT, Nat.reduceEqDiff, ↓reduceIte, eq_self, wtAll]
      refine qcall _ ⟨trivial, by simp only [vsAll, okAll, opsA, opA, Nat.reduceEqDiff, ↓reduceIte, eq_self], rmore_tri p (n : Int) _ k ⟨by omega, by omega⟩⟩ ?_
      simp only [vsAll, binA, binLitA, intA, loadA, loadRow, partA, partOk, opA, dstOk, Nat.reduceLT, Nat.reduceEqDiff, ↓reduceIte, eq_self, wtAll]
      refine ⟨by simp only [InR_i64]; omega, ?_⟩
      refine qcall _ ⟨trivial, by simp only [vsAll, okAll, opsA, opA, Nat.reduceEqDiff, ↓reduceIte, eq_self], rmore_tri p ((n : Int) + 1) _ k ⟨by omega, by omega⟩⟩ ?_
      simp only [vsAll, loadA, loadRow, partA, partOk, cellA, okAll, stAll, opsA, opA, allocA, newCells, okCells, storeObj, dstOk, Nat.reduceAdd, Nat.reduceLT, Nat.reduceEqDiff, ↓reduceIte, eq_self, wtAll]
      intro ia hh_ia; (try simp only [Hp.set_none, ite_none] at hh_ia)
      refine ⟨⟨rcall _ ⟨trivial, by simp only [vsAll, okAll, opsA, opA, Nat.reduceEqDiff, ↓reduceIte, eq_self], rmore_tri p (n : Int) _ k ⟨by ((try clear hh_ia); omega), by ((try clear hh_ia); omega)⟩⟩ (by simp only [vsAll, Nat.reduceEqDiff, ↓reduceIte, eq_self]), rcall _ ⟨trivial, by simp only [vsAll, okAll, opsA, opA, Nat.reduceEqDiff, ↓reduceIte, eq_self], rmore_tri p ((n : Int) + 1) _ k ⟨by ((try clear hh_ia); omega), by ((try clear hh_ia); omega)⟩⟩ (by simp only [vsAll, ↓reduceIte, eq_self])⟩, ?_⟩
      intro ib hh_ib; (try simp only [ite_none] at hh_ib)
      refine ⟨⟨rcall _ ⟨trivial, by simp only [vsAll, okAll, opsA, opA, Nat.reduceEqDiff, ↓reduceIte, eq_self], rmore_tri p (n : Int) _ k ⟨by ((try clear hh_ia); (try clear hh_ib); omega), by ((try clear hh_ia); (try clear hh_ib); omega)⟩⟩ (by simp only [vsAll, Nat.reduceEqDiff, ↓reduceIte, eq_self]), rcall _ ⟨trivial, by simp only [vsAll, okAll, opsA, opA, Nat.reduceEqDiff, ↓reduceIte, eq_self], rmore_tri p ((n : Int) + 1) _ k ⟨by ((try clear hh_ia); (try clear hh_ib); omega), by ((try clear hh_ia); (try clear hh_ib); omega)⟩⟩ (by simp only [vsAll, Nat.reduceEqDiff, ↓reduceIte, eq_self])⟩, ?_⟩
      simp only [vsAll, Nat.reduceLT, ↓reduceIte, eq_self, hh_ib]
      refine callK_pure (fine_tri (moreP p n) _) ?_
      simp only [vsAll, loadA, loadRow, partA, partOk, opA, guardV, dstOk, Nat.reduceLT, Nat.reduceEqDiff, ↓reduceIte, implies_true, eq_self, wtAll, hh_ib]
      refine gcall (boo (safF (moreP p n) l)) (fun g => ⟨by simp only [vsAll, opA], by simp only [vsAll, okAll, opsA, opA, Nat.reduceEqDiff, ↓reduceIte, eq_self, g], safe_tri (moreP p n) l _ ka (by ((try clear hh_ia); (try clear hh_ib); omega))⟩) ?_
      simp only [vsAll, unA, loadA, loadRow, partA, partOk, pickA, opA, guardV, dstOk, Nat.reduceLT, Nat.reduceEqDiff, ↓reduceIte, implies_true, eq_self, wtAll, z1]
      refine gcall (boo (!farB (moreP p ((n : Int) + 1)) 0 && decide (Ok (moreP p ((n : Int) + 1))))) (fun g => ⟨by simp only [vsAll, opA], by simp only [vsAll, okAll, opsA, opA, ↓reduceIte, eq_self], fine_tri (moreP p ((n : Int) + 1)) _⟩) ?_
      simp only [vsAll, loadA, loadRow, partA, partOk, opA, guardV, dstOk, Nat.reduceLT, Nat.reduceEqDiff, ↓reduceIte, implies_true, eq_self, wtAll]
      refine gcall (boo (safF (moreP p ((n : Int) + 1)) l)) (fun g => ⟨by simp only [vsAll, opA], by simp only [vsAll, okAll, opsA, opA, Nat.reduceEqDiff, ↓reduceIte, eq_self, g], safe_tri (moreP p ((n : Int) + 1)) l _ kb (by ((try clear hh_ia); (try clear hh_ib); omega))⟩) ?_
      simp only [vsAll, binA, binLitA, intA, pickA, opA, guardV, dstOk, Nat.reduceLT, Nat.reduceEqDiff, ↓reduceIte, implies_true, eq_self, z2]
      exact cutG_of l fin (by simp only [vsAll, argFr, Nat.reduceEqDiff, ↓reduceIte, eq_self]) rfl (by (repeat (first | exact HSub_rfl | refine HSub_put_eq (by simp only [vsAll, binA, binLitA, intA, aggA, aggV, boolA, nilA2, isConst, unA, loadA, loadRow, partA, partOk, fieldAddrA, indexAddrA, indexA, fieldA, extractA, lenA, nilCheckA, boxA, boxZ, cellA, cellsA, fillA, okParts, buildSliceA, buildMutA, makeSliceA, partIdx, elemsA, lensA, ifaceA, convA, mmA, pickA, okAll, stAll, opsA, partsA, partsOk, opA, allocA, boxMutA, newCells, okCells, storeObj, appendA, guardV, taA, nM, mapUpA, lookA, sliceA, sliceS, boundsA, opO, okO, copyA, dstOk, nilA, quietOk, nilSliceOp, deferV, panA, resA, argFr, retA.eq_1, retA.eq_2, Nat.reduceAdd, Nat.reduceSub, Nat.reduceMul, Nat.reduceLT, Nat.reduceLeDiff, Nat.reduceEqDiff, Nat.reduceBEq, Int.reduceAdd, Int.reduceSub, Int.reduceMul, Int.reduceNeg, Int.reduceLE, Int.reduceLT, Int.reduceEq, Int.reduceNe, Int.reduceToNat, ↓reduceIte, reduceCtorEq, implies_true, forall_const, eq_self, ne_eq, wtAll, Try.ntmps9, Try.results9, hh_ia, hh_ib]) ?_ | refine HSub_drop2 (by simp only [eq_self, hh_ia, hh_ib]) ?_ | refine HSub_keep_eq (by simp only [vsAll, binA, binLitA, intA, aggA, aggV, boolA, nilA2, isConst, unA, loadA, loadRow, partA, partOk, fieldAddrA, indexAddrA, indexA, fieldA, extractA, lenA, nilCheckA, boxA, boxZ, cellA, cellsA, fillA, okParts, buildSliceA, buildMutA, makeSliceA, partIdx, elemsA, lensA, ifaceA, convA, mmA, pickA, okAll, stAll, opsA, partsA, partsOk, opA, allocA, boxMutA, newCells, okCells, storeObj, appendA, guardV, taA, nM, mapUpA, lookA, sliceA, sliceS, boundsA, opO, okO, copyA, dstOk, nilA, quietOk, nilSliceOp, deferV, panA, resA, argFr, retA.eq_1, retA.eq_2, Nat.reduceAdd, Nat.reduceSub, Nat.reduceMul, Nat.reduceLT, Nat.reduceLeDiff, Nat.reduceEqDiff, Nat.reduceBEq, Int.reduceAdd, Int.reduceSub, Int.reduceMul, Int.reduceNeg, Int.reduceLE, Int.reduceLT, Int.reduceEq, Int.reduceNe, Int.reduceToNat, ↓reduceIte, reduceCtorEq, implies_true, forall_const, eq_self, ne_eq, wtAll, Try.ntmps9, Try.results9, hh_ia, hh_ib]) ?_)))
     ·simp only [vsAll, loadA, loadRow, partA, partOk, opA, dstOk, Nat.reduceLT, Nat.reduceEqDiff, ↓reduceIte, eq_self, wtAll]
      refine qcall _ ⟨trivial, by simp only [vsAll, okAll, opsA, opA, Nat.reduceEqDiff, ↓reduceIte, eq_self], rmore_tri p (n : Int) _ k ⟨by omega, by omega⟩⟩ ?_
      simp only [vsAll, binA, binLitA, intA, loadA, loadRow, partA, partOk, opA, dstOk, Nat.reduceLT, Nat.reduceEqDiff, ↓reduceIte, eq_self, wtAll]
      refine ⟨by simp only [InR_i64]; omega, ?_⟩
      refine qcall _ ⟨trivial, by simp only [vsAll, okAll, opsA, opA, Nat.reduceEqDiff, ↓reduceIte, eq_self], rmore_tri p ((n : Int) + 1) _ k ⟨by omega, by omega⟩⟩ ?_
      simp only [vsAll, loadA, loadRow, partA, partOk, cellA, okAll, stAll, opsA, opA, allocA, newCells, okCells, storeObj, dstOk, Nat.reduceAdd, Nat.reduceLT, Nat.reduceEqDiff, ↓reduceIte, eq_self, wtAll]
      intro ib hh_ib; (try simp only [Hp.set_none, ite_none] at hh_ib)
      refine ⟨⟨rcall _ ⟨trivial, by simp only [vsAll, okAll, opsA, opA, Nat.reduceEqDiff, ↓reduceIte, eq_self], rmore_tri p (n : Int) _ k ⟨by ((try clear hh_ib); omega), by ((try clear hh_ib); omega)⟩⟩ (by simp only [vsAll, Nat.reduceEqDiff, ↓reduceIte, eq_self]), rcall _ ⟨trivial, by simp only [vsAll, okAll, opsA, opA, Nat.reduceEqDiff, ↓reduceIte, eq_self], rmore_tri p ((n : Int) + 1) _ k ⟨by ((try clear hh_ib); omega), by ((try clear hh_ib); omega)⟩⟩ (by simp only [vsAll, ↓reduceIte, eq_self])⟩, ?_⟩
      intro ia hh_ia; (try simp only [ite_none] at hh_ia)
      refine ⟨⟨rcall _ ⟨trivial, by simp only [vsAll, okAll, opsA, opA, Nat.reduceEqDiff, ↓reduceIte, eq_self], rmore_tri p (n : Int) _ k ⟨by ((try clear hh_ib); (try clear hh_ia); omega), by ((try clear hh_ib); (try clear hh_ia); omega)⟩⟩ (by simp only [vsAll, Nat.reduceEqDiff, ↓reduceIte, eq_self]), rcall _ ⟨trivial, by simp only [vsAll, okAll, opsA, opA, Nat.reduceEqDiff, ↓reduceIte, eq_self], rmore_tri p ((n : Int) + 1) _ k ⟨by ((try clear hh_ib); (try clear hh_ia); omega), by ((try clear hh_ib); (try clear hh_ia); omega)⟩⟩ (by simp only [vsAll, Nat.reduceEqDiff, ↓reduceIte, eq_self])⟩, ?_⟩
      simp only [vsAll, Nat.reduceLT, ↓reduceIte, eq_self, hh_ia]
      refine callK_pure (fine_tri (moreP p n) _) ?_
      simp only [vsAll, loadA, loadRow, partA, partOk, opA, guardV, dstOk, Nat.reduceLT, Nat.reduceEqDiff, ↓reduceIte, implies_true, eq_self, wtAll, hh_ia]
      refine gcall (boo (safF (moreP p n) l)) (fun g => ⟨by simp only [vsAll, opA], by simp only [vsAll, okAll, opsA, opA, Nat.reduceEqDiff, ↓reduceIte, eq_self, g], safe_tri (moreP p n) l _ ka (by ((try clear hh_ib); (try clear hh_ia); omega))⟩) ?_
      simp only [vsAll, unA, loadA, loadRow, partA, partOk, pickA, opA, guardV, dstOk, Nat.reduceLT, Nat.reduceEqDiff, ↓reduceIte, implies_true, eq_self, wtAll, z1]
      refine gcall (boo (!farB (moreP p ((n : Int) + 1)) 0 && decide (Ok (moreP p ((n : Int) + 1))))) (fun g => ⟨by simp only [vsAll, opA], by simp only [vsAll, okAll, opsA, opA, ↓reduceIte, eq_self], fine_tri (moreP p ((n : Int) + 1)) _⟩) ?_
      simp only [vsAll, loadA, loadRow, partA, partOk, opA, guardV, dstOk, Nat.reduceLT, Nat.reduceEqDiff, ↓reduceIte, implies_true, eq_self, wtAll]
      refine gcall (boo (safF (moreP p ((n : Int) + 1)) l)) (fun g => ⟨by simp only [vsAll, opA], by simp only [vsAll, okAll, opsA, opA, Nat.reduceEqDiff, ↓reduceIte, eq_self, g], safe_tri (moreP p ((n : Int) + 1)) l _ kb (by ((try clear hh_ib); (try clear hh_ia); omega))⟩) ?_
      simp only [vsAll, binA, binLitA, intA, pickA, opA, guardV, dstOk, Nat.reduceLT, Nat.reduceEqDiff, ↓reduceIte, implies_true, eq_self, z2]
      exact cutG_of l fin (by simp only [vsAll, argFr, Nat.reduceEqDiff, ↓reduceIte, eq_self]) rfl (by (repeat (first | exact HSub_rfl | refine HSub_put_eq (by simp only [vsAll, binA, binLitA, intA, aggA, aggV, boolA, nilA2, isConst, unA, loadA, loadRow, partA, partOk, fieldAddrA, indexAddrA, indexA, fieldA, extractA, lenA, nilCheckA, boxA, boxZ, cellA, cellsA, fillA, okParts, buildSliceA, buildMutA, makeSliceA, partIdx, elemsA, lensA, ifaceA, convA, mmA, pickA, okAll, stAll, opsA, partsA, partsOk, opA, allocA, boxMutA, newCells, okCells, storeObj, appendA, guardV, taA, nM, mapUpA, lookA, sliceA, sliceS, boundsA, opO, okO, copyA, dstOk, nilA, quietOk, nilSliceOp, deferV, panA, resA, argFr, retA.eq_1, retA.eq_2, Nat.reduceAdd, Nat.reduceSub, Nat.reduceMul, Nat.reduceLT, Nat.reduceLeDiff, Nat.reduceEqDiff, Nat.reduceBEq, Int.reduceAdd, Int.reduceSub, Int.reduceMul, Int.reduceNeg, Int.reduceLE, Int.reduceLT, Int.reduceEq, Int.reduceNe, Int.reduceToNat, ↓reduceIte, reduceCtorEq, implies_true, forall_const, eq_self, ne_eq, wtAll, Try.ntmps9, Try.results9, hh_ib, hh_ia]) ?_ | refine HSub_drop2 (by simp only [eq_self, hh_ib, hh_ia]) ?_ | refine HSub_keep_eq (by simp only [vsAll, binA, binLitA, intA, aggA, aggV, boolA, nilA2, isConst, unA, loadA, loadRow, partA, partOk, fieldAddrA, indexAddrA, indexA, fieldA, extractA, lenA, nilCheckA, boxA, boxZ, cellA, cellsA, fillA, okParts, buildSliceA, buildMutA, makeSliceA, partIdx, elemsA, lensA, ifaceA, convA, mmA, pickA, okAll, stAll, opsA, partsA, partsOk, opA, allocA, boxMutA, newCells, okCells, storeObj, appendA, guardV, taA, nM, mapUpA, lookA, sliceA, sliceS, boundsA, opO, okO, copyA, dstOk, nilA, quietOk, nilSliceOp, deferV, panA, resA, argFr, retA.eq_1, retA.eq_2, Nat.reduceAdd, Nat.reduceSub, Nat.reduceMul, Nat.reduceLT, Nat.reduceLeDiff, Nat.reduceEqDiff, Nat.reduceBEq, Int.reduceAdd, Int.reduceSub, Int.reduceMul, Int.reduceNeg, Int.reduceLE, Int.reduceLT, Int.reduceEq, Int.reduceNe, Int.reduceToNat, ↓reduceIte, reduceCtorEq, implies_true, forall_const, eq_self, ne_eq, wtAll, Try.ntmps9, Try.results9, hh_ib, hh_ia]) ?_)))
 ·have k := hy.k
  have he := hy.he
  have hl := hy.hl
  have kn := k.near
  have nF := k.nF
  have nW := k.nW
  refine wps_cutG2 (m := mset [133, 137]) (σ := Nat × Nat × Nat) (fun y => MoreA H y)
   (fun y => [(2, .lit (.int .u8 W)), (3, .lit (.int .u8 C)), (4, .lit (.int .u8 U)), (5, pptr p), (11, intsAV l), (14, spansAV (playV p l)), (18, .ref y.1 0 5 0 0)])
   (fun y => ((H.set y.2.1 (.row 2 p.fl.length (spanF p.fl))).set y.2.2 (.row 4 p.ws.length (wsF p.ws))).set y.1 (.box 5 1 fun _ => mxC p y.2.1 y.2.2)) (fun _ => []) ?_ fun y hy2 => ?_
  ·simp only [vsAll, loadA, loadRow, partA, partOk, cellA, opA, allocA, newCells, okCells, storeObj, dstOk, Nat.reduceAdd, Nat.reduceLT, Nat.reduceEqDiff, ↓reduceIte, eq_self, wtAll, Try.ntmps9]
   intro i18 hh_i18; (try simp only [Hp.set_none, ite_none] at hh_i18)
   rw [Hp.set_set]
   refine vs_draw3 [0, 3, 4, 7, 9, 11] [([1, 0, 0, 3, 5, 0, 0, 7, 4, 9, 10, 11], [([1, 2, 5, 6], [2, 6], 0), ([], [6], 3), ([8], [6], 4), ([], [], 7), ([], [], 9), ([10], [], 11)], []), ([1, 0, 0, 5, 3, 0, 0, 7, 6, 9, 10, 11], [([1, 2, 5, 6], [2, 6], 0), ([], [2, 6], 4), ([], [6], 3), ([8], [], 7), ([], [], 9), ([10], [], 11)], []), ([3, 0, 0, 5, 1, 0, 0, 7, 6, 9, 10, 11], [([1, 2, 5, 6], [2, 6], 4), ([], [2, 6], 0), ([], [6], 3), ([8], [], 7), ([], [], 9), ([10], [], 11)], [])] (by decide +kernel) fun pn hpn => ?_
   have okF : ∀ i, i < p.fl.length → okCells (spanF p.fl i) := fun i _ => ⟨rfl, rfl, trivial⟩
   have okS' : ∀ i, i < p.ws.length → okCells (wsF p.ws i) := fun i _ => ⟨rfl, rfl, rfl, rfl, trivial⟩
   have leF : Obj.Le (.row 2 p.fl.length (appF 0 p.fl.length (fun _ => []) (spanF p.fl))) (.row 2 p.fl.length (spanF p.fl)) := row_ext fun q hq => by rw [appF_at (by ((try clear hh_i18); omega)), if_neg (by ((try clear hh_i18); omega)), Nat.sub_zero]
   have leS : Obj.Le (.row 4 p.ws.length (appF 0 p.ws.length (fun _ => []) (wsF p.ws))) (.row 4 p.ws.length (wsF p.ws)) := row_ext fun q hq => by rw [appF_at (by ((try clear hh_i18); omega)), if_neg (by ((try clear hh_i18); omega)), Nat.sub_zero]
   simp only [List.mem_cons, List.not_mem_nil, or_false] at hpn
   rcases hpn with rfl | rfl | rfl
   ·simp only [vsAll, loadA, loadRow, partA, partOk, fieldAddrA, cellA, cellsA, okParts, buildMutA, partIdx, elemsA, lensA, partsA, partsOk, opA, newCells, okCells, storeObj, appendA, dstOk, Nat.reduceAdd, Nat.reduceMul, Nat.reduceLT, Nat.reduceLeDiff, Nat.reduceEqDiff, Nat.reduceBEq, ↓reduceIte, eq_self, wtAll]
    intro ih hh_ih; (try simp only [ite_none] at hh_ih)
    simp only [↓reduceIte, hh_ih]
    refine ⟨okF, by ((try clear hh_i18); (try clear hh_ih); omega), by ((try clear hh_i18); (try clear hh_ih); omega), ?_⟩
    intro is hh_is; (try simp only [ite_none] at hh_is)
    simp only [vsAll, Nat.reduceLT, ↓reduceIte, eq_self, hh_is]
    refine ⟨okS', by ((try clear hh_i18); (try clear hh_ih); (try clear hh_is); omega), by ((try clear hh_i18); (try clear hh_ih); (try clear hh_is); omega), ?_⟩
    have q1 : H ih = none ∧ ¬ ih = i18 := by simp_all
    have q2 : H is = none ∧ ¬ is = i18 ∧ ¬ is = ih ∧ ¬ ih = is := by simp_all
    refine cutG_of (i18, ih, is) ⟨hh_i18, q1.1, q2.1, fun e => q1.2 e.symm, fun e => q2.2.1 e.symm, q2.2.2.2⟩ (by simp only [vsAll, Nat.reduceEqDiff, ↓reduceIte, eq_self]) rfl ?_
    simp only []
    refine HSub.trans (B := ((H.set ih (.row 2 p.fl.length (appF 0 p.fl.length (fun _ => []) (spanF p.fl)))).set is (.row 4 p.ws.length (appF 0 p.ws.length (fun _ => []) (wsF p.ws)))).set i18 (.box 5 1 fun _ => mxC p ih is)) (by (repeat (first | exact HSub_rfl | refine HSub_put_eq (by simp only [vsAll, ↓reduceIte, eq_self, hh_ih, hh_is]) ?_ | refine HSub_drop2 (by simp only [eq_self, hh_i18, hh_ih, hh_is]) ?_ | refine HSub_keep_eq (by simp only [vsAll, binA, binLitA, intA, aggA, aggV, boolA, nilA2, isConst, unA, loadA, loadRow, partA, partOk, fieldAddrA, indexAddrA, indexA, fieldA, extractA, lenA, nilCheckA, boxA, boxZ, cellA, cellsA, fillA, okParts, buildSliceA, buildMutA, makeSliceA, partIdx, elemsA, lensA, ifaceA, convA, mmA, pickA, okAll, stAll, opsA, partsA, partsOk, opA, allocA, boxMutA, newCells, okCells, storeObj, appendA, guardV, taA, nM, mapUpA, lookA, sliceA, sliceS, boundsA, opO, okO, copyA, dstOk, nilA, quietOk, nilSliceOp, deferV, panA, resA, argFr, retA.eq_1, retA.eq_2, Nat.reduceAdd, Nat.reduceSub, Nat.reduceMul, Nat.reduceLT, Nat.reduceLeDiff, Nat.reduceEqDiff, Nat.reduceBEq, Int.reduceAdd, Int.reduceSub, Int.reduceMul, Int.reduceNeg, Int.reduceLE, Int.reduceLT, Int.reduceEq, Int.reduceNe, Int.reduceToNat, ↓reduceIte, reduceCtorEq, implies_true, forall_const, eq_self, ne_eq, wtAll, Try.ntmps9, Try.results9, hh_i18, hh_ih, hh_is]) ?_))) (HSub.set (HSub.set (HSub.set (HSub.refl H) leF) leS) (.refl _))
   ·simp only [vsAll, loadA, loadRow, partA, partOk, fieldAddrA, cellA, cellsA, okParts, buildMutA, partIdx, elemsA, lensA, partsA, partsOk, opA, newCells, okCells, storeObj, appendA, dstOk, Nat.reduceAdd, Nat.reduceMul, Nat.reduceLT, Nat.reduceLeDiff, Nat.reduceEqDiff, Nat.reduceBEq, ↓reduceIte, eq_self, wtAll]
    intro ih hh_ih; (try simp only [ite_none] at hh_ih); intro is hh_is; (try simp only [ite_none] at hh_is)
    simp only [vsAll, Nat.reduceLT, ↓reduceIte, eq_self, hh_ih, hh_is]
    refine ⟨okF, by ((try clear hh_i18); (try clear hh_ih); (try clear hh_is); omega), by ((try clear hh_i18); (try clear hh_ih); (try clear hh_is); omega), okS', by ((try clear hh_i18); (try clear hh_ih); (try clear hh_is); omega), by ((try clear hh_i18); (try clear hh_ih); (try clear hh_is); omega), ?_⟩
    have q1 : H ih = none ∧ ¬ ih = i18 := by simp_all
    have q2 : H is = none ∧ ¬ is = i18 ∧ ¬ is = ih ∧ ¬ ih = is := by simp_all
    refine cutG_of (i18, ih, is) ⟨hh_i18, q1.1, q2.1, fun e => q1.2 e.symm, fun e => q2.2.1 e.symm, q2.2.2.2⟩ (by simp only [vsAll, Nat.reduceEqDiff, ↓reduceIte, eq_self]) rfl ?_
    simp only []
    refine HSub.trans (B := ((H.set ih (.row 2 p.fl.length (appF 0 p.fl.length (fun _ => []) (spanF p.fl)))).set is (.row 4 p.ws.length (appF 0 p.ws.length (fun _ => []) (wsF p.ws)))).set i18 (.box 5 1 fun _ => mxC p ih is)) (by (repeat (first | exact HSub_rfl | refine HSub_put_eq (by simp only [vsAll, ↓reduceIte, eq_self, hh_ih, hh_is]) ?_ | refine HSub_drop2 (by simp only [eq_self, hh_i18, hh_ih, hh_is]) ?_ | refine HSub_keep_eq (by simp only [vsAll, binA, binLitA, intA, aggA, aggV, boolA, nilA2, isConst, unA, loadA, loadRow, partA, partOk, fieldAddrA, indexAddrA, indexA, fieldA, extractA, lenA, nilCheckA, boxA, boxZ, cellA, cellsA, fillA, okParts, buildSliceA, buildMutA, makeSliceA, partIdx, elemsA, lensA, ifaceA, convA, mmA, pickA, okAll, stAll, opsA, partsA, partsOk, opA, allocA, boxMutA, newCells, okCells, storeObj, appendA, guardV, taA, nM, mapUpA, lookA, sliceA, sliceS, boundsA, opO, okO, copyA, dstOk, nilA, quietOk, nilSliceOp, deferV, panA, resA, argFr, retA.eq_1, retA.eq_2, Nat.reduceAdd, Nat.reduceSub, Nat.reduceMul, Nat.reduceLT, Nat.reduceLeDiff, Nat.reduceEqDiff, Nat.reduceBEq, Int.reduceAdd, Int.reduceSub, Int.reduceMul, Int.reduceNeg, Int.reduceLE, Int.reduceLT, Int.reduceEq, Int.reduceNe, Int.reduceToNat, ↓reduceIte, reduceCtorEq, implies_true, forall_const, eq_self, ne_eq, wtAll, Try.ntmps9, Try.results9, hh_i18, hh_ih, hh_is]) ?_))) (HSub.set (HSub.set (HSub.set (HSub.refl H) leF) leS) (.refl _))
   ·simp only [vsAll, loadA, loadRow, partA, partOk, fieldAddrA, cellA, cellsA, okParts, buildMutA, partIdx, elemsA, lensA, partsA, partsOk, opA, newCells, okCells, storeObj, appendA, dstOk, Nat.reduceAdd, Nat.reduceMul, Nat.reduceLT, Nat.reduceLeDiff, Nat.reduceEqDiff, Nat.reduceBEq, ↓reduceIte, eq_self, wtAll]
    intro is hh_is; (try simp only [ite_none] at hh_is); intro ih hh_ih; (try simp only [ite_none] at hh_ih)
    simp only [vsAll, Nat.reduceLT, ↓reduceIte, eq_self, hh_is, hh_ih]
    refine ⟨okF, by ((try clear hh_i18); (try clear hh_is); (try clear hh_ih); omega), by ((try clear hh_i18); (try clear hh_is); (try clear hh_ih); omega), okS', by ((try clear hh_i18); (try clear hh_is); (try clear hh_ih); omega), by ((try clear hh_i18); (try clear hh_is); (try clear hh_ih); omega), ?_⟩
    have q1 : H ih = none ∧ ¬ ih = i18 := by simp_all
    have q2 : H is = none ∧ ¬ is = i18 ∧ ¬ is = ih ∧ ¬ ih = is := by simp_all
    refine cutG_of (i18, ih, is) ⟨hh_i18, q1.1, q2.1, fun e => q1.2 e.symm, fun e => q2.2.1 e.symm, q2.2.2.2⟩ (by simp only [vsAll, Nat.reduceEqDiff, ↓reduceIte, eq_self]) rfl ?_
    simp only []
    refine HSub.trans (B := ((H.set ih (.row 2 p.fl.length (appF 0 p.fl.length (fun _ => []) (spanF p.fl)))).set is (.row 4 p.ws.length (appF 0 p.ws.length (fun _ => []) (wsF p.ws)))).set i18 (.box 5 1 fun _ => mxC p ih is)) (by (repeat (first | exact HSub_rfl | refine HSub_put_eq (by simp only [vsAll, ↓reduceIte, eq_self, hh_is, hh_ih]) ?_ | refine HSub_drop2 (by simp only [eq_self, hh_i18, hh_is, hh_ih]) ?_ | refine HSub_keep_eq (by simp only [vsAll, binA, binLitA, intA, aggA, aggV, boolA, nilA2, isConst, unA, loadA, loadRow, partA, partOk, fieldAddrA, indexAddrA, indexA, fieldA, extractA, lenA, nilCheckA, boxA, boxZ, cellA, cellsA, fillA, okParts, buildSliceA, buildMutA, makeSliceA, partIdx, elemsA, lensA, ifaceA, convA, mmA, pickA, okAll, stAll, opsA, partsA, partsOk, opA, allocA, boxMutA, newCells, okCells, storeObj, appendA, guardV, taA, nM, mapUpA, lookA, sliceA, sliceS, boundsA, opO, okO, copyA, dstOk, nilA, quietOk, nilSliceOp, deferV, panA, resA, argFr, retA.eq_1, retA.eq_2, Nat.reduceAdd, Nat.reduceSub, Nat.reduceMul, Nat.reduceLT, Nat.reduceLeDiff, Nat.reduceEqDiff, Nat.reduceBEq, Int.reduceAdd, Int.reduceSub, Int.reduceMul, Int.reduceNeg, Int.reduceLE, Int.reduceLT, Int.reduceEq, Int.reduceNe, Int.reduceToNat, ↓reduceIte, reduceCtorEq, implies_true, forall_const, eq_self, ne_eq, wtAll, Try.ntmps9, Try.results9, hh_i18, hh_is, hh_ih]) ?_))) (HSub.set (HSub.set (HSub.set (HSub.refl H) leF) leS) (.refl _))
  ·obtain ⟨i18, ih, is⟩ := y
   obtain ⟨h1, h2, h3, n12, n13, n23⟩ := hy2
   simp only [] at h1 h2 h3 n12 n13 n23
   have m12 : ¬ ih = i18 := fun e => n12 e.symm
   have m13 : ¬ is = i18 := fun e => n13 e.symm
   have m23 : ¬ is = ih := fun e => n23 e.symm
   skip
   refine wps_cutG2 (m := fun _ => false) (σ := Pu) (fun x => Ok x ∧ Eas p x)
    (fun x => [(5, pptr p), (11, intsAV l), (14, spansAV (playV p l)), (18, .ref i18 0 5 0 0)])
    (fun x => H.set i18 (.box 5 1 fun _ => x.cs)) (fun _ => []) ?_ fun x hx => ?_
   ·have hk0 : 0 ≤ U.tmod 4 := Int.tmod_nonneg _ (by ((try clear h1); (try clear h2); (try clear h3); (try clear n12); (try clear n13); (try clear n23); (try clear m12); (try clear m13); (try clear m23); omega))
    have hk1 : U.tmod 4 < 4 := Int.tmod_lt_of_pos _ (by ((try clear h1); (try clear h2); (try clear h3); (try clear n12); (try clear n13); (try clear n23); (try clear m12); (try clear m13); (try clear m23); omega))
    simp only [vsAll, binA, binLitA, intA, loadA, loadRow, partA, partOk, fieldAddrA, lenA, convA, pickA, opA, guardV, dstOk, nilSliceOp, Nat.reduceLT, Nat.reduceEqDiff, Int.reduceEq, ↓reduceIte, implies_true, eq_self, ne_eq, wtAll, Try.ntmps9]
    generalize U.tmod 4 = kk at hk0 hk1 ⊢
    refine ⟨by simp only [InR_i64]; ((try clear h1); (try clear h2); (try clear h3); (try clear n12); (try clear n13); (try clear n23); (try clear m12); (try clear m13); (try clear m23); omega), by simp only [InR_i64]; ((try clear h1); (try clear h2); (try clear h3); (try clear n12); (try clear n13); (try clear n23); (try clear m12); (try clear m13); (try clear m23); omega), condV (fun hc0 => ?_) (fun hc0 => ?_)⟩
    ·rw [Bool.and_eq_true, decide_eq_true_eq, decide_eq_true_eq] at hc0
     have hn0 : 0 < p.fl.length := by ((try clear h1); (try clear h2); (try clear h3); (try clear n12); (try clear n13); (try clear n23); (try clear m12); (try clear m13); (try clear m23); omega)
     have hj0 : 0 ≤ C.tmod (p.fl.length : Int) := Int.tmod_nonneg _ (by ((try clear h1); (try clear h2); (try clear h3); (try clear n12); (try clear n13); (try clear n23); (try clear m12); (try clear m13); (try clear m23); omega))
     have hj1 : C.tmod (p.fl.length : Int) < p.fl.length := Int.tmod_lt_of_pos _ (by ((try clear h1); (try clear h2); (try clear h3); (try clear n12); (try clear n13); (try clear n23); (try clear m12); (try clear m13); (try clear m23); omega))
     obtain ⟨j, hj⟩ : ∃ j : Nat, C.tmod (p.fl.length : Int) = (j : Int) := ⟨(C.tmod (p.fl.length : Int)).toNat, by ((try clear h1); (try clear h2); (try clear h3); (try clear n12); (try clear n13); (try clear n23); (try clear m12); (try clear m13); (try clear m23); omega)⟩
     have hjs : j < p.fl.length := by ((try clear h1); (try clear h2); (try clear h3); (try clear n12); (try clear n13); (try clear n23); (try clear m12); (try clear m13); (try clear m23); omega)
     have hkf := k.f j hjs
     unfold okF at hkf
     simp only [vsAll]
     refine vs_draw2 [0, 0, 0, 0, 0, 0, 0, 0, 0, 0] [] [0, 1, 2, 3, 4, 5, 6, 7, 8, 9] (by decide +kernel) ?_
     simp only [vsAll, binA, binLitA, intA, loadA, loadRow, partA, partOk, fieldAddrA, indexAddrA, lenA, convA, opA, dstOk, Nat.reduceLT, Nat.reduceEqDiff, ↓reduceIte, eq_self, ne_eq, wtAll, hj]
     refine ⟨by simp only [InR_i64]; ((try clear h1); (try clear h2); (try clear h3); (try clear n12); (try clear n13); (try clear n23); (try clear m12); (try clear m13); (try clear m23); omega), by ((try clear h1); (try clear h2); (try clear h3); (try clear n12); (try clear n13); (try clear n23); (try clear m12); (try clear m13); (try clear m23); omega), ⟨by ((try clear h1); (try clear h2); (try clear h3); (try clear n12); (try clear n13); (try clear n23); (try clear m12); (try clear m13); (try clear m23); omega), by ((try clear h1); (try clear h2); (try clear h3); (try clear n12); (try clear n13); (try clear n23); (try clear m12); (try clear m13); (try clear m23); omega)⟩, ?_⟩
     refine vs_draw2 [0, 0, 0, 0, 0, 0, 0, 0, 0, 0, 0, 0, 0, 0, 1] [([0, 1, 2, 3, 4, 5, 6, 7, 8, 9, 10, 11, 12, 13], [], 14)] [] (by decide +kernel) ?_
     simp only [vsAll, binA, binLitA, intA, loadA, loadRow, partA, partOk, fieldAddrA, nilCheckA, cellA, cellsA, mmA, okAll, stAll, opsA, opA, newCells, okCells, storeObj, dstOk, Nat.reduceAdd, Nat.reduceLT, Nat.reduceEqDiff, ↓reduceIte, eq_self, wtAll, n23, m12, spanF_at]
     obtain ⟨ox, mx⟩ := mf_ok k hjs (x := ((p.fl.getD j (0, 0)).1, max (p.fl.getD j (0, 0)).1 ((p.fl.getD j (0, 0)).2 - (1 + kk)))) (by unfold okF; simp only []; ((try clear h1); (try clear h2); (try clear h3); (try clear n12); (try clear n13); (try clear n23); (try clear m12); (try clear m13); (try clear m23); omega)) (Int.le_refl _) (by simp only []; ((try clear h1); (try clear h2); (try clear h3); (try clear n12); (try clear n13); (try clear n23); (try clear m12); (try clear m13); (try clear m23); omega))
     have ex : mfP p j ((p.fl.getD j (0, 0)).1, max (p.fl.getD j (0, 0)).1 ((p.fl.getD j (0, 0)).2 - (1 + kk))) = { p with fl := p.fl.set j ((p.fl.getD j (0, 0)).1, max (p.fl.getD j (0, 0)).1 ((p.fl.getD j (0, 0)).2 - (1 + kk))) } := rfl
     have hle : Obj.Le (.row 2 p.fl.length (updF p.fl.length j (spanF p.fl) [i64 (p.fl.getD j (0, 0)).1, i64 (max (p.fl.getD j (0, 0)).1 ((p.fl.getD j (0, 0)).2 - (1 + kk)))])) (.row 2 p.fl.length (spanF (p.fl.set j ((p.fl.getD j (0, 0)).1, max (p.fl.getD j (0, 0)).1 ((p.fl.getD j (0, 0)).2 - (1 + kk)))))) := row_setG (fun x : Int × Int => [i64 x.1, i64 x.2]) (0, 0) p.fl 2 j ((p.fl.getD j (0, 0)).1, max (p.fl.getD j (0, 0)).1 ((p.fl.getD j (0, 0)).2 - (1 + kk))) _ rfl hjs
     rw [ex] at ox mx
     have el : (p.fl.set j ((p.fl.getD j (0, 0)).1, max (p.fl.getD j (0, 0)).1 ((p.fl.getD j (0, 0)).2 - (1 + kk)))).length = p.fl.length := List.length_set
     refine ⟨hjs, hjs, by simp only [InR_i64]; ((try clear h1); (try clear h2); (try clear h3); (try clear n12); (try clear n13); (try clear n23); (try clear m12); (try clear m13); (try clear m23); omega), hjs, ?_⟩
     refine cut_more _ i18 ih is h2 h3 n12 n13 n23 ?_ (cutG_of _ ⟨ox, mx⟩ (by simp only [vsAll, Nat.reduceEqDiff, ↓reduceIte, eq_self]) rfl HSub_rfl)
     simp only [mxC, el]
     refine HSub.trans (B := ((H.set ih _).set is (.row 4 p.ws.length (wsF p.ws))).set i18 (.box 5 1 fun _ => mxC p ih is)) (by (repeat (first | exact HSub_rfl | refine HSub_put_eq (by simp only [vsAll, ↓reduceIte, eq_self, n12, m13, m23]) ?_ | refine HSub_drop2 (by simp only [eq_self, h1, h2, h3]) ?_ | refine HSub_keep_eq (by simp only [vsAll, binA, binLitA, intA, aggA, aggV, boolA, nilA2, isConst, unA, loadA, loadRow, partA, partOk, fieldAddrA, indexAddrA, indexA, fieldA, extractA, lenA, nilCheckA, boxA, boxZ, cellA, cellsA, fillA, okParts, buildSliceA, buildMutA, makeSliceA, partIdx, elemsA, lensA, ifaceA, convA, mmA, pickA, okAll, stAll, opsA, partsA, partsOk, opA, allocA, boxMutA, newCells, okCells, storeObj, appendA, guardV, taA, nM, mapUpA, lookA, sliceA, sliceS, boundsA, opO, okO, copyA, dstOk, nilA, quietOk, nilSliceOp, deferV, panA, resA, argFr, retA.eq_1, retA.eq_2, Nat.reduceAdd, Nat.reduceSub, Nat.reduceMul, Nat.reduceLT, Nat.reduceLeDiff, Nat.reduceEqDiff, Nat.reduceBEq, Int.reduceAdd, Int.reduceSub, Int.reduceMul, Int.reduceNeg, Int.reduceLE, Int.reduceLT, Int.reduceEq, Int.reduceNe, Int.reduceToNat, ↓reduceIte, reduceCtorEq, implies_true, forall_const, eq_self, ne_eq, wtAll, Try.ntmps9, Try.results9, h1, h2, h3, n12, n13, n23, m12, m13, m23]) ?_))) (HSub.set (HSub.set (HSub.set (HSub.refl H) hle) (.refl _)) (.refl _))
    ·simp only [vsAll, binA, binLitA, intA, loadA, loadRow, partA, partOk, fieldAddrA, lenA, pickA, opA, guardV, dstOk, nilSliceOp, Nat.reduceLT, Nat.reduceEqDiff, Int.reduceEq, ↓reduceIte, implies_true, eq_self, ne_eq, wtAll]
     refine condV (fun hc1 => ?_) (fun hc1 => ?_)
     ·simp only [vsAll, binA, binLitA, intA, loadA, loadRow, partA, partOk, fieldAddrA, cellA, cellsA, mmA, okAll, stAll, opsA, opA, newCells, okCells, storeObj, dstOk, Nat.reduceAdd, Nat.reduceLT, Nat.reduceLeDiff, Nat.reduceEqDiff, ↓reduceIte, eq_self, wtAll]
      have kca := k.ca
      obtain ⟨ox, mx⟩ := mc_ok k (c := min 100 (p.ca + (1 + kk))) (by ((try clear h1); (try clear h2); (try clear h3); (try clear n12); (try clear n13); (try clear n23); (try clear m12); (try clear m13); (try clear m23); omega)) (by ((try clear h1); (try clear h2); (try clear h3); (try clear n12); (try clear n13); (try clear n23); (try clear m12); (try clear m13); (try clear m23); omega))
      refine ⟨by simp only [InR_i64]; ((try clear h1); (try clear h2); (try clear h3); (try clear n12); (try clear n13); (try clear n23); (try clear m12); (try clear m13); (try clear m23); omega), cut_more (mcP p (min 100 (p.ca + (1 + kk)))) i18 ih is h2 h3 n12 n13 n23 ?_ (cutG_of (mcP p (min 100 (p.ca + (1 + kk)))) ⟨ox, mx⟩ (by simp only [vsAll, Nat.reduceEqDiff, ↓reduceIte, eq_self]) rfl HSub_rfl)⟩
      rw [Hp.set_set]
      exact HSub_rfl
     ·rw [Bool.or_eq_false_iff, decide_eq_false_iff_not, decide_eq_false_iff_not] at hc1
      have hn0 : 0 < p.ws.length := by ((try clear h1); (try clear h2); (try clear h3); (try clear n12); (try clear n13); (try clear n23); (try clear m12); (try clear m13); (try clear m23); omega)
      have hj0 : 0 ≤ C.tmod (p.ws.length : Int) := Int.tmod_nonneg _ (by ((try clear h1); (try clear h2); (try clear h3); (try clear n12); (try clear n13); (try clear n23); (try clear m12); (try clear m13); (try clear m23); omega))
      have hj1 : C.tmod (p.ws.length : Int) < p.ws.length := Int.tmod_lt_of_pos _ (by ((try clear h1); (try clear h2); (try clear h3); (try clear n12); (try clear n13); (try clear n23); (try clear m12); (try clear m13); (try clear m23); omega))
      obtain ⟨j, hj⟩ : ∃ j : Nat, C.tmod (p.ws.length : Int) = (j : Int) := ⟨(C.tmod (p.ws.length : Int)).toNat, by ((try clear h1); (try clear h2); (try clear h3); (try clear n12); (try clear n13); (try clear n23); (try clear m12); (try clear m13); (try clear m23); omega)⟩
      have hjs : j < p.ws.length := by ((try clear h1); (try clear h2); (try clear h3); (try clear n12); (try clear n13); (try clear n23); (try clear m12); (try clear m13); (try clear m23); omega)
      have hkw := k.m.wt hjs
      have ewj : p.ws.getD j wt0 = p.wt j := rfl
      simp only [vsAll, binA, binLitA, intA, opA, dstOk, nilSliceOp, Nat.reduceLT, Nat.reduceEqDiff, Int.reduceEq, ↓reduceIte, eq_self, ne_eq]
      refine condV (fun hc2 => ?_) (fun hc2 => ?_)
      ·simp only [vsAll]
       refine vs_draw2 [0, 0, 0, 0, 0, 0, 0, 0, 0, 0] [] [0, 1, 2, 3, 4, 5, 6, 7, 8, 9] (by decide +kernel) ?_
       simp only [vsAll, binA, binLitA, intA, loadA, loadRow, partA, partOk, fieldAddrA, indexAddrA, lenA, nilCheckA, cellA, cellsA, convA, mmA, okAll, stAll, opsA, opA, newCells, okCells, storeObj, dstOk, Nat.reduceAdd, Nat.reduceLT, Nat.reduceLeDiff, Nat.reduceEqDiff, ↓reduceIte, eq_self, ne_eq, wtAll, m13, hj, wsF_at, ewj]
       refine ⟨by simp only [InR_i64]; ((try clear h1); (try clear h2); (try clear h3); (try clear n12); (try clear n13); (try clear n23); (try clear m12); (try clear m13); (try clear m23); omega), by ((try clear h1); (try clear h2); (try clear h3); (try clear n12); (try clear n13); (try clear n23); (try clear m12); (try clear m13); (try clear m23); omega), ⟨by ((try clear h1); (try clear h2); (try clear h3); (try clear n12); (try clear n13); (try clear n23); (try clear m12); (try clear m13); (try clear m23); omega), by ((try clear h1); (try clear h2); (try clear h3); (try clear n12); (try clear n13); (try clear n23); (try clear m12); (try clear m13); (try clear m23); omega)⟩, hjs, by simp only [InR_i64]; ((try clear h1); (try clear h2); (try clear h3); (try clear n12); (try clear n13); (try clear n23); (try clear m12); (try clear m13); (try clear m23); omega), hjs, ?_⟩
       have eu : ∀ (g : Nat → List AV) c, updF p.ws.length j g c j = c := fun g c => updF_same hjs g c
       refine vs_draw2 [0, 0, 0, 0, 0, 0, 0, 0, 0, 0, 0, 0, 0, 0, 0, 0, 0, 1] [([0, 1, 2, 3, 4, 5, 6, 7, 8, 9, 10, 11, 12, 13, 14, 15, 16], [], 17)] [] (by decide +kernel) ?_
       simp only [vsAll, binA, binLitA, intA, loadA, loadRow, partA, partOk, fieldAddrA, nilCheckA, cellA, cellsA, mmA, okAll, stAll, opsA, opA, newCells, okCells, storeObj, dstOk, Nat.reduceLT, Nat.reduceLeDiff, Nat.reduceEqDiff, ↓reduceIte, eq_self, wtAll, eu]
       refine ⟨hjs, hjs, by simp only [InR_i64]; ((try clear h1); (try clear h2); (try clear h3); (try clear n12); (try clear n13); (try clear n23); (try clear m12); (try clear m13); (try clear m23); omega), hjs, ?_⟩
       obtain ⟨ox, mx⟩ := mw_ok k hjs (w := ⟨min (min 40 ((p.wt j).hi + (1 + kk))) ((p.wt j).lo + (1 + kk)), min 40 ((p.wt j).hi + (1 + kk)), (p.wt j).ti, (p.wt j).re⟩) (by unfold okW; simp only []; ((try clear h1); (try clear h2); (try clear h3); (try clear n12); (try clear n13); (try clear n23); (try clear m12); (try clear m13); (try clear m23); omega)) ⟨by simp only []; ((try clear h1); (try clear h2); (try clear h3); (try clear n12); (try clear n13); (try clear n23); (try clear m12); (try clear m13); (try clear m23); omega), by simp only []; ((try clear h1); (try clear h2); (try clear h3); (try clear n12); (try clear n13); (try clear n23); (try clear m12); (try clear m13); (try clear m23); omega), by simp only []; ((try clear h1); (try clear h2); (try clear h3); (try clear n12); (try clear n13); (try clear n23); (try clear m12); (try clear m13); (try clear m23); omega), by simp only []; ((try clear h1); (try clear h2); (try clear h3); (try clear n12); (try clear n13); (try clear n23); (try clear m12); (try clear m13); (try clear m23); omega)⟩
       have ex : mwP p j ⟨min (min 40 ((p.wt j).hi + (1 + kk))) ((p.wt j).lo + (1 + kk)), min 40 ((p.wt j).hi + (1 + kk)), (p.wt j).ti, (p.wt j).re⟩ = { p with ws := p.ws.set j ⟨min (min 40 ((p.wt j).hi + (1 + kk))) ((p.wt j).lo + (1 + kk)), min 40 ((p.wt j).hi + (1 + kk)), (p.wt j).ti, (p.wt j).re⟩ } := rfl
       rw [ex] at ox mx
       have el : (p.ws.set j ⟨min (min 40 ((p.wt j).hi + (1 + kk))) ((p.wt j).lo + (1 + kk)), min 40 ((p.wt j).hi + (1 + kk)), (p.wt j).ti, (p.wt j).re⟩).length = p.ws.length := List.length_set
       have hle : Obj.Le (.row 4 p.ws.length (updF p.ws.length j (updF p.ws.length j (wsF p.ws) [i64 (p.wt j).lo, i64 (min 40 ((p.wt j).hi + (1 + kk))), i64 (p.wt j).ti, i64 (p.wt j).re]) [i64 (min (min 40 ((p.wt j).hi + (1 + kk))) ((p.wt j).lo + (1 + kk))), i64 (min 40 ((p.wt j).hi + (1 + kk))), i64 (p.wt j).ti, i64 (p.wt j).re])) (.row 4 p.ws.length (wsF (p.ws.set j ⟨min (min 40 ((p.wt j).hi + (1 + kk))) ((p.wt j).lo + (1 + kk)), min 40 ((p.wt j).hi + (1 + kk)), (p.wt j).ti, (p.wt j).re⟩))) := row_ext fun q hq => by
        have e := row_setG (fun x : Wt => x.cs) wt0 p.ws 4 j ⟨min (min 40 ((p.wt j).hi + (1 + kk))) ((p.wt j).lo + (1 + kk)), min 40 ((p.wt j).hi + (1 + kk)), (p.wt j).ti, (p.wt j).re⟩ [i64 (min (min 40 ((p.wt j).hi + (1 + kk))) ((p.wt j).lo + (1 + kk))), i64 (min 40 ((p.wt j).hi + (1 + kk))), i64 (p.wt j).ti, i64 (p.wt j).re] rfl hjs
        rw [updF_at hjs hq]
        show _ = ((p.ws.set j ⟨min (min 40 ((p.wt j).hi + (1 + kk))) ((p.wt j).lo + (1 + kk)), min 40 ((p.wt j).hi + (1 + kk)), (p.wt j).ti, (p.wt j).re⟩).getD q wt0).cs
        rw [getD_setI hjs]
        by_cases c : q = j
        ·rw [if_pos c, if_pos c]
        ·rw [if_neg c, if_neg c, updF_at hjs hq, if_neg c]; rfl
       refine cut_more _ i18 ih is h2 h3 n12 n13 n23 ?_ (cutG_of _ ⟨ox, mx⟩ (by simp only [vsAll, Nat.reduceEqDiff, ↓reduceIte, eq_self]) rfl HSub_rfl)
       simp only [mxC, el]
       refine HSub.trans (B := ((H.set ih (.row 2 p.fl.length (spanF p.fl))).set is _).set i18 (.box 5 1 fun _ => mxC p ih is)) (by (repeat (first | exact HSub_rfl | refine HSub_put_eq (by simp only [vsAll, ↓reduceIte, eq_self, n13, n23, m12]) ?_ | refine HSub_drop2 (by simp only [eq_self, h1, h2, h3]) ?_ | refine HSub_keep_eq (by simp only [vsAll, binA, binLitA, intA, aggA, aggV, boolA, nilA2, isConst, unA, loadA, loadRow, partA, partOk, fieldAddrA, indexAddrA, indexA, fieldA, extractA, lenA, nilCheckA, boxA, boxZ, cellA, cellsA, fillA, okParts, buildSliceA, buildMutA, makeSliceA, partIdx, elemsA, lensA, ifaceA, convA, mmA, pickA, okAll, stAll, opsA, partsA, partsOk, opA, allocA, boxMutA, newCells, okCells, storeObj, appendA, guardV, taA, nM, mapUpA, lookA, sliceA, sliceS, boundsA, opO, okO, copyA, dstOk, nilA, quietOk, nilSliceOp, deferV, panA, resA, argFr, retA.eq_1, retA.eq_2, Nat.reduceAdd, Nat.reduceSub, Nat.reduceMul, Nat.reduceLT, Nat.reduceLeDiff, Nat.reduceEqDiff, Nat.reduceBEq, Int.reduceAdd, Int.reduceSub, Int.reduceMul, Int.reduceNeg, Int.reduceLE, Int.reduceLT, Int.reduceEq, Int.reduceNe, Int.reduceToNat, ↓reduceIte, reduceCtorEq, implies_true, forall_const, eq_self, ne_eq, wtAll, Try.ntmps9, Try.results9, h1, h2, h3, n12, n13, n23, m12, m13, m23]) ?_))) (HSub.set (HSub.set (HSub.set (HSub.refl H) (.refl _)) hle) (.refl _))
      ·simp only [vsAll, binA, binLitA, intA, opA, dstOk, nilSliceOp, Nat.reduceLT, Nat.reduceEqDiff, Int.reduceEq, ↓reduceIte, eq_self, ne_eq]
       refine condV (fun hc3 => ?_) (fun hc3 => ?_)
       ·simp only [vsAll]
        refine vs_draw2 [0, 0, 0, 0, 0, 0, 0, 0, 0, 0] [] [0, 1, 2, 3, 4, 5, 6, 7, 8, 9] (by decide +kernel) ?_
        simp only [vsAll, binA, binLitA, intA, loadA, loadRow, partA, partOk, fieldAddrA, indexAddrA, lenA, nilCheckA, cellA, cellsA, convA, mmA, okAll, stAll, opsA, opA, newCells, okCells, storeObj, dstOk, Nat.reduceAdd, Nat.reduceLT, Nat.reduceLeDiff, Nat.reduceEqDiff, ↓reduceIte, eq_self, ne_eq, wtAll, m13, hj, wsF_at, ewj]
        refine ⟨by simp only [InR_i64]; ((try clear h1); (try clear h2); (try clear h3); (try clear n12); (try clear n13); (try clear n23); (try clear m12); (try clear m13); (try clear m23); omega), by ((try clear h1); (try clear h2); (try clear h3); (try clear n12); (try clear n13); (try clear n23); (try clear m12); (try clear m13); (try clear m23); omega), ⟨by ((try clear h1); (try clear h2); (try clear h3); (try clear n12); (try clear n13); (try clear n23); (try clear m12); (try clear m13); (try clear m23); omega), by ((try clear h1); (try clear h2); (try clear h3); (try clear n12); (try clear n13); (try clear n23); (try clear m12); (try clear m13); (try clear m23); omega)⟩, hjs, by simp only [InR_i64]; ((try clear h1); (try clear h2); (try clear h3); (try clear n12); (try clear n13); (try clear n23); (try clear m12); (try clear m13); (try clear m23); omega), hjs, ?_⟩
        obtain ⟨ox, mx⟩ := mw_ok k hjs (w := ⟨(p.wt j).lo, (p.wt j).hi, max 0 ((p.wt j).ti - (1 + kk)), (p.wt j).re⟩) (by unfold okW; simp only []; ((try clear h1); (try clear h2); (try clear h3); (try clear n12); (try clear n13); (try clear n23); (try clear m12); (try clear m13); (try clear m23); omega)) ⟨by simp only []; ((try clear h1); (try clear h2); (try clear h3); (try clear n12); (try clear n13); (try clear n23); (try clear m12); (try clear m13); (try clear m23); omega), by simp only []; ((try clear h1); (try clear h2); (try clear h3); (try clear n12); (try clear n13); (try clear n23); (try clear m12); (try clear m13); (try clear m23); omega), by simp only []; ((try clear h1); (try clear h2); (try clear h3); (try clear n12); (try clear n13); (try clear n23); (try clear m12); (try clear m13); (try clear m23); omega), by simp only []; ((try clear h1); (try clear h2); (try clear h3); (try clear n12); (try clear n13); (try clear n23); (try clear m12); (try clear m13); (try clear m23); omega)⟩
        have ex : mwP p j ⟨(p.wt j).lo, (p.wt j).hi, max 0 ((p.wt j).ti - (1 + kk)), (p.wt j).re⟩ = { p with ws := p.ws.set j ⟨(p.wt j).lo, (p.wt j).hi, max 0 ((p.wt j).ti - (1 + kk)), (p.wt j).re⟩ } := rfl
        rw [ex] at ox mx
        have el : (p.ws.set j ⟨(p.wt j).lo, (p.wt j).hi, max 0 ((p.wt j).ti - (1 + kk)), (p.wt j).re⟩).length = p.ws.length := List.length_set
        have hle : Obj.Le (.row 4 p.ws.length (updF p.ws.length j (wsF p.ws) [i64 (p.wt j).lo, i64 (p.wt j).hi, i64 (max 0 ((p.wt j).ti - (1 + kk))), i64 (p.wt j).re])) (.row 4 p.ws.length (wsF (p.ws.set j ⟨(p.wt j).lo, (p.wt j).hi, max 0 ((p.wt j).ti - (1 + kk)), (p.wt j).re⟩))) := row_setG (fun x : Wt => x.cs) wt0 p.ws 4 j ⟨(p.wt j).lo, (p.wt j).hi, max 0 ((p.wt j).ti - (1 + kk)), (p.wt j).re⟩ _ rfl hjs
        refine cut_more _ i18 ih is h2 h3 n12 n13 n23 ?_ (cutG_of _ ⟨ox, mx⟩ (by simp only [vsAll, Nat.reduceEqDiff, ↓reduceIte, eq_self]) rfl HSub_rfl)
        simp only [mxC, el]
        refine HSub.trans (B := ((H.set ih (.row 2 p.fl.length (spanF p.fl))).set is _).set i18 (.box 5 1 fun _ => mxC p ih is)) (by (repeat (first | exact HSub_rfl | refine HSub_put_eq (by simp only [vsAll, ↓reduceIte, eq_self, n13, n23, m12]) ?_ | refine HSub_drop2 (by simp only [eq_self, h1, h2, h3]) ?_ | refine HSub_keep_eq (by simp only [vsAll, binA, binLitA, intA, aggA, aggV, boolA, nilA2, isConst, unA, loadA, loadRow, partA, partOk, fieldAddrA, indexAddrA, indexA, fieldA, extractA, lenA, nilCheckA, boxA, boxZ, cellA, cellsA, fillA, okParts, buildSliceA, buildMutA, makeSliceA, partIdx, elemsA, lensA, ifaceA, convA, mmA, pickA, okAll, stAll, opsA, partsA, partsOk, opA, allocA, boxMutA, newCells, okCells, storeObj, appendA, guardV, taA, nM, mapUpA, lookA, sliceA, sliceS, boundsA, opO, okO, copyA, dstOk, nilA, quietOk, nilSliceOp, deferV, panA, resA, argFr, retA.eq_1, retA.eq_2, Nat.reduceAdd, Nat.reduceSub, Nat.reduceMul, Nat.reduceLT, Nat.reduceLeDiff, Nat.reduceEqDiff, Nat.reduceBEq, Int.reduceAdd, Int.reduceSub, Int.reduceMul, Int.reduceNeg, Int.reduceLE, Int.reduceLT, Int.reduceEq, Int.reduceNe, Int.reduceToNat, ↓reduceIte, reduceCtorEq, implies_true, forall_const, eq_self, ne_eq, wtAll, Try.ntmps9, Try.results9, h1, h2, h3, n12, n13, n23, m12, m13, m23]) ?_))) (HSub.set (HSub.set (HSub.set (HSub.refl H) (.refl _)) hle) (.refl _))
       ·simp only [vsAll]
        refine vs_draw2 [0, 0, 0, 0, 0, 0, 0, 0, 0, 0] [] [0, 1, 2, 3, 4, 5, 6, 7, 8, 9] (by decide +kernel) ?_
        simp only [vsAll, binA, binLitA, intA, loadA, loadRow, partA, partOk, fieldAddrA, indexAddrA, lenA, nilCheckA, cellA, cellsA, convA, mmA, okAll, stAll, opsA, opA, newCells, okCells, storeObj, dstOk, Nat.reduceAdd, Nat.reduceLT, Nat.reduceEqDiff, ↓reduceIte, eq_self, ne_eq, wtAll, m13, hj, wsF_at, ewj]
        refine ⟨by simp only [InR_i64]; ((try clear h1); (try clear h2); (try clear h3); (try clear n12); (try clear n13); (try clear n23); (try clear m12); (try clear m13); (try clear m23); omega), by ((try clear h1); (try clear h2); (try clear h3); (try clear n12); (try clear n13); (try clear n23); (try clear m12); (try clear m13); (try clear m23); omega), ⟨by ((try clear h1); (try clear h2); (try clear h3); (try clear n12); (try clear n13); (try clear n23); (try clear m12); (try clear m13); (try clear m23); omega), by ((try clear h1); (try clear h2); (try clear h3); (try clear n12); (try clear n13); (try clear n23); (try clear m12); (try clear m13); (try clear m23); omega)⟩, hjs, by simp only [InR_i64]; ((try clear h1); (try clear h2); (try clear h3); (try clear n12); (try clear n13); (try clear n23); (try clear m12); (try clear m13); (try clear m23); omega), hjs, ?_⟩
        obtain ⟨ox, mx⟩ := mw_ok k hjs (w := ⟨(p.wt j).lo, (p.wt j).hi, (p.wt j).ti, max 0 ((p.wt j).re - (1 + kk))⟩) (by unfold okW; simp only []; ((try clear h1); (try clear h2); (try clear h3); (try clear n12); (try clear n13); (try clear n23); (try clear m12); (try clear m13); (try clear m23); omega)) ⟨by simp only []; ((try clear h1); (try clear h2); (try clear h3); (try clear n12); (try clear n13); (try clear n23); (try clear m12); (try clear m13); (try clear m23); omega), by simp only []; ((try clear h1); (try clear h2); (try clear h3); (try clear n12); (try clear n13); (try clear n23); (try clear m12); (try clear m13); (try clear m23); omega), by simp only []; ((try clear h1); (try clear h2); (try clear h3); (try clear n12); (try clear n13); (try clear n23); (try clear m12); (try clear m13); (try clear m23); omega), by simp only []; ((try clear h1); (try clear h2); (try clear h3); (try clear n12); (try clear n13); (try clear n23); (try clear m12); (try clear m13); (try clear m23); omega)⟩
        have ex : mwP p j ⟨(p.wt j).lo, (p.wt j).hi, (p.wt j).ti, max 0 ((p.wt j).re - (1 + kk))⟩ = { p with ws := p.ws.set j ⟨(p.wt j).lo, (p.wt j).hi, (p.wt j).ti, max 0 ((p.wt j).re - (1 + kk))⟩ } := rfl
        rw [ex] at ox mx
        have el : (p.ws.set j ⟨(p.wt j).lo, (p.wt j).hi, (p.wt j).ti, max 0 ((p.wt j).re - (1 + kk))⟩).length = p.ws.length := List.length_set
        have hle : Obj.Le (.row 4 p.ws.length (updF p.ws.length j (wsF p.ws) [i64 (p.wt j).lo, i64 (p.wt j).hi, i64 (p.wt j).ti, i64 (max 0 ((p.wt j).re - (1 + kk)))])) (.row 4 p.ws.length (wsF (p.ws.set j ⟨(p.wt j).lo, (p.wt j).hi, (p.wt j).ti, max 0 ((p.wt j).re - (1 + kk))⟩))) := row_setG (fun x : Wt => x.cs) wt0 p.ws 4 j ⟨(p.wt j).lo, (p.wt j).hi, (p.wt j).ti, max 0 ((p.wt j).re - (1 + kk))⟩ _ rfl hjs
        refine cut_more _ i18 ih is h2 h3 n12 n13 n23 ?_ (cutG_of _ ⟨ox, mx⟩ (by simp only [vsAll, Nat.reduceEqDiff, ↓reduceIte, eq_self]) rfl HSub_rfl)
        simp only [mxC, el]
        refine HSub.trans (B := ((H.set ih (.row 2 p.fl.length (spanF p.fl))).set is _).set i18 (.box 5 1 fun _ => mxC p ih is)) (by (repeat (first | exact HSub_rfl | refine HSub_put_eq (by simp only [vsAll, ↓reduceIte, eq_self, n13, n23, m12]) ?_ | refine HSub_drop2 (by simp only [eq_self, h1, h2, h3]) ?_ | refine HSub_keep_eq (by simp only [vsAll, binA, binLitA, intA, aggA, aggV, boolA, nilA2, isConst, unA, loadA, loadRow, partA, partOk, fieldAddrA, indexAddrA, indexA, fieldA, extractA, lenA, nilCheckA, boxA, boxZ, cellA, cellsA, fillA, okParts, buildSliceA, buildMutA, makeSliceA, partIdx, elemsA, lensA, ifaceA, convA, mmA, pickA, okAll, stAll, opsA, partsA, partsOk, opA, allocA, boxMutA, newCells, okCells, storeObj, appendA, guardV, taA, nM, mapUpA, lookA, sliceA, sliceS, boundsA, opO, okO, copyA, dstOk, nilA, quietOk, nilSliceOp, deferV, panA, resA, argFr, retA.eq_1, retA.eq_2, Nat.reduceAdd, Nat.reduceSub, Nat.reduceMul, Nat.reduceLT, Nat.reduceLeDiff, Nat.reduceEqDiff, Nat.reduceBEq, Int.reduceAdd, Int.reduceSub, Int.reduceMul, Int.reduceNeg, Int.reduceLE, Int.reduceLT, Int.reduceEq, Int.reduceNe, Int.reduceToNat, ↓reduceIte, reduceCtorEq, implies_true, forall_const, eq_self, ne_eq, wtAll, Try.ntmps9, Try.results9, h1, h2, h3, n12, n13, n23, m12, m13, m23]) ?_))) (HSub.set (HSub.set (HSub.set (HSub.refl H) (.refl _)) hle) (.refl _))
   ·obtain ⟨kx, mx⟩ := hx
    have knx := kx.near
    obtain ⟨ell, hlr⟩ := plan_rng hl
    have epl : playE p l = 0 := by rw [playE_of hl]; exact he
    have hex : errE x true = 0 := by rw [eas_err k kx mx]; exact he
    have epx : playE x l = 0 := by rw [playE_of (by rw [eas_planB mx]; exact hl)]; exact hex
    obtain ⟨g1, g2⟩ := play_at epl
    obtain ⟨g3, g4⟩ := play_at epx
    have hwat := fun b i (hi : i ≤ p.fl.length) => eas_wat k kx mx l b (Nat.le_refl _) hlr i hi
    have hfl := eas_flo k kx mx epl epx hl
    have hun := eas_unt k kx mx he
    have hfe := eas_few k kx mx
    have u1 : untE p = 0 := he
    have u2 : untE x = 0 := hex
    refine wps_vs (m := fun _ => false) ?_
    simp only [vsAll, loadA, loadRow, partA, partOk, okAll, stAll, opsA, opA, dstOk, Nat.reduceLT, Nat.reduceEqDiff, ↓reduceIte, eq_self, wtAll, Try.ntmps9]
    refine callK_pure (wplay_tri x l _ knx (by ((try clear h1); (try clear h2); (try clear h3); (try clear n12); (try clear n13); (try clear n23); (try clear m12); (try clear m13); (try clear m23); omega))) ?_
    simp only [vsAll, binA, binLitA, intA, extractA, lenA, pickA, opA, guardV, dstOk, nilSliceOp, Nat.reduceAdd, Nat.reduceLT, Nat.reduceEqDiff, ↓reduceIte, implies_true, eq_self, wtAll, epx, g1, g3]
    refine vs_loop (σ := Nat) (fun i => i ≤ l.length) (fun i => [(5, pptr p), (11, intsAV l), (14, spansAV (playV p l)), (18, .ref i18 0 5 0 0), (24, spansAV (playV x l)), (303, i64 l.length), (304, i64 i)])
     (fun _ => H.set i18 (.box 5 1 fun _ => x.cs)) (fun i => l.length - i) 0 (Nat.zero_le _) ?_ HSub_rfl fun i hi => ?_
    ·simp only [vsAll, Nat.reduceEqDiff, ↓reduceIte, eq_self, Int.natCast_zero]
     rw [spansAV, g3]
     exact AV.Le.refl _
    ·simp only [vsAll, binA, binLitA, intA, opA, dstOk, Nat.reduceLT, Nat.reduceEqDiff, ↓reduceIte, eq_self]
     refine condD (fun hd => ?_) (fun hd => ?_)
     ·have his : i < l.length := by ((try clear h1); (try clear h2); (try clear h3); (try clear n12); (try clear n13); (try clear n23); (try clear m12); (try clear m13); (try clear m23); omega)
      have h4 := g2 i his
      have h5 := g4 i his
      have h6 := hwat true (i + 1) (by ((try clear h1); (try clear h2); (try clear h3); (try clear n12); (try clear n13); (try clear n23); (try clear m12); (try clear m13); (try clear m23); omega))
      have h7 := hwat false (i + 1) (by ((try clear h1); (try clear h2); (try clear h3); (try clear n12); (try clear n13); (try clear n23); (try clear m12); (try clear m13); (try clear m23); omega))
      have d1 : decide (watV p l true (i + 1) < watV x l true (i + 1)) = false := decide_eq_false (by ((try clear h1); (try clear h2); (try clear h3); (try clear n12); (try clear n13); (try clear n23); (try clear m12); (try clear m13); (try clear m23); omega))
      have d2 : decide (watV p l false (i + 1) < watV x l false (i + 1)) = false := decide_eq_false (by ((try clear h1); (try clear h2); (try clear h3); (try clear n12); (try clear n13); (try clear n23); (try clear m12); (try clear m13); (try clear m23); omega))
      simp only [vsAll, opA, dstOk, nilSliceOp, Nat.reduceLT, Nat.reduceEqDiff, ↓reduceIte, eq_self]
      refine vs_draw2 [0, 0, 0, 0, 0, 0, 0, 0, 0, 0, 0, 0, 0, 0, 0, 0, 0, 0, 0, 0, 0, 0, 0, 0] [] [0, 1, 2, 3, 4, 5, 6, 7, 8, 9, 10, 11, 12, 13, 14, 15, 16, 17, 18, 19, 20, 21, 22, 23] (by decide +kernel) ?_
      simp only [vsAll, binA, binLitA, intA, loadA, loadRow, partA, partOk, fieldAddrA, indexAddrA, pickA, opA, guardV, dstOk, Nat.reduceLT, Nat.reduceEqDiff, ↓reduceIte, implies_true, forall_const, eq_self, wtAll, spanF_at, h4, h5, d1, d2, g1, g3]
      refine ⟨⟨by ((try clear h1); (try clear h2); (try clear h3); (try clear n12); (try clear n13); (try clear n23); (try clear m12); (try clear m13); (try clear m23); omega), by ((try clear h1); (try clear h2); (try clear h3); (try clear n12); (try clear n13); (try clear n23); (try clear m12); (try clear m13); (try clear m23); omega)⟩, his, ⟨by ((try clear h1); (try clear h2); (try clear h3); (try clear n12); (try clear n13); (try clear n23); (try clear m12); (try clear m13); (try clear m23); omega), by ((try clear h1); (try clear h2); (try clear h3); (try clear n12); (try clear n13); (try clear n23); (try clear m12); (try clear m13); (try clear m23); omega)⟩, his, ⟨by ((try clear h1); (try clear h2); (try clear h3); (try clear n12); (try clear n13); (try clear n23); (try clear m12); (try clear m13); (try clear m23); omega), by ((try clear h1); (try clear h2); (try clear h3); (try clear n12); (try clear n13); (try clear n23); (try clear m12); (try clear m13); (try clear m23); omega)⟩, his, ⟨by ((try clear h1); (try clear h2); (try clear h3); (try clear n12); (try clear n13); (try clear n23); (try clear m12); (try clear m13); (try clear m23); omega), by ((try clear h1); (try clear h2); (try clear h3); (try clear n12); (try clear n13); (try clear n23); (try clear m12); (try clear m13); (try clear m23); omega)⟩, his, by simp only [InR_i64]; ((try clear h1); (try clear h2); (try clear h3); (try clear n12); (try clear n13); (try clear n23); (try clear m12); (try clear m13); (try clear m23); omega), loop_next (i + 1) (by ((try clear h1); (try clear h2); (try clear h3); (try clear n12); (try clear n13); (try clear n23); (try clear m12); (try clear m13); (try clear m23); omega)) (by ((try clear h1); (try clear h2); (try clear h3); (try clear n12); (try clear n13); (try clear n23); (try clear m12); (try clear m13); (try clear m23); omega)) ?_ HSub_rfl⟩
      simp only [vsAll, Nat.reduceEqDiff, ↓reduceIte, eq_self, Int.natCast_add, Int.natCast_one]
     ·simp only [vsAll, loadA, loadRow, partA, partOk, okAll, stAll, opsA, opA, dstOk, Nat.reduceLT, Nat.reduceEqDiff, ↓reduceIte, eq_self, wtAll]
      refine callK_pure (flo_tri p l _ kn (by ((try clear h1); (try clear h2); (try clear h3); (try clear n12); (try clear n13); (try clear n23); (try clear m12); (try clear m13); (try clear m23); omega))) ?_
      simp only [vsAll, loadA, loadRow, partA, partOk, extractA, okAll, stAll, opsA, opA, dstOk, nilSliceOp, Nat.reduceAdd, Nat.reduceLT, Nat.reduceEqDiff, ↓reduceIte, eq_self, wtAll, epl]
      refine callK_pure (flo_tri x l _ knx (by ((try clear h1); (try clear h2); (try clear h3); (try clear n12); (try clear n13); (try clear n23); (try clear m12); (try clear m13); (try clear m23); omega))) ?_
      simp only [vsAll, loadA, loadRow, partA, partOk, extractA, okAll, stAll, opsA, opA, dstOk, nilSliceOp, Nat.reduceAdd, Nat.reduceLT, Nat.reduceEqDiff, ↓reduceIte, eq_self, wtAll, epx]
      refine callK_pure (unt_tri p _ kn) ?_
      simp only [vsAll, loadA, loadRow, partA, partOk, extractA, okAll, stAll, opsA, opA, dstOk, nilSliceOp, Nat.reduceAdd, Nat.reduceLT, Nat.reduceEqDiff, ↓reduceIte, eq_self, wtAll, u1]
      refine callK_pure (unt_tri x _ knx) ?_
      simp only [vsAll, loadA, loadRow, partA, partOk, extractA, okAll, stAll, opsA, opA, dstOk, nilSliceOp, Nat.reduceAdd, Nat.reduceLT, Nat.reduceEqDiff, ↓reduceIte, eq_self, wtAll, u2]
      refine callK_pure (few_tri p _ kn) ?_
      simp only [vsAll, loadA, loadRow, partA, partOk, extractA, okAll, stAll, opsA, opA, dstOk, nilSliceOp, Nat.reduceAdd, Nat.reduceLT, Nat.reduceEqDiff, ↓reduceIte, eq_self, wtAll]
      refine callK_pure (few_tri x _ knx) ?_
      have e1 : decide (floV p l ≤ floV x l) = true := decide_eq_true hfl
      have e2 : decide (untV p ≤ untV x) = true := decide_eq_true hun
      have e3 : (!decide (fewE p = 0) || decide (fewE x = 0) && decide (fewN x ≤ fewN p)) = true := by
       by_cases hz : fewE p = 0
       ·obtain ⟨a1, a2⟩ := hfe hz
        rw [a1, decide_eq_true a2, decide_eq_true hz]; rfl
       ·rw [decide_eq_false hz]; rfl
      simp only [vsAll, binA, binLitA, intA, extractA, pickA, opA, guardV, dstOk, nilSliceOp, Nat.reduceAdd, Nat.reduceLT, Nat.reduceEqDiff, ↓reduceIte, implies_true, eq_self, e1, e2]
      refine ⟨fun g => ⟨g, fun g2 => by rw [g, g2]; rfl⟩, ?_⟩
      rw [e3]
      refine gcall (boo true) (fun g => ⟨trivial, by simp only [okAll, opsA], awake_tri _⟩) ?_
      simp only [vsAll, pickA, opA, dstOk, nilSliceOp, resA, retA.eq_1, Nat.reduceLT, Nat.reduceEqDiff, ↓reduceIte, implies_true, eq_self, Try.results9]
      exact dropR_pure rfl (by (repeat (first | exact HSub_rfl | refine HSub_put_eq (by simp only [vsAll, binA, binLitA, intA, aggA, aggV, boolA, nilA2, isConst, unA, loadA, loadRow, partA, partOk, fieldAddrA, indexAddrA, indexA, fieldA, extractA, lenA, nilCheckA, boxA, boxZ, cellA, cellsA, fillA, okParts, buildSliceA, buildMutA, makeSliceA, partIdx, elemsA, lensA, ifaceA, convA, mmA, pickA, okAll, stAll, opsA, partsA, partsOk, opA, allocA, boxMutA, newCells, okCells, storeObj, appendA, guardV, taA, nM, mapUpA, lookA, sliceA, sliceS, boundsA, opO, okO, copyA, dstOk, nilA, quietOk, nilSliceOp, deferV, panA, resA, argFr, retA.eq_1, retA.eq_2, Nat.reduceAdd, Nat.reduceSub, Nat.reduceMul, Nat.reduceLT, Nat.reduceLeDiff, Nat.reduceEqDiff, Nat.reduceBEq, Int.reduceAdd, Int.reduceSub, Int.reduceMul, Int.reduceNeg, Int.reduceLE, Int.reduceLT, Int.reduceEq, Int.reduceNe, Int.reduceToNat, ↓reduceIte, reduceCtorEq, implies_true, forall_const, eq_self, ne_eq, wtAll, Try.ntmps9, Try.results9, h1, h2, h3, n12, n13, n23, m12, m13, m23]) ?_ | refine HSub_drop2 (by simp only [eq_self, h1]) ?_ | refine HSub_keep_eq (by simp only [vsAll, binA, binLitA, intA, aggA, aggV, boolA, nilA2, isConst, unA, loadA, loadRow, partA, partOk, fieldAddrA, indexAddrA, indexA, fieldA, extractA, lenA, nilCheckA, boxA, boxZ, cellA, cellsA, fillA, okParts, buildSliceA, buildMutA, makeSliceA, partIdx, elemsA, lensA, ifaceA, convA, mmA, pickA, okAll, stAll, opsA, partsA, partsOk, opA, allocA, boxMutA, newCells, okCells, storeObj, appendA, guardV, taA, nM, mapUpA, lookA, sliceA, sliceS, boundsA, opO, okO, copyA, dstOk, nilA, quietOk, nilSliceOp, deferV, panA, resA, argFr, retA.eq_1, retA.eq_2, Nat.reduceAdd, Nat.reduceSub, Nat.reduceMul, Nat.reduceLT, Nat.reduceLeDiff, Nat.reduceEqDiff, Nat.reduceBEq, Int.reduceAdd, Int.reduceSub, Int.reduceMul, Int.reduceNeg, Int.reduceLE, Int.reduceLT, Int.reduceEq, Int.reduceNe, Int.reduceToNat, ↓reduceIte, reduceCtorEq, implies_true, forall_const, eq_self, ne_eq, wtAll, Try.ntmps9, Try.results9, h1, h2, h3, n12, n13, n23, m12, m13, m23]) ?_)))
end Go.Proofs.Ytkcgocmjaggdiaa
end
section
set_option linter.unusedVariables false
set_option linter.unusedSimpArgs false
set_option maxRecDepth 100000
namespace Go.Proofs.Ytkcgocmjaggdiaa
open Go.V Go.ChangeShapes Go.WideShapes Go.ChangeAt Go.RowKit
theorem pumpMore_lifted (os : Os) (started : os.Started) (H : Type) (enc : TypeId × Value → H) :
 ReturnsInHanded {} Try.checked os 9 .any (Rows.pumpMoreSpec.pre6 enc Try.prog Try.f9 Rows.pumpMoreRow.domain false) (Rows.pumpMoreSpec.post enc Try.prog Try.f9 false true false false) := by
 refine returnsInHanded_of_change (C := Try.checked) Try.own started (by kernel_rfl) Try.func9
  (ChangeSpec.witness6 (enc := enc) (C := Try.checked) false ⟨#[], #[.agg #[.slice none 0 0, .int .i64 0, .slice none 0 0, .slice none 0 0, .slice none 0 0], .slice none 0 0, .int .u8 0, .int .u8 0, .int .u8 0], []⟩ 8 (by kernel_rfl) (by kernel_rfl) (by kernel_rfl) (by kernel_rfl)) ?_
 intro W base args ds gs before hval hW hcnd _
 have hW' := hW
 obtain ⟨p, q, hA, hV, rfl, hfz, hnd⟩ := hW
 obtain ⟨rfl, rfl⟩ := trodVars_none hV
 rw [show Try.f9.params.toList = [29, 43, 5, 5, 5] from by kernel_rfl] at hA
 obtain ⟨v0, v1, v2, v3, v4, d0, d1, d2, d3, d4, p0, p1, p2, p3, p4, rfl, rfl, rfl, h0, h1, h2, h3, h4⟩ := trodAll_five hA
 have hval : ∀ (j : Nat) t v, Try.f9.params[j]? = some t → (#[v0, v1, v2, v3, v4] : Array Value)[j]? = some v → Value.okWide Try.prog W .any base t v := hval
 rw [show Try.f9.params = #[29, 43, 5, 5, 5] from by kernel_rfl] at hval
 obtain ⟨x0, b0, r0⟩ := pump_rel (hval 0 29 v0 rfl rfl) h0
 obtain ⟨N1, x1, b1, r1⟩ := by_rel (hval 1 43 v1 rfl rfl) h1
 obtain ⟨x2, rfl, rfl, rfl, w2⟩ := open_int u5 (hval 2 5 v2 rfl rfl) h2
 obtain ⟨x3, rfl, rfl, rfl, w3⟩ := open_int u5 (hval 3 5 v3 rfl rfl) h3
 obtain ⟨x4, rfl, rfl, rfl, w4⟩ := open_int u5 (hval 4 5 v4 rfl rfl) h4
 refine (law_calls (W := W) (args := #[v0, v1, .int .u8 x2, .int .u8 x3, .int .u8 x4]) Try.func9 (by kernel_rfl) rfl (Tri.mono (more_law x0 N1 x1 x2 x3 x4 H0 b1 (wf_u8 w2) (wf_u8 w3) (wf_u8 w4)) ?_) (fun p hp => by cases hp) ⟨rfl, fun k hk => match k, hk with | 0, _ => r0 | 1, _ => r1 | 2, _ => .lit _ | 3, _ => .lit _ | 4, _ => .lit _⟩).mono fun e W' he => ?_
 ·rintro r H' ⟨rfl, _⟩; rfl
 ·obtain ⟨rfl, hh, ho, hp⟩ := he
  exact ⟨_, rfl, law_post (d := 6) rfl (tb := 4) (by kernel_rfl) u4 (by decide +kernel) hW' rfl hh ho hp⟩

theorem pumpMore_holds : Rows.PumpMoreSaid :=
 OpenClaim.holds_of_wide (p := Try.pinned) (s := Rows.pumpMoreSpec) (c := Rows.pumpMoreRow) 9 Try.f9 rfl rfl rfl rfl rfl rfl rfl ⟨rfl, rfl, rfl, rfl, rfl⟩ rfl rfl rfl rfl rfl (by kernel_rfl) Try.func9 (by kernel_rfl)
  (of_decide_eq_true (by kernel_rfl)) (by unfold Func.isWrapper; first | (rw [if_pos (by decide +kernel)]; kernel_rfl) | (rw [if_neg (by decide +kernel)]; exact ⟨rfl, rfl⟩))
  (fun os started H enc _ => pumpMore_lifted os started H enc)

end Go.Proofs.Ytkcgocmjaggdiaa
end
