/- WHAT IS PROVED: the given statement of this claim. Conditions: none beyond the given row. -/
import Derived.Test.YtkcgocmjaggdiaaGreatRows
import Derived.ChangeVars
import Derived.Test.YtkcgocmjaggdiaaGreatLk4
section
set_option linter.unusedVariables false
set_option linter.unusedSimpArgs false
set_option maxHeartbeats 4000000
set_option maxRecDepth 100000
namespace Go.Proofs.YtkcgocmjaggdiaaGreat
open Go.V Wl
theorem vs_entF {P : Program} {m : Option Tmp → Bool} {n : Nat} {k : List It} {s : Fr} {ds : List AD} {H : Hp} {Q : Post} {g : Operand} {ps : Array Tmp} {assign body : Code} (h : Ent s ds H fun s ds H => VS none P m n (.code (.rangeFunc g ps assign body) :: k) s ds H Q) : VS none P m n (.code (.rangeFunc g ps assign body) :: k) s ds H Q :=
 (wps_ent h : WPS none P n (.rangeFunc g ps assign body) s ds H (TK none P m n k Q))
/-- The best and the worst water after so many hours: the first ones with both. -/
def plyH (p : Pu) (l : List Int) (a n : Nat) : List (Int × Int) := (List.range n).map fun i => (watV p l true (i + 1), if i < a then watV p l false (i + 1) else 0)
theorem plyH_len (p : Pu) (l : List Int) (a n : Nat) : (plyH p l a n).length = n := by simp [plyH]
theorem plyH_succ (p : Pu) (l : List Int) (n : Nat) : plyH p l 0 (n + 1) = plyH p l 0 n ++ [(watV p l true (n + 1), 0)] := by simp [plyH, List.range_succ]
theorem plyH_all (p : Pu) (l : List Int) (n : Nat) : plyH p l n n = plyL p l n := by
 unfold plyH plyL
 refine List.map_congr_left fun i hi => ?_
 rw [if_pos (List.mem_range.1 hi)]
theorem plyH_at (p : Pu) (l : List Int) (a : Nat) {n i : Nat} (hi : i < n) : (plyH p l a n).getD i (0, 0) = (watV p l true (i + 1), if i < a then watV p l false (i + 1) else 0) := by
 simp [plyH, List.getD_eq_getElem?_getD, hi]
theorem plyH_upd (p : Pu) (l : List Int) {n i : Nat} (hi : i < n) (q : Nat) (hq : q < n) : updF n i (spanF (plyH p l i n)) (List.take 1 (spanF (plyH p l i n) i) ++ [i64 (watV p l false (i + 1))] ++ List.drop 2 (spanF (plyH p l i n) i)) q = spanF (plyH p l (i + 1) n) q := by
 rw [updF_at hi hq]
 by_cases e : q = i
 ·subst e
  simp only [spanF, plyH_at p l _ hi, Nat.lt_succ_self, if_true]
  simp
 ·simp only [spanF, plyH_at p l _ hq]
  have : (q < i) = (q < i + 1) := by apply propext; omega
  simp [e, this]
/-- What is told of the water, in a row of its own. -/
def playR (p : Pu) (l : List Int) (H : Hp) : Res → Hp → Prop := fun r H' => ∃ id, H id = none ∧ r = .ret (.tuple [.sl id 2 (playV p l).length, i64 (playE p l)]) ∧ H' = H.set id (.row 2 (playV p l).length (spanF (playV p l)))
theorem wplay_triM (p : Pu) (l : List Int) (H : Hp) (kn : Near p) (hl : l.length ≤ 41) : Tri Tryz.prog (fnA 18) [p.av, intsAV l] H (playR p l H) := by
 refine Tri.drop ?_
 refine tri_am (m := mset [4]) ans25 Tryz.func18 (by kernel_rfl) rfl (by simp only [List.length_append, List.length_cons, List.length_nil, Tryz.ntmps18]; decide) ?_
 simp only [vsAll, boxA, boxZ, okAll, stAll, opsA, opA, allocA, dstOk, nilA, argFr, Nat.reduceAdd, Nat.reduceLT, Nat.reduceBEq, ↓reduceIte, eq_self, wtAll, Tryz.ntmps18]
 intro i4 hh_i4; (try simp only [Hp.set_none, ite_none] at hh_i4); intro i5 hh_i5; (try simp only [ite_none] at hh_i5)
 refine vs_draw2 [0, 0, 0, 0, 1, 2] [([0, 1, 2, 3], [], 4)] [5] (by decide +kernel) ?_
 simp only [vsAll, loadA, loadRow, partA, partOk, opA, dstOk, argFr, Nat.reduceLT, Nat.reduceEqDiff, ↓reduceIte, eq_self, wtAll]
 refine qcall _ ⟨trivial, by simp only [vsAll, okAll, opsA, opA, Nat.reduceEqDiff, ↓reduceIte, eq_self], isPlan_tri p l _⟩ ?_
 simp only [vsAll, okAll, stAll, opsA, opA, dstOk, Nat.reduceLT, Nat.reduceEqDiff, ↓reduceIte, eq_self]
 refine open_call (open_tri p _ (planB p l) _ kn trivial rfl (fun k H' => isPlan1_tri p l H' k hl)) (fun he => ?_) (fun k hv hA id hid => ?_)
 ·have e2 : playV p l = [] := if_neg he
  have e : playE p l = errE p (planB p l) := rfl
  simp only [vsAll, loadA, loadRow, partA, partOk, resA, retA.eq_2, Nat.reduceEqDiff, ↓reduceIte, eq_self, wtAll, Tryz.results18]
  refine ⟨errE p (planB p l), i5, _, rfl, rfl, by simp only [↓reduceIte, eq_self]; try rfl, ?_⟩
  simp only [vsAll, Nat.reduceLT, ↓reduceIte, eq_self]
  refine ⟨_, ?_, i4, hh_i4, by simp only [vsAll, eq_self, e2, e]; try rfl, rfl⟩
  rw [e2]
  refine HSub_put (o' := .row 2 0 fun _ => []) (by simp only [vsAll, ↓reduceIte, eq_self, hh_i5]) (row0_le _ _ _) ?_
  (repeat (first | exact HSub_rfl | refine HSub_put_eq (by simp only [vsAll, binA, binLitA, intA, aggA, aggV, boolA, nilA2, isConst, unA, loadA, loadRow, partA, partOk, fieldAddrA, indexAddrA, indexA, fieldA, extractA, lenA, nilCheckA, boxA, boxZ, cellA, cellsA, fillA, okParts, buildSliceA, buildMutA, makeSliceA, partIdx, elemsA, lensA, ifaceA, convA, mmA, pickA, okAll, stAll, opsA, partsA, partsOk, opA, allocA, boxMutA, newCells, okCells, storeObj, appendA, guardV, taA, nM, mapUpA, lookA, sliceA, sliceM, sliceS, boundsA, opO, okO, copyA, dstOk, nilA, quietOk, nilSliceOp, deferV, panA, resA, argFr, retA.eq_1, retA.eq_2, Nat.reduceAdd, Nat.reduceSub, Nat.reduceMul, Nat.reduceLT, Nat.reduceLeDiff, Nat.reduceEqDiff, Nat.reduceBEq, Int.reduceAdd, Int.reduceSub, Int.reduceMul, Int.reduceNeg, Int.reduceLE, Int.reduceLT, Int.reduceEq, Int.reduceNe, Int.reduceToNat, ↓reduceIte, reduceCtorEq, implies_true, forall_const, eq_self, ne_eq, wtAll, Tryz.ntmps18, Tryz.results18, hh_i4, hh_i5]) ?_ | refine HSub_drop2 (by simp only [eq_self, hh_i4, hh_i5]) ?_ | refine HSub_keep_eq (by simp only [vsAll, binA, binLitA, intA, aggA, aggV, boolA, nilA2, isConst, unA, loadA, loadRow, partA, partOk, fieldAddrA, indexAddrA, indexA, fieldA, extractA, lenA, nilCheckA, boxA, boxZ, cellA, cellsA, fillA, okParts, buildSliceA, buildMutA, makeSliceA, partIdx, elemsA, lensA, ifaceA, convA, mmA, pickA, okAll, stAll, opsA, partsA, partsOk, opA, allocA, boxMutA, newCells, okCells, storeObj, appendA, guardV, taA, nM, mapUpA, lookA, sliceA, sliceM, sliceS, boundsA, opO, okO, copyA, dstOk, nilA, quietOk, nilSliceOp, deferV, panA, resA, argFr, retA.eq_1, retA.eq_2, Nat.reduceAdd, Nat.reduceSub, Nat.reduceMul, Nat.reduceLT, Nat.reduceLeDiff, Nat.reduceEqDiff, Nat.reduceBEq, Int.reduceAdd, Int.reduceSub, Int.reduceMul, Int.reduceNeg, Int.reduceLE, Int.reduceLT, Int.reduceEq, Int.reduceNe, Int.reduceToNat, ↓reduceIte, reduceCtorEq, implies_true, forall_const, eq_self, ne_eq, wtAll, Tryz.ntmps18, Tryz.results18, hh_i4, hh_i5]) ?_))
 ·have he : playE p l = 0 := by
   show errE p (planB p l) = 0
   rw [hv]; exact errE_ok k (by ((try clear hh_i4); (try clear hh_i5); omega))
  have hF := firstP_of k hv
  have hn : l.length ≤ p.fl.length := by have := (planB_iff.1 hv).1; ((try clear hh_i4); (try clear hh_i5); omega)
  have hid' := hid
  simp only [Hp.set_none] at hid
  skip
  simp only [vsAll, loadA, loadRow, partA, partOk, nilCheckA, fillA, okParts, ifaceA, okAll, stAll, opsA, partsA, partsOk, opA, allocA, dstOk, Nat.reduceLT, Nat.reduceEqDiff, ↓reduceIte, eq_self, wtAll]
  intro i7 hh_i7; (try simp only [ite_none] at hh_i7)
  simp only [vsAll, Nat.reduceLT, ↓reduceIte, eq_self, hh_i7]
  refine ⟨_, in_tri p false true 0 _, fun r H' hr => ?_⟩
  obtain ⟨j, hj, rfl, rfl⟩ := hr
  simp only [Hp.set_none] at hj
  have hj' := hj
  skip
  simp only [vsAll, okAll, stAll, opsA, opA, dstOk, argFr, Nat.reduceLT, Nat.reduceEqDiff, ↓reduceIte, eq_self]
  refine callK_pure (run_tri p l j _) ?_
  simp only [vsAll]
  refine vs_entF (Ent.nilBox 2 (spanF []) (fun id _ => [.sl id 2 0]) (j := i7) (st' := 1) (n' := 1) (g := fun _ => [.lit (.slice none 0 0)]) ((Hp.set_ne _ _ hj.1.2).trans (Hp.set_same _ _ _)) (fun _ _ _ => rfl) (fun id q d hq hd => ?_) fun ih hih => ?_)
  ·match d, hd with
   | 0, _ => exact .hit
  simp only [Hp.set_none] at hih
  have hih' := hih
  skip
  refine vs_rangeB (σ := Unit) (runL p l true 0) (fun _ _ => True)
   (fun i _ => (((((H.set i4 (.row 2 0 fun _ => [])).set i5 (.box 1 1 fun _ => [i64 0])).set id (.box 9 1 fun _ => pmC p false 0)).set j (.box 9 1 fun _ => pmC p true 0)).set ih (.row 2 i (spanF (plyH p l 0 i)))).set i7 (.box 1 1 fun _ => [.sl ih 2 i])) () (PmAt p true 0 j) Tryz.func67 (by kernel_rfl) rfl (by simp only [vsAll, opA, ↓reduceIte, eq_self]) (by simp only [vsAll, opA, ↓reduceIte, eq_self]) (by decide) (fun v hv => by obtain ⟨q, _, rfl⟩ := List.mem_map.1 hv; rfl)
   (fun yf H K hp hi => run1_tri p l true 0 j k hA hF hn (by ((try clear hh_i4); (try clear hh_i5); (try clear hid); (try clear hh_i7); (try clear hj'); (try clear hih'); omega)) yf H K hi hp) trivial ?_ ?_ ?_ ?_ ?_
  ·show Go.V.HSub _ ((((((H.set i4 (.row 2 0 fun _ => [])).set i5 (.box 1 1 fun _ => [i64 0])).set id (.box 9 1 fun _ => pmC p false 0)).set j (.box 9 1 fun _ => pmC p true 0)).set ih (.row 2 0 (spanF []))).set i7 (.box 1 1 fun _ => [.sl ih 2 0]))
   (repeat (first | exact HSub_rfl | refine HSub_put_eq (by simp only [vsAll, ↓reduceIte, eq_self, hh_i5, hid, hh_i7, hj', hih']) ?_ | refine HSub_drop2 (by simp only [eq_self, hh_i4, hh_i5, hid, hh_i7, hj', hih']) ?_ | refine HSub_keep_eq (by simp only [vsAll, binA, binLitA, intA, aggA, aggV, boolA, nilA2, isConst, unA, loadA, loadRow, partA, partOk, fieldAddrA, indexAddrA, indexA, fieldA, extractA, lenA, nilCheckA, boxA, boxZ, cellA, cellsA, fillA, okParts, buildSliceA, buildMutA, makeSliceA, partIdx, elemsA, lensA, ifaceA, convA, mmA, pickA, okAll, stAll, opsA, partsA, partsOk, opA, allocA, boxMutA, newCells, okCells, storeObj, appendA, guardV, taA, nM, mapUpA, lookA, sliceA, sliceM, sliceS, boundsA, opO, okO, copyA, dstOk, nilA, quietOk, nilSliceOp, deferV, panA, resA, argFr, retA.eq_1, retA.eq_2, Nat.reduceAdd, Nat.reduceSub, Nat.reduceMul, Nat.reduceLT, Nat.reduceLeDiff, Nat.reduceEqDiff, Nat.reduceBEq, Int.reduceAdd, Int.reduceSub, Int.reduceMul, Int.reduceNeg, Int.reduceLE, Int.reduceLT, Int.reduceEq, Int.reduceNe, Int.reduceToNat, ↓reduceIte, reduceCtorEq, implies_true, forall_const, eq_self, ne_eq, wtAll, Tryz.ntmps18, Tryz.results18, hh_i4, hh_i5, hid, hh_i7, hj', hih']) ?_))
  ·intro i _ _ q
   simp only [Hp.set_none]
  ·intro i x hi lid did o1 o2 h1 h2
   simp only [Hp.set_none] at h1 h2
   show Hp.set (Hp.set (Hp.set (Hp.set (Hp.set (Hp.set (Hp.set (Hp.set H i4 _) i5 _) id _) j _) ih _) i7 _) did _) lid _ j = _
   simp only [vsAll, ↓reduceIte, eq_self, hj', hih', h1, h2]
  ·rintro j2 o i v ⟨⟩ hv hi hj2 lid did l' lo h1 h2 h3 h5 h6
   simp only [Hp.set_none] at hj2 h1 h2
   have h4 : ¬ did = lid := fun e => h3 e.symm
   have h5' : ¬ lid = j2 := fun e => h5 e.symm
   have h6' : ¬ did = j2 := fun e => h6 e.symm
   skip
   obtain ⟨his, rfl⟩ := runL_get hv
   simp only [vsAll, loadA, loadRow, partA, partOk, fieldAddrA, cellA, cellsA, fillA, okParts, buildSliceA, partIdx, elemsA, lensA, partsA, partsOk, opA, allocA, newCells, okCells, storeObj, appendA, dstOk, quietOk, Nat.reduceAdd, Nat.reduceMul, Nat.reduceLT, Nat.reduceLeDiff, Nat.reduceEqDiff, Nat.reduceBEq, ↓reduceIte, eq_self, wtAll, hj2, h1, h2]
   intro i9 hh_i9; (try simp only [ite_none] at hh_i9)
   refine ⟨?_, ?_⟩
   ·simp only [↓reduceIte, eq_self, hh_i9]
   simp only [vsAll, Nat.reduceAdd, Nat.reduceLT, ↓reduceIte, eq_self, hih', hj2, h1, h2, hh_i9]
   rw [moreP_zero, app_spans' (plyH_len p l 0 i) (watV p l true (i + 1)) 0 _ rfl, ← plyH_succ]
   exact ⟨fun q hq => by (have : q = 0 := by ((try clear hh_i4); (try clear hh_i5); (try clear hid); (try clear hh_i7); (try clear hj'); (try clear hih'); (try clear hj2); (try clear h1); (try clear h2); (try clear h3); (try clear h4); (try clear h5); (try clear h6); (try clear h5'); (try clear h6'); (try clear hh_i9); omega)); subst this; exact ⟨rfl, rfl, trivial⟩, by ((try clear hh_i4); (try clear hh_i5); (try clear hid); (try clear hh_i7); (try clear hj'); (try clear hih'); (try clear hj2); (try clear h1); (try clear h2); (try clear h3); (try clear h4); (try clear h5); (try clear h6); (try clear h5'); (try clear h6'); (try clear hh_i9); omega), by ((try clear hh_i4); (try clear hh_i5); (try clear hid); (try clear hh_i7); (try clear hj'); (try clear hih'); (try clear hj2); (try clear h1); (try clear h2); (try clear h3); (try clear h4); (try clear h5); (try clear h6); (try clear h5'); (try clear h6'); (try clear hh_i9); omega), ⟨_, _, rfl⟩, _, ⟨(), rfl⟩, by (repeat (first | exact HSub_rfl | refine HSub_put_eq (by simp only [vsAll, ↓reduceIte, eq_self, hh_i5, hid, hh_i7, hj', hih', hj2, h1, h2, h4, h5, h6, hh_i9]) ?_ | refine HSub_drop2 (by simp only [eq_self, hh_i4, hh_i5, hid, hh_i7, hj', hih', hj2, h1, h2, hh_i9]) ?_ | refine HSub_keep_eq (by simp only [vsAll, binA, binLitA, intA, aggA, aggV, boolA, nilA2, isConst, unA, loadA, loadRow, partA, partOk, fieldAddrA, indexAddrA, indexA, fieldA, extractA, lenA, nilCheckA, boxA, boxZ, cellA, cellsA, fillA, okParts, buildSliceA, buildMutA, makeSliceA, partIdx, elemsA, lensA, ifaceA, convA, mmA, pickA, okAll, stAll, opsA, partsA, partsOk, opA, allocA, boxMutA, newCells, okCells, storeObj, appendA, guardV, taA, nM, mapUpA, lookA, sliceA, sliceM, sliceS, boundsA, opO, okO, copyA, dstOk, nilA, quietOk, nilSliceOp, deferV, panA, resA, argFr, retA.eq_1, retA.eq_2, Nat.reduceAdd, Nat.reduceSub, Nat.reduceMul, Nat.reduceLT, Nat.reduceLeDiff, Nat.reduceEqDiff, Nat.reduceBEq, Int.reduceAdd, Int.reduceSub, Int.reduceMul, Int.reduceNeg, Int.reduceLE, Int.reduceLT, Int.reduceEq, Int.reduceNe, Int.reduceToNat, ↓reduceIte, reduceCtorEq, implies_true, forall_const, eq_self, ne_eq, wtAll, Tryz.ntmps18, Tryz.results18, hh_i4, hh_i5, hid, hh_i7, hj', hih', hj2, h1, h2, h3, h4, h5, h6, h5', h6', hh_i9]) ?_))⟩
  ·rintro ⟨⟩ hi lid did lo h1 h2 h3
   simp only [Hp.set_none] at h1 h2
   have h4 : ¬ did = lid := fun e => h3 e.symm
   skip
   rw [runL_len]
   simp only [vsAll, okAll, stAll, opsA, opA, dstOk, argFr, Nat.reduceLT, Nat.reduceEqDiff, ↓reduceIte, eq_self]
   refine callK_pure (run_tri p l id _) ?_
   simp only [vsAll]
   refine vs_rangeB (σ := Unit) (runL p l false 0) (fun _ _ => True)
    (fun i _ => ((((((H.set i4 (.row 2 0 fun _ => [])).set i5 (.box 1 1 fun _ => [i64 0])).set id (.box 9 1 fun _ => pmC p false 0)).set j (.box 9 1 fun _ => pmC p true 0)).set ih (.row 2 l.length (spanF (plyH p l i l.length)))).set i7 (.box 1 1 fun _ => [.sl ih 2 l.length])).set did (.raw (.deferred (some [])))) () (PmAt p false 0 id) Tryz.func67 (by kernel_rfl) rfl (by simp only [vsAll, opA, ↓reduceIte, eq_self]) (by simp only [vsAll, opA, ↓reduceIte, eq_self]) (by decide) (fun v hv => by obtain ⟨q, _, rfl⟩ := List.mem_map.1 hv; rfl)
    (fun yf H K hp hi => run1_tri p l false 0 id k hA hF hn (by ((try clear hh_i4); (try clear hh_i5); (try clear hid); (try clear hh_i7); (try clear hj'); (try clear hih'); (try clear h1); (try clear h2); (try clear h3); (try clear h4); omega)) yf H K hi hp) trivial ?_ ?_ ?_ ?_ ?_
   ·(repeat (first | exact HSub_rfl | refine HSub_put_eq (by simp only [vsAll, ↓reduceIte, eq_self, hh_i5, hid, hh_i7, hj', hih', h1, h2, h4]) ?_ | refine HSub_drop2 (by simp only [eq_self, hh_i4, hh_i5, hid, hh_i7, hj', hih', h1, h2]) ?_ | refine HSub_keep_eq (by simp only [vsAll, binA, binLitA, intA, aggA, aggV, boolA, nilA2, isConst, unA, loadA, loadRow, partA, partOk, fieldAddrA, indexAddrA, indexA, fieldA, extractA, lenA, nilCheckA, boxA, boxZ, cellA, cellsA, fillA, okParts, buildSliceA, buildMutA, makeSliceA, partIdx, elemsA, lensA, ifaceA, convA, mmA, pickA, okAll, stAll, opsA, partsA, partsOk, opA, allocA, boxMutA, newCells, okCells, storeObj, appendA, guardV, taA, nM, mapUpA, lookA, sliceA, sliceM, sliceS, boundsA, opO, okO, copyA, dstOk, nilA, quietOk, nilSliceOp, deferV, panA, resA, argFr, retA.eq_1, retA.eq_2, Nat.reduceAdd, Nat.reduceSub, Nat.reduceMul, Nat.reduceLT, Nat.reduceLeDiff, Nat.reduceEqDiff, Nat.reduceBEq, Int.reduceAdd, Int.reduceSub, Int.reduceMul, Int.reduceNeg, Int.reduceLE, Int.reduceLT, Int.reduceEq, Int.reduceNe, Int.reduceToNat, ↓reduceIte, reduceCtorEq, implies_true, forall_const, eq_self, ne_eq, wtAll, Tryz.ntmps18, Tryz.results18, hh_i4, hh_i5, hid, hh_i7, hj', hih', h1, h2, h3, h4]) ?_))
   ·intro i _ _ q
    simp only [Hp.set_none]
   ·intro i x hi lid2 did2 o1 o2 g1 g2
    simp only [Hp.set_none] at g1 g2
    show Hp.set (Hp.set (Hp.set (Hp.set (Hp.set (Hp.set (Hp.set (Hp.set (Hp.set H i4 _) i5 _) id _) j _) ih _) i7 _) did _) did2 _) lid2 _ id = _
    simp only [vsAll, ↓reduceIte, eq_self, hh_i7, hj', hih', h2, g1, g2]
   ·rintro j3 o i v ⟨⟩ hv hi hj3 lid2 did2 l' lo2 g1 g2 g3 g5 g6
    simp only [Hp.set_none] at hj3 g1 g2
    have g4 : ¬ did2 = lid2 := fun e => g3 e.symm
    have g5' : ¬ lid2 = j3 := fun e => g5 e.symm
    have g6' : ¬ did2 = j3 := fun e => g6 e.symm
    skip
    obtain ⟨his, rfl⟩ := runL_get hv
    simp only [vsAll, loadA, loadRow, partA, partOk, fieldAddrA, indexAddrA, cellA, cellsA, opA, allocA, newCells, okCells, storeObj, dstOk, quietOk, nilSliceOp, Nat.reduceAdd, Nat.reduceLT, Nat.reduceEqDiff, Nat.reduceBEq, ↓reduceIte, reduceCtorEq, eq_self, wtAll, h2, hj3, g1, g2]
    intro i11 hh_i11; (try simp only [ite_none] at hh_i11)
    refine ⟨?_, ?_⟩
    ·simp only [↓reduceIte, eq_self, hh_i11]
    simp only [vsAll, cellA, okCells, Nat.reduceAdd, Nat.reduceLT, ↓reduceIte, eq_self, hih', h2, hj3, g1, g2, hh_i11]
    rw [moreP_zero]
    refine ⟨⟨by ((try clear hh_i4); (try clear hh_i5); (try clear hid); (try clear hh_i7); (try clear hj'); (try clear hih'); (try clear h1); (try clear h2); (try clear h3); (try clear h4); (try clear hj3); (try clear g1); (try clear g2); (try clear g3); (try clear g4); (try clear g5); (try clear g6); (try clear g5'); (try clear g6'); (try clear hh_i11); omega), by ((try clear hh_i4); (try clear hh_i5); (try clear hid); (try clear hh_i7); (try clear hj'); (try clear hih'); (try clear h1); (try clear h2); (try clear h3); (try clear h4); (try clear hj3); (try clear g1); (try clear g2); (try clear g3); (try clear g4); (try clear g5); (try clear g6); (try clear g5'); (try clear g6'); (try clear hh_i11); omega)⟩, his, ⟨_, _, rfl⟩, _, ⟨(), rfl⟩, ?_⟩
    refine HSub_put_eq (by simp only [vsAll, ↓reduceIte, eq_self, g1]) ?_
    refine HSub_put_eq (by simp only [vsAll, ↓reduceIte, eq_self, g2, g4, hh_i11]) ?_
    refine HSub_put_eq (by simp only [vsAll, ↓reduceIte, eq_self, hj3, g5, g6, hh_i11]) ?_
    refine HSub_put_eq (by simp only [vsAll, ↓reduceIte, eq_self, h2, hj3, g1, g2, hh_i11]) ?_
    refine HSub_put_eq (by simp only [vsAll, ↓reduceIte, eq_self, hih', h2, hj3, g1, g2, hh_i11]) ?_
    refine HSub_put (o' := .row 2 l.length (updF l.length i (spanF (plyH p l i l.length)) (List.take 1 (spanF (plyH p l i l.length) i) ++ [i64 (watV p l false (i + 1))] ++ List.drop 2 (spanF (plyH p l i l.length) i)))) (by simp only [vsAll, ↓reduceIte, eq_self]) (row_ext (plyH_upd p l his)) ?_
    (repeat (first | exact HSub_rfl | refine HSub_put_eq (by simp only [vsAll, ↓reduceIte, eq_self, hh_i5, hid, hh_i7, hj', hih', h2, hj3, g1, g2, hh_i11]) ?_ | refine HSub_drop2 (by simp only [eq_self, hh_i4, hh_i5, hid, hh_i7, hj', hih', h2, hj3, g1, g2, hh_i11]) ?_ | refine HSub_keep_eq (by simp only [vsAll, binA, binLitA, intA, aggA, aggV, boolA, nilA2, isConst, unA, loadA, loadRow, partA, partOk, fieldAddrA, indexAddrA, indexA, fieldA, extractA, lenA, nilCheckA, boxA, boxZ, cellA, cellsA, fillA, okParts, buildSliceA, buildMutA, makeSliceA, partIdx, elemsA, lensA, ifaceA, convA, mmA, pickA, okAll, stAll, opsA, partsA, partsOk, opA, allocA, boxMutA, newCells, okCells, storeObj, appendA, guardV, taA, nM, mapUpA, lookA, sliceA, sliceM, sliceS, boundsA, opO, okO, copyA, dstOk, nilA, quietOk, nilSliceOp, deferV, panA, resA, argFr, retA.eq_1, retA.eq_2, Nat.reduceAdd, Nat.reduceSub, Nat.reduceMul, Nat.reduceLT, Nat.reduceLeDiff, Nat.reduceEqDiff, Nat.reduceBEq, Int.reduceAdd, Int.reduceSub, Int.reduceMul, Int.reduceNeg, Int.reduceLE, Int.reduceLT, Int.reduceEq, Int.reduceNe, Int.reduceToNat, ↓reduceIte, reduceCtorEq, implies_true, forall_const, eq_self, ne_eq, wtAll, Tryz.ntmps18, Tryz.results18, hh_i4, hh_i5, hid, hh_i7, hj', hih', h1, h2, h3, h4, hj3, g1, g2, g3, g4, g5, g6, g5', g6', hh_i11]) ?_))
   ·rintro ⟨⟩ hi lid2 did2 lo2 g1 g2 g3
    simp only [Hp.set_none] at g1 g2
    have g4 : ¬ did2 = lid2 := fun e => g3 e.symm
    skip
    rw [runL_len]
    simp only [vsAll, loadA, loadRow, partA, partOk, cellA, cellsA, opA, newCells, okCells, storeObj, dstOk, nilSliceOp, resA, retA.eq_2, Nat.reduceLT, Nat.reduceEqDiff, Nat.reduceBEq, ↓reduceIte, eq_self, wtAll, Tryz.results18, hid, hh_i7, hj', hih', h2, g1, g2, g4]
    have ev : playV p l = plyL p l l.length := if_pos he
    have el : (playV p l).length = l.length := by rw [ev, ply_len]
    refine ⟨i5, _, rfl, by simp only [↓reduceIte, eq_self, h2, g2]; try rfl, ?_⟩
    rw [plyH_all]
    refine ⟨H.set ih (.row 2 (playV p l).length (spanF (playV p l))), ?_, ih, by simp only [eq_self, hih'], by simp only [eq_self, el, he]; try rfl, rfl⟩
    rw [el, ev]
    (repeat (first | exact HSub_rfl | refine HSub_put_eq (by simp only [vsAll, ↓reduceIte, eq_self, hih', h2, g1, g2]) ?_ | refine HSub_drop2 (by simp only [eq_self, hh_i4, hh_i5, hid, hh_i7, hj', hih', h2, g1, g2]) ?_ | refine HSub_keep_eq (by simp only [vsAll, binA, binLitA, intA, aggA, aggV, boolA, nilA2, isConst, unA, loadA, loadRow, partA, partOk, fieldAddrA, indexAddrA, indexA, fieldA, extractA, lenA, nilCheckA, boxA, boxZ, cellA, cellsA, fillA, okParts, buildSliceA, buildMutA, makeSliceA, partIdx, elemsA, lensA, ifaceA, convA, mmA, pickA, okAll, stAll, opsA, partsA, partsOk, opA, allocA, boxMutA, newCells, okCells, storeObj, appendA, guardV, taA, nM, mapUpA, lookA, sliceA, sliceM, sliceS, boundsA, opO, okO, copyA, dstOk, nilA, quietOk, nilSliceOp, deferV, panA, resA, argFr, retA.eq_1, retA.eq_2, Nat.reduceAdd, Nat.reduceSub, Nat.reduceMul, Nat.reduceLT, Nat.reduceLeDiff, Nat.reduceEqDiff, Nat.reduceBEq, Int.reduceAdd, Int.reduceSub, Int.reduceMul, Int.reduceNeg, Int.reduceLE, Int.reduceLT, Int.reduceEq, Int.reduceNe, Int.reduceToNat, ↓reduceIte, reduceCtorEq, implies_true, forall_const, eq_self, ne_eq, wtAll, Tryz.ntmps18, Tryz.results18, hh_i4, hh_i5, hid, hh_i7, hj', hih', h1, h2, h3, h4, g1, g2, g3, g4]) ?_))
theorem wplay_tri (p : Pu) (l : List Int) (H : Hp) (kn : Near p) (hl : l.length ≤ 41) : PTri Tryz.prog (fnA 18) [p.av, intsAV l] H (.tuple [spansAV (playV p l), i64 (playE p l)]) := by
 refine Tri.thaw (wplay_triM p l H kn hl) ?_
 rintro r H' ⟨id, hid, rfl, rfl⟩
 right
 exact ⟨_, id, 2, _, _, 0, rfl, Hp.set_same _ _ _, by simp, rfl, rfl, set_del hid⟩
end Go.Proofs.YtkcgocmjaggdiaaGreat
end
section
set_option linter.unusedVariables false
set_option linter.unusedSimpArgs false
set_option maxHeartbeats 4000000
set_option maxRecDepth 100000
namespace Go.Proofs.YtkcgocmjaggdiaaGreat
open Go.V Wl
/-- What a watch pumps out. -/
theorem outG_tri (p : Pu) (l : List Int) (b c : Bool) (m : Int) (i : Nat) (w : Int) (id : Nat) (H : Hp) (k : Ok p) (ho : PmAt p b m id H) (hi : i ≤ 8) (hw : -1 ≤ w ∧ w < p.ws.length) :
 PTri Tryz.prog (fnA 50) [.ref id 0 9 0 0, .agg (dkC p l c 0 i), i64 w] H (i64 (if w < 0 then 0 else max 0 (freshV p w.toNat b - (p.wt w.toNat).ti * (wornV p l w.toNat i : Nat)))) := by
 have nW := k.nW
 refine Tri.drop ?_
 refine tri_v0 (fun _ => false) Tryz.func50 (by kernel_rfl) rfl (by simp only [List.length_append, List.length_cons, List.length_nil, Tryz.ntmps50]; decide) ?_
 skip
 simp only [vsAll, binA, binLitA, intA, boxA, boxZ, opA, dstOk, nilSliceOp, argFr, Nat.reduceAdd, Nat.reduceLT, Nat.reduceEqDiff, ↓reduceIte, eq_self, wtAll, Tryz.ntmps50]
 refine condV (fun hc => ?_) (fun hc => ?_)
 ·rw [if_pos (of_decide_eq_true hc)]
  simp only [vsAll, opA, dstOk, nilSliceOp, resA, retA.eq_1, Nat.reduceLT, ↓reduceIte, eq_self, Tryz.results50]
  exact dropR_pure rfl HSub_rfl
 ·have hc := of_decide_eq_false hc
  rw [if_neg hc]
  obtain ⟨v, rfl⟩ : ∃ v : Nat, w = (v : Int) := ⟨w.toNat, by ((try clear ho); omega)⟩
  have hv : v < p.ws.length := by ((try clear ho); omega)
  have hk := k.m.wt hv
  rw [Int.toNat_natCast]
  have hle := (doneW_le (p.wt v).re l v i).1
  have hp := wt_prod (n := wornV p l v i) hk.2.1 (by unfold wornV; ((try clear ho); omega))
  have ewt : p.ws.getD v wt0 = p.wt v := rfl
  have hv3 : v = 0 ∨ v = 1 ∨ v = 2 := by ((try clear ho); omega)
  have em : (menV p l i v).1 = wornV p l v i := by unfold menV; rw [if_pos hv]; rfl
  simp only [vsAll]
  refine vs_draw2 [0, 0, 0, 0, 0, 0, 0, 0, 0, 0, 0, 0, 0, 0, 0, 0, 0, 0, 0, 0, 0, 0, 0, 0, 0, 0, 0, 0, 0, 0, 0, 0, 0] [] [0, 1, 2, 3, 4, 5, 6, 7, 8, 9, 10, 11, 12, 13, 14, 15, 16, 17, 18, 19, 20, 21, 22, 23, 24, 25, 26, 27, 28, 29, 30, 31, 32] (by decide +kernel) ?_
  simp only [vsAll, loadA, loadRow, partA, partOk, fieldAddrA, indexAddrA, nilCheckA, opA, dstOk, argFr, Nat.reduceLT, Nat.reduceEqDiff, ↓reduceIte, reduceCtorEq, eq_self, wtAll, ho, wsF_at, ewt]
  refine ⟨⟨by ((try clear ho); omega), by ((try clear ho); omega)⟩, hv, ?_⟩
  refine qcall _ ⟨trivial, by simp only [vsAll, okAll, opsA, opA, Nat.reduceEqDiff, ↓reduceIte, eq_self], strm_tri b (p.wt v) _⟩ ?_
  have efr : (if b = true then (p.wt v).hi else (p.wt v).lo) = freshV p v b := rfl
  have hfr : 0 ≤ freshV p v b ∧ freshV p v b ≤ 40 := by unfold freshV; split <;> ((try clear ho); omega)
  rw [efr]
  generalize freshV p v b = F at hfr ⊢
  have ecell : (List.drop (1 + v * 2) (dkC p l c 0 i)).getD 0 AV.any = i64 (wornV p l v i : Nat) := by
   rw [← em]
   rcases hv3 with rfl | rfl | rfl <;> rfl
  simp only [vsAll, binA, binLitA, intA, loadA, loadRow, partA, partOk, fieldAddrA, indexAddrA, nilCheckA, cellA, cellsA, okParts, buildSliceA, partIdx, elemsA, lensA, partsA, partsOk, opA, dstOk, argFr, Nat.reduceMul, Nat.reduceLT, Nat.reduceLeDiff, Nat.reduceEqDiff, ↓reduceIte, reduceCtorEq, eq_self, wtAll, ho, wsF_at, ewt, ecell]
  refine ⟨⟨by ((try clear ho); omega), by ((try clear ho); omega)⟩, hv, ⟨by ((try clear ho); omega), by ((try clear ho); omega)⟩, by ((try clear ho); omega), by simp only [InR_i64]; ((try clear ho); omega), ?_⟩
  refine qcall _ ⟨trivial, by simp only [vsAll, okAll, opsA, opA, Nat.reduceEqDiff, ↓reduceIte, eq_self], left_tri F ((p.wt v).ti * (wornV p l v i : Nat)) _ (by ((try clear ho); omega)) (by ((try clear ho); omega))⟩ ?_
  simp only [vsAll, opA, dstOk, resA, retA.eq_1, Nat.reduceLT, ↓reduceIte, eq_self, Tryz.results50]
  exact dropR_pure rfl HSub_rfl

theorem strV_eq (p : Pu) (l : List Int) (i : Nat) (b : Bool) : (if l.getD i (-1) < 0 then 0 else max 0 (freshV p (l.getD i (-1)).toNat b - (p.wt (l.getD i (-1)).toNat).ti * (wornV p l (l.getD i (-1)).toNat i : Nat))) = strV p l i b := rfl
theorem wout_tri (p : Pu) (l : List Int) (h : Int) (H : Hp) (kn : Near p) (hl : l.length ≤ 41) : PTri Tryz.prog (fnA 19) [p.av, intsAV l, i64 h] H (.tuple [.agg [i64 (outV p l h).1, i64 (outV p l h).2], i64 (outE p l h)]) := by
 refine Tri.drop ?_
 refine tri_am (m := fun _ => false) ans25 Tryz.func19 (by kernel_rfl) rfl (by simp only [List.length_append, List.length_cons, List.length_nil, Tryz.ntmps19]; decide) ?_
 simp only [vsAll, loadA, loadRow, partA, partOk, boxA, boxZ, cellA, okAll, stAll, opsA, opA, allocA, dstOk, argFr, Nat.reduceAdd, Nat.reduceLT, Nat.reduceEqDiff, ↓reduceIte, eq_self, wtAll, Tryz.ntmps19]
 intro i6 hh_i6; (try simp only [Hp.set_none, ite_none] at hh_i6); intro i7 hh_i7; (try simp only [ite_none] at hh_i7)
 refine open_call (open_tri p _ (planB p l && (decide (0 ≤ h) && decide (h ≤ (p.fl.length : Int) - 1))) _ kn trivial rfl (fun k H' => out1_tri p l h H' k hl)) (fun he => ?_) (fun k hv hA id hid => ?_)
 ·have e2 : outV p l h = (0, 0) := if_neg he
  have e : outE p l h = errE p (planB p l && (decide (0 ≤ h) && decide (h ≤ (p.fl.length : Int) - 1))) := rfl
  simp only [vsAll, loadA, loadRow, partA, partOk, resA, retA.eq_2, Nat.reduceEqDiff, ↓reduceIte, eq_self, wtAll, Tryz.results19, hh_i7]
  refine ⟨outE p l h, i7, _, rfl, rfl, by simp only [↓reduceIte, eq_self]; try rfl, ?_⟩
  simp only [vsAll, Nat.reduceLT, ↓reduceIte, eq_self, hh_i7]
  refine dropR_pure ?_ (by (repeat (first | exact HSub_rfl | refine HSub_put_eq (by simp only [vsAll, binA, binLitA, intA, aggA, aggV, boolA, nilA2, isConst, unA, loadA, loadRow, partA, partOk, fieldAddrA, indexAddrA, indexA, fieldA, extractA, lenA, nilCheckA, boxA, boxZ, cellA, cellsA, fillA, okParts, buildSliceA, buildMutA, makeSliceA, partIdx, elemsA, lensA, ifaceA, convA, mmA, pickA, okAll, stAll, opsA, partsA, partsOk, opA, allocA, boxMutA, newCells, okCells, storeObj, appendA, guardV, taA, nM, mapUpA, lookA, sliceA, sliceM, sliceS, boundsA, opO, okO, copyA, dstOk, nilA, quietOk, nilSliceOp, deferV, panA, resA, argFr, retA.eq_1, retA.eq_2, Nat.reduceAdd, Nat.reduceSub, Nat.reduceMul, Nat.reduceLT, Nat.reduceLeDiff, Nat.reduceEqDiff, Nat.reduceBEq, Int.reduceAdd, Int.reduceSub, Int.reduceMul, Int.reduceNeg, Int.reduceLE, Int.reduceLT, Int.reduceEq, Int.reduceNe, Int.reduceToNat, ↓reduceIte, reduceCtorEq, implies_true, forall_const, eq_self, ne_eq, wtAll, Tryz.ntmps19, Tryz.results19, hh_i6, hh_i7]) ?_ | refine HSub_drop2 (by simp only [eq_self, hh_i6, hh_i7]) ?_ | refine HSub_keep_eq (by simp only [vsAll, binA, binLitA, intA, aggA, aggV, boolA, nilA2, isConst, unA, loadA, loadRow, partA, partOk, fieldAddrA, indexAddrA, indexA, fieldA, extractA, lenA, nilCheckA, boxA, boxZ, cellA, cellsA, fillA, okParts, buildSliceA, buildMutA, makeSliceA, partIdx, elemsA, lensA, ifaceA, convA, mmA, pickA, okAll, stAll, opsA, partsA, partsOk, opA, allocA, boxMutA, newCells, okCells, storeObj, appendA, guardV, taA, nM, mapUpA, lookA, sliceA, sliceM, sliceS, boundsA, opO, okO, copyA, dstOk, nilA, quietOk, nilSliceOp, deferV, panA, resA, argFr, retA.eq_1, retA.eq_2, Nat.reduceAdd, Nat.reduceSub, Nat.reduceMul, Nat.reduceLT, Nat.reduceLeDiff, Nat.reduceEqDiff, Nat.reduceBEq, Int.reduceAdd, Int.reduceSub, Int.reduceMul, Int.reduceNeg, Int.reduceLE, Int.reduceLT, Int.reduceEq, Int.reduceNe, Int.reduceToNat, ↓reduceIte, reduceCtorEq, implies_true, forall_const, eq_self, ne_eq, wtAll, Tryz.ntmps19, Tryz.results19, hh_i6, hh_i7]) ?_)))
  simp only [eq_self, e2]
 ·have he : outE p l h = 0 := by
   show errE p _ = 0
   rw [hv]; exact errE_ok k (by ((try clear hh_i6); (try clear hh_i7); omega))
  rw [Bool.and_eq_true, Bool.and_eq_true, decide_eq_true_eq, decide_eq_true_eq] at hv
  obtain ⟨hv, hb1, hb2⟩ := hv
  obtain ⟨t, rfl⟩ : ∃ t : Nat, h = (t : Int) := ⟨h.toNat, by ((try clear hh_i6); (try clear hh_i7); omega)⟩
  have hF := firstP_of k hv
  have hne : l.length = p.fl.length := (planB_iff.1 hv).1
  have hn : l.length ≤ p.fl.length := by ((try clear hh_i6); (try clear hh_i7); omega)
  have htl : t < l.length := by ((try clear hh_i6); (try clear hh_i7); omega)
  have hid' := hid
  simp only [Hp.set_none] at hid
  skip
  simp only [vsAll, okAll, stAll, opsA, opA, dstOk, nilSliceOp, Nat.reduceLT, ↓reduceIte, eq_self]
  refine callK_pure (begin_tri p l false 0 id _ (Hp.set_same _ _ _)) ?_
  simp only [vsAll, loadA, loadRow, partA, partOk, cellA, okAll, stAll, opsA, opA, allocA, newCells, okCells, storeObj, dstOk, Nat.reduceAdd, Nat.reduceLT, Nat.reduceEqDiff, ↓reduceIte, eq_self, wtAll]
  intro i9 hh_i9; (try simp only [ite_none] at hh_i9)
  refine callK_pure (run_tri p l id _) ?_
  simp only [vsAll]
  refine vs_rangeB (σ := Unit) (runL p l false 0) (fun i _ => i ≤ t)
   (fun i _ => (((H.set i6 (.box 2 1 fun _ => [i64 0, i64 0])).set i7 (.box 1 1 fun _ => [i64 0])).set id (.box 9 1 fun _ => pmC p false 0)).set i9 (.box 8 1 fun _ => dkC p l false 0 i)) () (PmAt p false 0 id) Tryz.func67 (by kernel_rfl) rfl (by simp only [vsAll, opA, ↓reduceIte, eq_self]) (by simp only [vsAll, opA, ↓reduceIte, eq_self]) (by decide) (fun v hv => by obtain ⟨q, _, rfl⟩ := List.mem_map.1 hv; rfl)
   (fun yf H K hp hi => run1_tri p l false 0 id k hA hF hn (by ((try clear hh_i6); (try clear hh_i7); (try clear hid); (try clear hh_i9); omega)) yf H K hi hp) (Nat.zero_le _) ?_ ?_ ?_ ?_ ?_
  ·(repeat (first | exact HSub_rfl | refine HSub_put_eq (by simp only [vsAll, ↓reduceIte, eq_self, hh_i7, hid, hh_i9]) ?_ | refine HSub_drop2 (by simp only [eq_self, hh_i6, hh_i7, hid, hh_i9]) ?_ | refine HSub_keep_eq (by simp only [vsAll, binA, binLitA, intA, aggA, aggV, boolA, nilA2, isConst, unA, loadA, loadRow, partA, partOk, fieldAddrA, indexAddrA, indexA, fieldA, extractA, lenA, nilCheckA, boxA, boxZ, cellA, cellsA, fillA, okParts, buildSliceA, buildMutA, makeSliceA, partIdx, elemsA, lensA, ifaceA, convA, mmA, pickA, okAll, stAll, opsA, partsA, partsOk, opA, allocA, boxMutA, newCells, okCells, storeObj, appendA, guardV, taA, nM, mapUpA, lookA, sliceA, sliceM, sliceS, boundsA, opO, okO, copyA, dstOk, nilA, quietOk, nilSliceOp, deferV, panA, resA, argFr, retA.eq_1, retA.eq_2, Nat.reduceAdd, Nat.reduceSub, Nat.reduceMul, Nat.reduceLT, Nat.reduceLeDiff, Nat.reduceEqDiff, Nat.reduceBEq, Int.reduceAdd, Int.reduceSub, Int.reduceMul, Int.reduceNeg, Int.reduceLE, Int.reduceLT, Int.reduceEq, Int.reduceNe, Int.reduceToNat, ↓reduceIte, reduceCtorEq, implies_true, forall_const, eq_self, ne_eq, wtAll, Tryz.ntmps19, Tryz.results19, hh_i6, hh_i7, hid, hh_i9]) ?_))
  ·intro i _ _ q
   simp only [Hp.set_none]
  ·intro i x hi lid did o1 o2 h1 h2
   simp only [Hp.set_none] at h1 h2
   show Hp.set (Hp.set (Hp.set (Hp.set (Hp.set (Hp.set H i6 _) i7 _) id _) i9 _) did _) lid _ id = _
   simp only [vsAll, ↓reduceIte, eq_self, hh_i9, h1, h2]
  ·rintro j o i v ⟨⟩ hv hi hj lid did l' lo h1 h2 h3 h5 h6
   simp only [Hp.set_none] at hj h1 h2
   have h4 : ¬ did = lid := fun e => h3 e.symm
   have h5' : ¬ lid = j := fun e => h5 e.symm
   have h6' : ¬ did = j := fun e => h6 e.symm
   skip
   obtain ⟨his, rfl⟩ := runL_get hv
   simp only [vsAll, binA, binLitA, intA, loadA, loadRow, partA, partOk, cellA, opA, allocA, newCells, okCells, storeObj, dstOk, quietOk, nilSliceOp, Nat.reduceAdd, Nat.reduceLT, Nat.reduceEqDiff, ↓reduceIte, eq_self, wtAll]
   intro i11 hh_i11; (try simp only [ite_none] at hh_i11)
   refine ⟨?_, ?_⟩
   ·simp only [↓reduceIte, eq_self, hh_i11]
   refine condD (fun hc => ?_) (fun hc => ?_)
   case refine_2 =>
    simp only [vsAll, loadA, loadRow, partA, partOk, cellA, opA, newCells, okCells, storeObj, dstOk, quietOk, Nat.reduceAdd, Nat.reduceLT, Nat.reduceEqDiff, ↓reduceIte, eq_self, wtAll, hj, h1, h2, hh_i11]
    exact ⟨⟨_, _, rfl⟩, _, ⟨(), by ((try clear hh_i6); (try clear hh_i7); (try clear hid); (try clear hh_i9); (try clear hj); (try clear h1); (try clear h2); (try clear h3); (try clear h4); (try clear h5); (try clear h6); (try clear h5'); (try clear h6'); (try clear hh_i11); omega), rfl⟩, by (repeat (first | exact HSub_rfl | refine HSub_put_eq (by simp only [vsAll, ↓reduceIte, eq_self, hh_i7, hid, hh_i9, hj, h1, h2, h4, h5, h6, hh_i11]) ?_ | refine HSub_drop2 (by simp only [eq_self, hh_i6, hh_i7, hid, hh_i9, hj, h1, h2, hh_i11]) ?_ | refine HSub_keep_eq (by simp only [vsAll, binA, binLitA, intA, aggA, aggV, boolA, nilA2, isConst, unA, loadA, loadRow, partA, partOk, fieldAddrA, indexAddrA, indexA, fieldA, extractA, lenA, nilCheckA, boxA, boxZ, cellA, cellsA, fillA, okParts, buildSliceA, buildMutA, makeSliceA, partIdx, elemsA, lensA, ifaceA, convA, mmA, pickA, okAll, stAll, opsA, partsA, partsOk, opA, allocA, boxMutA, newCells, okCells, storeObj, appendA, guardV, taA, nM, mapUpA, lookA, sliceA, sliceM, sliceS, boundsA, opO, okO, copyA, dstOk, nilA, quietOk, nilSliceOp, deferV, panA, resA, argFr, retA.eq_1, retA.eq_2, Nat.reduceAdd, Nat.reduceSub, Nat.reduceMul, Nat.reduceLT, Nat.reduceLeDiff, Nat.reduceEqDiff, Nat.reduceBEq, Int.reduceAdd, Int.reduceSub, Int.reduceMul, Int.reduceNeg, Int.reduceLE, Int.reduceLT, Int.reduceEq, Int.reduceNe, Int.reduceToNat, ↓reduceIte, reduceCtorEq, implies_true, forall_const, eq_self, ne_eq, wtAll, Tryz.ntmps19, Tryz.results19, hh_i6, hh_i7, hid, hh_i9, hj, h1, h2, h3, h4, h5, h6, h5', h6', hh_i11]) ?_))⟩
   have hit : i = t := by ((try clear hh_i6); (try clear hh_i7); (try clear hid); (try clear hh_i9); (try clear hj); (try clear h1); (try clear h2); (try clear h3); (try clear h4); (try clear h5); (try clear h6); (try clear h5'); (try clear h6'); (try clear hh_i11); omega)
   subst hit
   simp only [vsAll, ↓reduceIte, reduceCtorEq, eq_self]
   refine ⟨⟨_, _, rfl⟩, ?_⟩
   refine vs_draw2 [0, 0, 0, 0, 0, 0, 0, 0, 0, 0, 0, 0, 1, 0, 0, 0, 0, 0, 2, 3, 4, 5, 6, 7, 9] [([0, 1, 2, 3, 4, 5, 6, 7, 8, 9, 10, 11, 13, 14, 15, 16, 17], [13, 14, 15, 17], 12), ([18], [], 19), ([20], [], 21), ([22], [], 23), ([], [], 24)] [] (by decide +kernel) ?_
   have e0 : l.getD i 0 = l.getD i (-1) := by simp [List.getD_eq_getElem?_getD, his]
   have hat := hF.at_ i his
   have hll := hF.len
   have hll := hF.len
   simp only [vsAll, loadA, loadRow, partA, partOk, indexAddrA, opA, dstOk, Nat.reduceLT, Nat.reduceEqDiff, Int.reduceNeg, ↓reduceIte, eq_self, wtAll, hj, h1, h2, hh_i11, intF_at, e0]
   have hpm : ∀ X : Hp, X id = some (.box 9 1 fun _ => pmC p false 0) → PmAt p false 0 id X := fun _ h => h
   refine ⟨⟨by ((try clear hh_i6); (try clear hh_i7); (try clear hid); (try clear hh_i9); (try clear hj); (try clear h1); (try clear h2); (try clear h3); (try clear h4); (try clear h5); (try clear h6); (try clear h5'); (try clear h6'); (try clear hh_i11); omega), by ((try clear hh_i6); (try clear hh_i7); (try clear hid); (try clear hh_i9); (try clear hj); (try clear h1); (try clear h2); (try clear h3); (try clear h4); (try clear h5); (try clear h6); (try clear h5'); (try clear h6'); (try clear hh_i11); omega)⟩, his, ?_⟩
   refine qcall _ ⟨trivial, by simp only [vsAll, okAll, opsA, opA, Nat.reduceEqDiff, Int.reduceNeg, ↓reduceIte, eq_self], outG_tri p l false false 0 i (l.getD i (-1)) id _ k (hpm _ (by simp only [vsAll, ↓reduceIte, eq_self, hh_i9, hj, h1, h2, hh_i11])) (by ((try clear hh_i6); (try clear hh_i7); (try clear hid); (try clear hh_i9); (try clear hj); (try clear h1); (try clear h2); (try clear h3); (try clear h4); (try clear h5); (try clear h6); (try clear h5'); (try clear h6'); (try clear hh_i11); omega)) hat⟩ ?_
   rw [strV_eq]
   simp only [vsAll, loadA, loadRow, partA, partOk, indexAddrA, nilCheckA, fillA, okParts, ifaceA, okAll, stAll, opsA, partsA, partsOk, opA, dstOk, Nat.reduceLT, Nat.reduceEqDiff, Int.reduceNeg, ↓reduceIte, eq_self, wtAll, hh_i9, hj, h1, h2, hh_i11, intF_at, e0]
   refine ⟨⟨by ((try clear hh_i6); (try clear hh_i7); (try clear hid); (try clear hh_i9); (try clear hj); (try clear h1); (try clear h2); (try clear h3); (try clear h4); (try clear h5); (try clear h6); (try clear h5'); (try clear h6'); (try clear hh_i11); omega), by ((try clear hh_i6); (try clear hh_i7); (try clear hid); (try clear hh_i9); (try clear hj); (try clear h1); (try clear h2); (try clear h3); (try clear h4); (try clear h5); (try clear h6); (try clear h5'); (try clear h6'); (try clear hh_i11); omega)⟩, his, ?_⟩
   refine ⟨_, in_tri p false true 0 _, fun r H' hr => ?_⟩
   obtain ⟨j2, hj2, rfl, rfl⟩ := hr
   simp only [Hp.set_none] at hj2
   have hj2' := hj2
   skip
   simp only [vsAll, loadA, loadRow, partA, partOk, opA, dstOk, Nat.reduceLT, Nat.reduceEqDiff, Int.reduceNeg, ↓reduceIte, eq_self, wtAll, hj, h1, h2, hh_i11, hj2', intF_at, e0]
   refine ⟨his, ?_⟩
   have hpm2 : ∀ X : Hp, X j2 = some (.box 9 1 fun _ => pmC p true 0) → PmAt p true 0 j2 X := fun _ h => h
   refine qcall _ ⟨trivial, by simp only [vsAll, okAll, opsA, opA, Nat.reduceEqDiff, Int.reduceNeg, ↓reduceIte, eq_self], outG_tri p l true false 0 i (l.getD i (-1)) j2 _ k (hpm2 _ (by simp only [vsAll, ↓reduceIte, eq_self])) (by ((try clear hh_i6); (try clear hh_i7); (try clear hid); (try clear hh_i9); (try clear hj); (try clear h1); (try clear h2); (try clear h3); (try clear h4); (try clear h5); (try clear h6); (try clear h5'); (try clear h6'); (try clear hh_i11); (try clear hj2'); omega)) hat⟩ ?_
   rw [strV_eq]
   simp only [vsAll, loadA, loadRow, partA, partOk, fieldAddrA, cellA, cellsA, opA, newCells, okCells, storeObj, dstOk, resA, retA.eq_2, Nat.reduceAdd, Nat.reduceLT, Nat.reduceLeDiff, Nat.reduceEqDiff, Int.reduceNeg, ↓reduceIte, eq_self, wtAll, Tryz.results19, hh_i7, hid, hh_i9, hj, h1, h2, h4, hh_i11, hj2']
   have e2 : outV p l (i : Int) = (strV p l i false, strV p l i true) := by
    unfold outV; rw [if_pos he, Int.toNat_natCast]
   refine ⟨i7, _, rfl, by simp only [↓reduceIte, eq_self, h2]; try rfl, ?_⟩
   refine dropR_pure ?_ (by (repeat (first | exact HSub_rfl | refine HSub_put_eq (by simp only [vsAll, binA, binLitA, intA, aggA, aggV, boolA, nilA2, isConst, unA, loadA, loadRow, partA, partOk, fieldAddrA, indexAddrA, indexA, fieldA, extractA, lenA, nilCheckA, boxA, boxZ, cellA, cellsA, fillA, okParts, buildSliceA, buildMutA, makeSliceA, partIdx, elemsA, lensA, ifaceA, convA, mmA, pickA, okAll, stAll, opsA, partsA, partsOk, opA, allocA, boxMutA, newCells, okCells, storeObj, appendA, guardV, taA, nM, mapUpA, lookA, sliceA, sliceM, sliceS, boundsA, opO, okO, copyA, dstOk, nilA, quietOk, nilSliceOp, deferV, panA, resA, argFr, retA.eq_1, retA.eq_2, Nat.reduceAdd, Nat.reduceSub, Nat.reduceMul, Nat.reduceLT, Nat.reduceLeDiff, Nat.reduceEqDiff, Nat.reduceBEq, Int.reduceAdd, Int.reduceSub, Int.reduceMul, Int.reduceNeg, Int.reduceLE, Int.reduceLT, Int.reduceEq, Int.reduceNe, Int.reduceToNat, ↓reduceIte, reduceCtorEq, implies_true, forall_const, eq_self, ne_eq, wtAll, Tryz.ntmps19, Tryz.results19, hh_i6, hh_i7, hid, hh_i9, hj, h1, h2, h3, h4, h5, h6, h5', h6', hh_i11, hj2']) ?_ | refine HSub_drop2 (by simp only [eq_self, hh_i6, hh_i7, hid, hh_i9, hj, h1, h2, hh_i11, hj2']) ?_ | refine HSub_keep_eq (by simp only [vsAll, binA, binLitA, intA, aggA, aggV, boolA, nilA2, isConst, unA, loadA, loadRow, partA, partOk, fieldAddrA, indexAddrA, indexA, fieldA, extractA, lenA, nilCheckA, boxA, boxZ, cellA, cellsA, fillA, okParts, buildSliceA, buildMutA, makeSliceA, partIdx, elemsA, lensA, ifaceA, convA, mmA, pickA, okAll, stAll, opsA, partsA, partsOk, opA, allocA, boxMutA, newCells, okCells, storeObj, appendA, guardV, taA, nM, mapUpA, lookA, sliceA, sliceM, sliceS, boundsA, opO, okO, copyA, dstOk, nilA, quietOk, nilSliceOp, deferV, panA, resA, argFr, retA.eq_1, retA.eq_2, Nat.reduceAdd, Nat.reduceSub, Nat.reduceMul, Nat.reduceLT, Nat.reduceLeDiff, Nat.reduceEqDiff, Nat.reduceBEq, Int.reduceAdd, Int.reduceSub, Int.reduceMul, Int.reduceNeg, Int.reduceLE, Int.reduceLT, Int.reduceEq, Int.reduceNe, Int.reduceToNat, ↓reduceIte, reduceCtorEq, implies_true, forall_const, eq_self, ne_eq, wtAll, Tryz.ntmps19, Tryz.results19, hh_i6, hh_i7, hid, hh_i9, hj, h1, h2, h3, h4, h5, h6, h5', h6', hh_i11, hj2']) ?_)))
   simp only [eq_self, he, e2]
  ·rintro ⟨⟩ hi lid did lo h1 h2 h3
   rw [runL_len] at hi
   ((try clear hh_i6); (try clear hh_i7); (try clear hid); (try clear hh_i9); omega)
end Go.Proofs.YtkcgocmjaggdiaaGreat
end
section
set_option linter.unusedVariables false
set_option linter.unusedSimpArgs false
set_option maxHeartbeats 4000000
set_option maxRecDepth 100000
namespace Go.Proofs.YtkcgocmjaggdiaaGreat
open Go.V Wl
/-- What tells of decks. -/
abbrev onF (id u S i9 i10 : Nat) : AV := .func (.func 57) [] [.rptr 1 1 (fun _ => [i64 (u : Int)]) 0 0, .ref i9 0 1 0 0, .rptr 1 1 (fun _ => [.ref id 0 9 0 0]) 0 0, .rptr 1 1 (fun _ => [u64 (S : Int)]) 0 0, .ref i10 0 1 0 0, .rptr 1 2 (fun _ => [.func (.func 55) [] [], .func (.func 56) [] []]) 0 0]
theorem FirstL.first {p : Pu} {u : Nat} {l : List Int} (k : Ok p) (h : FirstL p u l) (hu : u ≤ p.fl.length) : FirstP p l := ⟨by have := h.len; have := k.nF; omega, h.at_⟩
theorem dk_rng {p : Pu} (k : Ok p) {u : Nat} {l : List Int} (h : FirstL p u l) (hu : u ≤ p.fl.length) : ∀ x ∈ dkI p l, -1000000 ≤ x ∧ x ≤ 1000000 := by
 have nF := k.nF
 have hl := h.len
 have hm : ∀ v, (menV p l l.length v).1 ≤ 100 ∧ (menV p l l.length v).2 ≤ 100 := fun v => by
  unfold menV
  split
  ·have h1 := doneW_le (p.wt v).re l (v : Int) l.length
   unfold capM
   simp only []
   omega
  ·exact ⟨by decide, by decide⟩
 have hw : 0 ≤ watV p l false l.length ∧ watV p l false l.length ≤ 1000 := by
  have := wat_rng (flowLe_ok k hu) l false l.length hl
  omega
 have h0 := hm 0
 have h1 := hm 1
 have h2 := hm 2
 intro x hx
 unfold dkI at hx
 simp only [List.mem_cons, List.not_mem_nil, or_false] at hx
 rcases hx with rfl | rfl | rfl | rfl | rfl | rfl | rfl | rfl <;> omega
theorem dkP_key {p : Pu} (k : Ok p) {u : Nat} {l : List Int} (h : FirstL p u l) (hu : u ≤ p.fl.length) : ∃ s, keyOf Tryz.prog 75 (dkP p l) = some s := dkK (dk_rng k h hu)
theorem memT_key {p : Pu} (k : Ok p) {u S : Nat} (hu : u ≤ p.fl.length) {q v : Value} (h : memT p u S q v) : ∃ s, keyOf Tryz.prog 75 q = some s := by
 obtain ⟨l, h1, rfl, _⟩ := h
 exact dkP_key k h1 hu
theorem bit_eq0 (C i : Nat) : decide ((((((C : Int) / 2 ^ i).toNat &&& 1 : Nat) : Int)) = 0) = !C.testBit i := by
 have e : (C : Int) / 2 ^ i = ((C / 2 ^ i : Nat) : Int) := by simp
 rw [e, Int.toNat_natCast, Nat.and_one_is_mod, Nat.testBit_eq_decide_div_mod_eq]
 have h : C / 2 ^ i % 2 = 0 ∨ C / 2 ^ i % 2 = 1 := by omega
 rcases h with h | h <;> rw [h] <;> rfl
theorem div_rng (C i : Nat) (h : C < 8) : 0 ≤ (C : Int) / 2 ^ i ∧ (C : Int) / 2 ^ i < 8 := by
 have e : (C : Int) / 2 ^ i = ((C / 2 ^ i : Nat) : Int) := by simp
 have := Nat.div_le_self C (2 ^ i)
 rw [e]
 exact ⟨Int.natCast_nonneg _, Int.ofNat_lt.2 (Nat.lt_of_le_of_lt this h)⟩
theorem on_tri {p : Pu} {id u S i9 i10 im : Nat} (k : Ok p) (hA : 0 < (allA p.ho).length) (hu : u ≤ p.fl.length) (hS : S < 8) :
 ∀ (n : Nat) (l : List Int) (H : Hp), l.length + n = u → FirstL p u l → PmAt p false 0 id H → H i9 = some (.box 1 1 fun _ => [.map im]) → H i10 = some (.box 1 1 fun _ => [onF id u S i9 i10]) → H im = some (.memo (memT p u S)) →
   PTri Tryz.prog (onF id u S i9 i10) [.agg (dkC p l false 0 l.length)] H (knA (leastB p S n l)) := by
 have nF := k.nF
 have nW := k.nW
 intro n
 induction n with
 | zero =>
   intro l H hl hf hp h9 h10 hm
   refine Tri.drop ?_
   refine tri_m (m := fun _ => false) Tryz.func57 (by kernel_rfl) rfl (by simp only [List.length_append, List.length_cons, List.length_nil, Tryz.ntmps57]; decide) ?_
   have es : l.length = u := by omega
   rw [es]
   simp only [vsAll, binA, binLitA, intA, loadA, loadRow, partA, partOk, fieldAddrA, boxA, boxZ, opA, allocA, dstOk, nilSliceOp, resA, argFr, retA.eq_2, Nat.reduceAdd, Nat.reduceLT, Nat.reduceEqDiff, Int.reduceNeg, ↓reduceIte, eq_self, wtAll, Tryz.ntmps57, Tryz.results57]
   intro i10k hh_i10k; (try simp only [Hp.set_none, ite_none] at hh_i10k)
   exact dropR_pure rfl (by (repeat (first | exact HSub_rfl | refine HSub_put_eq (by simp only [vsAll, binA, binLitA, intA, aggA, aggV, boolA, nilA2, isConst, unA, loadA, loadRow, partA, partOk, fieldAddrA, indexAddrA, indexA, fieldA, extractA, lenA, nilCheckA, boxA, boxZ, cellA, cellsA, fillA, okParts, buildSliceA, buildMutA, makeSliceA, partIdx, elemsA, lensA, ifaceA, convA, mmA, pickA, okAll, stAll, opsA, partsA, partsOk, opA, allocA, boxMutA, newCells, okCells, storeObj, appendA, guardV, taA, nM, mapUpA, lookA, sliceA, sliceM, sliceS, boundsA, opO, okO, copyA, dstOk, nilA, quietOk, nilSliceOp, deferV, panA, resA, argFr, retA.eq_1, retA.eq_2, Nat.reduceAdd, Nat.reduceSub, Nat.reduceMul, Nat.reduceLT, Nat.reduceLeDiff, Nat.reduceEqDiff, Nat.reduceBEq, Int.reduceAdd, Int.reduceSub, Int.reduceMul, Int.reduceNeg, Int.reduceLE, Int.reduceLT, Int.reduceEq, Int.reduceNe, Int.reduceToNat, ↓reduceIte, reduceCtorEq, implies_true, forall_const, eq_self, ne_eq, wtAll, Tryz.ntmps57, Tryz.results57, hh_i10k]) ?_ | refine HSub_drop2 (by simp only [eq_self, hh_i10k]) ?_ | refine HSub_keep_eq (by simp only [vsAll, binA, binLitA, intA, aggA, aggV, boolA, nilA2, isConst, unA, loadA, loadRow, partA, partOk, fieldAddrA, indexAddrA, indexA, fieldA, extractA, lenA, nilCheckA, boxA, boxZ, cellA, cellsA, fillA, okParts, buildSliceA, buildMutA, makeSliceA, partIdx, elemsA, lensA, ifaceA, convA, mmA, pickA, okAll, stAll, opsA, partsA, partsOk, opA, allocA, boxMutA, newCells, okCells, storeObj, appendA, guardV, taA, nM, mapUpA, lookA, sliceA, sliceM, sliceS, boundsA, opO, okO, copyA, dstOk, nilA, quietOk, nilSliceOp, deferV, panA, resA, argFr, retA.eq_1, retA.eq_2, Nat.reduceAdd, Nat.reduceSub, Nat.reduceMul, Nat.reduceLT, Nat.reduceLeDiff, Nat.reduceEqDiff, Nat.reduceBEq, Int.reduceAdd, Int.reduceSub, Int.reduceMul, Int.reduceNeg, Int.reduceLE, Int.reduceLT, Int.reduceEq, Int.reduceNe, Int.reduceToNat, ↓reduceIte, reduceCtorEq, implies_true, forall_const, eq_self, ne_eq, wtAll, Tryz.ntmps57, Tryz.results57, hh_i10k]) ?_)))
 | succ n ih =>
   intro l H hl hf hp h9 h10 hm
   have hne : ¬ l.length = u := by omega
   refine Tri.unpack hm fun es ck hes hpw => ?_
   have hkey : ∃ s, keyOf Tryz.prog 75 (dkP p l) = some s := dkP_key k hf hu
   obtain ⟨o, hfo, hst, hcase⟩ := found_of und141q key87q hkey (fun e he => memT_key k hu (hes e he)) hpw
   have hback : Go.V.HSub (H.set im (.raw (.map es ck))) H := HSub_set' hm (memo_le hes hpw)
   have n9 : ¬ i9 = im := fun q => by rw [q, hm] at h9; cases h9
   have n10 : ¬ i10 = im := fun q => by rw [q, hm] at h10; cases h10
   have nid : ¬ id = im := fun q => by rw [q] at hp; have := hm.symm.trans hp; cases this
   have n9' : ¬ im = i9 := fun q => n9 q.symm
   have n10' : ¬ im = i10 := fun q => n10 q.symm
   have nid' : ¬ im = id := fun q => nid q.symm
   refine Tri.drop ?_
   refine tri_m (m := fun _ => false) Tryz.func57 (by kernel_rfl) rfl (by simp only [List.length_append, List.length_cons, List.length_nil, Tryz.ntmps57]; decide) ?_
   skip
   simp only [vsAll, binA, binLitA, intA, loadA, loadRow, partA, partOk, fieldAddrA, boxA, boxZ, opA, allocA, dstOk, nilSliceOp, argFr, Nat.reduceAdd, Nat.reduceLT, Nat.reduceEqDiff, Int.reduceNeg, ↓reduceIte, eq_self, wtAll, Tryz.ntmps57]
   intro i10k hh_i10k; (try simp only [ite_none] at hh_i10k)
   have a1 := ne_some hh_i10k.2 hp
   have a2 := ne_some hh_i10k.2 h9
   have a3 := ne_some hh_i10k.2 h10
   have a4 := ne_some hh_i10k.2 hm
   skip
   refine condV (fun hc => ?_) (fun hc => ?_)
   ·simp only [decide_eq_true_eq] at hc; ((try clear hp); (try clear h9); (try clear h10); (try clear hm); (try clear n9); (try clear n10); (try clear nid); (try clear n9'); (try clear n10'); (try clear nid'); (try clear hh_i10k); (try clear a1); (try clear a2); (try clear a3); (try clear a4); omega)
   have e0 : dkC p l false 0 l.length = [i64 (l.length : Int), i64 (menV p l l.length 0).1, i64 (menV p l l.length 0).2, i64 (menV p l l.length 1).1, i64 (menV p l l.length 1).2, i64 (menV p l l.length 2).1, i64 (menV p l l.length 2).2, i64 (watV p l false l.length)] := by
    simp only [dkC, moreP_zero]
   simp only [vsAll, loadA, loadRow, partA, partOk, extractA, cellsA, opA, allocA, newCells, storeObj, lookA, dstOk, nilSliceOp, argFr, Nat.reduceAdd, Nat.reduceMul, Nat.reduceLT, Nat.reduceEqDiff, Int.reduceNeg, ↓reduceIte, eq_self, wtAll, h9, n9, hh_i10k, a2, mapZ141q, e0]
   refine ⟨o, hfo _, ?_⟩
   rcases hcase with ⟨rfl, hno⟩ | ⟨j, en, rfl, hj, hkn⟩
   ·simp only [vsAll, cellA, opA, okCells, dstOk, nilSliceOp, Nat.reduceAdd, Nat.reduceLT, Int.reduceNeg, eq_self]
    intro i11 hh_i11; (try simp only [ite_none] at hh_i11)
    have b1 := ne_some hh_i11.2.2 hp
    have b2 := ne_some hh_i11.2.2 h9
    have b3 := ne_some hh_i11.2.2 h10
    have b4 := ne_some hh_i11.2.2 hm
    skip
    generalize hpv : rowB p S (leastB p S n) l = pv
    have hpv0 : pv 0 = none := by rw [← hpv]; rfl
    have hend : leastB p S (n + 1) l = pv (p.ws.length + 1) := by rw [← hpv]; rfl
    refine vs_loop (σ := Nat) (fun j => j ≤ p.ws.length + 1) (fun j => [(2, .ref i9 0 1 0 0), (3, .rptr 1 1 (fun _ => [.ref id 0 9 0 0]) 0 0), (4, .rptr 1 1 (fun _ => [u64 (S : Int)]) 0 0), (5, .ref i10 0 1 0 0), (6, .rptr 1 2 (fun _ => [.func (.func 55) [] [], .func (.func 56) [] []]) 0 0), (7, .rptr 1 8 (fun _ => dkC p l false 0 l.length) 0 0), (10, .ref i10k 0 2 0 0), (13, i64 ((j : Int) - 1))])
     (fun j => H.set i10k (.box 2 1 fun _ => [i64 ((pv j).getD 0), boo (pv j).isSome])) (fun j => p.ws.length + 1 - j) 0 (Nat.zero_le _) ?_ ?_ fun j hj => ?_
    ·simp only [vsAll, argFr, Nat.reduceEqDiff, Int.reduceNeg, ↓reduceIte, eq_self, e0]
     exact AV.Le.refl _
    ·simp only [hpv0]
     show Go.V.HSub _ (H.set i10k (.box 2 1 fun _ => [i64 0, boo false]))
     refine HSub_put_eq (by simp only [vsAll, ↓reduceIte, eq_self, hh_i11]) ?_
     rw [Hp.set_set]
     refine HSub_drop2 (by simp only [eq_self, hh_i11]) (HSub_drop2 (by simp only [eq_self, hh_i10k]) hback)
    ·simp only [vsAll, binA, binLitA, intA, loadA, loadRow, partA, partOk, fieldAddrA, lenA, nilCheckA, opA, dstOk, Nat.reduceLT, Nat.reduceEqDiff, ↓reduceIte, eq_self, wtAll, hp, a1, e0]
     refine condD (fun hd => ?_) (fun hd => ?_)
     case refine_2 =>
      have ej : j = p.ws.length + 1 := by ((try clear hp); (try clear h9); (try clear h10); (try clear hm); (try clear n9); (try clear n10); (try clear nid); (try clear n9'); (try clear n10'); (try clear nid'); (try clear hh_i10k); (try clear a1); (try clear a2); (try clear a3); (try clear a4); (try clear hh_i11); (try clear b1); (try clear b2); (try clear b3); (try clear b4); omega)
      subst ej
      simp only [vsAll, loadA, loadRow, partA, partOk, opA, mapUpA, dstOk, Nat.reduceLT, Nat.reduceEqDiff, ↓reduceIte, eq_self, wtAll, h9, hm, hh_i10k, a2]
      have hul : u - l.length = n + 1 := by ((try clear hp); (try clear h9); (try clear h10); (try clear hm); (try clear n9); (try clear n10); (try clear nid); (try clear n9'); (try clear n10'); (try clear nid'); (try clear hh_i10k); (try clear a1); (try clear a2); (try clear a3); (try clear a4); (try clear hh_i11); (try clear b1); (try clear b2); (try clear b3); (try clear b4); omega)
      refine ⟨75, 107, und141q, key87q, hkey, fun q v h => memT_key k hu h, ⟨l, hf, rfl, by rw [hul, hend]⟩, ?_⟩
      refine vs_draw2 [0, 0, 0, 0, 1, 3] [([0, 1, 2, 3], [3], 4), ([], [], 5)] [] (by decide +kernel) ?_
      simp only [vsAll, loadA, loadRow, partA, partOk, fieldAddrA, opA, dstOk, nilSliceOp, resA, retA.eq_2, Nat.reduceLT, Nat.reduceEqDiff, ↓reduceIte, eq_self, wtAll, Tryz.results57]
      exact dropR_pure (by rw [hend]) (by (repeat (first | exact HSub_rfl | refine HSub_put_eq (by simp only [vsAll, binA, binLitA, intA, aggA, aggV, boolA, nilA2, isConst, unA, loadA, loadRow, partA, partOk, fieldAddrA, indexAddrA, indexA, fieldA, extractA, lenA, nilCheckA, boxA, boxZ, cellA, cellsA, fillA, okParts, buildSliceA, buildMutA, makeSliceA, partIdx, elemsA, lensA, ifaceA, convA, mmA, pickA, okAll, stAll, opsA, partsA, partsOk, opA, allocA, boxMutA, newCells, okCells, storeObj, appendA, guardV, taA, nM, mapUpA, lookA, sliceA, sliceM, sliceS, boundsA, opO, okO, copyA, dstOk, nilA, quietOk, nilSliceOp, deferV, panA, resA, argFr, retA.eq_1, retA.eq_2, Nat.reduceAdd, Nat.reduceSub, Nat.reduceMul, Nat.reduceLT, Nat.reduceLeDiff, Nat.reduceEqDiff, Nat.reduceBEq, Int.reduceAdd, Int.reduceSub, Int.reduceMul, Int.reduceNeg, Int.reduceLE, Int.reduceLT, Int.reduceEq, Int.reduceNe, Int.reduceToNat, ↓reduceIte, reduceCtorEq, implies_true, forall_const, eq_self, ne_eq, wtAll, Tryz.ntmps57, Tryz.results57, hp, h9, h10, hm, n9, n10, nid, n9', n10', nid', hh_i10k, a1, a2, a3, a4, hh_i11, b1, b2, b3, b4]) ?_ | refine HSub_drop2 (by simp only [eq_self, hh_i10k]) ?_ | refine HSub_keep_eq (by simp only [vsAll, binA, binLitA, intA, aggA, aggV, boolA, nilA2, isConst, unA, loadA, loadRow, partA, partOk, fieldAddrA, indexAddrA, indexA, fieldA, extractA, lenA, nilCheckA, boxA, boxZ, cellA, cellsA, fillA, okParts, buildSliceA, buildMutA, makeSliceA, partIdx, elemsA, lensA, ifaceA, convA, mmA, pickA, okAll, stAll, opsA, partsA, partsOk, opA, allocA, boxMutA, newCells, okCells, storeObj, appendA, guardV, taA, nM, mapUpA, lookA, sliceA, sliceM, sliceS, boundsA, opO, okO, copyA, dstOk, nilA, quietOk, nilSliceOp, deferV, panA, resA, argFr, retA.eq_1, retA.eq_2, Nat.reduceAdd, Nat.reduceSub, Nat.reduceMul, Nat.reduceLT, Nat.reduceLeDiff, Nat.reduceEqDiff, Nat.reduceBEq, Int.reduceAdd, Int.reduceSub, Int.reduceMul, Int.reduceNeg, Int.reduceLE, Int.reduceLT, Int.reduceEq, Int.reduceNe, Int.reduceToNat, ↓reduceIte, reduceCtorEq, implies_true, forall_const, eq_self, ne_eq, wtAll, Tryz.ntmps57, Tryz.results57, hp, h9, h10, hm, n9, n10, nid, n9', n10', nid', hh_i10k, a1, a2, a3, a4, hh_i11, b1, b2, b3, b4]) ?_)))
     have hw : -1 ≤ (j : Int) - 1 ∧ (j : Int) - 1 < p.ws.length := by ((try clear hp); (try clear h9); (try clear h10); (try clear hm); (try clear n9); (try clear n10); (try clear nid); (try clear n9'); (try clear n10'); (try clear nid'); (try clear hh_i10k); (try clear a1); (try clear a2); (try clear a3); (try clear a4); (try clear hh_i11); (try clear b1); (try clear b2); (try clear b3); (try clear b4); omega)
     generalize hjw : (j : Int) - 1 = w at hw hd
     have hf2 := hf.snoc (by ((try clear hp); (try clear h9); (try clear h10); (try clear hm); (try clear n9); (try clear n10); (try clear nid); (try clear n9'); (try clear n10'); (try clear nid'); (try clear hh_i10k); (try clear a1); (try clear a2); (try clear a3); (try clear a4); (try clear hh_i11); (try clear b1); (try clear b2); (try clear b3); (try clear b4); omega)) hw
     rw [← e0, ← deck_pre p l [w] false 0 l.length (Nat.le_refl _)]
     simp only [vsAll, loadA, loadRow, partA, partOk, okAll, stAll, opsA, opA, dstOk, Nat.reduceLT, Nat.reduceEqDiff, ↓reduceIte, eq_self, wtAll]
     refine callK_pure (next_tri p (l ++ [w]) false 0 l.length w id _ k hA (by show Hp.set _ _ _ id = _; simp only [vsAll, ↓reduceIte, eq_self, hp, a1]) (by ((try clear hp); (try clear h9); (try clear h10); (try clear hm); (try clear n9); (try clear n10); (try clear nid); (try clear n9'); (try clear n10'); (try clear nid'); (try clear hh_i10k); (try clear a1); (try clear a2); (try clear a3); (try clear a4); (try clear hh_i11); (try clear b1); (try clear b2); (try clear b3); (try clear b4); omega)) hw (getD_app_len l w) (by ((try clear hp); (try clear h9); (try clear h10); (try clear hm); (try clear n9); (try clear n10); (try clear nid); (try clear n9'); (try clear n10'); (try clear nid'); (try clear hh_i10k); (try clear a1); (try clear a2); (try clear a3); (try clear a4); (try clear hh_i11); (try clear b1); (try clear b2); (try clear b3); (try clear b4); omega))) ?_
     simp only [vsAll, binA, binLitA, intA, loadA, loadRow, partA, partOk, cellA, pickA, opA, allocA, newCells, okCells, storeObj, guardV, dstOk, Nat.reduceAdd, Nat.reduceLT, Nat.reduceEqDiff, Int.reduceLE, Int.reduceToNat, ↓reduceIte, implies_true, eq_self, wtAll]
     intro i14 hh_i14; (try simp only [ite_none] at hh_i14)
     have c1 := ne_some hh_i14.2 hp
     have c2 := ne_some hh_i14.2 h9
     have c3 := ne_some hh_i14.2 h10
     have c4 := ne_some hh_i14.2 hm
     skip
     rw [Hp.set_set]
     have hdv := div_rng S w.toNat hS
     refine ⟨fun g => ⟨g, g, of_decide_eq_true g, by ((try clear hp); (try clear h9); (try clear h10); (try clear hm); (try clear n9); (try clear n10); (try clear nid); (try clear n9'); (try clear n10'); (try clear nid'); (try clear hh_i10k); (try clear a1); (try clear a2); (try clear a3); (try clear a4); (try clear hh_i11); (try clear b1); (try clear b2); (try clear b3); (try clear b4); (try clear hh_i14); (try clear c1); (try clear c2); (try clear c3); (try clear c4); omega), rfl⟩, fun g => ⟨g, hdv.1, by simp only [InR_u64]; ((try clear hp); (try clear h9); (try clear h10); (try clear hm); (try clear n9); (try clear n10); (try clear nid); (try clear n9'); (try clear n10'); (try clear nid'); (try clear hh_i10k); (try clear a1); (try clear a2); (try clear a3); (try clear a4); (try clear hh_i11); (try clear b1); (try clear b2); (try clear b3); (try clear b4); (try clear hh_i14); (try clear c1); (try clear c2); (try clear c3); (try clear c4); omega), by simp only [InR_u64]; ((try clear hp); (try clear h9); (try clear h10); (try clear hm); (try clear n9); (try clear n10); (try clear nid); (try clear n9'); (try clear n10'); (try clear nid'); (try clear hh_i10k); (try clear a1); (try clear a2); (try clear a3); (try clear a4); (try clear hh_i11); (try clear b1); (try clear b2); (try clear b3); (try clear b4); (try clear hh_i14); (try clear c1); (try clear c2); (try clear c3); (try clear c4); omega)⟩, ?_⟩
     rw [bit_eq0]
     refine gcall _ (fun g => ⟨by simp only [vsAll, opA], by simp only [vsAll, okAll, opsA, opA, Nat.reduceEqDiff, ↓reduceIte, eq_self, g], floats_tri p (l ++ [w]) false 0 (l.length + 1) id _ (by show Hp.set (Hp.set _ _ _) _ _ id = _; simp only [vsAll, ↓reduceIte, eq_self, hp, a1, c1])⟩) ?_
     rw [moreP_zero]
     simp only [vsAll, unA, pickA, opA, guardV, dstOk, Nat.reduceLT, Nat.reduceEqDiff, ↓reduceIte, implies_true, eq_self]
     have hpn : pv (j + 1) = stepB p S (leastB p S n) l (pv j) w := by
      rw [← hpv, ← hjw]; rfl
     have e13 : w + 1 = ((j + 1 : Nat) : Int) - 1 := by ((try clear hp); (try clear h9); (try clear h10); (try clear hm); (try clear n9); (try clear n10); (try clear nid); (try clear n9'); (try clear n10'); (try clear nid'); (try clear hh_i10k); (try clear a1); (try clear a2); (try clear a3); (try clear a4); (try clear hh_i11); (try clear b1); (try clear b2); (try clear b3); (try clear b4); (try clear hh_i14); (try clear c1); (try clear c2); (try clear c3); (try clear c4); omega)
     refine condV (fun hc => ?_) (fun hc => ?_)
     ·have hc' : (0 ≤ w ∧ S.testBit w.toNat = false) ∨ ¬ watV p (l ++ [w]) false (l.length + 1) ≤ p.ca := by simpa using hc
      rw [stepB, if_pos hc'] at hpn
      simp only [vsAll, binA, binLitA, intA, opA, dstOk, nilSliceOp, Nat.reduceLT, Nat.reduceEqDiff, ↓reduceIte, eq_self]
      refine ⟨by simp only [InR_i64]; ((try clear hp); (try clear h9); (try clear h10); (try clear hm); (try clear n9); (try clear n10); (try clear nid); (try clear n9'); (try clear n10'); (try clear nid'); (try clear hh_i10k); (try clear a1); (try clear a2); (try clear a3); (try clear a4); (try clear hh_i11); (try clear b1); (try clear b2); (try clear b3); (try clear b4); (try clear hh_i14); (try clear c1); (try clear c2); (try clear c3); (try clear c4); omega), loop_next (j + 1) (by ((try clear hp); (try clear h9); (try clear h10); (try clear hm); (try clear n9); (try clear n10); (try clear nid); (try clear n9'); (try clear n10'); (try clear nid'); (try clear hh_i10k); (try clear a1); (try clear a2); (try clear a3); (try clear a4); (try clear hh_i11); (try clear b1); (try clear b2); (try clear b3); (try clear b4); (try clear hh_i14); (try clear c1); (try clear c2); (try clear c3); (try clear c4); omega)) (by ((try clear hp); (try clear h9); (try clear h10); (try clear hm); (try clear n9); (try clear n10); (try clear nid); (try clear n9'); (try clear n10'); (try clear nid'); (try clear hh_i10k); (try clear a1); (try clear a2); (try clear a3); (try clear a4); (try clear hh_i11); (try clear b1); (try clear b2); (try clear b3); (try clear b4); (try clear hh_i14); (try clear c1); (try clear c2); (try clear c3); (try clear c4); omega)) ?_ ?_⟩
      ·simp only [vsAll, Nat.reduceEqDiff, ↓reduceIte, eq_self]
       rw [e13]
       exact AV.Le.refl _
      ·simp only [hpn]
       (repeat (first | exact HSub_rfl | refine HSub_put_eq (by simp only [vsAll, ↓reduceIte, eq_self, hh_i14]) ?_ | refine HSub_drop2 (by simp only [eq_self, hh_i10k, hh_i14]) ?_ | refine HSub_keep_eq (by simp only [vsAll, binA, binLitA, intA, aggA, aggV, boolA, nilA2, isConst, unA, loadA, loadRow, partA, partOk, fieldAddrA, indexAddrA, indexA, fieldA, extractA, lenA, nilCheckA, boxA, boxZ, cellA, cellsA, fillA, okParts, buildSliceA, buildMutA, makeSliceA, partIdx, elemsA, lensA, ifaceA, convA, mmA, pickA, okAll, stAll, opsA, partsA, partsOk, opA, allocA, boxMutA, newCells, okCells, storeObj, appendA, guardV, taA, nM, mapUpA, lookA, sliceA, sliceM, sliceS, boundsA, opO, okO, copyA, dstOk, nilA, quietOk, nilSliceOp, deferV, panA, resA, argFr, retA.eq_1, retA.eq_2, Nat.reduceAdd, Nat.reduceSub, Nat.reduceMul, Nat.reduceLT, Nat.reduceLeDiff, Nat.reduceEqDiff, Nat.reduceBEq, Int.reduceAdd, Int.reduceSub, Int.reduceMul, Int.reduceNeg, Int.reduceLE, Int.reduceLT, Int.reduceEq, Int.reduceNe, Int.reduceToNat, ↓reduceIte, reduceCtorEq, implies_true, forall_const, eq_self, ne_eq, wtAll, Tryz.ntmps57, Tryz.results57, hp, h9, h10, hm, n9, n10, nid, n9', n10', nid', hh_i10k, a1, a2, a3, a4, hh_i11, b1, b2, b3, b4, hh_i14, c1, c2, c3, c4]) ?_))
     ·have hc' : ¬ ((0 ≤ w ∧ S.testBit w.toNat = false) ∨ ¬ watV p (l ++ [w]) false (l.length + 1) ≤ p.ca) := fun h => by
       have : (decide (0 ≤ w) && !S.testBit w.toNat || !decide (watV p (l ++ [w]) false (l.length + 1) ≤ p.ca)) = true := by simpa using h
       rw [this] at hc
       cases hc
      rw [stepB, if_neg hc'] at hpn
      simp only [vsAll, loadA, loadRow, partA, partOk, okAll, stAll, opsA, opA, dstOk, Nat.reduceLT, Nat.reduceEqDiff, ↓reduceIte, eq_self, wtAll, h10, a3, c3]
      have hih := fun X => ih (l ++ [w]) X (by rw [List.length_append, List.length_singleton]; ((try clear hp); (try clear h9); (try clear h10); (try clear hm); (try clear n9); (try clear n10); (try clear nid); (try clear n9'); (try clear n10'); (try clear nid'); (try clear hh_i10k); (try clear a1); (try clear a2); (try clear a3); (try clear a4); (try clear hh_i11); (try clear b1); (try clear b2); (try clear b3); (try clear b4); (try clear hh_i14); (try clear c1); (try clear c2); (try clear c3); (try clear c4); omega)) hf2
      rw [List.length_append, List.length_singleton] at hih
      refine callK_pure (hih _ (by show Hp.set (Hp.set _ _ _) _ _ id = _; simp only [vsAll, ↓reduceIte, eq_self, hp, a1, c1]) (by show Hp.set (Hp.set _ _ _) _ _ i9 = _; simp only [vsAll, ↓reduceIte, eq_self, h9, a2, c2]) (by show Hp.set (Hp.set _ _ _) _ _ i10 = _; simp only [vsAll, ↓reduceIte, eq_self, h10, a3, c3]) (by show Hp.set (Hp.set _ _ _) _ _ im = _; simp only [vsAll, ↓reduceIte, eq_self, hm, hh_i10k, c4])) ?_
      generalize hq : leastB p S n (l ++ [w]) = q at hpn
      cases q with
      | none =>
        simp only [] at hpn
        simp only [vsAll, binA, binLitA, intA, unA, extractA, opA, dstOk, nilSliceOp, Nat.reduceAdd, Nat.reduceLT, Nat.reduceEqDiff, ↓reduceIte, eq_self]
        refine ⟨by simp only [InR_i64]; ((try clear hp); (try clear h9); (try clear h10); (try clear hm); (try clear n9); (try clear n10); (try clear nid); (try clear n9'); (try clear n10'); (try clear nid'); (try clear hh_i10k); (try clear a1); (try clear a2); (try clear a3); (try clear a4); (try clear hh_i11); (try clear b1); (try clear b2); (try clear b3); (try clear b4); (try clear hh_i14); (try clear c1); (try clear c2); (try clear c3); (try clear c4); omega), loop_next (j + 1) (by ((try clear hp); (try clear h9); (try clear h10); (try clear hm); (try clear n9); (try clear n10); (try clear nid); (try clear n9'); (try clear n10'); (try clear nid'); (try clear hh_i10k); (try clear a1); (try clear a2); (try clear a3); (try clear a4); (try clear hh_i11); (try clear b1); (try clear b2); (try clear b3); (try clear b4); (try clear hh_i14); (try clear c1); (try clear c2); (try clear c3); (try clear c4); omega)) (by ((try clear hp); (try clear h9); (try clear h10); (try clear hm); (try clear n9); (try clear n10); (try clear nid); (try clear n9'); (try clear n10'); (try clear nid'); (try clear hh_i10k); (try clear a1); (try clear a2); (try clear a3); (try clear a4); (try clear hh_i11); (try clear b1); (try clear b2); (try clear b3); (try clear b4); (try clear hh_i14); (try clear c1); (try clear c2); (try clear c3); (try clear c4); omega)) ?_ ?_⟩
        ·simp only [vsAll, Nat.reduceEqDiff, ↓reduceIte, eq_self]
         rw [e13]
         exact AV.Le.refl _
        ·simp only [hpn]
         (repeat (first | exact HSub_rfl | refine HSub_put_eq (by simp only [vsAll, ↓reduceIte, eq_self, hh_i14]) ?_ | refine HSub_drop2 (by simp only [eq_self, hh_i10k, hh_i14]) ?_ | refine HSub_keep_eq (by simp only [vsAll, binA, binLitA, intA, aggA, aggV, boolA, nilA2, isConst, unA, loadA, loadRow, partA, partOk, fieldAddrA, indexAddrA, indexA, fieldA, extractA, lenA, nilCheckA, boxA, boxZ, cellA, cellsA, fillA, okParts, buildSliceA, buildMutA, makeSliceA, partIdx, elemsA, lensA, ifaceA, convA, mmA, pickA, okAll, stAll, opsA, partsA, partsOk, opA, allocA, boxMutA, newCells, okCells, storeObj, appendA, guardV, taA, nM, mapUpA, lookA, sliceA, sliceM, sliceS, boundsA, opO, okO, copyA, dstOk, nilA, quietOk, nilSliceOp, deferV, panA, resA, argFr, retA.eq_1, retA.eq_2, Nat.reduceAdd, Nat.reduceSub, Nat.reduceMul, Nat.reduceLT, Nat.reduceLeDiff, Nat.reduceEqDiff, Nat.reduceBEq, Int.reduceAdd, Int.reduceSub, Int.reduceMul, Int.reduceNeg, Int.reduceLE, Int.reduceLT, Int.reduceEq, Int.reduceNe, Int.reduceToNat, ↓reduceIte, reduceCtorEq, implies_true, forall_const, eq_self, ne_eq, wtAll, Tryz.ntmps57, Tryz.results57, hp, h9, h10, hm, n9, n10, nid, n9', n10', nid', hh_i10k, a1, a2, a3, a4, hh_i11, b1, b2, b3, b4, hh_i14, c1, c2, c3, c4]) ?_))
      | some x =>
        simp only [] at hpn
        have hx := least_rng S n _ _ hq
        have hl8 := hf2.len
        have hn8 : (n : Int) ≤ 8 := by ((try clear hp); (try clear h9); (try clear h10); (try clear hm); (try clear n9); (try clear n10); (try clear nid); (try clear n9'); (try clear n10'); (try clear nid'); (try clear hh_i10k); (try clear a1); (try clear a2); (try clear a3); (try clear a4); (try clear hh_i11); (try clear b1); (try clear b2); (try clear b3); (try clear b4); (try clear hh_i14); (try clear c1); (try clear c2); (try clear c3); (try clear c4); omega)
        simp only [vsAll, unA, loadA, loadRow, partA, partOk, fieldAddrA, extractA, okAll, stAll, opsA, opA, dstOk, nilSliceOp, Nat.reduceAdd, Nat.reduceLT, Nat.reduceEqDiff, ↓reduceIte, eq_self, wtAll, Option.getD_some]
        refine callK_pure (of_tri2 w x _ (by ((try clear hp); (try clear h9); (try clear h10); (try clear hm); (try clear n9); (try clear n10); (try clear nid); (try clear n9'); (try clear n10'); (try clear nid'); (try clear hh_i10k); (try clear a1); (try clear a2); (try clear a3); (try clear a4); (try clear hh_i11); (try clear b1); (try clear b2); (try clear b3); (try clear b4); (try clear hh_i14); (try clear c1); (try clear c2); (try clear c3); (try clear c4); omega))) ?_
        cases hpj : pv j with
        | none =>
          rw [hpj] at hpn
          simp only [] at hpn
          simp only [vsAll, unA, loadA, loadRow, partA, partOk, fieldAddrA, opA, guardV, dstOk, nilSliceOp, Nat.reduceLT, Nat.reduceEqDiff, ↓reduceIte, implies_true, eq_self, wtAll, hh_i14]
          refine gcall (boo true) (fun g => by cases g) ?_
          simp only [vsAll, binA, binLitA, intA, cellA, cellsA, fillA, okParts, pickA, partsA, partsOk, opA, newCells, okCells, storeObj, dstOk, nilSliceOp, Nat.reduceAdd, Nat.reduceLT, Nat.reduceLeDiff, Nat.reduceEqDiff, ↓reduceIte, eq_self, wtAll, hh_i14]
          refine ⟨by simp only [InR_i64]; ((try clear hp); (try clear h9); (try clear h10); (try clear hm); (try clear n9); (try clear n10); (try clear nid); (try clear n9'); (try clear n10'); (try clear nid'); (try clear hh_i10k); (try clear a1); (try clear a2); (try clear a3); (try clear a4); (try clear hh_i11); (try clear b1); (try clear b2); (try clear b3); (try clear b4); (try clear hh_i14); (try clear c1); (try clear c2); (try clear c3); (try clear c4); omega), loop_next (j + 1) (by ((try clear hp); (try clear h9); (try clear h10); (try clear hm); (try clear n9); (try clear n10); (try clear nid); (try clear n9'); (try clear n10'); (try clear nid'); (try clear hh_i10k); (try clear a1); (try clear a2); (try clear a3); (try clear a4); (try clear hh_i11); (try clear b1); (try clear b2); (try clear b3); (try clear b4); (try clear hh_i14); (try clear c1); (try clear c2); (try clear c3); (try clear c4); omega)) (by ((try clear hp); (try clear h9); (try clear h10); (try clear hm); (try clear n9); (try clear n10); (try clear nid); (try clear n9'); (try clear n10'); (try clear nid'); (try clear hh_i10k); (try clear a1); (try clear a2); (try clear a3); (try clear a4); (try clear hh_i11); (try clear b1); (try clear b2); (try clear b3); (try clear b4); (try clear hh_i14); (try clear c1); (try clear c2); (try clear c3); (try clear c4); omega)) ?_ ?_⟩
          ·simp only [vsAll, Nat.reduceEqDiff, ↓reduceIte, eq_self]
           rw [e13]
           exact AV.Le.refl _
          ·simp only [hpn, Option.getD_some, Option.isSome_some]
           (repeat (first | exact HSub_rfl | refine HSub_put_eq (by simp only [vsAll, ↓reduceIte, eq_self]) ?_ | refine HSub_drop2 (by simp only [eq_self, hh_i10k, hh_i14]) ?_ | refine HSub_keep_eq (by simp only [vsAll, binA, binLitA, intA, aggA, aggV, boolA, nilA2, isConst, unA, loadA, loadRow, partA, partOk, fieldAddrA, indexAddrA, indexA, fieldA, extractA, lenA, nilCheckA, boxA, boxZ, cellA, cellsA, fillA, okParts, buildSliceA, buildMutA, makeSliceA, partIdx, elemsA, lensA, ifaceA, convA, mmA, pickA, okAll, stAll, opsA, partsA, partsOk, opA, allocA, boxMutA, newCells, okCells, storeObj, appendA, guardV, taA, nM, mapUpA, lookA, sliceA, sliceM, sliceS, boundsA, opO, okO, copyA, dstOk, nilA, quietOk, nilSliceOp, deferV, panA, resA, argFr, retA.eq_1, retA.eq_2, Nat.reduceAdd, Nat.reduceSub, Nat.reduceMul, Nat.reduceLT, Nat.reduceLeDiff, Nat.reduceEqDiff, Nat.reduceBEq, Int.reduceAdd, Int.reduceSub, Int.reduceMul, Int.reduceNeg, Int.reduceLE, Int.reduceLT, Int.reduceEq, Int.reduceNe, Int.reduceToNat, ↓reduceIte, reduceCtorEq, implies_true, forall_const, eq_self, ne_eq, wtAll, Tryz.ntmps57, Tryz.results57, hp, h9, h10, hm, n9, n10, nid, n9', n10', nid', hh_i10k, a1, a2, a3, a4, hh_i11, b1, b2, b3, b4, hh_i14, c1, c2, c3, c4]) ?_))
        | some y =>
          rw [hpj] at hpn
          simp only [] at hpn
          simp only [vsAll, unA, loadA, loadRow, partA, partOk, fieldAddrA, opA, guardV, dstOk, nilSliceOp, Nat.reduceLT, Nat.reduceEqDiff, ↓reduceIte, eq_self, wtAll, hh_i14, Option.getD_some]
          refine gcall _ (fun g => ⟨by simp only [vsAll, opA, Nat.reduceEqDiff, ↓reduceIte, eq_self], by simp only [vsAll, okAll, opsA, opA, Nat.reduceEqDiff, ↓reduceIte, eq_self], less_tri (costW w x) y _⟩) ?_
          simp only [vsAll, pickA, opA, dstOk, Nat.reduceLT, Nat.reduceEqDiff, ↓reduceIte, implies_true, eq_self]
          refine condD (fun hc2 => ?_) (fun hc2 => ?_)
          ·rw [if_pos hc2] at hpn
           simp only [vsAll, binA, binLitA, intA, cellA, cellsA, fillA, okParts, partsA, partsOk, opA, newCells, okCells, storeObj, dstOk, nilSliceOp, Nat.reduceAdd, Nat.reduceLT, Nat.reduceLeDiff, Nat.reduceEqDiff, ↓reduceIte, eq_self, wtAll, hh_i14]
           refine ⟨by simp only [InR_i64]; ((try clear hp); (try clear h9); (try clear h10); (try clear hm); (try clear n9); (try clear n10); (try clear nid); (try clear n9'); (try clear n10'); (try clear nid'); (try clear hh_i10k); (try clear a1); (try clear a2); (try clear a3); (try clear a4); (try clear hh_i11); (try clear b1); (try clear b2); (try clear b3); (try clear b4); (try clear hh_i14); (try clear c1); (try clear c2); (try clear c3); (try clear c4); omega), loop_next (j + 1) (by ((try clear hp); (try clear h9); (try clear h10); (try clear hm); (try clear n9); (try clear n10); (try clear nid); (try clear n9'); (try clear n10'); (try clear nid'); (try clear hh_i10k); (try clear a1); (try clear a2); (try clear a3); (try clear a4); (try clear hh_i11); (try clear b1); (try clear b2); (try clear b3); (try clear b4); (try clear hh_i14); (try clear c1); (try clear c2); (try clear c3); (try clear c4); omega)) (by ((try clear hp); (try clear h9); (try clear h10); (try clear hm); (try clear n9); (try clear n10); (try clear nid); (try clear n9'); (try clear n10'); (try clear nid'); (try clear hh_i10k); (try clear a1); (try clear a2); (try clear a3); (try clear a4); (try clear hh_i11); (try clear b1); (try clear b2); (try clear b3); (try clear b4); (try clear hh_i14); (try clear c1); (try clear c2); (try clear c3); (try clear c4); omega)) ?_ ?_⟩
           ·simp only [vsAll, Nat.reduceEqDiff, ↓reduceIte, eq_self]
            rw [e13]
            exact AV.Le.refl _
           ·simp only [hpn, Option.getD_some, Option.isSome_some]
            (repeat (first | exact HSub_rfl | refine HSub_put_eq (by simp only [vsAll, ↓reduceIte, eq_self]) ?_ | refine HSub_drop2 (by simp only [eq_self, hh_i10k, hh_i14]) ?_ | refine HSub_keep_eq (by simp only [vsAll, binA, binLitA, intA, aggA, aggV, boolA, nilA2, isConst, unA, loadA, loadRow, partA, partOk, fieldAddrA, indexAddrA, indexA, fieldA, extractA, lenA, nilCheckA, boxA, boxZ, cellA, cellsA, fillA, okParts, buildSliceA, buildMutA, makeSliceA, partIdx, elemsA, lensA, ifaceA, convA, mmA, pickA, okAll, stAll, opsA, partsA, partsOk, opA, allocA, boxMutA, newCells, okCells, storeObj, appendA, guardV, taA, nM, mapUpA, lookA, sliceA, sliceM, sliceS, boundsA, opO, okO, copyA, dstOk, nilA, quietOk, nilSliceOp, deferV, panA, resA, argFr, retA.eq_1, retA.eq_2, Nat.reduceAdd, Nat.reduceSub, Nat.reduceMul, Nat.reduceLT, Nat.reduceLeDiff, Nat.reduceEqDiff, Nat.reduceBEq, Int.reduceAdd, Int.reduceSub, Int.reduceMul, Int.reduceNeg, Int.reduceLE, Int.reduceLT, Int.reduceEq, Int.reduceNe, Int.reduceToNat, ↓reduceIte, reduceCtorEq, implies_true, forall_const, eq_self, ne_eq, wtAll, Tryz.ntmps57, Tryz.results57, hp, h9, h10, hm, n9, n10, nid, n9', n10', nid', hh_i10k, a1, a2, a3, a4, hh_i11, b1, b2, b3, b4, hh_i14, c1, c2, c3, c4]) ?_))
          ·rw [if_neg hc2] at hpn
           simp only [vsAll, binA, binLitA, intA, opA, dstOk, nilSliceOp, Nat.reduceLT, Nat.reduceEqDiff, ↓reduceIte, eq_self]
           refine ⟨by simp only [InR_i64]; ((try clear hp); (try clear h9); (try clear h10); (try clear hm); (try clear n9); (try clear n10); (try clear nid); (try clear n9'); (try clear n10'); (try clear nid'); (try clear hh_i10k); (try clear a1); (try clear a2); (try clear a3); (try clear a4); (try clear hh_i11); (try clear b1); (try clear b2); (try clear b3); (try clear b4); (try clear hh_i14); (try clear c1); (try clear c2); (try clear c3); (try clear c4); omega), loop_next (j + 1) (by ((try clear hp); (try clear h9); (try clear h10); (try clear hm); (try clear n9); (try clear n10); (try clear nid); (try clear n9'); (try clear n10'); (try clear nid'); (try clear hh_i10k); (try clear a1); (try clear a2); (try clear a3); (try clear a4); (try clear hh_i11); (try clear b1); (try clear b2); (try clear b3); (try clear b4); (try clear hh_i14); (try clear c1); (try clear c2); (try clear c3); (try clear c4); omega)) (by ((try clear hp); (try clear h9); (try clear h10); (try clear hm); (try clear n9); (try clear n10); (try clear nid); (try clear n9'); (try clear n10'); (try clear nid'); (try clear hh_i10k); (try clear a1); (try clear a2); (try clear a3); (try clear a4); (try clear hh_i11); (try clear b1); (try clear b2); (try clear b3); (try clear b4); (try clear hh_i14); (try clear c1); (try clear c2); (try clear c3); (try clear c4); omega)) ?_ ?_⟩
           ·simp only [vsAll, Nat.reduceEqDiff, ↓reduceIte, eq_self]
            rw [e13]
            exact AV.Le.refl _
           ·simp only [hpn, Option.getD_some, Option.isSome_some]
            (repeat (first | exact HSub_rfl | refine HSub_put_eq (by simp only [vsAll, ↓reduceIte, eq_self, hh_i14]) ?_ | refine HSub_drop2 (by simp only [eq_self, hh_i10k, hh_i14]) ?_ | refine HSub_keep_eq (by simp only [vsAll, binA, binLitA, intA, aggA, aggV, boolA, nilA2, isConst, unA, loadA, loadRow, partA, partOk, fieldAddrA, indexAddrA, indexA, fieldA, extractA, lenA, nilCheckA, boxA, boxZ, cellA, cellsA, fillA, okParts, buildSliceA, buildMutA, makeSliceA, partIdx, elemsA, lensA, ifaceA, convA, mmA, pickA, okAll, stAll, opsA, partsA, partsOk, opA, allocA, boxMutA, newCells, okCells, storeObj, appendA, guardV, taA, nM, mapUpA, lookA, sliceA, sliceM, sliceS, boundsA, opO, okO, copyA, dstOk, nilA, quietOk, nilSliceOp, deferV, panA, resA, argFr, retA.eq_1, retA.eq_2, Nat.reduceAdd, Nat.reduceSub, Nat.reduceMul, Nat.reduceLT, Nat.reduceLeDiff, Nat.reduceEqDiff, Nat.reduceBEq, Int.reduceAdd, Int.reduceSub, Int.reduceMul, Int.reduceNeg, Int.reduceLE, Int.reduceLT, Int.reduceEq, Int.reduceNe, Int.reduceToNat, ↓reduceIte, reduceCtorEq, implies_true, forall_const, eq_self, ne_eq, wtAll, Tryz.ntmps57, Tryz.results57, hp, h9, h10, hm, n9, n10, nid, n9', n10', nid', hh_i10k, a1, a2, a3, a4, hh_i11, b1, b2, b3, b4, hh_i14, c1, c2, c3, c4]) ?_))
   ·obtain ⟨l', h1, h2, h3⟩ := hes en (by
     have := Array.getElem?_eq_some_iff.1 hj
     obtain ⟨hl, rfl⟩ := this
     simp)
    have hval : en.val = knV (leastB p S (n + 1) l) := by
     have hd : dkI p l' = dkI p l := dkP_inj (h2.symm.trans hkn)
     have hl' := (dkI_inj hd).1
     rw [h3, show u - l'.length = n + 1 by ((try clear hp); (try clear h9); (try clear h10); (try clear hm); (try clear n9); (try clear n10); (try clear nid); (try clear n9'); (try clear n10'); (try clear nid'); (try clear hh_i10k); (try clear a1); (try clear a2); (try clear a3); (try clear a4); omega), least_congr k S _ _ _ hd]
    generalize htl : leastB p S (n + 1) l = tv at hval
    simp only [vsAll, cellA, okCells, Nat.reduceAdd, Int.reduceNeg, eq_self, hval]
    intro i11 hh_i11; (try simp only [ite_none] at hh_i11)
    refine vs_draw2 [0, 0, 0, 0, 1, 3] [([0, 1, 2, 3], [3], 4), ([], [], 5)] [] (by decide +kernel) ?_
    simp only [vsAll, loadA, loadRow, partA, partOk, fieldAddrA, opA, dstOk, nilSliceOp, resA, retA.eq_2, Nat.reduceLT, Nat.reduceEqDiff, Int.reduceNeg, ↓reduceIte, eq_self, wtAll, Tryz.results57]
    rw [Hp.set_set]
    exact dropR_pure rfl (HSub_drop2 (by simp only [eq_self, hh_i11]) (HSub_drop2 (by simp only [eq_self, hh_i10k]) hback))
end Go.Proofs.YtkcgocmjaggdiaaGreat
end
section
set_option linter.unusedVariables false
set_option linter.unusedSimpArgs false
set_option maxHeartbeats 4000000
set_option maxRecDepth 100000
namespace Go.Proofs.YtkcgocmjaggdiaaGreat
open Go.V Wl
theorem azT141q : azT Tryz.prog 105 = some (1, 1, [.map none]) := by kernel_rfl
theorem azT111q : azT Tryz.prog 63 = some (1, 1, [.nilFunc]) := by kernel_rfl
/-- The heap behind a teller that is made. -/
abbrev cheH (p : Pu) (id u S : Nat) (H : Hp) (im i9 i10 : Nat) : Hp :=
 ((H.set im (.memo (memT p u S))).set i9 (.box 1 1 fun _ => [.map im])).set i10 (.box 1 1 fun _ => [onF id u S i9 i10])
def cheR (p : Pu) (id u S : Nat) (H : Hp) : Res → Hp → Prop := fun r H' =>
 ∃ i9 i10 im, r = .ret (onF id u S i9 i10) ∧ (H im = none ∧ H i9 = none ∧ H i10 = none) ∧ ((¬ i9 = im ∧ ¬ im = i9) ∧ (¬ i10 = im ∧ ¬ im = i10) ∧ ¬ i10 = i9 ∧ ¬ i9 = i10) ∧ H' = cheH p id u S H im i9 i10
theorem che_tri (p : Pu) (id u S : Nat) (H : Hp) : Tri Tryz.prog (fnA 29) [.ref id 0 9 0 0, i64 (u : Int), u64 (S : Int), hoursA] H (cheR p id u S H) := by
 refine Tri.drop ?_
 refine tri_v0 (fun _ => false) Tryz.func29 (by kernel_rfl) rfl (by simp only [List.length_append, List.length_cons, List.length_nil, Tryz.ntmps29]; decide) ?_
 simp only [vsAll, loadA, loadRow, partA, partOk, boxA, boxZ, cellA, cellsA, okAll, stAll, opsA, opA, allocA, newCells, okCells, storeObj, nM, dstOk, nilSliceOp, resA, argFr, retA.eq_1, Nat.reduceAdd, Nat.reduceLT, Nat.reduceEqDiff, ↓reduceIte, eq_self, wtAll, Tryz.ntmps29, Tryz.results29, azT141q, azT111q]
 intro im hh_im; (try simp only [Hp.set_none, ite_none] at hh_im); intro i9 hh_i9; (try simp only [ite_none] at hh_i9); intro i10 hh_i10; (try simp only [ite_none] at hh_i10)
 rw [Hp.set_set, Hp.set_set]
 refine ⟨cheH p id u S H im i9 i10, HSub.set (HSub.set (HSub.set (HSub.refl _) (memo_le (by simp) (by simp))) (.refl _)) (.refl _), i9, i10, im, rfl, ?_, ?_, rfl⟩
 ·refine ⟨?_, ?_, ?_⟩ <;> simp_all
 ·refine ⟨⟨?_, ?_⟩, ⟨?_, ?_⟩, ?_, ?_⟩ <;> simp_all
theorem cheH_sub {p : Pu} {id u S : Nat} {H : Hp} {im i9 i10 : Nat} (h : H im = none ∧ H i9 = none ∧ H i10 = none) : Go.V.HSub (cheH p id u S H im i9 i10) H := fun q o hq => by
 have h1 : ¬ q = i10 := fun e => by rw [e, h.2.2] at hq; cases hq
 have h2 : ¬ q = i9 := fun e => by rw [e, h.2.1] at hq; cases hq
 have h3 : ¬ q = im := fun e => by rw [e, h.1] at hq; cases hq
 exact ⟨o, by rw [cheH, Hp.set_ne _ _ h1, Hp.set_ne _ _ h2, Hp.set_ne _ _ h3]; exact hq, .refl _⟩
/-- What is told of a plan so far, by a teller that was made. -/
theorem told_tri {p : Pu} {id u S : Nat} {H : Hp} {im i9 i10 : Nat} (k : Ok p) (hA : 0 < (allA p.ho).length) (hu : u ≤ p.fl.length) (hS : S < 8)
 (hd : (¬ i9 = im ∧ ¬ im = i9) ∧ (¬ i10 = im ∧ ¬ im = i10) ∧ ¬ i10 = i9 ∧ ¬ i9 = i10) (hf : H im = none ∧ H i9 = none ∧ H i10 = none) (hp : PmAt p false 0 id H) (n : Nat) (l : List Int) (hn : l.length + n = u) (hl : FirstL p u l) :
 PTri Tryz.prog (onF id u S i9 i10) [.agg (dkC p l false 0 l.length)] (cheH p id u S H im i9 i10) (knA (leastB p S n l)) := by
 obtain ⟨o, g1, g2⟩ := cheH_sub (p := p) (id := id) (u := u) (S := S) hf id _ hp
 have e : PmAt p false 0 id (cheH p id u S H im i9 i10) := by
  have n1 := (ne_some hf.2.2 hp).2
  have n2 := (ne_some hf.2.1 hp).2
  have n3 := (ne_some hf.1 hp).2
  show cheH p id u S H im i9 i10 id = _
  rw [cheH, Hp.set_ne _ _ n1, Hp.set_ne _ _ n2, Hp.set_ne _ _ n3]; exact hp
 exact on_tri k hA hu hS n l _ hn hl e (by rw [cheH, Hp.set_ne _ _ hd.2.2.2, Hp.set_same]) (by rw [cheH, Hp.set_same]) (by rw [cheH, Hp.set_ne _ _ hd.2.1.2, Hp.set_ne _ _ hd.1.2, Hp.set_same])
theorem cheH_pm {p : Pu} {id u S : Nat} {H : Hp} {im i9 i10 : Nat} (hf : H im = none ∧ H i9 = none ∧ H i10 = none) {b : Bool} {m : Int} (hp : PmAt p b m id H) : PmAt p b m id (cheH p id u S H im i9 i10) := by
 have n1 := (ne_some hf.2.2 hp).2
 have n2 := (ne_some hf.2.1 hp).2
 have n3 := (ne_some hf.1 hp).2
 show cheH p id u S H im i9 i10 id = _
 rw [cheH, Hp.set_ne _ _ n1, Hp.set_ne _ _ n2, Hp.set_ne _ _ n3]; exact hp
theorem first0 (p : Pu) (u : Nat) : FirstL p u [] := ⟨Nat.zero_le _, fun i hi => absurd hi (Nat.not_lt_zero i)⟩
/-- Can she be kept afloat for so many hours, by some watches? -/
def canB (p : Pu) (u S : Nat) : Bool := (leastB p S u []).isSome
theorem can_tri (p : Pu) (u S : Nat) (id : Nat) (H : Hp) (k : Ok p) (hA : 0 < (allA p.ho).length) (hu : u ≤ p.fl.length) (hS : S < 8) (ho : PmAt p false 0 id H) : PTri Tryz.prog (fnA 39) [.ref id 0 9 0 0, i64 (u : Int), u64 (S : Int)] H (boo (canB p u S)) := by
 refine Tri.drop ?_
 refine tri_v0 (fun _ => false) Tryz.func39 (by kernel_rfl) rfl (by simp only [List.length_append, List.length_cons, List.length_nil, Tryz.ntmps39]; decide) ?_
 simp only [vsAll, okAll, stAll, opsA, opA, dstOk, nilSliceOp, argFr, Nat.reduceLT, Nat.reduceEqDiff, ↓reduceIte, reduceCtorEq, eq_self, Tryz.ntmps39]
 refine callK_pure (hours_tri _) ?_
 simp only [vsAll, okAll, stAll, opsA, opA, dstOk, Nat.reduceLT, Nat.reduceEqDiff, ↓reduceIte, eq_self]
 refine ⟨_, che_tri p id u S H, fun r H' hr => ?_⟩
 obtain ⟨i9, i10, im, rfl, hfr, hd, rfl⟩ := hr
 have hsub := cheH_sub (p := p) (id := id) (u := u) (S := S) hfr
 have hpm := cheH_pm (u := u) (S := S) hfr ho
 have htold := told_tri k hA hu hS hd hfr ho u [] (by rw [List.length_nil, Nat.zero_add]) (first0 p u)
 rw [List.length_nil] at htold
 generalize cheH p id u S H im i9 i10 = G at hsub hpm htold ⊢
 generalize hT : onF id u S i9 i10 = T at htold ⊢
 have hok : T.ok := by rw [← hT]; trivial
 have hst : T.st = T := by rw [← hT]; rfl
 simp only [vsAll, okAll, stAll, opsA, opA, dstOk, argFr, Nat.reduceLT, ↓reduceIte, reduceCtorEq, eq_self]
 refine callK_pure (begin_tri p [] false 0 id _ hpm) ?_
 simp only [vsAll, okAll, stAll, opsA, opA, dstOk, Nat.reduceLT, Nat.reduceEqDiff, ↓reduceIte, eq_self, hok, hst]
 refine callK_pure htold ?_
 simp only [vsAll, extractA, opA, dstOk, nilSliceOp, resA, retA.eq_1, Nat.reduceAdd, Nat.reduceLT, Nat.reduceEqDiff, ↓reduceIte, eq_self, Tryz.results39]
 exact dropR_pure rfl hsub
end Go.Proofs.YtkcgocmjaggdiaaGreat
end
section
set_option linter.unusedVariables false
set_option linter.unusedSimpArgs false
set_option maxHeartbeats 4000000
set_option maxRecDepth 100000
namespace Go.Proofs.YtkcgocmjaggdiaaGreat
open Go.V Wl
abbrev everyN (p : Pu) : Nat := 2 ^ p.ws.length - 1
theorem every_lt {p : Pu} (k : Ok p) : everyN p < 8 := by
 have nW := k.nW
 unfold everyN
 have : p.ws.length = 0 ∨ p.ws.length = 1 ∨ p.ws.length = 2 ∨ p.ws.length = 3 := by omega
 rcases this with h | h | h | h <;> rw [h] <;> decide
/-- For how many hours she can be kept afloat, tried from some number on. -/
def untN (p : Pu) : Nat → Nat → Nat
 | 0, m => m
 | k + 1, m => if canB p (m + 1) (everyN p) = true then untN p k (m + 1) else m
def untE (p : Pu) : Int := errE p true
def untV (p : Pu) : Int := if untE p = 0 then (untN p p.fl.length 0 : Nat) else 0
theorem unt_tri (p : Pu) (H : Hp) (kn : Near p) : PTri Tryz.prog (fnA 9) [p.av] H (.tuple [i64 (untV p), i64 (untE p)]) := by
 refine Tri.drop ?_
 refine tri_am (m := fun _ => false) ans25 Tryz.func9 (by kernel_rfl) rfl (by simp only [List.length_append, List.length_cons, List.length_nil, Tryz.ntmps9]; decide) ?_
 simp only [vsAll, loadA, loadRow, partA, partOk, boxA, boxZ, okAll, stAll, opsA, opA, allocA, dstOk, nilSliceOp, argFr, Nat.reduceAdd, Nat.reduceLT, Nat.reduceEqDiff, ↓reduceIte, eq_self, wtAll, Tryz.ntmps9]
 intro i3 hh_i3; (try simp only [Hp.set_none, ite_none] at hh_i3)
 refine open_call (open_tri p _ true _ kn trivial rfl (fun k H' => palways_tri H')) (fun he => ?_) (fun k hv hA id hid => ?_)
 ·have e2 : untV p = 0 := if_neg he
  have e : untE p = errE p true := rfl
  simp only [vsAll, loadA, loadRow, partA, partOk, resA, retA.eq_2, Nat.reduceEqDiff, ↓reduceIte, eq_self, wtAll, Tryz.results9]
  refine ⟨errE p true, i3, _, rfl, rfl, by simp only [↓reduceIte, eq_self]; try rfl, ?_⟩
  simp only [vsAll, Nat.reduceLT, ↓reduceIte, eq_self]
  refine dropR_pure ?_ (by (repeat (first | exact HSub_rfl | refine HSub_put_eq (by simp only [vsAll, binA, binLitA, intA, aggA, aggV, boolA, nilA2, isConst, unA, loadA, loadRow, partA, partOk, fieldAddrA, indexAddrA, indexA, fieldA, extractA, lenA, nilCheckA, boxA, boxZ, cellA, cellsA, fillA, okParts, buildSliceA, buildMutA, makeSliceA, partIdx, elemsA, lensA, ifaceA, convA, mmA, pickA, okAll, stAll, opsA, partsA, partsOk, opA, allocA, boxMutA, newCells, okCells, storeObj, appendA, guardV, taA, nM, mapUpA, lookA, sliceA, sliceM, sliceS, boundsA, opO, okO, copyA, dstOk, nilA, quietOk, nilSliceOp, deferV, panA, resA, argFr, retA.eq_1, retA.eq_2, Nat.reduceAdd, Nat.reduceSub, Nat.reduceMul, Nat.reduceLT, Nat.reduceLeDiff, Nat.reduceEqDiff, Nat.reduceBEq, Int.reduceAdd, Int.reduceSub, Int.reduceMul, Int.reduceNeg, Int.reduceLE, Int.reduceLT, Int.reduceEq, Int.reduceNe, Int.reduceToNat, ↓reduceIte, reduceCtorEq, implies_true, forall_const, eq_self, ne_eq, wtAll, Tryz.ntmps9, Tryz.results9, hh_i3]) ?_ | refine HSub_drop2 (by simp only [eq_self, hh_i3]) ?_ | refine HSub_keep_eq (by simp only [vsAll, binA, binLitA, intA, aggA, aggV, boolA, nilA2, isConst, unA, loadA, loadRow, partA, partOk, fieldAddrA, indexAddrA, indexA, fieldA, extractA, lenA, nilCheckA, boxA, boxZ, cellA, cellsA, fillA, okParts, buildSliceA, buildMutA, makeSliceA, partIdx, elemsA, lensA, ifaceA, convA, mmA, pickA, okAll, stAll, opsA, partsA, partsOk, opA, allocA, boxMutA, newCells, okCells, storeObj, appendA, guardV, taA, nM, mapUpA, lookA, sliceA, sliceM, sliceS, boundsA, opO, okO, copyA, dstOk, nilA, quietOk, nilSliceOp, deferV, panA, resA, argFr, retA.eq_1, retA.eq_2, Nat.reduceAdd, Nat.reduceSub, Nat.reduceMul, Nat.reduceLT, Nat.reduceLeDiff, Nat.reduceEqDiff, Nat.reduceBEq, Int.reduceAdd, Int.reduceSub, Int.reduceMul, Int.reduceNeg, Int.reduceLE, Int.reduceLT, Int.reduceEq, Int.reduceNe, Int.reduceToNat, ↓reduceIte, reduceCtorEq, implies_true, forall_const, eq_self, ne_eq, wtAll, Tryz.ntmps9, Tryz.results9, hh_i3]) ?_)))
  simp only [eq_self, e, e2]
 ·have he : untE p = 0 := errE_ok k (by ((try clear hh_i3); omega))
  have ev : untV p = (untN p p.fl.length 0 : Nat) := if_pos he
  have nF := k.nF
  have hE := every_lt k
  have hid' := hid
  simp only [Hp.set_none] at hid
  skip
  simp only [vsAll, opA, dstOk, nilSliceOp, Nat.reduceLT, ↓reduceIte, eq_self]
  refine vs_loop (σ := Nat) (fun m => m ≤ p.fl.length ∧ untN p (p.fl.length - m) m = untN p p.fl.length 0) (fun m => [(3, .ref i3 0 1 0 0), (4, .ref id 0 9 0 0), (5, i64 m)])
   (fun _ => (H.set i3 (.box 1 1 fun _ => [i64 0])).set id (.box 9 1 fun _ => pmC p false 0)) (fun m => p.fl.length - m) 0 ⟨Nat.zero_le _, rfl⟩ ?_ HSub_rfl fun m hm => ?_
  ·simp only [vsAll, Nat.reduceEqDiff, ↓reduceIte, eq_self, Int.natCast_zero]
  ·obtain ⟨hm1, hm2⟩ := hm
   have hpm : ∀ X : Hp, X id = some (.box 9 1 fun _ => pmC p false 0) → PmAt p false 0 id X := fun _ h => h
   simp only [vsAll, binA, binLitA, intA, loadA, loadRow, partA, partOk, fieldAddrA, lenA, nilCheckA, opA, guardV, dstOk, Nat.reduceLT, Nat.reduceEqDiff, ↓reduceIte, implies_true, eq_self, wtAll]
   refine ⟨fun g => ⟨g, by have := of_decide_eq_true g; simp only [InR_i64]; ((try clear hh_i3); (try clear hid); omega)⟩, ?_⟩
   refine gcall _ (fun g => ⟨by simp only [vsAll, opA], by simp only [vsAll, okAll, opsA, opA, ↓reduceIte, eq_self, g], every_tri p false 0 id _ k (Hp.set_same _ _ _)⟩) ?_
   simp only [vsAll, guardV, dstOk, Nat.reduceLT, Nat.reduceEqDiff, ↓reduceIte, eq_self]
   refine gcall (boo (canB p (m + 1) (everyN p))) (fun g => ⟨by simp only [vsAll, opA], by simp only [vsAll, okAll, opsA, opA, Nat.reduceEqDiff, ↓reduceIte, eq_self, g], can_tri p (m + 1) (everyN p) id _ k hA (by have := of_decide_eq_true g; ((try clear hh_i3); (try clear hid); omega)) hE (Hp.set_same _ _ _)⟩) ?_
   simp only [vsAll, pickA, opA, dstOk, Nat.reduceLT, Nat.reduceEqDiff, ↓reduceIte, implies_true, eq_self]
   refine condV (fun hd => ?_) (fun hd => ?_)
   ·rw [Bool.and_eq_true, decide_eq_true_eq] at hd
    have hn2 : untN p (p.fl.length - (m + 1)) (m + 1) = untN p p.fl.length 0 := by
     rw [← hm2, show p.fl.length - m = (p.fl.length - (m + 1)) + 1 by ((try clear hh_i3); (try clear hid); omega), untN, if_pos hd.2]
    simp only [vsAll, binA, binLitA, intA, opA, dstOk, nilSliceOp, Nat.reduceLT, Nat.reduceEqDiff, ↓reduceIte, eq_self]
    refine ⟨by simp only [InR_i64]; ((try clear hh_i3); (try clear hid); omega), loop_next (m + 1) ⟨by ((try clear hh_i3); (try clear hid); omega), hn2⟩ (by ((try clear hh_i3); (try clear hid); omega)) ?_ HSub_rfl⟩
    simp only [vsAll, Nat.reduceEqDiff, ↓reduceIte, eq_self, Int.natCast_add, Int.natCast_one]
   ·have hfin : untN p p.fl.length 0 = m := by
     rw [← hm2]
     by_cases h40 : m = p.fl.length
     ·rw [h40, Nat.sub_self]; rfl
     ·have hns : ¬ canB p (m + 1) (everyN p) = true := fun h => by
       rw [h, decide_eq_true (by ((try clear hh_i3); (try clear hid); omega) : (m : Int) < p.fl.length)] at hd; cases hd
      rw [show p.fl.length - m = (p.fl.length - (m + 1)) + 1 by ((try clear hh_i3); (try clear hid); omega), untN, if_neg hns]
    rw [hfin] at ev
    simp only [vsAll, loadA, loadRow, partA, partOk, cellA, cellsA, opA, newCells, okCells, storeObj, dstOk, nilSliceOp, resA, retA.eq_2, Nat.reduceLT, Nat.reduceEqDiff, ↓reduceIte, eq_self, wtAll, Tryz.results9, hid]
    refine ⟨i3, _, rfl, by simp only [↓reduceIte, eq_self]; try rfl, ?_⟩
    refine dropR_pure ?_ (by (repeat (first | exact HSub_rfl | refine HSub_put_eq (by simp only [vsAll, binA, binLitA, intA, aggA, aggV, boolA, nilA2, isConst, unA, loadA, loadRow, partA, partOk, fieldAddrA, indexAddrA, indexA, fieldA, extractA, lenA, nilCheckA, boxA, boxZ, cellA, cellsA, fillA, okParts, buildSliceA, buildMutA, makeSliceA, partIdx, elemsA, lensA, ifaceA, convA, mmA, pickA, okAll, stAll, opsA, partsA, partsOk, opA, allocA, boxMutA, newCells, okCells, storeObj, appendA, guardV, taA, nM, mapUpA, lookA, sliceA, sliceM, sliceS, boundsA, opO, okO, copyA, dstOk, nilA, quietOk, nilSliceOp, deferV, panA, resA, argFr, retA.eq_1, retA.eq_2, Nat.reduceAdd, Nat.reduceSub, Nat.reduceMul, Nat.reduceLT, Nat.reduceLeDiff, Nat.reduceEqDiff, Nat.reduceBEq, Int.reduceAdd, Int.reduceSub, Int.reduceMul, Int.reduceNeg, Int.reduceLE, Int.reduceLT, Int.reduceEq, Int.reduceNe, Int.reduceToNat, ↓reduceIte, reduceCtorEq, implies_true, forall_const, eq_self, ne_eq, wtAll, Tryz.ntmps9, Tryz.results9, hh_i3, hid]) ?_ | refine HSub_drop2 (by simp only [eq_self, hh_i3, hid]) ?_ | refine HSub_keep_eq (by simp only [vsAll, binA, binLitA, intA, aggA, aggV, boolA, nilA2, isConst, unA, loadA, loadRow, partA, partOk, fieldAddrA, indexAddrA, indexA, fieldA, extractA, lenA, nilCheckA, boxA, boxZ, cellA, cellsA, fillA, okParts, buildSliceA, buildMutA, makeSliceA, partIdx, elemsA, lensA, ifaceA, convA, mmA, pickA, okAll, stAll, opsA, partsA, partsOk, opA, allocA, boxMutA, newCells, okCells, storeObj, appendA, guardV, taA, nM, mapUpA, lookA, sliceA, sliceM, sliceS, boundsA, opO, okO, copyA, dstOk, nilA, quietOk, nilSliceOp, deferV, panA, resA, argFr, retA.eq_1, retA.eq_2, Nat.reduceAdd, Nat.reduceSub, Nat.reduceMul, Nat.reduceLT, Nat.reduceLeDiff, Nat.reduceEqDiff, Nat.reduceBEq, Int.reduceAdd, Int.reduceSub, Int.reduceMul, Int.reduceNeg, Int.reduceLE, Int.reduceLT, Int.reduceEq, Int.reduceNe, Int.reduceToNat, ↓reduceIte, reduceCtorEq, implies_true, forall_const, eq_self, ne_eq, wtAll, Tryz.ntmps9, Tryz.results9, hh_i3, hid]) ?_)))
    simp only [eq_self, he, ev]
end Go.Proofs.YtkcgocmjaggdiaaGreat
end
section
set_option linter.unusedVariables false
set_option linter.unusedSimpArgs false
namespace Go.Proofs.YtkcgocmjaggdiaaGreat
open Go.V Wl
/-- Does a watch do, if so much is wanted? -/
def okB (p : Pu) (S n : Nat) (l : List Int) (want w : Int) : Bool := match leastB p S n (l ++ [w]) with
 | some x => decide (watV p (l ++ [w]) false (l.length + 1) ≤ p.ca) && decide (costW w x = want)
 | none => false
def firstW (p : Pu) (S n : Nat) (l : List Int) (want : Int) : Option Nat := (List.range (p.ws.length + 1)).find? fun j => okB p S n l want ((j : Int) - 1)
def fewL (p : Pu) (S : Nat) : Nat → List Int → Int → List Int
 | 0, l, _ => l
 | n + 1, l, want => match firstW p S n l want with
   | some j => fewL p S n (l ++ [(j : Int) - 1]) ((leastB p S n (l ++ [(j : Int) - 1])).getD 0)
   | none => l
theorem row_att {p : Pu} {S : Nat} {f : List Int → Option Int} {l : List Int} : ∀ j y, rowB p S f l j = some y → ∃ i, i < j ∧ watV p (l ++ [(i : Int) - 1]) false (l.length + 1) ≤ p.ca ∧ ∃ x, f (l ++ [(i : Int) - 1]) = some x ∧ costW ((i : Int) - 1) x = y := by
 intro j
 induction j with
 | zero => intro y h; cases h
 | succ j ih =>
   intro y h
   have old : rowB p S f l j = some y → ∃ i, i < j + 1 ∧ watV p (l ++ [(i : Int) - 1]) false (l.length + 1) ≤ p.ca ∧ ∃ x, f (l ++ [(i : Int) - 1]) = some x ∧ costW ((i : Int) - 1) x = y := fun h => by
    obtain ⟨i, hi, h⟩ := ih y h
    exact ⟨i, by omega, h⟩
   simp only [rowB, stepB] at h
   split at h
   ·exact old h
   ·rename_i hc
    have hw : watV p (l ++ [(j : Int) - 1]) false (l.length + 1) ≤ p.ca := Classical.byContradiction fun q => hc (.inr q)
    split at h
    ·exact old h
    ·rename_i x hx
     have new : costW ((j : Int) - 1) x = y → ∃ i, i < j + 1 ∧ watV p (l ++ [(i : Int) - 1]) false (l.length + 1) ≤ p.ca ∧ ∃ x, f (l ++ [(i : Int) - 1]) = some x ∧ costW ((i : Int) - 1) x = y := fun e => ⟨j, Nat.lt_succ_self j, hw, x, hx, e⟩
     split at h
     ·simp only [Option.some.injEq] at h; exact new h
     ·split at h
      ·simp only [Option.some.injEq] at h; exact new h
      ·exact old h
theorem first_some {p : Pu} {S n : Nat} {l : List Int} {want : Int} (h : leastB p S (n + 1) l = some want) : ∃ j, firstW p S n l want = some j ∧ j < p.ws.length + 1 ∧ okB p S n l want ((j : Int) - 1) = true ∧ ∀ i, i < j → okB p S n l want ((i : Int) - 1) = false := by
 obtain ⟨i, hi, h1, x, h2, h3⟩ := row_att _ _ h
 have hok : okB p S n l want ((i : Int) - 1) = true := by
  unfold okB
  rw [h2]
  simp only [Bool.and_eq_true, decide_eq_true_eq]
  exact ⟨h1, h3⟩
 cases hf : firstW p S n l want with
 | none =>
   unfold firstW at hf
   rw [List.find?_eq_none] at hf
   exact absurd hok (hf i (List.mem_range.2 hi))
 | some j =>
   have hf' := hf
   unfold firstW at hf'
   rw [List.find?_range_eq_some] at hf'
   obtain ⟨g1, g2, g3⟩ := hf'
   exact ⟨j, rfl, List.mem_range.1 g2, g1, fun i hi => by simpa using g3 i hi⟩
theorem ok_some {p : Pu} {S n : Nat} {l : List Int} {want w : Int} (h : okB p S n l want w = true) : ∃ x, leastB p S n (l ++ [w]) = some x ∧ costW w x = want := by
 unfold okB at h
 split at h
 ·rename_i x hx
  rw [Bool.and_eq_true, decide_eq_true_eq, decide_eq_true_eq] at h
  exact ⟨x, hx, h.2⟩
 ·cases h
theorem few_at {p : Pu} {S n : Nat} {l : List Int} {want : Int} {j : Nat} (hj : j < p.ws.length + 1) (hok : okB p S n l want ((j : Int) - 1) = true) (hb : ∀ i, i < j → okB p S n l want ((i : Int) - 1) = false) {x : Int} (hx : leastB p S n (l ++ [(j : Int) - 1]) = some x) : fewL p S (n + 1) l want = fewL p S n (l ++ [(j : Int) - 1]) x := by
 have hf : firstW p S n l want = some j := by
  unfold firstW
  rw [List.find?_range_eq_some]
  exact ⟨hok, List.mem_range.2 hj, fun i hi => by simpa using hb i hi⟩
 rw [fewL, hf]
 simp only [hx, Option.getD_some]
/-- What is told: the number, the plan, and why not. -/
def fewE (p : Pu) : Int := if errE p true = 0 then if (leastB p (everyN p) p.fl.length []).isSome = true then 0 else 4 else errE p true
def fewN (p : Pu) : Int := if fewE p = 0 then (leastB p (everyN p) p.fl.length []).getD 0 else 0
def fewP (p : Pu) : List Int := if fewE p = 0 then fewL p (everyN p) p.fl.length [] (fewN p) else []
end Go.Proofs.YtkcgocmjaggdiaaGreat
end
section
set_option linter.unusedVariables false
set_option linter.unusedSimpArgs false
set_option maxHeartbeats 4000000
set_option maxRecDepth 100000
namespace Go.Proofs.YtkcgocmjaggdiaaGreat
open Go.V Wl
theorem cheH_at {p : Pu} {id u S : Nat} {H : Hp} {im i9 i10 : Nat} (hf : H im = none ∧ H i9 = none ∧ H i10 = none) {q : Nat} {o : Go.V.Obj} (hp : H q = some o) : cheH p id u S H im i9 i10 q = some o := by
 have n1 := (ne_some hf.2.2 hp).2
 have n2 := (ne_some hf.2.1 hp).2
 have n3 := (ne_some hf.1 hp).2
 rw [cheH, Hp.set_ne _ _ n1, Hp.set_ne _ _ n2, Hp.set_ne _ _ n3]; exact hp
theorem intF_put (l : List Int) (w : Int) (hl : l.length < 8) (q : Nat) (hq : q < 8) : updF 8 l.length (intF l) (i64 w :: List.drop 1 (intF l l.length)) q = intF (l ++ [w]) q := by
 rw [updF_at hl hq]
 by_cases e : q = l.length
 ·rw [if_pos e, e]
  simp [intF, List.getD_eq_getElem?_getD]
 ·rw [if_neg e]
  simp only [intF]
  by_cases e' : q < l.length
  ·rw [List.getD_eq_getElem?_getD, List.getD_eq_getElem?_getD, List.getElem?_append_left e']
  ·rw [List.getD_eq_getElem?_getD, List.getD_eq_getElem?_getD, List.getElem?_eq_none (by omega), List.getElem?_eq_none (by simp; omega)]
/-- What is told of the fewest hours, the plan in a row of its own. -/
def fewR (p : Pu) (H : Hp) : Res → Hp → Prop := fun r H' => ∃ id, H id = none ∧ r = .ret (.tuple [i64 (fewN p), .sl id 1 (fewP p).length, i64 (fewE p)]) ∧ H' = H.set id (.row 1 (fewP p).length (intF (fewP p)))
theorem fewM_tri (p : Pu) (H : Hp) (kn : Near p) : Tri Tryz.prog (fnA 7) [p.av] H (fewR p H) := by
 refine Tri.drop ?_
 refine tri_am (m := mset [3, 99]) ans25 Tryz.func7 (by kernel_rfl) rfl (by simp only [List.length_append, List.length_cons, List.length_nil, Tryz.ntmps7]; decide) ?_
 simp only [vsAll, loadA, loadRow, partA, partOk, boxA, boxZ, okAll, stAll, opsA, opA, allocA, dstOk, nilA, nilSliceOp, argFr, Nat.reduceAdd, Nat.reduceLT, Nat.reduceEqDiff, Nat.reduceBEq, Int.reduceNeg, ↓reduceIte, eq_self, wtAll, Tryz.ntmps7]
 intro i3 hh_i3; (try simp only [Hp.set_none, ite_none] at hh_i3); intro i4 hh_i4; (try simp only [ite_none] at hh_i4)
 refine open_call (open_tri p _ true _ kn trivial rfl (fun k H' => palways_tri H')) (fun he => ?_) (fun k hv hA id hid => ?_)
 ·have e : fewE p = errE p true := if_neg he
  have e2 : fewN p = 0 := if_neg (by rw [e]; exact he)
  have e3 : fewP p = [] := if_neg (by rw [e]; exact he)
  simp only [vsAll, loadA, loadRow, partA, partOk, resA, retA.eq_2, Nat.reduceEqDiff, Int.reduceNeg, ↓reduceIte, eq_self, wtAll, Tryz.results7]
  refine ⟨errE p true, i4, _, rfl, rfl, by simp only [↓reduceIte, eq_self]; try rfl, ?_⟩
  simp only [vsAll, Nat.reduceLT, ↓reduceIte, eq_self]
  refine ⟨_, ?_, i3, hh_i3, by simp only [vsAll, eq_self, e3, e, e2]; try rfl, rfl⟩
  rw [e3]
  refine HSub_put (o' := .row 1 0 fun _ => []) (by simp only [vsAll, ↓reduceIte, eq_self, hh_i4]) (row0_le _ _ _) ?_
  (repeat (first | exact HSub_rfl | refine HSub_put_eq (by simp only [vsAll, binA, binLitA, intA, aggA, aggV, boolA, nilA2, isConst, unA, loadA, loadRow, partA, partOk, fieldAddrA, indexAddrA, indexA, fieldA, extractA, lenA, nilCheckA, boxA, boxZ, cellA, cellsA, fillA, okParts, buildSliceA, buildMutA, makeSliceA, partIdx, elemsA, lensA, ifaceA, convA, mmA, pickA, okAll, stAll, opsA, partsA, partsOk, opA, allocA, boxMutA, newCells, okCells, storeObj, appendA, guardV, taA, nM, mapUpA, lookA, sliceA, sliceM, sliceS, boundsA, opO, okO, copyA, dstOk, nilA, quietOk, nilSliceOp, deferV, panA, resA, argFr, retA.eq_1, retA.eq_2, Nat.reduceAdd, Nat.reduceSub, Nat.reduceMul, Nat.reduceLT, Nat.reduceLeDiff, Nat.reduceEqDiff, Nat.reduceBEq, Int.reduceAdd, Int.reduceSub, Int.reduceMul, Int.reduceNeg, Int.reduceLE, Int.reduceLT, Int.reduceEq, Int.reduceNe, Int.reduceToNat, ↓reduceIte, reduceCtorEq, implies_true, forall_const, eq_self, ne_eq, wtAll, Tryz.ntmps7, Tryz.results7, hh_i3, hh_i4]) ?_ | refine HSub_drop2 (by simp only [eq_self, hh_i3, hh_i4]) ?_ | refine HSub_keep_eq (by simp only [vsAll, binA, binLitA, intA, aggA, aggV, boolA, nilA2, isConst, unA, loadA, loadRow, partA, partOk, fieldAddrA, indexAddrA, indexA, fieldA, extractA, lenA, nilCheckA, boxA, boxZ, cellA, cellsA, fillA, okParts, buildSliceA, buildMutA, makeSliceA, partIdx, elemsA, lensA, ifaceA, convA, mmA, pickA, okAll, stAll, opsA, partsA, partsOk, opA, allocA, boxMutA, newCells, okCells, storeObj, appendA, guardV, taA, nM, mapUpA, lookA, sliceA, sliceM, sliceS, boundsA, opO, okO, copyA, dstOk, nilA, quietOk, nilSliceOp, deferV, panA, resA, argFr, retA.eq_1, retA.eq_2, Nat.reduceAdd, Nat.reduceSub, Nat.reduceMul, Nat.reduceLT, Nat.reduceLeDiff, Nat.reduceEqDiff, Nat.reduceBEq, Int.reduceAdd, Int.reduceSub, Int.reduceMul, Int.reduceNeg, Int.reduceLE, Int.reduceLT, Int.reduceEq, Int.reduceNe, Int.reduceToNat, ↓reduceIte, reduceCtorEq, implies_true, forall_const, eq_self, ne_eq, wtAll, Tryz.ntmps7, Tryz.results7, hh_i3, hh_i4]) ?_))
 ·have eN : errE p true = 0 := errE_ok k (by ((try clear hh_i3); (try clear hh_i4); omega))
  have nF := k.nF
  have nW := k.nW
  have hE := every_lt k
  have hid' := hid
  simp only [Hp.set_none] at hid
  skip
  simp only [vsAll, okAll, stAll, opsA, opA, dstOk, nilSliceOp, Nat.reduceLT, Nat.reduceBEq, Int.reduceNeg, ↓reduceIte, eq_self]
  refine callK_pure (hours_tri _) ?_
  simp only [vsAll, cellA, opA, allocA, newCells, okCells, storeObj, dstOk, Nat.reduceAdd, Nat.reduceLT, Nat.reduceEqDiff, Int.reduceNeg, ↓reduceIte, eq_self, wtAll]
  intro i6 hh_i6; (try simp only [ite_none] at hh_i6)
  rw [Hp.set_set]
  refine vs_draw2 [0, 0, 0, 0, 0, 0, 0, 0, 0, 0, 1, 2] [([0, 1, 2, 3, 4, 5, 6, 7, 8, 9], [], 10)] [11] (by decide +kernel) ?_
  simp only [vsAll, loadA, loadRow, partA, partOk, fieldAddrA, lenA, nilCheckA, opA, dstOk, Nat.reduceLT, Nat.reduceEqDiff, Int.reduceNeg, ↓reduceIte, eq_self, wtAll, hh_i6]
  refine qcall _ ⟨trivial, by simp only [vsAll, okAll, opsA, opA, ↓reduceIte, eq_self], every_tri p false 0 id _ k (by show Hp.set _ _ _ id = _; simp only [vsAll, ↓reduceIte, eq_self, hh_i6])⟩ ?_
  simp only [vsAll, loadA, loadRow, partA, partOk, okAll, stAll, opsA, opA, dstOk, Nat.reduceLT, Nat.reduceEqDiff, Int.reduceNeg, ↓reduceIte, eq_self, wtAll]
  refine ⟨_, che_tri p id p.fl.length (everyN p) _, fun r H' hr => ?_⟩
  obtain ⟨i9, i10, im, rfl, hfr, hd, rfl⟩ := hr
  have hpm : PmAt p false 0 id ((((H.set i3 (.row 1 0 fun _ => [])).set i4 (.box 1 1 fun _ => [i64 0])).set id (.box 9 1 fun _ => pmC p false 0)).set i6 (.box 2 1 fun _ => [.func (.func 55) [] [], .func (.func 56) [] []])) := by
   show Hp.set _ _ _ id = _
   simp only [vsAll, ↓reduceIte, eq_self, hh_i6]
  have hB4 : ((((H.set i3 (.row 1 0 fun _ => [])).set i4 (.box 1 1 fun _ => [i64 0])).set id (.box 9 1 fun _ => pmC p false 0)).set i6 (.box 2 1 fun _ => [.func (.func 55) [] [], .func (.func 56) [] []])) i4 = some (.box 1 1 fun _ => [i64 0]) := by simp only [vsAll, ↓reduceIte, eq_self, hid, hh_i6]
  have hB6 : ((((H.set i3 (.row 1 0 fun _ => [])).set i4 (.box 1 1 fun _ => [i64 0])).set id (.box 9 1 fun _ => pmC p false 0)).set i6 (.box 2 1 fun _ => [.func (.func 55) [] [], .func (.func 56) [] []])) i6 = some (.box 2 1 fun _ => [.func (.func 55) [] [], .func (.func 56) [] []]) := Hp.set_same _ _ _
  have hB3 : ((((H.set i3 (.row 1 0 fun _ => [])).set i4 (.box 1 1 fun _ => [i64 0])).set id (.box 9 1 fun _ => pmC p false 0)).set i6 (.box 2 1 fun _ => [.func (.func 55) [] [], .func (.func 56) [] []])) i3 = some (.row 1 0 fun _ => []) := by simp only [vsAll, ↓reduceIte, eq_self, hh_i4, hid, hh_i6]
  have hBH : Go.V.HSub ((((H.set i3 (.row 1 0 fun _ => [])).set i4 (.box 1 1 fun _ => [i64 0])).set id (.box 9 1 fun _ => pmC p false 0)).set i6 (.box 2 1 fun _ => [.func (.func 55) [] [], .func (.func 56) [] []])) H := by (repeat (first | exact HSub_rfl | refine HSub_put_eq (by simp only [vsAll, binA, binLitA, intA, aggA, aggV, boolA, nilA2, isConst, unA, loadA, loadRow, partA, partOk, fieldAddrA, indexAddrA, indexA, fieldA, extractA, lenA, nilCheckA, boxA, boxZ, cellA, cellsA, fillA, okParts, buildSliceA, buildMutA, makeSliceA, partIdx, elemsA, lensA, ifaceA, convA, mmA, pickA, okAll, stAll, opsA, partsA, partsOk, opA, allocA, boxMutA, newCells, okCells, storeObj, appendA, guardV, taA, nM, mapUpA, lookA, sliceA, sliceM, sliceS, boundsA, opO, okO, copyA, dstOk, nilA, quietOk, nilSliceOp, deferV, panA, resA, argFr, retA.eq_1, retA.eq_2, Nat.reduceAdd, Nat.reduceSub, Nat.reduceMul, Nat.reduceLT, Nat.reduceLeDiff, Nat.reduceEqDiff, Nat.reduceBEq, Int.reduceAdd, Int.reduceSub, Int.reduceMul, Int.reduceNeg, Int.reduceLE, Int.reduceLT, Int.reduceEq, Int.reduceNe, Int.reduceToNat, ↓reduceIte, reduceCtorEq, implies_true, forall_const, eq_self, ne_eq, wtAll, Tryz.ntmps7, Tryz.results7, hh_i3, hh_i4, hid, hh_i6]) ?_ | refine HSub_drop2 (by simp only [eq_self, hh_i3, hh_i4, hid, hh_i6]) ?_ | refine HSub_keep_eq (by simp only [vsAll, binA, binLitA, intA, aggA, aggV, boolA, nilA2, isConst, unA, loadA, loadRow, partA, partOk, fieldAddrA, indexAddrA, indexA, fieldA, extractA, lenA, nilCheckA, boxA, boxZ, cellA, cellsA, fillA, okParts, buildSliceA, buildMutA, makeSliceA, partIdx, elemsA, lensA, ifaceA, convA, mmA, pickA, okAll, stAll, opsA, partsA, partsOk, opA, allocA, boxMutA, newCells, okCells, storeObj, appendA, guardV, taA, nM, mapUpA, lookA, sliceA, sliceM, sliceS, boundsA, opO, okO, copyA, dstOk, nilA, quietOk, nilSliceOp, deferV, panA, resA, argFr, retA.eq_1, retA.eq_2, Nat.reduceAdd, Nat.reduceSub, Nat.reduceMul, Nat.reduceLT, Nat.reduceLeDiff, Nat.reduceEqDiff, Nat.reduceBEq, Int.reduceAdd, Int.reduceSub, Int.reduceMul, Int.reduceNeg, Int.reduceLE, Int.reduceLT, Int.reduceEq, Int.reduceNe, Int.reduceToNat, ↓reduceIte, reduceCtorEq, implies_true, forall_const, eq_self, ne_eq, wtAll, Tryz.ntmps7, Tryz.results7, hh_i3, hh_i4, hid, hh_i6]) ?_))
  generalize ((((H.set i3 (.row 1 0 fun _ => [])).set i4 (.box 1 1 fun _ => [i64 0])).set id (.box 9 1 fun _ => pmC p false 0)).set i6 (.box 2 1 fun _ => [.func (.func 55) [] [], .func (.func 56) [] []])) = B at hfr hpm hB4 hB6 hB3 hBH ⊢
  have hGp := cheH_pm (u := p.fl.length) (S := everyN p) hfr hpm
  have hG4 := cheH_at (p := p) (id := id) (u := p.fl.length) (S := everyN p) hfr hB4
  have hG6 := cheH_at (p := p) (id := id) (u := p.fl.length) (S := everyN p) hfr hB6
  have hG3 := cheH_at (p := p) (id := id) (u := p.fl.length) (S := everyN p) hfr hB3
  have hGH := HSub.trans (cheH_sub (p := p) (id := id) (u := p.fl.length) (S := everyN p) hfr) hBH
  have hG9 : cheH p id p.fl.length (everyN p) B im i9 i10 i9 = some (.box 1 1 fun _ => [.map im]) := by rw [cheH, Hp.set_ne _ _ hd.2.2.2, Hp.set_same]
  have hG10 : cheH p id p.fl.length (everyN p) B im i9 i10 i10 = some (.box 1 1 fun _ => [onF id p.fl.length (everyN p) i9 i10]) := by rw [cheH, Hp.set_same]
  have hGm : cheH p id p.fl.length (everyN p) B im i9 i10 im = some (.memo (memT p p.fl.length (everyN p))) := by rw [cheH, Hp.set_ne _ _ hd.2.1.2, Hp.set_ne _ _ hd.1.2, Hp.set_same]
  generalize cheH p id p.fl.length (everyN p) B im i9 i10 = G at hGp hG4 hG6 hG3 hGH hG9 hG10 hGm ⊢
  have hnone : ∀ q, G q = none → H q = none := fun q hq => by
   cases e : H q with
   | none => rfl
   | some o =>
     obtain ⟨o', e1, _⟩ := hGH q o e
     rw [hq] at e1; cases e1
  have hon := fun n l X h1 h2 h3 h4 h5 h6 => on_tri (p := p) (id := id) (i9 := i9) (i10 := i10) (im := im) k hA (Nat.le_refl p.fl.length) hE n l X h1 h2 h3 h4 h5 h6
  have hok : (onF id p.fl.length (everyN p) i9 i10).ok := trivial
  have hst : (onF id p.fl.length (everyN p) i9 i10).st = onF id p.fl.length (everyN p) i9 i10 := rfl
  generalize onF id p.fl.length (everyN p) i9 i10 = T at hG10 hon hok hst ⊢
  skip
  simp only [vsAll, okAll, stAll, opsA, opA, dstOk, Nat.reduceLT, Nat.reduceEqDiff, Int.reduceNeg, ↓reduceIte, eq_self, hok, hst]
  refine callK_pure (begin_tri p [] false 0 id _ hGp) ?_
  simp only [vsAll, loadA, loadRow, partA, partOk, cellA, okAll, stAll, opsA, opA, allocA, newCells, okCells, storeObj, dstOk, Nat.reduceAdd, Nat.reduceLT, Nat.reduceEqDiff, Int.reduceNeg, ↓reduceIte, eq_self, wtAll, hok, hst]
  intro i8 hh_i8; (try simp only [Hp.set_none, ite_none] at hh_i8)
  have a1 := ne_some hh_i8 hGp
  have a2 := ne_some hh_i8 hG4
  have a3 := ne_some hh_i8 hG6
  have a4 := ne_some hh_i8 hG9
  have a5 := ne_some hh_i8 hG10
  have a6 := ne_some hh_i8 hGm
  skip
  rw [Hp.set_set]
  refine callK_pure (hon p.fl.length [] _ (Nat.zero_add _) (first0 p _) (by show Hp.set _ _ _ id = _; simp only [vsAll, ↓reduceIte, eq_self, hGp, a1]) (by simp only [vsAll, ↓reduceIte, eq_self, hG9, a4]) (by simp only [vsAll, ↓reduceIte, eq_self, hG10, a5]) (by simp only [vsAll, ↓reduceIte, eq_self, hGm, a6])) ?_
  cases hL : leastB p (everyN p) p.fl.length [] with
  | none =>
    have e : fewE p = 4 := by rw [fewE, if_pos eN, hL]; rfl
    have e2 : fewN p = 0 := if_neg (by rw [e]; decide)
    have e3 : fewP p = [] := if_neg (by rw [e]; decide)
    simp only [vsAll, extractA, okAll, stAll, opsA, opA, dstOk, nilSliceOp, Nat.reduceAdd, Nat.reduceLT, Nat.reduceEqDiff, Nat.reduceBEq, Int.reduceNeg, ↓reduceIte, eq_self, Option.getD_none]
    refine pask_call (fun hc => by cases hc) (fun _ => ?_)
    simp only [vsAll, loadA, loadRow, partA, partOk, resA, retA.eq_2, Nat.reduceEqDiff, Int.reduceNeg, ↓reduceIte, eq_self, wtAll, Tryz.results7, hG4, a2]
    refine ⟨4, i4, _, rfl, rfl, by simp only [↓reduceIte, hG4, a2]; try rfl, ?_⟩
    simp only [vsAll, Nat.reduceLT, ↓reduceIte, eq_self]
    have c3 := ne_some hh_i8 hG3
    have c4 : ¬ i3 = i4 := fun e => by rw [e] at hG3; have := hG3.symm.trans hG4; cases this
    refine ⟨H.set i3 (.row 1 0 (intF [])), ?_, i3, hh_i3, by rw [e, e2, e3]; rfl, by rw [e3]; rfl⟩
    refine HSub_put (o' := .row 1 0 fun _ => []) ?_ (row0_le _ _ _) (HSub_drop2 hh_i4.2 (HSub_drop2 (hnone _ hh_i8) hGH))
    rw [Hp.set_ne _ _ c4, Hp.set_ne _ _ c3.2]
    exact hG3
  | some want =>
    have e : fewE p = 0 := by rw [fewE, if_pos eN, hL]; rfl
    have e2 : fewN p = want := by rw [fewN, if_pos e, hL]; rfl
    have e3 : fewP p = fewL p (everyN p) p.fl.length [] want := by rw [fewP, if_pos e, e2]
    simp only [vsAll, extractA, okAll, stAll, opsA, opA, dstOk, nilSliceOp, Nat.reduceAdd, Nat.reduceLT, Nat.reduceEqDiff, Nat.reduceBEq, Int.reduceNeg, ↓reduceIte, eq_self, Option.getD_some]
    refine pask_call (fun _ => ?_) (fun hc => by cases hc)
    simp only [vsAll, opA, allocA, dstOk, nilSliceOp, Nat.reduceLT, Nat.reduceEqDiff, Nat.reduceBEq, Int.reduceNeg, ↓reduceIte, eq_self, wtAll]
    intro i11 hh_i11; (try simp only [ite_none] at hh_i11)
    have b1 := ne_some hh_i11.2 hGp
    have b2 := ne_some hh_i11.2 hG4
    have b3 := ne_some hh_i11.2 hG6
    have b4 := ne_some hh_i11.2 hG9
    have b5 := ne_some hh_i11.2 hG10
    have b6 := ne_some hh_i11.2 hGm
    skip
    refine vs_loop (σ := List Int × Int) (fun y => FirstL p p.fl.length y.1 ∧ leastB p (everyN p) (p.fl.length - y.1.length) y.1 = some y.2 ∧ fewL p (everyN p) (p.fl.length - y.1.length) y.1 y.2 = fewL p (everyN p) p.fl.length [] want)
     (fun y => [(4, .ref i4 0 1 0 0), (5, .ref id 0 9 0 0), (6, .ref i6 0 2 0 0), (7, T), (8, .ref i8 0 8 0 0), (9, i64 want), (11, .ref i11 0 1 0 0), (12, i64 y.2)])
     (fun y => (G.set i8 (.box 8 1 fun _ => dkC p y.1 false 0 y.1.length)).set i11 (.box 1 8 (intF y.1))) (fun y => p.fl.length - y.1.length) ([], want) ⟨first0 p _, hL, rfl⟩ ?_ ?_ fun y hy => ?_
    ·simp only [vsAll, Nat.reduceEqDiff, ↓reduceIte, eq_self]
    ·exact HSub_rfl
    ·obtain ⟨l, wt⟩ := y
     obtain ⟨hl1, hl2, hl3⟩ := hy
     simp only [] at hl1 hl2 hl3
     have hll := hl1.len
     simp only [vsAll, Int.reduceNeg]
     refine vs_draw2 [0, 0, 0, 0, 0, 0, 0, 0, 0] [] [0, 1, 2, 3, 4, 5, 6, 7, 8] (by decide +kernel) ?_
     simp only [vsAll, binA, binLitA, intA, loadA, loadRow, partA, partOk, fieldAddrA, lenA, nilCheckA, opA, dstOk, Nat.reduceLT, Nat.reduceEqDiff, Int.reduceNeg, ↓reduceIte, eq_self, wtAll, hGp, a1, hh_i11, b1]
     refine condD (fun hd1 => ?_) (fun hd1 => ?_)
     case refine_2 =>
      have el : p.fl.length - l.length = 0 := by ((try clear hh_i3); (try clear hh_i4); (try clear hid); (try clear hh_i6); (try clear hGp); (try clear hG4); (try clear hG6); (try clear hG9); (try clear hG10); (try clear hGm); (try clear hh_i8); (try clear a1); (try clear a2); (try clear a3); (try clear a4); (try clear a5); (try clear a6); (try clear hh_i11); (try clear b1); (try clear b2); (try clear b3); (try clear b4); (try clear b5); (try clear b6); omega)
      rw [el] at hl3
      have hfin : fewP p = l := by rw [e3, ← hl3]; rfl
      have el2 : l.length = p.fl.length := by ((try clear hh_i3); (try clear hh_i4); (try clear hid); (try clear hh_i6); (try clear hGp); (try clear hG4); (try clear hG6); (try clear hG9); (try clear hG10); (try clear hGm); (try clear hh_i8); (try clear a1); (try clear a2); (try clear a3); (try clear a4); (try clear a5); (try clear a6); (try clear hh_i11); (try clear b1); (try clear b2); (try clear b3); (try clear b4); (try clear b5); (try clear b6); omega)
      simp only [vsAll, loadA, loadRow, partA, partOk, fieldAddrA, lenA, nilCheckA, cellA, cellsA, makeSliceA, opA, newCells, okCells, storeObj, sliceA, boundsA, opO, okO, copyA, dstOk, nilSliceOp, resA, retA.eq_2, Nat.reduceSub, Nat.reduceLT, Nat.reduceEqDiff, Nat.reduceBEq, Int.reduceNeg, ↓reduceIte, eq_self, wtAll, Tryz.results7, hGp, hG4, a1, a2, b1, b2]
      refine ⟨by ((try clear hh_i3); (try clear hh_i4); (try clear hid); (try clear hh_i6); (try clear hGp); (try clear hG4); (try clear hG6); (try clear hG9); (try clear hG10); (try clear hGm); (try clear hh_i8); (try clear a1); (try clear a2); (try clear a3); (try clear a4); (try clear a5); (try clear a6); (try clear hh_i11); (try clear b1); (try clear b2); (try clear b3); (try clear b4); (try clear b5); (try clear b6); omega), by ((try clear hh_i3); (try clear hh_i4); (try clear hid); (try clear hh_i6); (try clear hGp); (try clear hG4); (try clear hG6); (try clear hG9); (try clear hG10); (try clear hGm); (try clear hh_i8); (try clear a1); (try clear a2); (try clear a3); (try clear a4); (try clear a5); (try clear a6); (try clear hh_i11); (try clear b1); (try clear b2); (try clear b3); (try clear b4); (try clear b5); (try clear b6); omega), by ((try clear hh_i3); (try clear hh_i4); (try clear hid); (try clear hh_i6); (try clear hGp); (try clear hG4); (try clear hG6); (try clear hG9); (try clear hG10); (try clear hGm); (try clear hh_i8); (try clear a1); (try clear a2); (try clear a3); (try clear a4); (try clear a5); (try clear a6); (try clear hh_i11); (try clear b1); (try clear b2); (try clear b3); (try clear b4); (try clear b5); (try clear b6); omega), ?_⟩
      intro io hh_io; (try simp only [ite_none] at hh_io)
      have u1 := ne_some hh_io.2.2 hG4
      skip
      simp only [vsAll, Nat.reduceLT, ↓reduceIte, eq_self, hh_io, u1]
      refine ⟨fun q hq => ⟨rfl, trivial⟩, ?_⟩
      have ecp : cpF 0 (min 8 p.fl.length) (fun _ => [i64 0]) 0 (fun i => intF l i) = intF l := by
       funext q
       simp only [cpF, Nat.zero_add, Nat.sub_zero, Nat.zero_le, true_and]
       split
       ·rfl
       ·simp only [intF]
        rw [List.getD_eq_getElem?_getD, List.getElem?_eq_none (by ((try clear hh_i3); (try clear hh_i4); (try clear hid); (try clear hh_i6); (try clear hGp); (try clear hG4); (try clear hG6); (try clear hG9); (try clear hG10); (try clear hGm); (try clear hh_i8); (try clear a1); (try clear a2); (try clear a3); (try clear a4); (try clear a5); (try clear a6); (try clear hh_i11); (try clear b1); (try clear b2); (try clear b3); (try clear b4); (try clear b5); (try clear b6); (try clear hh_io); (try clear u1); omega))]
        rfl
      rw [ecp]
      refine ⟨i4, _, rfl, by simp only [↓reduceIte, eq_self]; try rfl, H.set io (.row 1 p.fl.length (intF l)), ?_, io, hnone io hh_io.2.2, by rw [e, e2, hfin, el2], by rw [hfin, el2]⟩
      exact HSub_put_eq (by simp only [vsAll, ↓reduceIte, eq_self, u1]) (HSub_drop2 hh_i4.2 (HSub_drop2 (hnone _ hh_io.2.2) (HSub_drop2 (hnone _ hh_io.2.2) (HSub_drop2 (hnone _ hh_i11.2) (HSub_drop2 (hnone _ hh_i8) hGH)))))
     have hlt : l.length < p.fl.length := by ((try clear hh_i3); (try clear hh_i4); (try clear hid); (try clear hh_i6); (try clear hGp); (try clear hG4); (try clear hG6); (try clear hG9); (try clear hG10); (try clear hGm); (try clear hh_i8); (try clear a1); (try clear a2); (try clear a3); (try clear a4); (try clear a5); (try clear a6); (try clear hh_i11); (try clear b1); (try clear b2); (try clear b3); (try clear b4); (try clear b5); (try clear b6); omega)
     obtain ⟨n, hn⟩ : ∃ n, p.fl.length - l.length = n + 1 := ⟨p.fl.length - l.length - 1, by ((try clear hh_i3); (try clear hh_i4); (try clear hid); (try clear hh_i6); (try clear hGp); (try clear hG4); (try clear hG6); (try clear hG9); (try clear hG10); (try clear hGm); (try clear hh_i8); (try clear a1); (try clear a2); (try clear a3); (try clear a4); (try clear a5); (try clear a6); (try clear hh_i11); (try clear b1); (try clear b2); (try clear b3); (try clear b4); (try clear b5); (try clear b6); omega)⟩
     rw [hn] at hl2 hl3
     obtain ⟨j0, f1, f2, f3, f4⟩ := first_some hl2
     simp only [vsAll, opA, dstOk, nilSliceOp, Nat.reduceLT, Nat.reduceBEq, Int.reduceNeg, eq_self]
     refine vs_loop (σ := Nat) (fun j => j ≤ p.ws.length + 1 ∧ ∀ i, i < j → okB p (everyN p) n l wt ((i : Int) - 1) = false)
      (fun j => [(4, .ref i4 0 1 0 0), (5, .ref id 0 9 0 0), (6, .ref i6 0 2 0 0), (7, T), (8, .ref i8 0 8 0 0), (9, i64 want), (11, .ref i11 0 1 0 0), (12, i64 wt), (13, i64 ((j : Int) - 1))])
      (fun _ => (G.set i8 (.box 8 1 fun _ => dkC p l false 0 l.length)).set i11 (.box 1 8 (intF l))) (fun j => p.ws.length + 1 - j) 0 ⟨Nat.zero_le _, fun i hi => absurd hi (Nat.not_lt_zero i)⟩ ?_ HSub_rfl fun j hj => ?_
     ·simp only [vsAll, Nat.reduceEqDiff, Int.reduceNeg, ↓reduceIte, eq_self]
      exact AV.Le.refl _
     ·obtain ⟨hj1, hj2⟩ := hj
      simp only [vsAll, binA, binLitA, intA, loadA, loadRow, partA, partOk, fieldAddrA, lenA, nilCheckA, opA, dstOk, Nat.reduceLT, Nat.reduceEqDiff, ↓reduceIte, eq_self, wtAll, hGp, a1, b1]
      refine condD (fun hd2 => ?_) (fun hd2 => ?_)
      case refine_2 =>
       have ej : j = p.ws.length + 1 := by ((try clear hh_i3); (try clear hh_i4); (try clear hid); (try clear hh_i6); (try clear hGp); (try clear hG4); (try clear hG6); (try clear hG9); (try clear hG10); (try clear hGm); (try clear hh_i8); (try clear a1); (try clear a2); (try clear a3); (try clear a4); (try clear a5); (try clear a6); (try clear hh_i11); (try clear b1); (try clear b2); (try clear b3); (try clear b4); (try clear b5); (try clear b6); omega)
       have := hj2 j0 (by ((try clear hh_i3); (try clear hh_i4); (try clear hid); (try clear hh_i6); (try clear hGp); (try clear hG4); (try clear hG6); (try clear hG9); (try clear hG10); (try clear hGm); (try clear hh_i8); (try clear a1); (try clear a2); (try clear a3); (try clear a4); (try clear a5); (try clear a6); (try clear hh_i11); (try clear b1); (try clear b2); (try clear b3); (try clear b4); (try clear b5); (try clear b6); omega))
       rw [f3] at this
       cases this
      have hw : -1 ≤ (j : Int) - 1 ∧ (j : Int) - 1 < p.ws.length := by ((try clear hh_i3); (try clear hh_i4); (try clear hid); (try clear hh_i6); (try clear hGp); (try clear hG4); (try clear hG6); (try clear hG9); (try clear hG10); (try clear hGm); (try clear hh_i8); (try clear a1); (try clear a2); (try clear a3); (try clear a4); (try clear a5); (try clear a6); (try clear hh_i11); (try clear b1); (try clear b2); (try clear b3); (try clear b4); (try clear b5); (try clear b6); omega)
      generalize hjw : (j : Int) - 1 = w at hw hd2
      have hf2 := hl1.snoc hlt hw
      rw [← deck_pre p l [w] false 0 l.length (Nat.le_refl _)]
      simp only [vsAll, loadA, loadRow, partA, partOk, okAll, stAll, opsA, opA, dstOk, Nat.reduceLT, Nat.reduceEqDiff, ↓reduceIte, eq_self, wtAll, hh_i11]
      refine callK_pure (next_tri p (l ++ [w]) false 0 l.length w id _ k hA (by show Hp.set (Hp.set _ _ _) _ _ id = _; simp only [vsAll, ↓reduceIte, eq_self, hGp, a1, b1]) (by ((try clear hh_i3); (try clear hh_i4); (try clear hid); (try clear hh_i6); (try clear hGp); (try clear hG4); (try clear hG6); (try clear hG9); (try clear hG10); (try clear hGm); (try clear hh_i8); (try clear a1); (try clear a2); (try clear a3); (try clear a4); (try clear a5); (try clear a6); (try clear hh_i11); (try clear b1); (try clear b2); (try clear b3); (try clear b4); (try clear b5); (try clear b6); omega)) hw (getD_app_len l w) (by ((try clear hh_i3); (try clear hh_i4); (try clear hid); (try clear hh_i6); (try clear hGp); (try clear hG4); (try clear hG6); (try clear hG9); (try clear hG10); (try clear hGm); (try clear hh_i8); (try clear a1); (try clear a2); (try clear a3); (try clear a4); (try clear a5); (try clear a6); (try clear hh_i11); (try clear b1); (try clear b2); (try clear b3); (try clear b4); (try clear b5); (try clear b6); omega))) ?_
      simp only [vsAll, loadA, loadRow, partA, partOk, cellA, okAll, stAll, opsA, opA, allocA, newCells, okCells, storeObj, dstOk, Nat.reduceAdd, Nat.reduceLT, Nat.reduceEqDiff, ↓reduceIte, eq_self, wtAll]
      intro i14 hh_i14; (try simp only [ite_none] at hh_i14)
      have d1 := ne_some hh_i14.2.2 hGp
      have d2 := ne_some hh_i14.2.2 hG4
      have d3 := ne_some hh_i14.2.2 hG6
      have d4 := ne_some hh_i14.2.2 hG9
      have d5 := ne_some hh_i14.2.2 hG10
      have d6 := ne_some hh_i14.2.2 hGm
      skip
      rw [Hp.set_set]
      have hih := fun X => hon n (l ++ [w]) X (by rw [List.length_append, List.length_singleton]; ((try clear hh_i3); (try clear hh_i4); (try clear hid); (try clear hh_i6); (try clear hGp); (try clear hG4); (try clear hG6); (try clear hG9); (try clear hG10); (try clear hGm); (try clear hh_i8); (try clear a1); (try clear a2); (try clear a3); (try clear a4); (try clear a5); (try clear a6); (try clear hh_i11); (try clear b1); (try clear b2); (try clear b3); (try clear b4); (try clear b5); (try clear b6); (try clear hh_i14); (try clear d1); (try clear d2); (try clear d3); (try clear d4); (try clear d5); (try clear d6); omega)) hf2
      rw [List.length_append, List.length_singleton] at hih
      simp only [vsAll, hok, hst]
      refine callK_pure (hih _ (by show Hp.set (Hp.set (Hp.set _ _ _) _ _) _ _ id = _; simp only [vsAll, ↓reduceIte, eq_self, hGp, a1, b1, d1]) (by show Hp.set (Hp.set (Hp.set _ _ _) _ _) _ _ i9 = _; simp only [vsAll, ↓reduceIte, eq_self, hG9, a4, b4, d4]) (by show Hp.set (Hp.set (Hp.set _ _ _) _ _) _ _ i10 = _; simp only [vsAll, ↓reduceIte, eq_self, hG10, a5, b5, d5]) (by show Hp.set (Hp.set (Hp.set _ _ _) _ _) _ _ im = _; simp only [vsAll, ↓reduceIte, eq_self, hGm, a6, b6, d6])) ?_
      have e13 : w + 1 = ((j + 1 : Nat) : Int) - 1 := by ((try clear hh_i3); (try clear hh_i4); (try clear hid); (try clear hh_i6); (try clear hGp); (try clear hG4); (try clear hG6); (try clear hG9); (try clear hG10); (try clear hGm); (try clear hh_i8); (try clear a1); (try clear a2); (try clear a3); (try clear a4); (try clear a5); (try clear a6); (try clear hh_i11); (try clear b1); (try clear b2); (try clear b3); (try clear b4); (try clear b5); (try clear b6); (try clear hh_i14); (try clear d1); (try clear d2); (try clear d3); (try clear d4); (try clear d5); (try clear d6); omega)
      have hnext : okB p (everyN p) n l wt w = false → ∀ i, i < j + 1 → okB p (everyN p) n l wt ((i : Int) - 1) = false := fun h i hi => by
       by_cases e : i = j
       ·rw [e, hjw]; exact h
       ·exact hj2 i (by ((try clear hh_i3); (try clear hh_i4); (try clear hid); (try clear hh_i6); (try clear hGp); (try clear hG4); (try clear hG6); (try clear hG9); (try clear hG10); (try clear hGm); (try clear hh_i8); (try clear a1); (try clear a2); (try clear a3); (try clear a4); (try clear a5); (try clear a6); (try clear hh_i11); (try clear b1); (try clear b2); (try clear b3); (try clear b4); (try clear b5); (try clear b6); (try clear hh_i14); (try clear d1); (try clear d2); (try clear d3); (try clear d4); (try clear d5); (try clear d6); omega))
      have eok : okB p (everyN p) n l wt w = match leastB p (everyN p) n (l ++ [w]) with | some x => decide (watV p (l ++ [w]) false (l.length + 1) ≤ p.ca) && decide (costW w x = wt) | none => false := rfl
      cases hq : leastB p (everyN p) n (l ++ [w]) with
      | none =>
        rw [hq] at eok
        simp only [] at eok
        simp only [vsAll, loadA, loadRow, partA, partOk, extractA, opA, guardV, dstOk, nilSliceOp, Nat.reduceAdd, Nat.reduceLT, Nat.reduceEqDiff, Nat.reduceBEq, ↓reduceIte, implies_true, eq_self, wtAll]
        refine gcall (boo true) (fun g => by cases g) ?_
        simp only [vsAll, loadA, loadRow, partA, partOk, fieldAddrA, pickA, opA, guardV, dstOk, Nat.reduceLT, Nat.reduceEqDiff, ↓reduceIte, implies_true, eq_self, wtAll, hG6, a3, b3, d3]
        refine gcall (i64 0) (fun g => by cases g) ?_
        simp only [vsAll, binA, binLitA, intA, pickA, opA, guardV, dstOk, nilSliceOp, Nat.reduceLT, Nat.reduceEqDiff, Nat.reduceBEq, ↓reduceIte, implies_true, eq_self]
        refine ⟨by simp only [InR_i64]; ((try clear hh_i3); (try clear hh_i4); (try clear hid); (try clear hh_i6); (try clear hGp); (try clear hG4); (try clear hG6); (try clear hG9); (try clear hG10); (try clear hGm); (try clear hh_i8); (try clear a1); (try clear a2); (try clear a3); (try clear a4); (try clear a5); (try clear a6); (try clear hh_i11); (try clear b1); (try clear b2); (try clear b3); (try clear b4); (try clear b5); (try clear b6); (try clear hh_i14); (try clear d1); (try clear d2); (try clear d3); (try clear d4); (try clear d5); (try clear d6); omega), loop_next (j + 1) ⟨by ((try clear hh_i3); (try clear hh_i4); (try clear hid); (try clear hh_i6); (try clear hGp); (try clear hG4); (try clear hG6); (try clear hG9); (try clear hG10); (try clear hGm); (try clear hh_i8); (try clear a1); (try clear a2); (try clear a3); (try clear a4); (try clear a5); (try clear a6); (try clear hh_i11); (try clear b1); (try clear b2); (try clear b3); (try clear b4); (try clear b5); (try clear b6); (try clear hh_i14); (try clear d1); (try clear d2); (try clear d3); (try clear d4); (try clear d5); (try clear d6); omega), hnext eok⟩ (by ((try clear hh_i3); (try clear hh_i4); (try clear hid); (try clear hh_i6); (try clear hGp); (try clear hG4); (try clear hG6); (try clear hG9); (try clear hG10); (try clear hGm); (try clear hh_i8); (try clear a1); (try clear a2); (try clear a3); (try clear a4); (try clear a5); (try clear a6); (try clear hh_i11); (try clear b1); (try clear b2); (try clear b3); (try clear b4); (try clear b5); (try clear b6); (try clear hh_i14); (try clear d1); (try clear d2); (try clear d3); (try clear d4); (try clear d5); (try clear d6); omega)) ?_ (by (repeat (first | exact HSub_rfl | refine HSub_put_eq (by simp only [vsAll, ↓reduceIte, eq_self, hh_i11, hh_i14]) ?_ | refine HSub_drop2 (by simp only [eq_self, hh_i8, hh_i11, hh_i14]) ?_ | refine HSub_keep_eq (by simp only [vsAll, binA, binLitA, intA, aggA, aggV, boolA, nilA2, isConst, unA, loadA, loadRow, partA, partOk, fieldAddrA, indexAddrA, indexA, fieldA, extractA, lenA, nilCheckA, boxA, boxZ, cellA, cellsA, fillA, okParts, buildSliceA, buildMutA, makeSliceA, partIdx, elemsA, lensA, ifaceA, convA, mmA, pickA, okAll, stAll, opsA, partsA, partsOk, opA, allocA, boxMutA, newCells, okCells, storeObj, appendA, guardV, taA, nM, mapUpA, lookA, sliceA, sliceM, sliceS, boundsA, opO, okO, copyA, dstOk, nilA, quietOk, nilSliceOp, deferV, panA, resA, argFr, retA.eq_1, retA.eq_2, Nat.reduceAdd, Nat.reduceSub, Nat.reduceMul, Nat.reduceLT, Nat.reduceLeDiff, Nat.reduceEqDiff, Nat.reduceBEq, Int.reduceAdd, Int.reduceSub, Int.reduceMul, Int.reduceNeg, Int.reduceLE, Int.reduceLT, Int.reduceEq, Int.reduceNe, Int.reduceToNat, ↓reduceIte, reduceCtorEq, implies_true, forall_const, eq_self, ne_eq, wtAll, Tryz.ntmps7, Tryz.results7, hh_i3, hh_i4, hid, hh_i6, hGp, hG4, hG6, hG9, hG10, hGm, hh_i8, a1, a2, a3, a4, a5, a6, hh_i11, b1, b2, b3, b4, b5, b6, hh_i14, d1, d2, d3, d4, d5, d6]) ?_)))⟩
        simp only [vsAll, Nat.reduceEqDiff, ↓reduceIte, eq_self]
        rw [e13]
        exact AV.Le.refl _
      | some x =>
        rw [hq] at eok
        simp only [] at eok
        have hx := least_rng (everyN p) n _ _ hq
        simp only [vsAll, loadA, loadRow, partA, partOk, extractA, opA, guardV, dstOk, nilSliceOp, Nat.reduceAdd, Nat.reduceLT, Nat.reduceEqDiff, Nat.reduceBEq, ↓reduceIte, eq_self, wtAll, Option.getD_some]
        refine gcall _ (fun g => ⟨by simp only [vsAll, opA], by simp only [vsAll, okAll, opsA, opA, Nat.reduceEqDiff, ↓reduceIte, eq_self], floats_tri p (l ++ [w]) false 0 (l.length + 1) id _ (by show Hp.set (Hp.set (Hp.set _ _ _) _ _) _ _ id = _; simp only [vsAll, ↓reduceIte, eq_self, hGp, a1, b1, d1])⟩) ?_
        rw [moreP_zero]
        simp only [vsAll, loadA, loadRow, partA, partOk, fieldAddrA, pickA, opA, guardV, dstOk, Nat.reduceLT, Nat.reduceEqDiff, ↓reduceIte, implies_true, eq_self, wtAll, hG6, a3, b3, d3]
        refine gcall (i64 (costW w x)) (fun g => ⟨by simp only [vsAll, opA, Nat.reduceEqDiff, ↓reduceIte, eq_self, g], by simp only [vsAll, okAll, opsA, opA, Nat.reduceEqDiff, ↓reduceIte, eq_self, g], of_tri2 w x _ (by ((try clear hh_i3); (try clear hh_i4); (try clear hid); (try clear hh_i6); (try clear hGp); (try clear hG4); (try clear hG6); (try clear hG9); (try clear hG10); (try clear hGm); (try clear hh_i8); (try clear a1); (try clear a2); (try clear a3); (try clear a4); (try clear a5); (try clear a6); (try clear hh_i11); (try clear b1); (try clear b2); (try clear b3); (try clear b4); (try clear b5); (try clear b6); (try clear hh_i14); (try clear d1); (try clear d2); (try clear d3); (try clear d4); (try clear d5); (try clear d6); omega))⟩) ?_
        simp only [vsAll, binA, binLitA, intA, pickA, opA, guardV, dstOk, Nat.reduceLT, Nat.reduceEqDiff, ↓reduceIte, implies_true, eq_self]
        rw [← eok]
        refine condV (fun hc3 => ?_) (fun hc3 => ?_)
        ·obtain ⟨x', g1, g2⟩ := ok_some hc3
         have hxx : x' = x := by rw [hq] at g1; simpa using g1.symm
         subst hxx
         have hj3 : j < p.ws.length + 1 := by ((try clear hh_i3); (try clear hh_i4); (try clear hid); (try clear hh_i6); (try clear hGp); (try clear hG4); (try clear hG6); (try clear hG9); (try clear hG10); (try clear hGm); (try clear hh_i8); (try clear a1); (try clear a2); (try clear a3); (try clear a4); (try clear a5); (try clear a6); (try clear hh_i11); (try clear b1); (try clear b2); (try clear b3); (try clear b4); (try clear b5); (try clear b6); (try clear hh_i14); (try clear d1); (try clear d2); (try clear d3); (try clear d4); (try clear d5); (try clear d6); omega)
         have hc4 : okB p (everyN p) n l wt ((j : Int) - 1) = true := by rw [hjw]; exact hc3
         have hq4 : leastB p (everyN p) n (l ++ [(j : Int) - 1]) = some x' := by rw [hjw]; exact hq
         have hfe := few_at hj3 hc4 hj2 hq4
         rw [hjw] at hfe
         simp only [vsAll]
         refine vs_draw2 [0, 0, 0, 0, 0, 0, 1, 3, 5] [([0, 1, 2, 3, 4, 5], [3], 6), ([], [], 7), ([], [], 8)] [] (by decide +kernel) ?_
         simp only [vsAll, loadA, loadRow, partA, partOk, fieldAddrA, indexAddrA, cellA, cellsA, opA, newCells, okCells, storeObj, dstOk, nilSliceOp, Nat.reduceAdd, Nat.reduceLT, Nat.reduceEqDiff, Nat.reduceBEq, ↓reduceIte, eq_self, wtAll, hh_i11, hh_i14]
         have hlen2 : (l ++ [w]).length = l.length + 1 := by rw [List.length_append, List.length_singleton]
         have hn2 : p.fl.length - (l ++ [w]).length = n := by rw [hlen2]; ((try clear hh_i3); (try clear hh_i4); (try clear hid); (try clear hh_i6); (try clear hGp); (try clear hG4); (try clear hG6); (try clear hG9); (try clear hG10); (try clear hGm); (try clear hh_i8); (try clear a1); (try clear a2); (try clear a3); (try clear a4); (try clear a5); (try clear a6); (try clear hh_i11); (try clear b1); (try clear b2); (try clear b3); (try clear b4); (try clear b5); (try clear b6); (try clear hh_i14); (try clear d1); (try clear d2); (try clear d3); (try clear d4); (try clear d5); (try clear d6); omega)
         refine ⟨⟨by ((try clear hh_i3); (try clear hh_i4); (try clear hid); (try clear hh_i6); (try clear hGp); (try clear hG4); (try clear hG6); (try clear hG9); (try clear hG10); (try clear hGm); (try clear hh_i8); (try clear a1); (try clear a2); (try clear a3); (try clear a4); (try clear a5); (try clear a6); (try clear hh_i11); (try clear b1); (try clear b2); (try clear b3); (try clear b4); (try clear b5); (try clear b6); (try clear hh_i14); (try clear d1); (try clear d2); (try clear d3); (try clear d4); (try clear d5); (try clear d6); omega), by ((try clear hh_i3); (try clear hh_i4); (try clear hid); (try clear hh_i6); (try clear hGp); (try clear hG4); (try clear hG6); (try clear hG9); (try clear hG10); (try clear hGm); (try clear hh_i8); (try clear a1); (try clear a2); (try clear a3); (try clear a4); (try clear a5); (try clear a6); (try clear hh_i11); (try clear b1); (try clear b2); (try clear b3); (try clear b4); (try clear b5); (try clear b6); (try clear hh_i14); (try clear d1); (try clear d2); (try clear d3); (try clear d4); (try clear d5); (try clear d6); omega)⟩, by ((try clear hh_i3); (try clear hh_i4); (try clear hid); (try clear hh_i6); (try clear hGp); (try clear hG4); (try clear hG6); (try clear hG9); (try clear hG10); (try clear hGm); (try clear hh_i8); (try clear a1); (try clear a2); (try clear a3); (try clear a4); (try clear a5); (try clear a6); (try clear hh_i11); (try clear b1); (try clear b2); (try clear b3); (try clear b4); (try clear b5); (try clear b6); (try clear hh_i14); (try clear d1); (try clear d2); (try clear d3); (try clear d4); (try clear d5); (try clear d6); omega), loop_next (l ++ [w], x') ⟨hf2, by simp only [hn2]; exact hq, by simp only [hn2]; rw [← hfe]; exact hl3⟩ (by simp only []; ((try clear hh_i3); (try clear hh_i4); (try clear hid); (try clear hh_i6); (try clear hGp); (try clear hG4); (try clear hG6); (try clear hG9); (try clear hG10); (try clear hGm); (try clear hh_i8); (try clear a1); (try clear a2); (try clear a3); (try clear a4); (try clear a5); (try clear a6); (try clear hh_i11); (try clear b1); (try clear b2); (try clear b3); (try clear b4); (try clear b5); (try clear b6); (try clear hh_i14); (try clear d1); (try clear d2); (try clear d3); (try clear d4); (try clear d5); (try clear d6); omega)) ?_ ?_⟩
         ·simp only [vsAll, Nat.reduceEqDiff, ↓reduceIte, eq_self]
         ·simp only [hlen2]
          refine HSub_put (o' := .box 1 8 (updF 8 l.length (intF l) (i64 w :: List.drop 1 (intF l l.length)))) (by simp only [vsAll, ↓reduceIte, eq_self, hh_i11]) (box_ext (intF_put l w (by ((try clear hh_i3); (try clear hh_i4); (try clear hid); (try clear hh_i6); (try clear hGp); (try clear hG4); (try clear hG6); (try clear hG9); (try clear hG10); (try clear hGm); (try clear hh_i8); (try clear a1); (try clear a2); (try clear a3); (try clear a4); (try clear a5); (try clear a6); (try clear hh_i11); (try clear b1); (try clear b2); (try clear b3); (try clear b4); (try clear b5); (try clear b6); (try clear hh_i14); (try clear d1); (try clear d2); (try clear d3); (try clear d4); (try clear d5); (try clear d6); omega)))) ?_
          refine HSub_put_eq (by simp only [vsAll, ↓reduceIte, eq_self]) ?_
          exact HSub_drop2 hh_i8 (HSub_drop2 hh_i11.2 (HSub_drop2 hh_i14.2.2 (HSub_drop2 hh_i11.2 (HSub_drop2 hh_i8 HSub_rfl))))
        ·simp only [vsAll, binA, binLitA, intA, opA, dstOk, nilSliceOp, Nat.reduceLT, Nat.reduceEqDiff, Nat.reduceBEq, ↓reduceIte, eq_self]
         refine ⟨by simp only [InR_i64]; ((try clear hh_i3); (try clear hh_i4); (try clear hid); (try clear hh_i6); (try clear hGp); (try clear hG4); (try clear hG6); (try clear hG9); (try clear hG10); (try clear hGm); (try clear hh_i8); (try clear a1); (try clear a2); (try clear a3); (try clear a4); (try clear a5); (try clear a6); (try clear hh_i11); (try clear b1); (try clear b2); (try clear b3); (try clear b4); (try clear b5); (try clear b6); (try clear hh_i14); (try clear d1); (try clear d2); (try clear d3); (try clear d4); (try clear d5); (try clear d6); omega), loop_next (j + 1) ⟨by ((try clear hh_i3); (try clear hh_i4); (try clear hid); (try clear hh_i6); (try clear hGp); (try clear hG4); (try clear hG6); (try clear hG9); (try clear hG10); (try clear hGm); (try clear hh_i8); (try clear a1); (try clear a2); (try clear a3); (try clear a4); (try clear a5); (try clear a6); (try clear hh_i11); (try clear b1); (try clear b2); (try clear b3); (try clear b4); (try clear b5); (try clear b6); (try clear hh_i14); (try clear d1); (try clear d2); (try clear d3); (try clear d4); (try clear d5); (try clear d6); omega), hnext hc3⟩ (by ((try clear hh_i3); (try clear hh_i4); (try clear hid); (try clear hh_i6); (try clear hGp); (try clear hG4); (try clear hG6); (try clear hG9); (try clear hG10); (try clear hGm); (try clear hh_i8); (try clear a1); (try clear a2); (try clear a3); (try clear a4); (try clear a5); (try clear a6); (try clear hh_i11); (try clear b1); (try clear b2); (try clear b3); (try clear b4); (try clear b5); (try clear b6); (try clear hh_i14); (try clear d1); (try clear d2); (try clear d3); (try clear d4); (try clear d5); (try clear d6); omega)) ?_ (by (repeat (first | exact HSub_rfl | refine HSub_put_eq (by simp only [vsAll, ↓reduceIte, eq_self, hh_i11, hh_i14]) ?_ | refine HSub_drop2 (by simp only [eq_self, hh_i8, hh_i11, hh_i14]) ?_ | refine HSub_keep_eq (by simp only [vsAll, binA, binLitA, intA, aggA, aggV, boolA, nilA2, isConst, unA, loadA, loadRow, partA, partOk, fieldAddrA, indexAddrA, indexA, fieldA, extractA, lenA, nilCheckA, boxA, boxZ, cellA, cellsA, fillA, okParts, buildSliceA, buildMutA, makeSliceA, partIdx, elemsA, lensA, ifaceA, convA, mmA, pickA, okAll, stAll, opsA, partsA, partsOk, opA, allocA, boxMutA, newCells, okCells, storeObj, appendA, guardV, taA, nM, mapUpA, lookA, sliceA, sliceM, sliceS, boundsA, opO, okO, copyA, dstOk, nilA, quietOk, nilSliceOp, deferV, panA, resA, argFr, retA.eq_1, retA.eq_2, Nat.reduceAdd, Nat.reduceSub, Nat.reduceMul, Nat.reduceLT, Nat.reduceLeDiff, Nat.reduceEqDiff, Nat.reduceBEq, Int.reduceAdd, Int.reduceSub, Int.reduceMul, Int.reduceNeg, Int.reduceLE, Int.reduceLT, Int.reduceEq, Int.reduceNe, Int.reduceToNat, ↓reduceIte, reduceCtorEq, implies_true, forall_const, eq_self, ne_eq, wtAll, Tryz.ntmps7, Tryz.results7, hh_i3, hh_i4, hid, hh_i6, hGp, hG4, hG6, hG9, hG10, hGm, hh_i8, a1, a2, a3, a4, a5, a6, hh_i11, b1, b2, b3, b4, b5, b6, hh_i14, d1, d2, d3, d4, d5, d6]) ?_)))⟩
         simp only [vsAll, Nat.reduceEqDiff, ↓reduceIte, eq_self]
         rw [e13]
         exact AV.Le.refl _
theorem few_tri (p : Pu) (H : Hp) (kn : Near p) : PTri Tryz.prog (fnA 7) [p.av] H (.tuple [i64 (fewN p), intsAV (fewP p), i64 (fewE p)]) := by
 refine Tri.thaw (fewM_tri p H kn) ?_
 rintro r H' ⟨id, hid, rfl, rfl⟩
 right
 exact ⟨_, id, 1, _, _, 1, rfl, Hp.set_same _ _ _, by simp, rfl, rfl, set_del hid⟩
end Go.Proofs.YtkcgocmjaggdiaaGreat
end
section
set_option linter.unusedVariables false
set_option linter.unusedSimpArgs false
set_option maxHeartbeats 4000000
set_option maxRecDepth 100000
namespace Go.Proofs.YtkcgocmjaggdiaaGreat
open Go.V Wl
/-- How many watches are in a set. -/
def bitN (S : Nat) : Nat := S % 2 + S / 2 % 2 + S / 4 % 2
theorem ones64_tri (S : Nat) (H : Hp) (hS : S < 8) : PTri Tryz.prog (fnA 65) [u64 (S : Int)] H (i64 (bitN S : Nat)) := by
 refine tri_v0 (fun _ => false) Tryz.func65 (by kernel_rfl) rfl (by simp only [List.length_append, List.length_cons, List.length_nil, Tryz.ntmps65]; decide) ?_
 simp only [vsAll, binA, binLitA, intA, convA, opA, dstOk, nilSliceOp, resA, argFr, retA.eq_1, Nat.reduceLT, Nat.reduceEqDiff, Int.reduceLE, Int.reduceLT, Int.reduceToNat, ↓reduceIte, reduceCtorEq, eq_self, wtAll, Tryz.ntmps65, Tryz.results65]
 have h8 : S = 0 ∨ S = 1 ∨ S = 2 ∨ S = 3 ∨ S = 4 ∨ S = 5 ∨ S = 6 ∨ S = 7 := by omega
 rcases h8 with rfl | rfl | rfl | rfl | rfl | rfl | rfl | rfl <;>
 ·simp only [InR_u64, InR_i64]
  (repeat' apply And.intro) <;> first | decide +kernel | exact congrArg (fun q : Int => Res.ret (i64 q)) (by decide +kernel)
theorem ones_tri (S : Nat) (H : Hp) (hS : S < 8) : PTri Tryz.prog (fnA 40) [u64 (S : Int)] H (i64 (bitN S : Nat)) := by
 refine tri_v0 (fun _ => false) Tryz.func40 (by kernel_rfl) rfl (by simp only [List.length_append, List.length_cons, List.length_nil, Tryz.ntmps40]; decide) ?_
 simp only [vsAll, okAll, stAll, opsA, opA, dstOk, nilSliceOp, argFr, Nat.reduceLT, ↓reduceIte, reduceCtorEq, eq_self, Tryz.ntmps40]
 refine callK_pure (ones64_tri S _ hS) ?_
 simp only [vsAll, opA, dstOk, nilSliceOp, resA, retA.eq_1, Nat.reduceLT, ↓reduceIte, eq_self, Tryz.results40]
end Go.Proofs.YtkcgocmjaggdiaaGreat
end
section
set_option linter.unusedVariables false
set_option linter.unusedSimpArgs false
set_option maxHeartbeats 4000000
set_option maxRecDepth 100000
namespace Go.Proofs.YtkcgocmjaggdiaaGreat
open Go.V Wl
/-- Is a set of so many watches enough? -/
def setB (p : Pu) (m S : Nat) : Bool := decide (bitN S = m) && canB p p.fl.length S
def setsO (p : Pu) (m : Nat) : Option Nat := (List.range (2 ^ p.ws.length)).find? (setB p m)
def wchO (p : Pu) : Option Nat := (List.range (p.ws.length + 1)).findSome? (setsO p)
def wchE (p : Pu) : Int := if errE p true = 0 then if (wchO p).isSome = true then 0 else 4 else errE p true
def wchV (p : Pu) : Int := if wchE p = 0 then ((wchO p).getD 0 : Nat) else 0
theorem findSome_at {α : Type} {f : Nat → Option α} {n m : Nat} {a : α} (hm : m < n) (h : f m = some a) (hb : ∀ i, i < m → f i = none) : (List.range n).findSome? f = some a := by
 induction n with
 | zero => omega
 | succ n ih =>
   rw [List.range_succ, List.findSome?_append]
   by_cases e : m = n
   ·subst e
    have : (List.range m).findSome? f = none := List.findSome?_eq_none_iff.2 fun x hx => hb x (List.mem_range.1 hx)
    rw [this]
    simp [h]
   ·rw [ih (by omega)]
    rfl
theorem wch_tri (p : Pu) (H : Hp) (kn : Near p) : PTri Tryz.prog (fnA 11) [p.av] H (.tuple [i64 (wchV p), i64 (wchE p)]) := by
 refine Tri.drop ?_
 refine tri_am (m := fun _ => false) ans25 Tryz.func11 (by kernel_rfl) rfl (by simp only [List.length_append, List.length_cons, List.length_nil, Tryz.ntmps11]; decide) ?_
 simp only [vsAll, loadA, loadRow, partA, partOk, boxA, boxZ, okAll, stAll, opsA, opA, allocA, dstOk, nilSliceOp, argFr, Nat.reduceAdd, Nat.reduceLT, Nat.reduceEqDiff, ↓reduceIte, eq_self, wtAll, Tryz.ntmps11]
 intro i3 hh_i3; (try simp only [Hp.set_none, ite_none] at hh_i3)
 refine open_call (open_tri p _ true _ kn trivial rfl (fun k H' => palways_tri H')) (fun he => ?_) (fun k hv hA id hid => ?_)
 ·have e : wchE p = errE p true := if_neg he
  have e2 : wchV p = 0 := if_neg (by rw [e]; exact he)
  simp only [vsAll, loadA, loadRow, partA, partOk, resA, retA.eq_2, Nat.reduceEqDiff, ↓reduceIte, eq_self, wtAll, Tryz.results11]
  refine ⟨errE p true, i3, _, rfl, rfl, by simp only [↓reduceIte, eq_self]; try rfl, ?_⟩
  simp only [vsAll, Nat.reduceLT, ↓reduceIte, eq_self]
  refine dropR_pure ?_ (by (repeat (first | exact HSub_rfl | refine HSub_put_eq (by simp only [vsAll, binA, binLitA, intA, aggA, aggV, boolA, nilA2, isConst, unA, loadA, loadRow, partA, partOk, fieldAddrA, indexAddrA, indexA, fieldA, extractA, lenA, nilCheckA, boxA, boxZ, cellA, cellsA, fillA, okParts, buildSliceA, buildMutA, makeSliceA, partIdx, elemsA, lensA, ifaceA, convA, mmA, pickA, okAll, stAll, opsA, partsA, partsOk, opA, allocA, boxMutA, newCells, okCells, storeObj, appendA, guardV, taA, nM, mapUpA, lookA, sliceA, sliceM, sliceS, boundsA, opO, okO, copyA, dstOk, nilA, quietOk, nilSliceOp, deferV, panA, resA, argFr, retA.eq_1, retA.eq_2, Nat.reduceAdd, Nat.reduceSub, Nat.reduceMul, Nat.reduceLT, Nat.reduceLeDiff, Nat.reduceEqDiff, Nat.reduceBEq, Int.reduceAdd, Int.reduceSub, Int.reduceMul, Int.reduceNeg, Int.reduceLE, Int.reduceLT, Int.reduceEq, Int.reduceNe, Int.reduceToNat, ↓reduceIte, reduceCtorEq, implies_true, forall_const, eq_self, ne_eq, wtAll, Tryz.ntmps11, Tryz.results11, hh_i3]) ?_ | refine HSub_drop2 (by simp only [eq_self, hh_i3]) ?_ | refine HSub_keep_eq (by simp only [vsAll, binA, binLitA, intA, aggA, aggV, boolA, nilA2, isConst, unA, loadA, loadRow, partA, partOk, fieldAddrA, indexAddrA, indexA, fieldA, extractA, lenA, nilCheckA, boxA, boxZ, cellA, cellsA, fillA, okParts, buildSliceA, buildMutA, makeSliceA, partIdx, elemsA, lensA, ifaceA, convA, mmA, pickA, okAll, stAll, opsA, partsA, partsOk, opA, allocA, boxMutA, newCells, okCells, storeObj, appendA, guardV, taA, nM, mapUpA, lookA, sliceA, sliceM, sliceS, boundsA, opO, okO, copyA, dstOk, nilA, quietOk, nilSliceOp, deferV, panA, resA, argFr, retA.eq_1, retA.eq_2, Nat.reduceAdd, Nat.reduceSub, Nat.reduceMul, Nat.reduceLT, Nat.reduceLeDiff, Nat.reduceEqDiff, Nat.reduceBEq, Int.reduceAdd, Int.reduceSub, Int.reduceMul, Int.reduceNeg, Int.reduceLE, Int.reduceLT, Int.reduceEq, Int.reduceNe, Int.reduceToNat, ↓reduceIte, reduceCtorEq, implies_true, forall_const, eq_self, ne_eq, wtAll, Tryz.ntmps11, Tryz.results11, hh_i3]) ?_)))
  simp only [eq_self, e, e2]
 ·have eN : errE p true = 0 := errE_ok k (by ((try clear hh_i3); omega))
  have nF := k.nF
  have nW := k.nW
  have hE := every_lt k
  have hpw : 0 < 2 ^ p.ws.length := Nat.pow_pos (by decide)
  have hpe : everyN p + 1 = 2 ^ p.ws.length := by unfold everyN; ((try clear hh_i3); omega)
  have hid' := hid
  simp only [Hp.set_none] at hid
  skip
  have hpm : ∀ X : Hp, X id = some (.box 9 1 fun _ => pmC p false 0) → PmAt p false 0 id X := fun _ h => h
  simp only [vsAll, binA, binLitA, intA, loadA, loadRow, partA, partOk, fieldAddrA, lenA, nilCheckA, opA, dstOk, nilSliceOp, Nat.reduceLT, ↓reduceIte, eq_self, wtAll]
  refine ⟨by simp only [InR_i64]; ((try clear hh_i3); (try clear hid); omega), ?_⟩
  refine vs_loop (σ := Nat) (fun m => m ≤ p.ws.length + 1 ∧ ∀ i, i < m → setsO p i = none) (fun m => [(3, .ref i3 0 1 0 0), (4, .ref id 0 9 0 0), (15, i64 ((p.ws.length : Int) + 1)), (16, i64 m)])
   (fun _ => (H.set i3 (.box 1 1 fun _ => [i64 0])).set id (.box 9 1 fun _ => pmC p false 0)) (fun m => p.ws.length + 1 - m) 0 ⟨Nat.zero_le _, fun i hi => absurd hi (Nat.not_lt_zero i)⟩ ?_ HSub_rfl fun m hm => ?_
  ·simp only [vsAll, Nat.reduceEqDiff, ↓reduceIte, eq_self, Int.natCast_zero]
  ·obtain ⟨hm1, hm2⟩ := hm
   simp only [vsAll, binA, binLitA, intA, opA, dstOk, Nat.reduceLT, Nat.reduceEqDiff, ↓reduceIte, eq_self]
   refine condD (fun hd => ?_) (fun hd => ?_)
   case refine_2 =>
    have em : m = p.ws.length + 1 := by ((try clear hh_i3); (try clear hid); omega)
    subst em
    have hno : wchO p = none := List.findSome?_eq_none_iff.2 fun x hx => hm2 x (List.mem_range.1 hx)
    have e : wchE p = 4 := by rw [wchE, if_pos eN, hno]; rfl
    have ev : wchV p = 0 := if_neg (by rw [e]; decide)
    simp only [vsAll, loadA, loadRow, partA, partOk, cellA, cellsA, opA, newCells, okCells, storeObj, dstOk, nilSliceOp, resA, retA.eq_2, Nat.reduceLT, Nat.reduceEqDiff, ↓reduceIte, eq_self, wtAll, Tryz.results11, hid]
    refine ⟨i3, _, rfl, by simp only [↓reduceIte, eq_self]; try rfl, ?_⟩
    refine dropR_pure ?_ (by (repeat (first | exact HSub_rfl | refine HSub_put_eq (by simp only [vsAll, binA, binLitA, intA, aggA, aggV, boolA, nilA2, isConst, unA, loadA, loadRow, partA, partOk, fieldAddrA, indexAddrA, indexA, fieldA, extractA, lenA, nilCheckA, boxA, boxZ, cellA, cellsA, fillA, okParts, buildSliceA, buildMutA, makeSliceA, partIdx, elemsA, lensA, ifaceA, convA, mmA, pickA, okAll, stAll, opsA, partsA, partsOk, opA, allocA, boxMutA, newCells, okCells, storeObj, appendA, guardV, taA, nM, mapUpA, lookA, sliceA, sliceM, sliceS, boundsA, opO, okO, copyA, dstOk, nilA, quietOk, nilSliceOp, deferV, panA, resA, argFr, retA.eq_1, retA.eq_2, Nat.reduceAdd, Nat.reduceSub, Nat.reduceMul, Nat.reduceLT, Nat.reduceLeDiff, Nat.reduceEqDiff, Nat.reduceBEq, Int.reduceAdd, Int.reduceSub, Int.reduceMul, Int.reduceNeg, Int.reduceLE, Int.reduceLT, Int.reduceEq, Int.reduceNe, Int.reduceToNat, ↓reduceIte, reduceCtorEq, implies_true, forall_const, eq_self, ne_eq, wtAll, Tryz.ntmps11, Tryz.results11, hh_i3, hid]) ?_ | refine HSub_drop2 (by simp only [eq_self, hh_i3, hid]) ?_ | refine HSub_keep_eq (by simp only [vsAll, binA, binLitA, intA, aggA, aggV, boolA, nilA2, isConst, unA, loadA, loadRow, partA, partOk, fieldAddrA, indexAddrA, indexA, fieldA, extractA, lenA, nilCheckA, boxA, boxZ, cellA, cellsA, fillA, okParts, buildSliceA, buildMutA, makeSliceA, partIdx, elemsA, lensA, ifaceA, convA, mmA, pickA, okAll, stAll, opsA, partsA, partsOk, opA, allocA, boxMutA, newCells, okCells, storeObj, appendA, guardV, taA, nM, mapUpA, lookA, sliceA, sliceM, sliceS, boundsA, opO, okO, copyA, dstOk, nilA, quietOk, nilSliceOp, deferV, panA, resA, argFr, retA.eq_1, retA.eq_2, Nat.reduceAdd, Nat.reduceSub, Nat.reduceMul, Nat.reduceLT, Nat.reduceLeDiff, Nat.reduceEqDiff, Nat.reduceBEq, Int.reduceAdd, Int.reduceSub, Int.reduceMul, Int.reduceNeg, Int.reduceLE, Int.reduceLT, Int.reduceEq, Int.reduceNe, Int.reduceToNat, ↓reduceIte, reduceCtorEq, implies_true, forall_const, eq_self, ne_eq, wtAll, Tryz.ntmps11, Tryz.results11, hh_i3, hid]) ?_)))
    simp only [eq_self, e, ev]
   have hmw : m < p.ws.length + 1 := by ((try clear hh_i3); (try clear hid); omega)
   simp only [vsAll, okAll, stAll, opsA, opA, dstOk, nilSliceOp, Nat.reduceLT, Nat.reduceEqDiff, ↓reduceIte, eq_self]
   refine callK_pure (every_tri p false 0 id _ k (Hp.set_same _ _ _)) ?_
   have hw8 : 2 ^ p.ws.length ≤ 8 := by unfold everyN at hE; ((try clear hh_i3); (try clear hid); omega)
   have e21 : (((2 ^ p.ws.length - 1 : Nat) : Int) + 1) = ((2 ^ p.ws.length : Nat) : Int) := by ((try clear hh_i3); (try clear hid); omega)
   simp only [vsAll, binA, binLitA, intA, opA, dstOk, Nat.reduceLT, ↓reduceIte, eq_self, e21]
   refine ⟨by simp only [InR_u64]; ((try clear hh_i3); (try clear hid); omega), ?_⟩
   refine vs_loop (σ := Nat) (fun S => S ≤ 2 ^ p.ws.length ∧ ∀ i, i < S → setB p m i = false) (fun S => [(3, .ref i3 0 1 0 0), (4, .ref id 0 9 0 0), (5, i64 m), (15, i64 ((p.ws.length : Int) + 1)), (16, i64 m), (21, u64 ((2 ^ p.ws.length : Nat) : Int)), (22, u64 (S : Int))])
    (fun _ => (H.set i3 (.box 1 1 fun _ => [i64 0])).set id (.box 9 1 fun _ => pmC p false 0)) (fun S => 2 ^ p.ws.length - S) 0 ⟨Nat.zero_le _, fun i hi => absurd hi (Nat.not_lt_zero i)⟩ ?_ HSub_rfl fun S hS => ?_
   ·simp only [vsAll, Nat.reduceEqDiff, ↓reduceIte, eq_self, Int.natCast_zero]
   ·obtain ⟨hS1, hS2⟩ := hS
    simp only [vsAll, binA, binLitA, intA, opA, dstOk, Nat.reduceLT, Nat.reduceEqDiff, ↓reduceIte, eq_self]
    refine condD (fun hd2 => ?_) (fun hd2 => ?_)
    case refine_2 =>
     have eS : S = 2 ^ p.ws.length := by ((try clear hh_i3); (try clear hid); omega)
     have hnone : setsO p m = none := by
      unfold setsO
      rw [List.find?_eq_none]
      intro x hx
      rw [hS2 x (by rw [eS]; exact List.mem_range.1 hx)]
      decide
     simp only [vsAll, binA, binLitA, intA, opA, dstOk, Nat.reduceLT, Nat.reduceEqDiff, ↓reduceIte, eq_self]
     refine ⟨by simp only [InR_i64]; ((try clear hh_i3); (try clear hid); omega), loop_next (m + 1) ⟨by ((try clear hh_i3); (try clear hid); omega), fun i hi => ?_⟩ (by ((try clear hh_i3); (try clear hid); omega)) ?_ HSub_rfl⟩
     ·by_cases e : i = m
      ·rw [e]; exact hnone
      ·exact hm2 i (by ((try clear hh_i3); (try clear hid); omega))
     ·simp only [vsAll, Nat.reduceEqDiff, ↓reduceIte, eq_self, Int.natCast_add, Int.natCast_one]
    have hSl : S < 2 ^ p.ws.length := by ((try clear hh_i3); (try clear hid); omega)
    simp only [vsAll, okAll, stAll, opsA, opA, dstOk, nilSliceOp, Nat.reduceLT, Nat.reduceEqDiff, ↓reduceIte, eq_self]
    refine callK_pure (ones_tri S _ (by ((try clear hh_i3); (try clear hid); omega))) ?_
    simp only [vsAll, binA, binLitA, intA, loadA, loadRow, partA, partOk, fieldAddrA, lenA, nilCheckA, opA, guardV, dstOk, Nat.reduceLT, Nat.reduceEqDiff, ↓reduceIte, implies_true, eq_self, wtAll]
    refine gcall (boo (canB p p.fl.length S)) (fun g => ⟨by simp only [vsAll, opA], by simp only [vsAll, okAll, opsA, opA, Nat.reduceEqDiff, ↓reduceIte, eq_self, g], can_tri p p.fl.length S id _ k hA (Nat.le_refl _) (by ((try clear hh_i3); (try clear hid); omega)) (Hp.set_same _ _ _)⟩) ?_
    simp only [vsAll, pickA, opA, dstOk, Nat.reduceLT, Nat.reduceEqDiff, ↓reduceIte, implies_true, eq_self]
    have eb : (decide ((bitN S : Int) = (m : Int)) && canB p p.fl.length S) = setB p m S := by
     unfold setB
     rw [show decide ((bitN S : Int) = (m : Int)) = decide (bitN S = m) from decide_eq_decide.2 (by ((try clear hh_i3); (try clear hid); omega))]
    rw [eb]
    refine condV (fun hc => ?_) (fun hc => ?_)
    ·have hso : setsO p m = some S := by
      unfold setsO
      rw [List.find?_range_eq_some]
      exact ⟨hc, List.mem_range.2 hSl, fun i hi => by rw [hS2 i hi]; rfl⟩
     have hwo : wchO p = some S := findSome_at hmw hso hm2
     have e : wchE p = 0 := by rw [wchE, if_pos eN, hwo]; rfl
     have ev : wchV p = (S : Int) := by rw [wchV, if_pos e, hwo]; rfl
     simp only [vsAll, loadA, loadRow, partA, partOk, cellA, cellsA, convA, opA, newCells, okCells, storeObj, dstOk, nilSliceOp, resA, retA.eq_2, Nat.reduceLT, Nat.reduceEqDiff, ↓reduceIte, eq_self, wtAll, Tryz.results11, hid]
     refine ⟨by simp only [InR_i64]; ((try clear hh_i3); (try clear hid); omega), i3, _, rfl, by simp only [↓reduceIte, eq_self]; try rfl, ?_⟩
     refine dropR_pure ?_ (by (repeat (first | exact HSub_rfl | refine HSub_put_eq (by simp only [vsAll, binA, binLitA, intA, aggA, aggV, boolA, nilA2, isConst, unA, loadA, loadRow, partA, partOk, fieldAddrA, indexAddrA, indexA, fieldA, extractA, lenA, nilCheckA, boxA, boxZ, cellA, cellsA, fillA, okParts, buildSliceA, buildMutA, makeSliceA, partIdx, elemsA, lensA, ifaceA, convA, mmA, pickA, okAll, stAll, opsA, partsA, partsOk, opA, allocA, boxMutA, newCells, okCells, storeObj, appendA, guardV, taA, nM, mapUpA, lookA, sliceA, sliceM, sliceS, boundsA, opO, okO, copyA, dstOk, nilA, quietOk, nilSliceOp, deferV, panA, resA, argFr, retA.eq_1, retA.eq_2, Nat.reduceAdd, Nat.reduceSub, Nat.reduceMul, Nat.reduceLT, Nat.reduceLeDiff, Nat.reduceEqDiff, Nat.reduceBEq, Int.reduceAdd, Int.reduceSub, Int.reduceMul, Int.reduceNeg, Int.reduceLE, Int.reduceLT, Int.reduceEq, Int.reduceNe, Int.reduceToNat, ↓reduceIte, reduceCtorEq, implies_true, forall_const, eq_self, ne_eq, wtAll, Tryz.ntmps11, Tryz.results11, hh_i3, hid]) ?_ | refine HSub_drop2 (by simp only [eq_self, hh_i3, hid]) ?_ | refine HSub_keep_eq (by simp only [vsAll, binA, binLitA, intA, aggA, aggV, boolA, nilA2, isConst, unA, loadA, loadRow, partA, partOk, fieldAddrA, indexAddrA, indexA, fieldA, extractA, lenA, nilCheckA, boxA, boxZ, cellA, cellsA, fillA, okParts, buildSliceA, buildMutA, makeSliceA, partIdx, elemsA, lensA, ifaceA, convA, mmA, pickA, okAll, stAll, opsA, partsA, partsOk, opA, allocA, boxMutA, newCells, okCells, storeObj, appendA, guardV, taA, nM, mapUpA, lookA, sliceA, sliceM, sliceS, boundsA, opO, okO, copyA, dstOk, nilA, quietOk, nilSliceOp, deferV, panA, resA, argFr, retA.eq_1, retA.eq_2, Nat.reduceAdd, Nat.reduceSub, Nat.reduceMul, Nat.reduceLT, Nat.reduceLeDiff, Nat.reduceEqDiff, Nat.reduceBEq, Int.reduceAdd, Int.reduceSub, Int.reduceMul, Int.reduceNeg, Int.reduceLE, Int.reduceLT, Int.reduceEq, Int.reduceNe, Int.reduceToNat, ↓reduceIte, reduceCtorEq, implies_true, forall_const, eq_self, ne_eq, wtAll, Tryz.ntmps11, Tryz.results11, hh_i3, hid]) ?_)))
     simp only [eq_self, e, ev]
    ·simp only [vsAll, binA, binLitA, intA, opA, dstOk, Nat.reduceLT, Nat.reduceEqDiff, ↓reduceIte, eq_self]
     refine ⟨by simp only [InR_u64]; ((try clear hh_i3); (try clear hid); omega), loop_next (S + 1) ⟨by ((try clear hh_i3); (try clear hid); omega), fun i hi => ?_⟩ (by ((try clear hh_i3); (try clear hid); omega)) ?_ HSub_rfl⟩
     ·by_cases e : i = S
      ·rw [e]; exact hc
      ·exact hS2 i (by ((try clear hh_i3); (try clear hid); omega))
     ·simp only [vsAll, Nat.reduceEqDiff, ↓reduceIte, eq_self, Int.natCast_add, Int.natCast_one]
end Go.Proofs.YtkcgocmjaggdiaaGreat
end
section
set_option linter.unusedVariables false
set_option linter.unusedSimpArgs false
set_option maxRecDepth 100000
namespace Go.Proofs.YtkcgocmjaggdiaaGreat
open Go.V Wl
def smP (n : Int) : Pu := ⟨[(6, 8), (6, 8), (6, 8)], n, [⟨9, 10, 3, 1⟩, ⟨6, 6, 0, 0⟩], ⟨3, fun i => [2, 0, 2].getD i 0, 1, fun _ => ⟨1, 0, 0, 3, 3⟩⟩⟩
theorem sm_ok : Ok (smP 14) := by decide +kernel
theorem sm1 : playV (smP 14) [0, 0, 0] = [(1, 6), (0, 8), (2, 13)] := by decide +kernel
theorem sm2 : playE (smP 14) [0, 0, 0] = 0 := by decide +kernel
theorem sm3 : outV (smP 14) [0, 0, 0] 1 = (6, 7) := by decide +kernel
theorem sm4 : outE (smP 14) [0, 0, 0] 1 = 0 := by decide +kernel
theorem sm5 : floV (smP 14) [1, -1, 0] = 1 := by decide +kernel
theorem sm6 : playE (smP 14) [1, -1, 0] = 0 := by decide +kernel
theorem sm7 : losV (smP 14) [1, -1, 0] = 1 := by decide +kernel
theorem sm8 : losE (smP 14) [1, -1, 0] = 0 := by decide +kernel
theorem sm9 : spaV (smP 14) [0, 1, 0] = 2 := by decide +kernel
theorem sm10 : spaE (smP 14) [0, 1, 0] = 0 := by decide +kernel
theorem sm11 : fewN (smP 14) = 2 := by decide +kernel
theorem sm12 : fewP (smP 14) = [0, -1, 0] := by decide +kernel
theorem sm13 : fewE (smP 14) = 0 := by decide +kernel
theorem sm14 : untV (smP 14) = 3 := by decide +kernel
theorem sm15 : untE (smP 14) = 0 := by decide +kernel
theorem sm16 : wchV (smP 14) = 1 := by decide +kernel
theorem sm17 : wchE (smP 14) = 0 := by decide +kernel
theorem sm18 : floV (smP 14) [0, 1, 0] = 2 := by decide +kernel
theorem sm19 : playE (smP 14) [0, 1, 0] = 0 := by decide +kernel
end Go.Proofs.YtkcgocmjaggdiaaGreat
end
section
set_option linter.unusedVariables false
set_option linter.unusedSimpArgs false
set_option maxHeartbeats 4000000
set_option maxRecDepth 100000
namespace Go.Proofs.YtkcgocmjaggdiaaGreat
open Go.V Wl
/-- Too large to be looked at. -/
def farB (p : Pu) (n : Nat) : Bool := decide ((40 : Int) < max (max (max (max (p.fl.length : Int) (p.ws.length : Int)) (n : Int)) (p.ho.n : Int)) (p.ho.m : Int))
theorem far0_tri (p : Pu) (H : Hp) : PTri Tryz.prog (fnA 4) [p.av, .lit (.slice none 0 0)] H (boo (farB p 0)) := by
 refine tri_v0 (fun _ => false) Tryz.func4 (by kernel_rfl) rfl (by simp only [List.length_append, List.length_cons, List.length_nil, Tryz.ntmps4]; decide) ?_
 simp only [vsAll, binA, binLitA, intA, loadA, loadRow, partA, partOk, fieldAddrA, lenA, boxA, boxZ, mmA, okAll, stAll, opsA, opA, dstOk, nilSliceOp, resA, argFr, retA.eq_1, Nat.reduceAdd, Nat.reduceLT, Nat.reduceEqDiff, ↓reduceIte, eq_self, wtAll, Tryz.ntmps4, Tryz.results4]
 rfl
theorem ret_le {P : Program} {fv : AV} {args : List AV} {H : Hp} {v v' : AV} (h : PTri P fv args H v) (hle : AV.Le v v') : PTri P fv args H v' := by
 intro S vf vs hH hvf ha
 obtain ⟨nx, h1, h2⟩ := h S vf vs hH hvf ha
 have ho : ∀ e w, Out S (fun r H' => r = .ret v ∧ H' = H) e w → Out S (fun r H' => r = .ret v' ∧ H' = H) e w := by
  rintro e w ⟨S', r, H', hw, hl, hH', hrr, rfl, rfl⟩
  refine ⟨S', .ret v', H', hw, hl, hH', ?_, rfl, rfl⟩
  cases e with
  | returned cv => exact hle S' cv hrr
  | panicked ch => exact hrr.elim
  | outgrown => exact hrr.elim
 refine ⟨nx, h1, ?_⟩
 cases nx <;> simp only [NextOk] at h2 ⊢
 ·exact Calls.mono h2 ho
 ·exact h2.mono ho
theorem span_tri (a b : Int) (H : Hp) : PTri Tryz.prog (fnA 24) [i64 a, i64 b] H (.agg [i64 a, i64 b]) := by
 refine Tri.drop ?_
 refine tri_v0 (fun _ => false) Tryz.func24 (by kernel_rfl) rfl (by simp only [List.length_append, List.length_cons, List.length_nil, Tryz.ntmps24]; decide) ?_
 simp only [vsAll, loadA, loadRow, partA, partOk, cellA, cellsA, fillA, okParts, partsA, partsOk, opA, allocA, newCells, okCells, storeObj, dstOk, resA, argFr, retA.eq_1, Nat.reduceAdd, Nat.reduceLT, Nat.reduceLeDiff, Nat.reduceEqDiff, ↓reduceIte, reduceCtorEq, eq_self, wtAll, Tryz.ntmps24, Tryz.results24]
 intro i4 hh_i4; (try simp only [Hp.set_none, ite_none] at hh_i4)
 refine dropR_pure ?_ (by (repeat (first | exact HSub_rfl | refine HSub_put_eq (by simp only [vsAll, binA, binLitA, intA, aggA, aggV, boolA, nilA2, isConst, unA, loadA, loadRow, partA, partOk, fieldAddrA, indexAddrA, indexA, fieldA, extractA, lenA, nilCheckA, boxA, boxZ, cellA, cellsA, fillA, okParts, buildSliceA, buildMutA, makeSliceA, partIdx, elemsA, lensA, ifaceA, convA, mmA, pickA, okAll, stAll, opsA, partsA, partsOk, opA, allocA, boxMutA, newCells, okCells, storeObj, appendA, guardV, taA, nM, mapUpA, lookA, sliceA, sliceM, sliceS, boundsA, opO, okO, copyA, dstOk, nilA, quietOk, nilSliceOp, deferV, panA, resA, argFr, retA.eq_1, retA.eq_2, Nat.reduceAdd, Nat.reduceSub, Nat.reduceMul, Nat.reduceLT, Nat.reduceLeDiff, Nat.reduceEqDiff, Nat.reduceBEq, Int.reduceAdd, Int.reduceSub, Int.reduceMul, Int.reduceNeg, Int.reduceLE, Int.reduceLT, Int.reduceEq, Int.reduceNe, Int.reduceToNat, ↓reduceIte, reduceCtorEq, implies_true, forall_const, eq_self, ne_eq, wtAll, Tryz.ntmps24, Tryz.results24, hh_i4]) ?_ | refine HSub_drop2 (by simp only [eq_self, hh_i4]) ?_ | refine HSub_keep_eq (by simp only [vsAll, binA, binLitA, intA, aggA, aggV, boolA, nilA2, isConst, unA, loadA, loadRow, partA, partOk, fieldAddrA, indexAddrA, indexA, fieldA, extractA, lenA, nilCheckA, boxA, boxZ, cellA, cellsA, fillA, okParts, buildSliceA, buildMutA, makeSliceA, partIdx, elemsA, lensA, ifaceA, convA, mmA, pickA, okAll, stAll, opsA, partsA, partsOk, opA, allocA, boxMutA, newCells, okCells, storeObj, appendA, guardV, taA, nM, mapUpA, lookA, sliceA, sliceM, sliceS, boundsA, opO, okO, copyA, dstOk, nilA, quietOk, nilSliceOp, deferV, panA, resA, argFr, retA.eq_1, retA.eq_2, Nat.reduceAdd, Nat.reduceSub, Nat.reduceMul, Nat.reduceLT, Nat.reduceLeDiff, Nat.reduceEqDiff, Nat.reduceBEq, Int.reduceAdd, Int.reduceSub, Int.reduceMul, Int.reduceNeg, Int.reduceLE, Int.reduceLT, Int.reduceEq, Int.reduceNe, Int.reduceToNat, ↓reduceIte, reduceCtorEq, implies_true, forall_const, eq_self, ne_eq, wtAll, Tryz.ntmps24, Tryz.results24, hh_i4]) ?_)))
 rfl
theorem sample_tri (n : Int) (H : Hp) : PTri Tryz.prog (fnA 17) [i64 n] H (smP n).av := by
 refine ret_le (v := .agg [.rsl 3 2 (fun i => [[i64 6, i64 8], [i64 6, i64 8], [i64 6, i64 8]].getD i []), i64 n, .rsl 2 4 (fun i => [[i64 9, i64 10, i64 3, i64 1], [i64 6, i64 6, i64 0, i64 0]].getD i []), .rsl 3 1 (fun i => [[i64 2], [i64 0], [i64 2]].getD i []), .rsl 1 5 (fun i => [[i64 1, i64 0, i64 0, i64 3, i64 3]].getD i [])]) ?_ ?_
 ·refine Tri.drop ?_
  refine tri_v0 (fun _ => false) Tryz.func17 (by kernel_rfl) rfl (by simp only [List.length_append, List.length_cons, List.length_nil, Tryz.ntmps17]; decide) ?_
  simp only [vsAll, okAll, stAll, opsA, opA, allocA, dstOk, Nat.reduceAdd, Nat.reduceLT, eq_self, wtAll, Tryz.ntmps17]
  intro i2 hh_i2; (try simp only [Hp.set_none, ite_none] at hh_i2)
  refine callK_pure (span_tri 6 8 _) ?_
  simp only [vsAll, okAll, stAll, opsA, opA, dstOk, Nat.reduceLT]
  refine callK_pure (span_tri 6 8 _) ?_
  simp only [vsAll, okAll, stAll, opsA, opA, dstOk, Nat.reduceLT]
  refine callK_pure (span_tri 6 8 _) ?_
  simp only [vsAll, cellsA, okParts, buildSliceA, partIdx, elemsA, lensA, okAll, stAll, opsA, partsA, partsOk, opA, dstOk, argFr, Nat.reduceAdd, Nat.reduceMul, Nat.reduceLT, Nat.reduceLeDiff, Nat.reduceEqDiff, ↓reduceIte, reduceCtorEq, eq_self, wtAll]
  refine callK_pure (span_tri 9 10 _) ?_
  simp only [vsAll, cellA, cellsA, fillA, okParts, okAll, stAll, opsA, partsA, partsOk, opA, dstOk, Nat.reduceAdd, Nat.reduceLT, Nat.reduceLeDiff, ↓reduceIte, eq_self, wtAll]
  refine callK_pure (span_tri 6 6 _) ?_
  simp only [vsAll, cellA, cellsA, fillA, okParts, buildSliceA, partIdx, elemsA, lensA, okAll, stAll, opsA, partsA, partsOk, opA, dstOk, Nat.reduceAdd, Nat.reduceMul, Nat.reduceLT, Nat.reduceLeDiff, Nat.reduceEqDiff, ↓reduceIte, eq_self, wtAll]
  refine callK_pure (span_tri 3 3 _) ?_
  simp only [vsAll, loadA, loadRow, partA, partOk, cellA, cellsA, fillA, okParts, buildSliceA, partIdx, elemsA, lensA, partsA, partsOk, opA, newCells, okCells, storeObj, dstOk, resA, retA.eq_1, Nat.reduceAdd, Nat.reduceMul, Nat.reduceLT, Nat.reduceLeDiff, Nat.reduceEqDiff, ↓reduceIte, eq_self, wtAll, Tryz.results17]
  exact dropR_pure rfl (by (repeat (first | exact HSub_rfl | refine HSub_put_eq (by simp only [vsAll, binA, binLitA, intA, aggA, aggV, boolA, nilA2, isConst, unA, loadA, loadRow, partA, partOk, fieldAddrA, indexAddrA, indexA, fieldA, extractA, lenA, nilCheckA, boxA, boxZ, cellA, cellsA, fillA, okParts, buildSliceA, buildMutA, makeSliceA, partIdx, elemsA, lensA, ifaceA, convA, mmA, pickA, okAll, stAll, opsA, partsA, partsOk, opA, allocA, boxMutA, newCells, okCells, storeObj, appendA, guardV, taA, nM, mapUpA, lookA, sliceA, sliceM, sliceS, boundsA, opO, okO, copyA, dstOk, nilA, quietOk, nilSliceOp, deferV, panA, resA, argFr, retA.eq_1, retA.eq_2, Nat.reduceAdd, Nat.reduceSub, Nat.reduceMul, Nat.reduceLT, Nat.reduceLeDiff, Nat.reduceEqDiff, Nat.reduceBEq, Int.reduceAdd, Int.reduceSub, Int.reduceMul, Int.reduceNeg, Int.reduceLE, Int.reduceLT, Int.reduceEq, Int.reduceNe, Int.reduceToNat, ↓reduceIte, reduceCtorEq, implies_true, forall_const, eq_self, ne_eq, wtAll, Tryz.ntmps17, Tryz.results17, hh_i2]) ?_ | refine HSub_drop2 (by simp only [eq_self, hh_i2]) ?_ | refine HSub_keep_eq (by simp only [vsAll, binA, binLitA, intA, aggA, aggV, boolA, nilA2, isConst, unA, loadA, loadRow, partA, partOk, fieldAddrA, indexAddrA, indexA, fieldA, extractA, lenA, nilCheckA, boxA, boxZ, cellA, cellsA, fillA, okParts, buildSliceA, buildMutA, makeSliceA, partIdx, elemsA, lensA, ifaceA, convA, mmA, pickA, okAll, stAll, opsA, partsA, partsOk, opA, allocA, boxMutA, newCells, okCells, storeObj, appendA, guardV, taA, nM, mapUpA, lookA, sliceA, sliceM, sliceS, boundsA, opO, okO, copyA, dstOk, nilA, quietOk, nilSliceOp, deferV, panA, resA, argFr, retA.eq_1, retA.eq_2, Nat.reduceAdd, Nat.reduceSub, Nat.reduceMul, Nat.reduceLT, Nat.reduceLeDiff, Nat.reduceEqDiff, Nat.reduceBEq, Int.reduceAdd, Int.reduceSub, Int.reduceMul, Int.reduceNeg, Int.reduceLE, Int.reduceLT, Int.reduceEq, Int.reduceNe, Int.reduceToNat, ↓reduceIte, reduceCtorEq, implies_true, forall_const, eq_self, ne_eq, wtAll, Tryz.ntmps17, Tryz.results17, hh_i2]) ?_)))
 ·refine AV.Le.aggD rfl fun j hj => ?_
  match j, hj with
  | 0, _ =>
    refine AV.Le.rsl fun i hi => ?_
    match i, hi with
    | 0, _ => rfl
    | 1, _ => rfl
    | 2, _ => rfl
  | 1, _ => exact AV.Le.refl _
  | 2, _ =>
    refine AV.Le.rsl fun i hi => ?_
    match i, hi with
    | 0, _ => rfl
    | 1, _ => rfl
  | 3, _ =>
    refine AV.Le.rsl fun i hi => ?_
    match i, hi with
    | 0, _ => rfl
    | 1, _ => rfl
    | 2, _ => rfl
  | 4, _ =>
    refine AV.Le.rsl fun i hi => ?_
    match i, hi with
    | 0, _ => rfl
theorem rspans_tri (a b : List (Int × Int)) (H : Hp) (ha : a.length < 2 ^ 60) (hb : b.length < 2 ^ 60) : PTri Tryz.prog (fnA 23) [spansAV a, spansAV b] H (boo (decide (a = b))) := by
 refine tri_v0 (fun _ => false) Tryz.func23 (by kernel_rfl) rfl (by simp only [List.length_append, List.length_cons, List.length_nil, Tryz.ntmps23]; decide) ?_
 simp only [vsAll, okAll, stAll, opsA, opA, dstOk, nilSliceOp, argFr, Nat.reduceLT, Nat.reduceEqDiff, ↓reduceIte, reduceCtorEq, eq_self, Tryz.ntmps23]
 refine callK_pure (spans_tri a b _ ha hb) ?_
 simp only [vsAll, opA, dstOk, nilSliceOp, resA, retA.eq_1, Nat.reduceLT, ↓reduceIte, eq_self, Tryz.results23]
theorem rints_tri (a b : List Int) (H : Hp) (ha : a.length < 2 ^ 60) (hb : b.length < 2 ^ 60) : PTri Tryz.prog (fnA 13) [intsAV a, intsAV b] H (boo (decide (a = b))) := by
 refine tri_v0 (fun _ => false) Tryz.func13 (by kernel_rfl) rfl (by simp only [List.length_append, List.length_cons, List.length_nil, Tryz.ntmps13]; decide) ?_
 simp only [vsAll, okAll, stAll, opsA, opA, dstOk, nilSliceOp, argFr, Nat.reduceLT, Nat.reduceEqDiff, ↓reduceIte, reduceCtorEq, eq_self, Tryz.ntmps13]
 refine callK_pure (ints_tri a b _ ha hb) ?_
 simp only [vsAll, opA, dstOk, nilSliceOp, resA, retA.eq_1, Nat.reduceLT, ↓reduceIte, eq_self, Tryz.results13]
theorem eq_sp : eqT Tryz.prog 43 2 := eqT_of (by kernel_rfl) (by kernel_rfl) (by kernel_rfl) (by kernel_rfl) (by kernel_rfl)
theorem int3 (a b c : Int) : AV.Le (.rsl 3 1 (fun i => [[i64 a], [i64 b], [i64 c]].getD i [])) (intsAV [a, b, c]) := AV.Le.rsl fun i hi => by
 match i, hi with
 | 0, _ => rfl
 | 1, _ => rfl
 | 2, _ => rfl
theorem sp3 (a b c d e f : Int) : AV.Le (.rsl 3 2 (fun i => [[i64 a, i64 b], [i64 c, i64 d], [i64 e, i64 f]].getD i [])) (spansAV [(a, b), (c, d), (e, f)]) := AV.Le.rsl fun i hi => by
 match i, hi with
 | 0, _ => rfl
 | 1, _ => rfl
 | 2, _ => rfl
/-- A call with a plan that is written out. -/
theorem tri3 {f : Nat} {v : AV} {p : Pu} {a b c : Int} {H : Hp} (h : PTri Tryz.prog (fnA f) [p.av, intsAV [a, b, c]] H v) : PTri Tryz.prog (fnA f) [p.av, .rsl 3 1 (fun i => [[i64 a], [i64 b], [i64 c]].getD i [])] H v := Tri.args h rfl fun j hj => by
 match j, hj with
 | 0, _ => exact AV.Le.refl _
 | 1, _ => exact int3 a b c
theorem tri3o {f : Nat} {v : AV} {p : Pu} {a b c h : Int} {H : Hp} (q : PTri Tryz.prog (fnA f) [p.av, intsAV [a, b, c], i64 h] H v) : PTri Tryz.prog (fnA f) [p.av, .rsl 3 1 (fun i => [[i64 a], [i64 b], [i64 c]].getD i []), i64 h] H v := Tri.args q rfl fun j hj => by
 match j, hj with
 | 0, _ => exact AV.Le.refl _
 | 1, _ => exact int3 a b c
 | 2, _ => exact AV.Le.refl _
theorem awake_tri (H : Hp) : PTri Tryz.prog (fnA 6) [] H (boo true) := by
 have kn := sm_ok.near
 refine Tri.drop ?_
 refine tri_v0 (fun _ => false) Tryz.func6 (by kernel_rfl) rfl (by simp only [List.length_append, List.length_nil, Tryz.ntmps6]; decide) ?_
 simp only [vsAll, okAll, stAll, opsA, opA, dstOk, nilSliceOp, Nat.reduceLT, Int.reduceNeg, eq_self, Tryz.ntmps6]
 refine callK_pure (sample_tri 14 _) ?_
 simp only [vsAll, loadA, loadRow, partA, partOk, cellA, cellsA, okParts, buildSliceA, partIdx, elemsA, lensA, okAll, stAll, opsA, partsA, partsOk, opA, allocA, newCells, okCells, storeObj, dstOk, Nat.reduceAdd, Nat.reduceMul, Nat.reduceLT, Nat.reduceLeDiff, Nat.reduceEqDiff, Int.reduceNeg, ↓reduceIte, eq_self, wtAll]
 intro i1 hh_i1; (try simp only [Hp.set_none, ite_none] at hh_i1)
 refine callK_pure (tri3 (wplay_tri (smP 14) [0, 0, 0] _ kn (by decide))) ?_
 simp only [vsAll, loadA, loadRow, partA, partOk, extractA, cellA, cellsA, okParts, buildSliceA, partIdx, elemsA, lensA, okAll, stAll, opsA, partsA, partsOk, opA, dstOk, nilSliceOp, Nat.reduceAdd, Nat.reduceMul, Nat.reduceLT, Nat.reduceLeDiff, Nat.reduceEqDiff, Int.reduceNeg, ↓reduceIte, eq_self, wtAll, sm1, sm2]
 refine callK_pure (tri3o (wout_tri (smP 14) [0, 0, 0] 1 _ kn (by decide))) ?_
 simp only [vsAll, loadA, loadRow, partA, partOk, extractA, cellA, cellsA, okParts, buildSliceA, partIdx, elemsA, lensA, okAll, stAll, opsA, partsA, partsOk, opA, allocA, newCells, okCells, storeObj, dstOk, nilSliceOp, Nat.reduceAdd, Nat.reduceMul, Nat.reduceLT, Nat.reduceLeDiff, Nat.reduceEqDiff, Int.reduceNeg, ↓reduceIte, eq_self, wtAll, sm3, sm4]
 intro i4 hh_i4; (try simp only [ite_none] at hh_i4)
 simp only [vsAll, Nat.reduceLT, Int.reduceNeg, ↓reduceIte, eq_self, hh_i4]
 refine callK_pure (tri3 (flo_tri (smP 14) [1, -1, 0] _ kn (by decide))) ?_
 simp only [vsAll, loadA, loadRow, partA, partOk, extractA, cellA, cellsA, okParts, buildSliceA, partIdx, elemsA, lensA, okAll, stAll, opsA, partsA, partsOk, opA, dstOk, nilSliceOp, Nat.reduceAdd, Nat.reduceMul, Nat.reduceLT, Nat.reduceLeDiff, Nat.reduceEqDiff, Int.reduceNeg, ↓reduceIte, eq_self, wtAll, hh_i4, sm5, sm6]
 refine callK_pure (tri3 (los_tri (smP 14) [1, -1, 0] _ kn (by decide))) ?_
 simp only [vsAll, loadA, loadRow, partA, partOk, extractA, cellA, cellsA, okParts, buildSliceA, partIdx, elemsA, lensA, okAll, stAll, opsA, partsA, partsOk, opA, dstOk, nilSliceOp, Nat.reduceAdd, Nat.reduceMul, Nat.reduceLT, Nat.reduceLeDiff, Nat.reduceEqDiff, Int.reduceNeg, ↓reduceIte, eq_self, wtAll, hh_i4, sm7, sm8]
 refine callK_pure (tri3 (spa_tri (smP 14) [0, 1, 0] _ kn (by decide))) ?_
 simp only [vsAll, loadA, loadRow, partA, partOk, extractA, okAll, stAll, opsA, opA, dstOk, nilSliceOp, Nat.reduceAdd, Nat.reduceLT, Nat.reduceEqDiff, Int.reduceNeg, ↓reduceIte, eq_self, wtAll, hh_i4, sm9, sm10]
 refine callK_pure (few_tri (smP 14) _ kn) ?_
 simp only [vsAll, loadA, loadRow, partA, partOk, extractA, okAll, stAll, opsA, opA, dstOk, nilSliceOp, Nat.reduceAdd, Nat.reduceLT, Nat.reduceEqDiff, Int.reduceNeg, ↓reduceIte, eq_self, wtAll, hh_i4, sm11, sm12, sm13]
 refine callK_pure (unt_tri (smP 14) _ kn) ?_
 simp only [vsAll, loadA, loadRow, partA, partOk, extractA, okAll, stAll, opsA, opA, dstOk, nilSliceOp, Nat.reduceAdd, Nat.reduceLT, Nat.reduceEqDiff, Int.reduceNeg, ↓reduceIte, eq_self, wtAll, hh_i4, sm14, sm15]
 refine callK_pure (wch_tri (smP 14) _ kn) ?_
 simp only [vsAll, loadA, loadRow, partA, partOk, extractA, cellA, cellsA, okParts, buildSliceA, partIdx, elemsA, lensA, okAll, stAll, opsA, partsA, partsOk, opA, dstOk, nilSliceOp, Nat.reduceAdd, Nat.reduceMul, Nat.reduceLT, Nat.reduceLeDiff, Nat.reduceEqDiff, Int.reduceNeg, ↓reduceIte, eq_self, wtAll, hh_i4, sm16, sm17]
 refine callK_pure (tri3 (flo_tri (smP 14) [0, 1, 0] _ kn (by decide))) ?_
 simp only [vsAll, extractA, opA, dstOk, nilSliceOp, Nat.reduceAdd, Nat.reduceLT, Nat.reduceEqDiff, Int.reduceNeg, ↓reduceIte, eq_self, sm18, sm19]
 refine vs_draw2 [0, 0, 0, 0, 0, 0, 0, 0, 0, 0, 0, 0, 0, 0, 0, 0, 0, 0, 0, 0, 0, 0, 0, 0, 0, 0, 0, 0, 0, 0, 0, 0, 0, 0, 0, 0] [] [0, 1, 2, 3, 4, 5, 6, 7, 8, 9, 10, 11, 12, 13, 14, 15, 16, 17, 18, 19, 20, 21, 22, 23, 24, 25, 26, 27, 28, 29, 30, 31, 32, 33, 34, 35] (by decide +kernel) ?_
 simp only [vsAll, opA, dstOk, Nat.reduceLT, Nat.reduceEqDiff, Int.reduceNeg, ↓reduceIte, eq_self]
 refine qcall _ ⟨trivial, by simp only [vsAll, okAll, opsA, opA], span_tri 1 6 _⟩ ?_
 simp only [vsAll, dstOk, Nat.reduceLT, Int.reduceNeg, eq_self]
 refine qcall _ ⟨trivial, by simp only [vsAll, okAll, opsA, opA], span_tri 0 8 _⟩ ?_
 simp only [vsAll, dstOk, Nat.reduceLT, Int.reduceNeg, eq_self]
 refine qcall _ ⟨trivial, by simp only [vsAll, okAll, opsA, opA], span_tri 2 13 _⟩ ?_
 simp only [vsAll, cellsA, okParts, buildSliceA, partIdx, elemsA, lensA, partsA, partsOk, opA, dstOk, Nat.reduceAdd, Nat.reduceMul, Nat.reduceLT, Nat.reduceLeDiff, Nat.reduceEqDiff, Int.reduceNeg, ↓reduceIte, eq_self, wtAll]
 refine qcall _ ⟨trivial, by simp only [vsAll, okAll, opsA, opA, Nat.reduceEqDiff, Int.reduceNeg, ↓reduceIte, eq_self], Tri.args (args' := [spansAV [(1, 6), (0, 8), (2, 13)], spansAV [(1, 6), (0, 8), (2, 13)]]) (rspans_tri [(1, 6), (0, 8), (2, 13)] [(1, 6), (0, 8), (2, 13)] _ (by decide) (by decide)) rfl fun j hj => ?_⟩ ?_
 ·match j, hj with
  | 0, _ => exact AV.Le.refl _
  | 1, _ => exact sp3 1 6 0 8 2 13
 simp only [vsAll, binA, binLitA, intA, unA, loadA, loadRow, partA, partOk, pickA, opA, guardV, dstOk, Nat.reduceLT, Nat.reduceEqDiff, Int.reduceNeg, ↓reduceIte, implies_true, eq_self, wtAll]
 refine qgcall _ (fun hg => ⟨by simp only [vsAll, opA], by simp only [vsAll, okAll, opsA, opA], span_tri 6 7 _⟩) ?_
 simp only [vsAll, binA, binLitA, intA, aggA, cellA, cellsA, okParts, buildSliceA, partIdx, elemsA, lensA, pickA, partsA, partsOk, opA, guardV, dstOk, Nat.reduceAdd, Nat.reduceMul, Nat.reduceLT, Nat.reduceLeDiff, Nat.reduceEqDiff, Int.reduceNeg, ↓reduceIte, implies_true, forall_const, eq_self, wtAll]
 refine ⟨eq_sp, gcall (boo true) (fun hg => ⟨by simp only [vsAll, opA], by simp only [vsAll, okAll, opsA, opA, Nat.reduceEqDiff, Int.reduceNeg, ↓reduceIte, eq_self], Tri.args (args' := [intsAV [0, -1, 0], intsAV [0, -1, 0]]) (rints_tri [0, -1, 0] [0, -1, 0] _ (by decide) (by decide)) rfl fun j hj => ?_⟩) ?_⟩
 ·match j, hj with
  | 0, _ => exact AV.Le.refl _
  | 1, _ => exact int3 0 (-1) 0
 simp only [vsAll, binA, binLitA, intA, pickA, opA, guardV, dstOk, nilSliceOp, resA, retA.eq_1, Nat.reduceLT, Nat.reduceEqDiff, Int.reduceNeg, ↓reduceIte, implies_true, eq_self, Tryz.results6]
 exact dropR_pure rfl (by (repeat (first | exact HSub_rfl | refine HSub_put_eq (by simp only [vsAll, binA, binLitA, intA, aggA, aggV, boolA, nilA2, isConst, unA, loadA, loadRow, partA, partOk, fieldAddrA, indexAddrA, indexA, fieldA, extractA, lenA, nilCheckA, boxA, boxZ, cellA, cellsA, fillA, okParts, buildSliceA, buildMutA, makeSliceA, partIdx, elemsA, lensA, ifaceA, convA, mmA, pickA, okAll, stAll, opsA, partsA, partsOk, opA, allocA, boxMutA, newCells, okCells, storeObj, appendA, guardV, taA, nM, mapUpA, lookA, sliceA, sliceM, sliceS, boundsA, opO, okO, copyA, dstOk, nilA, quietOk, nilSliceOp, deferV, panA, resA, argFr, retA.eq_1, retA.eq_2, Nat.reduceAdd, Nat.reduceSub, Nat.reduceMul, Nat.reduceLT, Nat.reduceLeDiff, Nat.reduceEqDiff, Nat.reduceBEq, Int.reduceAdd, Int.reduceSub, Int.reduceMul, Int.reduceNeg, Int.reduceLE, Int.reduceLT, Int.reduceEq, Int.reduceNe, Int.reduceToNat, ↓reduceIte, reduceCtorEq, implies_true, forall_const, eq_self, ne_eq, wtAll, Tryz.ntmps6, Tryz.results6, hh_i1, hh_i4]) ?_ | refine HSub_drop2 (by simp only [eq_self, hh_i1, hh_i4]) ?_ | refine HSub_keep_eq (by simp only [vsAll, binA, binLitA, intA, aggA, aggV, boolA, nilA2, isConst, unA, loadA, loadRow, partA, partOk, fieldAddrA, indexAddrA, indexA, fieldA, extractA, lenA, nilCheckA, boxA, boxZ, cellA, cellsA, fillA, okParts, buildSliceA, buildMutA, makeSliceA, partIdx, elemsA, lensA, ifaceA, convA, mmA, pickA, okAll, stAll, opsA, partsA, partsOk, opA, allocA, boxMutA, newCells, okCells, storeObj, appendA, guardV, taA, nM, mapUpA, lookA, sliceA, sliceM, sliceS, boundsA, opO, okO, copyA, dstOk, nilA, quietOk, nilSliceOp, deferV, panA, resA, argFr, retA.eq_1, retA.eq_2, Nat.reduceAdd, Nat.reduceSub, Nat.reduceMul, Nat.reduceLT, Nat.reduceLeDiff, Nat.reduceEqDiff, Nat.reduceBEq, Int.reduceAdd, Int.reduceSub, Int.reduceMul, Int.reduceNeg, Int.reduceLE, Int.reduceLT, Int.reduceEq, Int.reduceNe, Int.reduceToNat, ↓reduceIte, reduceCtorEq, implies_true, forall_const, eq_self, ne_eq, wtAll, Tryz.ntmps6, Tryz.results6, hh_i1, hh_i4]) ?_)))
theorem far_near {p : Pu} {n : Nat} (h : farB p n = false) : Near p ∧ n ≤ 40 := by
 have := of_decide_eq_false h
 exact ⟨⟨by omega, by omega, ⟨by omega, by omega⟩⟩, by omega⟩
end Go.Proofs.YtkcgocmjaggdiaaGreat
end
section
set_option linter.unusedVariables false
set_option linter.unusedSimpArgs false
namespace Go.Proofs.YtkcgocmjaggdiaaGreat
open Go.V Wl
/-- A watch, or none, of a set. -/
def okw (p : Pu) (S : Nat) (w : Int) : Prop := -1 ≤ w ∧ w < p.ws.length ∧ (0 ≤ w → S.testBit w.toNat = true)
/-- A list goes on from a plan so far. -/
structure Goes (p : Pu) (S : Nat) (l x : List Int) : Prop where
 at_ : ∀ w ∈ x, okw p S w
 dry : ∀ i, l.length < i → i ≤ l.length + x.length → watV p (l ++ x) false i ≤ p.ca
/-- In how many hours somebody pumps. -/
def pumN : List Int → Int
 | [] => 0
 | w :: x => costW w (pumN x)
theorem cost_mono {w a b : Int} (h : a ≤ b) : costW w a ≤ costW w b := by unfold costW; split <;> omega
theorem cost_inj {w a b : Int} (h : costW w a = costW w b) : a = b := by unfold costW at h; split at h <;> omega
theorem goes_nil (p : Pu) (S : Nat) (l : List Int) : Goes p S l [] := ⟨fun w h => (by cases h), fun i h1 h2 => (by simp at h2; omega)⟩
theorem goes_cons {p : Pu} {S : Nat} {l : List Int} {w : Int} {x : List Int} : Goes p S l (w :: x) ↔ okw p S w ∧ watV p (l ++ [w]) false (l.length + 1) ≤ p.ca ∧ Goes p S (l ++ [w]) x := by
 have e : l ++ w :: x = (l ++ [w]) ++ x := by simp
 have el : (l ++ [w]).length = l.length + 1 := by simp
 constructor
 ·rintro ⟨h1, h2⟩
  refine ⟨h1 w List.mem_cons_self, ?_, ⟨fun v hv => h1 v (List.mem_cons_of_mem _ hv), fun i hi hj => ?_⟩⟩
  ·have := h2 (l.length + 1) (by omega) (by simp)
   rw [e, wat_pre p (l ++ [w]) x false _ (by omega)] at this
   exact this
  ·rw [← e]
   rw [el] at hi hj
   exact h2 i (by omega) (by simp; omega)
 ·rintro ⟨h1, h2, h3⟩
  refine ⟨fun v hv => ?_, fun i hi hj => ?_⟩
  ·rcases List.mem_cons.1 hv with h | h
   ·rw [h]; exact h1
   ·exact h3.at_ v h
  ·rw [e]
   by_cases h : i = l.length + 1
   ·subst h
    rw [wat_pre p (l ++ [w]) x false _ (by omega)]
    exact h2
   ·exact h3.dry i (by omega) (by simp at hj; rw [el]; omega)
theorem step_rng {p : Pu} {S : Nat} {f : List Int → Option Int} {l : List Int} {acc : Option Int} {w y : Int} (h : stepB p S f l acc w = some y) :
 acc = some y ∨ (¬ ((0 ≤ w ∧ S.testBit w.toNat = false) ∨ ¬ watV p (l ++ [w]) false (l.length + 1) ≤ p.ca) ∧ ∃ x, f (l ++ [w]) = some x ∧ costW w x = y) := by
 unfold stepB at h
 split at h
 ·exact .inl h
 ·rename_i hc
  split at h
  ·exact .inl h
  ·rename_i x hx
   split at h
   ·simp only [Option.some.injEq] at h; exact .inr ⟨hc, x, hx, h⟩
   ·split at h
    ·simp only [Option.some.injEq] at h; exact .inr ⟨hc, x, hx, h⟩
    ·exact .inl h
theorem step_le {p : Pu} {S : Nat} {f : List Int → Option Int} {l : List Int} {acc : Option Int} {w : Int} {a : Int} (h : acc = some a) : ∃ y, stepB p S f l acc w = some y ∧ y ≤ a := by
 subst h
 unfold stepB
 split
 ·exact ⟨a, rfl, Int.le_refl _⟩
 ·split
  ·exact ⟨a, rfl, Int.le_refl _⟩
  ·simp only []
   split
   ·exact ⟨_, rfl, by omega⟩
   ·exact ⟨a, rfl, Int.le_refl _⟩
theorem step_new {p : Pu} {S : Nat} {f : List Int → Option Int} {l : List Int} {acc : Option Int} {w : Int} {x : Int} (hc : ¬ ((0 ≤ w ∧ S.testBit w.toNat = false) ∨ ¬ watV p (l ++ [w]) false (l.length + 1) ≤ p.ca)) (h : f (l ++ [w]) = some x) : ∃ y, stepB p S f l acc w = some y ∧ y ≤ costW w x := by
 unfold stepB
 rw [if_neg hc, h]
 simp only []
 split
 ·exact ⟨_, rfl, Int.le_refl _⟩
 ·split
  ·exact ⟨_, rfl, Int.le_refl _⟩
  ·exact ⟨_, rfl, by omega⟩
theorem okw_of {p : Pu} {S : Nat} {l : List Int} {i : Nat} (hi : i < p.ws.length + 1) (hc : ¬ ((0 ≤ (i : Int) - 1 ∧ S.testBit ((i : Int) - 1).toNat = false) ∨ ¬ watV p (l ++ [(i : Int) - 1]) false (l.length + 1) ≤ p.ca)) : okw p S ((i : Int) - 1) ∧ watV p (l ++ [(i : Int) - 1]) false (l.length + 1) ≤ p.ca := by
 refine ⟨⟨by omega, by omega, fun h => ?_⟩, Classical.byContradiction fun h => hc (.inr h)⟩
 cases hb : S.testBit ((i : Int) - 1).toNat with
 | true => rfl
 | false => exact absurd (.inl ⟨h, hb⟩) hc
theorem rowB_att {p : Pu} {S : Nat} {f : List Int → Option Int} {l : List Int} : ∀ j y, j ≤ p.ws.length + 1 → rowB p S f l j = some y → ∃ w, okw p S w ∧ watV p (l ++ [w]) false (l.length + 1) ≤ p.ca ∧ ∃ x, f (l ++ [w]) = some x ∧ costW w x = y := by
 intro j
 induction j with
 | zero => intro y _ h; cases h
 | succ j ih =>
   intro y hj h
   rcases step_rng h with h | ⟨hc, h⟩
   ·exact ih y (by omega) h
   ·obtain ⟨h1, h2⟩ := okw_of (by omega) hc
    exact ⟨_, h1, h2, h⟩
theorem rowB_le {p : Pu} {S : Nat} {f : List Int → Option Int} {l : List Int} {w : Int} {x : Int} (hw : okw p S w) (hd : watV p (l ++ [w]) false (l.length + 1) ≤ p.ca) (hx : f (l ++ [w]) = some x) : ∀ j : Nat, w + 1 < (j : Int) → ∃ y, rowB p S f l j = some y ∧ y ≤ costW w x := by
 intro j
 induction j with
 | zero => intro h; have := hw.1; omega
 | succ j ih =>
   intro h
   by_cases e : w = (j : Int) - 1
   ·rw [rowB, ← e]
    refine step_new (fun hc => ?_) hx
    rcases hc with ⟨h1, h2⟩ | h1
    ·rw [hw.2.2 h1] at h2; cases h2
    ·exact h1 hd
   ·obtain ⟨y, h1, h2⟩ := ih (by omega)
    obtain ⟨z, h3, h4⟩ := step_le (p := p) (S := S) (f := f) (l := l) (w := (j : Int) - 1) h1
    exact ⟨z, h3, by omega⟩
theorem least_att {p : Pu} {S : Nat} : ∀ n l m, leastB p S n l = some m → ∃ x, x.length = n ∧ Goes p S l x ∧ pumN x = m := by
 intro n
 induction n with
 | zero => intro l m h; simp only [leastB, Option.some.injEq] at h; exact ⟨[], rfl, goes_nil _ _ _, h⟩
 | succ n ih =>
   intro l m h
   obtain ⟨w, h1, h2, y, h3, h4⟩ := rowB_att _ _ (Nat.le_refl _) h
   obtain ⟨x, g1, g2, g3⟩ := ih _ _ h3
   exact ⟨w :: x, by simp [g1], goes_cons.2 ⟨h1, h2, g2⟩, by rw [pumN, g3]; exact h4⟩
theorem least_le {p : Pu} {S : Nat} : ∀ n l x, x.length = n → Goes p S l x → ∃ m, leastB p S n l = some m ∧ m ≤ pumN x := by
 intro n
 induction n with
 | zero =>
   intro l x hx _
   rw [List.eq_nil_of_length_eq_zero hx]
   exact ⟨0, rfl, Int.le_refl _⟩
 | succ n ih =>
   intro l x hx h
   cases x with
   | nil => cases hx
   | cons w x =>
     obtain ⟨h1, h2, h3⟩ := goes_cons.1 h
     obtain ⟨m, g1, g2⟩ := ih _ x (by simpa using hx) h3
     have hw := h1
     unfold okw at hw
     obtain ⟨y, f1, f2⟩ := rowB_le h1 h2 g1 (p.ws.length + 1) (by omega)
     exact ⟨y, f1, by have := cost_mono (w := w) g2; rw [pumN]; omega⟩
/-- One list comes before another one, or is the same. -/
def lexB : List Int → List Int → Prop
 | [], _ => True
 | _ :: _, [] => False
 | a :: x, b :: y => a < b ∨ a = b ∧ lexB x y
theorem few_first {p : Pu} {S : Nat} (hS : ∀ w, w < p.ws.length → S.testBit w = true) : ∀ n l m, leastB p S n l = some m → ∃ x, fewL p S n l m = l ++ x ∧ x.length = n ∧ Goes p S l x ∧ pumN x = m ∧ ∀ y, y.length = n → Goes p S l y → pumN y = m → lexB x y := by
 intro n
 induction n with
 | zero => intro l m h; simp only [leastB, Option.some.injEq] at h; exact ⟨[], by simp [fewL], rfl, goes_nil _ _ _, h, fun y _ _ _ => trivial⟩
 | succ n ih =>
   intro l m h
   obtain ⟨j, h1, h2, h3, h4⟩ := first_some h
   obtain ⟨m', h5, h6⟩ := ok_some h3
   have hd : watV p (l ++ [(j : Int) - 1]) false (l.length + 1) ≤ p.ca := by
    unfold okB at h3
    rw [h5] at h3
    simp only [Bool.and_eq_true, decide_eq_true_eq] at h3
    exact h3.1
   obtain ⟨x, g1, g2, g3, g4, g5⟩ := ih _ _ h5
   have hw : okw p S ((j : Int) - 1) := ⟨by omega, by omega, fun h => hS _ (by omega)⟩
   refine ⟨((j : Int) - 1) :: x, ?_, by simp [g2], goes_cons.2 ⟨hw, hd, g3⟩, by rw [pumN, g4]; exact h6, fun y hy hg hp => ?_⟩
   ·rw [few_at h2 h3 h4 h5, g1]; simp
   ·cases y with
    | nil => cases hy
    | cons w y =>
      obtain ⟨k1, k2, k3⟩ := goes_cons.1 hg
      obtain ⟨q, q1, q2⟩ := least_le n _ y (by simpa using hy) k3
      have hw := k1
      unfold okw at hw
      obtain ⟨z, z1, z2⟩ := rowB_le k1 k2 q1 (p.ws.length + 1) (by omega)
      have ez : z = m := by
       have : leastB p S (n + 1) l = some z := z1
       rw [h] at this
       exact (Option.some.inj this).symm
      rw [pumN] at hp
      have hq : costW w q = m := by have := cost_mono (w := w) q2; omega
      have hok : okB p S n l m w = true := by
       unfold okB
       rw [q1]
       simp only [Bool.and_eq_true, decide_eq_true_eq]
       exact ⟨k2, hq⟩
      have hge : (j : Int) - 1 ≤ w := by
       apply Classical.byContradiction
       intro hlt
       have e : ((w + 1).toNat : Int) - 1 = w := by omega
       have := h4 (w + 1).toNat (by omega)
       rw [e, hok] at this
       cases this
      by_cases e : (j : Int) - 1 = w
      ·right
       refine ⟨e, g5 y (by simpa using hy) (by rw [e]; exact k3) ?_⟩
       rw [e] at h6
       exact cost_inj (w := w) (by omega)
      ·left; omega
end Go.Proofs.YtkcgocmjaggdiaaGreat
end
section
set_option linter.unusedVariables false
set_option linter.unusedSimpArgs false
namespace Go.Proofs.YtkcgocmjaggdiaaGreat
open Go.V Wl
theorem lost_cases (ca : Int) (L : List Int) : (lostV ca L = -1 ∧ ∀ i, i < L.length → L.getD i 0 ≤ ca) ∨ ∃ i : Nat, lostV ca L = (i : Int) ∧ i < L.length ∧ ca < L.getD i 0 ∧ ∀ j, j < i → L.getD j 0 ≤ ca := by
 unfold lostV
 cases h : (List.range L.length).find? fun i => decide (ca < L.getD i 0) with
 | none =>
   left
   rw [List.find?_eq_none] at h
   exact ⟨rfl, fun i hi => by have := h i (List.mem_range.2 hi); rw [decide_eq_true_eq] at this; omega⟩
 | some i =>
   right
   rw [List.find?_range_eq_some] at h
   exact ⟨i, rfl, List.mem_range.1 h.2.1, of_decide_eq_true h.1, fun j hj => by have := h.2.2 j hj; simp at this; exact this⟩
theorem safe_iff (p : Pu) (l : List Int) : safeB p l = true ↔ ∀ i, i < l.length → watV p l false (i + 1) ≤ p.ca := by
 unfold safeB
 rw [decide_eq_true_eq]
 rcases lost_cases p.ca (aftL p l false l.length) with ⟨h1, h2⟩ | ⟨i, h1, h2, h3, h4⟩
 ·rw [h1]
  rw [aft_len] at h2
  exact ⟨fun _ i hi => by have := h2 i hi; rwa [aft_at p l false hi] at this, fun _ => by decide⟩
 ·rw [aft_len] at h2
  rw [h1]
  rw [aft_at p l false h2] at h3
  exact ⟨fun h => by omega, fun h => by have := h i h2; omega⟩
theorem every_bit {p : Pu} {w : Nat} (h : w < p.ws.length) : (everyN p).testBit w = true := by
 unfold everyN
 rw [Nat.testBit_two_pow_sub_one]
 exact decide_eq_true h
theorem can_iff {p : Pu} {u S : Nat} : canB p u S = true ↔ ∃ x, x.length = u ∧ Goes p S [] x := by
 unfold canB
 rw [Option.isSome_iff_exists]
 exact ⟨fun ⟨m, h⟩ => let ⟨x, h1, h2, _⟩ := least_att u [] m h; ⟨x, h1, h2⟩, fun ⟨x, h1, h2⟩ => let ⟨m, h, _⟩ := least_le u [] x h1 h2; ⟨m, h⟩⟩
theorem few_zero {p : Pu} : fewE p = 0 ↔ errE p true = 0 ∧ canB p p.fl.length (everyN p) = true := by
 unfold fewE canB
 constructor
 ·intro h
  split at h
  ·rename_i h0
   split at h
   ·rename_i h1; exact ⟨h0, h1⟩
   ·omega
  ·rename_i h0; exact absurd h h0
 ·rintro ⟨h0, h1⟩; rw [if_pos h0, if_pos h1]
theorem few_none {p : Pu} (h0 : errE p true = 0) (h : fewE p ≠ 0) : fewE p = 4 := by
 unfold fewE at h ⊢
 rw [if_pos h0] at h ⊢
 split at h
 ·exact absurd rfl h
 ·rename_i h1; rw [if_neg h1]
/-- The plan that is told. -/
theorem few_spec {p : Pu} (h : fewE p = 0) : (fewP p).length = p.fl.length ∧ Goes p (everyN p) [] (fewP p) ∧ pumN (fewP p) = fewN p ∧ ∀ y, y.length = p.fl.length → Goes p (everyN p) [] y → fewN p ≤ pumN y ∧ (pumN y = fewN p → lexB (fewP p) y) := by
 have hc := (few_zero.1 h).2
 unfold canB at hc
 obtain ⟨m, hm⟩ := Option.isSome_iff_exists.1 hc
 have en : fewN p = m := by rw [fewN, if_pos h, hm]; rfl
 obtain ⟨x, h1, h2, h3, h4, h5⟩ := few_first (fun w hw => every_bit hw) _ _ _ hm
 have ep : fewP p = x := by rw [fewP, if_pos h, en, h1]; rfl
 rw [ep, en]
 refine ⟨h2, h3, h4, fun y hy hg => ⟨?_, h5 y hy hg⟩⟩
 obtain ⟨m', g1, g2⟩ := least_le _ _ y hy hg
 rw [hm] at g1
 cases g1
 exact g2
/-- What is pumped out in an hour, if watches are so strong. -/
def trS (p : Pu) (l : List Int) (st : Nat → Int) (i : Nat) : Int :=
 if l.getD i (-1) < 0 then 0 else max 0 (st (l.getD i (-1)).toNat - (p.wt (l.getD i (-1)).toNat).ti * (wornV p l (l.getD i (-1)).toNat i : Nat))
/-- The water after so many hours. -/
def trV (p : Pu) (l : List Int) (w : Int) (f st : Nat → Int) : Nat → Int
 | 0 => w
 | i + 1 => max 0 (trV p l w f st i + f i - trS p l st i)
def truL (p : Pu) (l : List Int) (w : Int) (f st : Nat → Int) (n : Nat) : List Int := (List.range n).map fun i => trV p l w f st (i + 1)
end Go.Proofs.YtkcgocmjaggdiaaGreat
end
section
set_option linter.unusedVariables false
set_option linter.unusedSimpArgs false
namespace Go.Proofs.YtkcgocmjaggdiaaGreat
open Go.V Wl
def firP (p : Pu) (n : Nat) : Pu := { p with fl := p.fl.take n }
theorem bool_ext {a b : Bool} (h : a = true ↔ b = true) : a = b := by
 cases a <;> cases b <;> simp_all
theorem goes_sub {p : Pu} {S T : Nat} {l x : List Int} (h : ∀ w, w < p.ws.length → S.testBit w = true → T.testBit w = true) (g : Goes p S l x) : Goes p T l x :=
 ⟨fun w hw => ⟨(g.at_ w hw).1, (g.at_ w hw).2.1, fun h0 => h _ (by have := (g.at_ w hw).2.1; omega) ((g.at_ w hw).2.2 h0)⟩, g.dry⟩
theorem can_sub {p : Pu} {u S T : Nat} (h : ∀ w, w < p.ws.length → S.testBit w = true → T.testBit w = true) (g : canB p u S = true) : canB p u T = true := by
 obtain ⟨x, h1, h2⟩ := can_iff.1 g
 exact can_iff.2 ⟨x, h1, goes_sub h h2⟩
def onlW (S : Nat) (i : Nat) (w : Wt) : Wt := if S.testBit i = true then w else { w with lo := 0, hi := 0 }
def onlP (p : Pu) (S : Nat) : Pu := { p with ws := (List.range p.ws.length).map fun i => onlW S i (p.wt i) }
/-- The same list with those watches alone that are in the set. -/
def inS (S : Nat) (w : Int) : Int := if 0 ≤ w ∧ S.testBit w.toNat = true then w else -1
theorem bit_le {S n : Nat} (hn : n ≤ 3) (h : S < 2 ^ n) : bitN S ≤ n := by
 have : n = 0 ∨ n = 1 ∨ n = 2 ∨ n = 3 := by omega
 unfold bitN
 rcases this with rfl | rfl | rfl | rfl <;> simp at h <;> omega
theorem findSome_first {α : Type} {f : Nat → Option α} {n : Nat} {a : α} (h : (List.range n).findSome? f = some a) : ∃ m, m < n ∧ f m = some a ∧ ∀ i, i < m → f i = none := by
 induction n with
 | zero => simp at h
 | succ n ih =>
   rw [List.range_succ, List.findSome?_append] at h
   cases h1 : (List.range n).findSome? f with
   | some b =>
     rw [h1] at h
     have hb : b = a := by simpa using h
     subst hb
     obtain ⟨m, g1, g2, g3⟩ := ih h1
     exact ⟨m, by omega, g2, g3⟩
   | none =>
     rw [h1] at h
     simp only [List.findSome?_cons, List.findSome?_nil, Option.none_or] at h
     refine ⟨n, by omega, ?_, fun i hi => List.findSome?_eq_none_iff.1 h1 i (List.mem_range.2 hi)⟩
     cases hf : f n with
     | none => rw [hf] at h; cases h
     | some b => rw [hf] at h; simpa using h
theorem wchO_some {p : Pu} {S : Nat} (k : Ok p) (h : wchO p = some S) : S < 2 ^ p.ws.length ∧ canB p p.fl.length S = true ∧ ∀ T, T < 2 ^ p.ws.length → canB p p.fl.length T = true → bitN S < bitN T ∨ bitN S = bitN T ∧ S ≤ T := by
 obtain ⟨m, h1, h2, h3⟩ := findSome_first h
 unfold setsO at h2
 rw [List.find?_range_eq_some] at h2
 obtain ⟨g1, g2, g3⟩ := h2
 unfold setB at g1
 rw [Bool.and_eq_true, decide_eq_true_eq] at g1
 refine ⟨List.mem_range.1 g2, g1.2, fun T hT hc => ?_⟩
 by_cases e1 : bitN T < m
 ·have := h3 _ e1
  unfold setsO at this
  rw [List.find?_eq_none] at this
  refine absurd ?_ (this T (List.mem_range.2 hT))
  unfold setB
  rw [hc]; simp
 ·by_cases e2 : bitN T = m
  ·right
   refine ⟨by omega, ?_⟩
   apply Classical.byContradiction
   intro hlt
   have := g3 T (by omega)
   unfold setB at this
   rw [hc, e2] at this
   simp at this
  ·left; omega
theorem wchO_none {p : Pu} (k : Ok p) (h : wchO p = none) {T : Nat} (hT : T < 2 ^ p.ws.length) : canB p p.fl.length T = false := by
 unfold wchO at h
 rw [List.findSome?_eq_none_iff] at h
 have := h (bitN T) (List.mem_range.2 (by have := bit_le k.nW hT; omega))
 unfold setsO at this
 rw [List.find?_eq_none] at this
 have := this T (List.mem_range.2 hT)
 unfold setB at this
 simpa using this
theorem every_in (p : Pu) : everyN p < 2 ^ p.ws.length := by
 have : 0 < 2 ^ p.ws.length := Nat.pow_pos (by decide)
 unfold everyN; omega
/-- The watches that are told. -/
theorem wch_spec {p : Pu} (k : Ok p) : wchE p = fewE p ∧ (wchE p = 0 → ∃ S : Nat, wchV p = (S : Int) ∧ S < 2 ^ p.ws.length ∧ canB p p.fl.length S = true ∧ ∀ T, T < 2 ^ p.ws.length → canB p p.fl.length T = true → bitN S < bitN T ∨ bitN S = bitN T ∧ S ≤ T) := by
 by_cases h0 : errE p true = 0
 ·cases hO : wchO p with
  | none =>
    have e1 : wchE p = 4 := by rw [wchE, if_pos h0, hO]; rfl
    have e2 : fewE p = 4 := few_none h0 fun hz => by
     have := (few_zero.1 hz).2
     rw [wchO_none k hO (every_in p)] at this
     cases this
    rw [e1, e2]
    exact ⟨rfl, fun h => by cases h⟩
  | some S =>
    have e1 : wchE p = 0 := by rw [wchE, if_pos h0, hO]; rfl
    obtain ⟨g1, g2, g3⟩ := wchO_some k hO
    have e2 : fewE p = 0 := few_zero.2 ⟨h0, can_sub (fun w hw _ => every_bit hw) g2⟩
    rw [e1, e2]
    exact ⟨rfl, fun _ => ⟨S, by rw [wchV, if_pos e1, hO]; rfl, g1, g2, g3⟩⟩
 ·have e1 : wchE p = errE p true := if_neg h0
  have e2 : fewE p = errE p true := if_neg h0
  rw [e1, e2]
  exact ⟨rfl, fun h => absurd h h0⟩
end Go.Proofs.YtkcgocmjaggdiaaGreat
end
section
set_option linter.unusedVariables false
set_option linter.unusedSimpArgs false
set_option maxHeartbeats 4000000
set_option maxRecDepth 100000
namespace Go.Proofs.YtkcgocmjaggdiaaGreat
open Go.V Wl
/-- May a watch, or none, come next? -/
def oneB (S j : Nat) : Bool := decide (j = 0) || S.testBit (j - 1)
/-- All lists that go on from one, for so many hours. -/
def plL (p : Pu) (S : Nat) : Nat → List Int → List (List Int)
 | 0, l => if safeB p l = true then [l] else []
 | n + 1, l => if safeB p l = true then (List.range (p.ws.length + 1)).flatMap fun j : Nat => if oneB S j then plL p S n (l ++ [(j : Int) - 1]) else [] else []
def plP (p : Pu) (S n : Nat) (l : List Int) (i : Nat) : List (List Int) := (List.range i).flatMap fun j : Nat => if oneB S j then plL p S n (l ++ [(j : Int) - 1]) else []
theorem plP_yes {p : Pu} {S n i : Nat} {l : List Int} (h : oneB S i = true) : plP p S n l (i + 1) = plP p S n l i ++ plL p S n (l ++ [(i : Int) - 1]) := by
 simp [plP, List.range_succ, h]
theorem plP_no {p : Pu} {S n i : Nat} {l : List Int} (h : oneB S i = false) : plP p S n l (i + 1) = plP p S n l i := by
 simp [plP, List.range_succ, h]
theorem plP_le {p : Pu} {S n i j : Nat} {l : List Int} (h : i ≤ j) : (plP p S n l i).length ≤ (plP p S n l j).length := by
 obtain ⟨d, rfl⟩ : ∃ d, j = i + d := ⟨j - i, by omega⟩
 induction d with
 | zero => exact Nat.le_refl _
 | succ d ih =>
   have := ih (by omega)
   rw [← Nat.add_assoc]
   cases hc : oneB S (i + d) with
   | true => rw [plP_yes hc, List.length_append]; omega
   | false => rw [plP_no hc]; exact this
theorem pl_len (p : Pu) (S : Nat) (hw : p.ws.length ≤ 3) : ∀ n l, (plL p S n l).length ≤ 4 ^ n := by
 intro n
 induction n with
 | zero => intro l; unfold plL; split <;> simp
 | succ n ih =>
   intro l
   unfold plL
   split
   ·have : ∀ i, (plP p S n l i).length ≤ i * 4 ^ n := fun i => by
     induction i with
     | zero => simp [plP]
     | succ i ihi =>
       cases hc : oneB S i with
       | true => rw [plP_yes hc, List.length_append, Nat.add_mul, Nat.one_mul]; exact Nat.add_le_add ihi (ih _)
       | false => rw [plP_no hc, Nat.add_mul, Nat.one_mul]; exact Nat.le_trans ihi (Nat.le_add_right _ _)
    have h1 := this (p.ws.length + 1)
    have h2 : (p.ws.length + 1) * 4 ^ n ≤ 4 * 4 ^ n := Nat.mul_le_mul_right _ (by omega)
    have h3 : 4 ^ (n + 1) = 4 * 4 ^ n := by rw [Nat.pow_succ, Nat.mul_comm]
    show (plP p S n l (p.ws.length + 1)).length ≤ _
    rw [h3]
    exact Nat.le_trans h1 h2
   ·simp
theorem rpower_tri (n : Nat) (H : Hp) (hn : n ≤ 60) : PTri Tryz.prog (fnA 63) [i64 n] H (i64 ((2 ^ n : Nat) : Int)) := by
 refine tri_v0 (fun _ => false) Tryz.func63 (by kernel_rfl) rfl (by simp only [List.length_append, List.length_cons, List.length_nil, Tryz.ntmps63]; decide) ?_
 simp only [vsAll, opA, dstOk, nilSliceOp, Nat.reduceLT, eq_self, Tryz.ntmps63]
 refine vs_loop (σ := Nat) (fun i => i ≤ n) (fun i => [(0, i64 n), (3, i64 ((2 ^ i : Nat) : Int)), (4, i64 i)]) (fun _ => H) (fun i => n - i) 0 (Nat.zero_le _) ?_ ?_ fun i hi => ?_
 ·simp only [vsAll, argFr, Nat.reduceEqDiff, ↓reduceIte, reduceCtorEq, eq_self, Int.natCast_zero, Nat.pow_zero, Int.natCast_one]
 ·simp only [HSub_refl]
 ·simp only [vsAll, binA, binLitA, intA, opA, dstOk, Nat.reduceLT, Nat.reduceEqDiff, ↓reduceIte, reduceCtorEq, eq_self]
  refine condD (fun hb => ?_) (fun hb => ?_)
  ·have h1 : 2 ^ (i + 1) ≤ 2 ^ 60 := Nat.pow_le_pow_right (by omega) (by omega)
   rw [Nat.pow_succ] at h1
   simp only [vsAll, binA, binLitA, intA, opA, dstOk, nilSliceOp, Nat.reduceLT, Nat.reduceEqDiff, ↓reduceIte, reduceCtorEq, eq_self]
   simp only [InR_i64]
   refine ⟨by omega, by omega, loop_next (i + 1) (by omega) (by omega) ?_ ?_⟩
   ·have e : 2 * ((2 ^ i : Nat) : Int) = ((2 ^ (i + 1) : Nat) : Int) := by rw [Nat.pow_succ]; omega
    simp only [vsAll, Nat.reduceEqDiff, ↓reduceIte, reduceCtorEq, eq_self, e, Int.natCast_add, Int.natCast_one]
   ·simp only [HSub_refl]
  ·have e : i = n := by omega
   subst e
   simp only [vsAll, opA, dstOk, nilSliceOp, resA, retA.eq_1, Nat.reduceLT, Nat.reduceEqDiff, ↓reduceIte, reduceCtorEq, eq_self, Tryz.results63]
theorem rhas_tri (S n : Nat) (H : Hp) (hn : n ≤ 60) (hS : S < 2 ^ 60) : PTri Tryz.prog (fnA 62) [i64 S, i64 n] H (boo (S.testBit n)) := by
 refine tri_v0 (fun _ => false) Tryz.func62 (by kernel_rfl) rfl (by simp only [List.length_append, List.length_cons, List.length_nil, Tryz.ntmps62]; decide) ?_
 simp only [vsAll, okAll, stAll, opsA, opA, dstOk, nilSliceOp, argFr, Nat.reduceLT, Nat.reduceEqDiff, ↓reduceIte, reduceCtorEq, eq_self, Tryz.ntmps62]
 refine callK_pure (rpower_tri n H hn) ?_
 simp only [vsAll, binA, binLitA, intA, opA, dstOk, nilSliceOp, resA, retA.eq_1, Nat.reduceLT, Nat.reduceEqDiff, Int.reduceEq, ↓reduceIte, eq_self, ne_eq, Tryz.results62]
 have h0 : 0 < 2 ^ n := Nat.pos_of_ne_zero (by simp)
 have h1 : (S : Int).tdiv ((2 ^ n : Nat) : Int) = ((S / 2 ^ n : Nat) : Int) := by rw [Int.tdiv_eq_ediv_of_nonneg (by omega)]; rfl
 have h2 : S / 2 ^ n ≤ S := Nat.div_le_self _ _
 refine ⟨⟨by omega, ?_⟩, by rw [has_eq]⟩
 rw [h1, InR_i64]
 generalize S / 2 ^ n = q at *
 omega
theorem cp_app (b : List Int) (z : Int) (i : Nat) (hi : i < b.length + 1) : appF b.length 1 (appF 0 b.length (fun i => []) (intF b)) (fun i => [[AV.lit (Value.int IntKind.i64 z)]].getD i []) i = intF (b ++ [z]) i := by
 rw [appF_at (by omega)]
 simp only [intF, getD_snoc]
 by_cases e : i = b.length
 ·rw [if_neg (by omega), if_pos e, e, Nat.sub_self]; rfl
 ·rw [if_pos (by omega), if_neg e, appF_at (by omega), if_neg (by omega), Nat.sub_zero]; rfl
def plR (p : Pu) (S n : Nat) (l : List Int) (id : Nat) (O : List (List Int)) (H : Hp) : Res → Hp → Prop := fun r H' =>
 r = .ret (.sl id 1 (O ++ plL p S n l).length) ∧ H' = H.set id (.row 1 (O ++ plL p S n l).length (llF (O ++ plL p S n l)))
theorem sub_call {p : Pu} {S n : Nat} {N : Int} {b : List Int} {z : Int} {id id1 : Nat} {O : List (List Int)} {X : Hp} {F : Nat → List AV} (hF : ∀ i, i < b.length + 1 → F i = intF (b ++ [z]) i) (h1 : X id1 = some (.row 1 (b.length + 1) F))
 (h : Tri Tryz.prog (fnA 36) [p.av, i64 N, i64 S, intsAV (b ++ [z]), .sl id 1 O.length] (X.del id1) (plR p S n (b ++ [z]) id O (X.del id1))) :
 Tri Tryz.prog (fnA 36) [p.av, i64 N, i64 S, .sl id1 1 (b.length + 1), .sl id 1 O.length] X (plR p S n (b ++ [z]) id O (X.del id1)) := by
 refine tri_freezeD (args' := [p.av, i64 N, i64 S, intsAV (b ++ [z]), .sl id 1 O.length]) h1 rfl (fun k hk => ?_) h
 match k, hk with
 | 0, _ => exact .same _
 | 1, _ => exact .same _
 | 2, _ => exact .same _
 | 3, _ =>
   have hl : (b ++ [z]).length = b.length + 1 := by simp
   show FrzD _ _ _ _ (AV.sl id1 1 (b.length + 1)) (AV.rsl (b ++ [z]).length 1 (intF (b ++ [z])))
   rw [hl]; exact .hit hF
 | 4, _ => exact .same _
theorem rplans_tri (p : Pu) (S : Nat) (k : Ok p) (hA : 0 < (allA p.ho).length) (hS : S < 2 ^ 60) : ∀ (n : Nat) (l : List Int) (id : Nat) (O : List (List Int)) (H : Hp), l.length + n ≤ p.fl.length → FirstP p l → H id = some (.row 1 O.length (llF O)) → O.length + (plL p S n l).length ≤ 1000000 →
 Tri Tryz.prog (fnA 36) [p.av, i64 ((l.length + n : Nat) : Int), i64 S, intsAV l, .sl id 1 O.length] H (plR p S n l id O H) := by
 have nF := k.nF
 have nW := k.nW
 intro n
 induction n with
 | zero =>
   intro l id O H hln hf ho hl
   refine Tri.drop ?_
   refine tri_v0 (mset [42]) Tryz.func36 (by kernel_rfl) rfl (by simp only [List.length_append, List.length_cons, List.length_nil, Tryz.ntmps36]; decide) ?_
   skip
   simp only [vsAll, loadA, loadRow, partA, partOk, boxA, boxZ, okAll, stAll, opsA, opA, dstOk, nilSliceOp, argFr, Nat.reduceAdd, Nat.reduceLT, Nat.reduceEqDiff, Nat.reduceBEq, Int.reduceNeg, ↓reduceIte, eq_self, wtAll, Tryz.ntmps36]
   refine callK_pure (rsafe_tri p l _ k.m hA hf (by ((try clear ho); omega)) (flowLe_ok k (by ((try clear ho); omega)))) ?_
   cases hs : safeB p l with
   | false =>
     have e : plL p S 0 l = [] := by unfold plL; rw [if_neg (by rw [hs]; decide)]
     simp only [vsAll, unA, opA, dstOk, nilSliceOp, resA, argFr, retA.eq_1, Nat.reduceLT, Nat.reduceEqDiff, Nat.reduceBEq, Int.reduceNeg, ↓reduceIte, eq_self, Tryz.results36]
     exact ⟨H.set id (.row 1 O.length (llF O)), HSub_put_eq ho HSub_rfl, by rw [e, List.append_nil], by rw [e, List.append_nil]⟩
   | true =>
     have e : plL p S 0 l = [l] := by unfold plL; rw [if_pos hs]
     rw [e] at hl
     simp only [List.length_cons, List.length_nil] at hl
     simp only [vsAll, binA, binLitA, intA, unA, lenA, cellA, cellsA, okParts, buildSliceA, partIdx, elemsA, lensA, partsA, partsOk, opA, appendA, dstOk, nilSliceOp, resA, argFr, retA.eq_1, Nat.reduceMul, Nat.reduceLT, Nat.reduceLeDiff, Nat.reduceEqDiff, Nat.reduceBEq, Int.reduceNeg, ↓reduceIte, eq_self, wtAll, Tryz.results36, ho]
     rw [app_ll _ l _ rfl]
     refine ⟨fun i hi => by (have : i = 0 := by ((try clear ho); omega)); subst this; simp only [vsAll, cellA, okCells, eq_self], by ((try clear ho); omega), by ((try clear ho); omega), _, HSub_rfl, ?_, ?_⟩
     ·rw [e]; simp
     ·rw [e]; simp
 | succ n ih =>
   intro l id O H hln hf ho hl
   refine Tri.drop ?_
   refine tri_v0 (mset [42]) Tryz.func36 (by kernel_rfl) rfl (by simp only [List.length_append, List.length_cons, List.length_nil, Tryz.ntmps36]; decide) ?_
   skip
   simp only [vsAll, loadA, loadRow, partA, partOk, boxA, boxZ, okAll, stAll, opsA, opA, dstOk, nilSliceOp, argFr, Nat.reduceAdd, Nat.reduceLT, Nat.reduceEqDiff, Nat.reduceBEq, Int.reduceNeg, ↓reduceIte, eq_self, wtAll, Tryz.ntmps36]
   refine callK_pure (rsafe_tri p l _ k.m hA hf (by ((try clear ho); omega)) (flowLe_ok k (by ((try clear ho); omega)))) ?_
   cases hs : safeB p l with
   | false =>
     have e : plL p S (n + 1) l = [] := by unfold plL; rw [if_neg (by rw [hs]; decide)]
     simp only [vsAll, unA, opA, dstOk, nilSliceOp, resA, argFr, retA.eq_1, Nat.reduceLT, Nat.reduceEqDiff, Nat.reduceBEq, Int.reduceNeg, ↓reduceIte, eq_self, Tryz.results36]
     exact ⟨H.set id (.row 1 O.length (llF O)), HSub_put_eq ho HSub_rfl, by rw [e, List.append_nil], by rw [e, List.append_nil]⟩
   | true =>
     have e : plL p S (n + 1) l = plP p S n l (p.ws.length + 1) := by unfold plL; rw [if_pos hs]; rfl
     rw [e] at hl
     have dn : decide ((l.length : Int) = ((l.length + (n + 1) : Nat) : Int)) = false := decide_eq_false (by ((try clear ho); omega))
     simp only [vsAll, binA, binLitA, intA, unA, lenA, opA, dstOk, nilSliceOp, argFr, Nat.reduceLT, Nat.reduceEqDiff, Nat.reduceBEq, Int.reduceNeg, ↓reduceIte, eq_self, wtAll, dn]
     refine vs_loop (σ := Nat) (fun i => i ≤ p.ws.length + 1) (fun i => [(1, i64 ((l.length + (n + 1) : Nat) : Int)), (2, i64 S), (3, intsAV l), (4, .sl id 1 (O ++ plP p S n l i).length), (5, pptr p), (11, i64 ((i : Int) - 1))])
      (fun i => H.set id (.row 1 (O ++ plP p S n l i).length (llF (O ++ plP p S n l i)))) (fun i => p.ws.length + 1 - i) 0 (Nat.zero_le _) ?_ ?_ fun i hi => ?_
     ·have e0 : O ++ plP p S n l 0 = O := by simp [plP]
      simp only [vsAll, argFr, Nat.reduceEqDiff, Int.reduceNeg, ↓reduceIte, eq_self, e0]
      try exact AV.Le.refl _
     ·have e0 : O ++ plP p S n l 0 = O := by simp [plP]
      rw [e0]
      exact HSub_put_eq ho HSub_rfl
     ·simp only [vsAll, binA, binLitA, intA, loadA, loadRow, partA, partOk, fieldAddrA, lenA, opA, dstOk, Nat.reduceLT, Nat.reduceEqDiff, ↓reduceIte, eq_self, wtAll]
      refine condD (fun hd => ?_) (fun hd => ?_)
      ·have his : i < p.ws.length + 1 := by ((try clear ho); omega)
       have hone : oneB S i = (decide ((i : Int) - 1 < 0) || S.testBit (i - 1)) := by unfold oneB; congr 1; exact decide_eq_decide.2 (by ((try clear ho); omega))
       have hcall : ∀ H : Hp, (!decide ((i : Int) - 1 < 0)) = true → PTri Tryz.prog (fnA 62) [i64 S, i64 ((i : Int) - 1)] H (boo (S.testBit (i - 1))) := fun H g => by
        have hi1 : 1 ≤ i := by simp at g; ((try clear ho); omega)
        rw [show ((i : Int) - 1) = ((i - 1 : Nat) : Int) by ((try clear ho); omega)]
        exact rhas_tri S (i - 1) H (by ((try clear ho); omega)) hS
       have hw : -1 ≤ (i : Int) - 1 ∧ (i : Int) - 1 < p.ws.length := by ((try clear ho); omega)
       have hyes := fun h => plP_yes (p := p) (S := S) (n := n) (l := l) (i := i) h
       have hno := fun h => plP_no (p := p) (S := S) (n := n) (l := l) (i := i) h
       have hle := plP_le (p := p) (S := S) (n := n) (l := l) (i := i + 1) (j := p.ws.length + 1) (by ((try clear ho); omega))
       generalize hwi : (i : Int) - 1 = w at hone hcall hw hyes
       have e13 : w + 1 = ((i + 1 : Nat) : Int) - 1 := by ((try clear ho); omega)
       simp only [vsAll, binA, binLitA, intA, opA, guardV, dstOk, Nat.reduceLT, Nat.reduceEqDiff, ↓reduceIte, implies_true, eq_self]
       refine gcall (boo (S.testBit (i - 1))) (fun g => ⟨by simp only [vsAll, opA], by simp only [vsAll, okAll, opsA, opA, Nat.reduceEqDiff, ↓reduceIte, eq_self, g], hcall _ g⟩) ?_
       simp only [vsAll, pickA, opA, dstOk, Nat.reduceLT, Nat.reduceEqDiff, ↓reduceIte, implies_true, eq_self]
       rw [← hone]
       refine condV (fun hc2 => ?_) (fun hc2 => ?_)
       ·have ep := hyes hc2
        rw [ep, List.length_append] at hle
        refine vs_draw2 [0, 0, 0, 1, 0, 3, 0, 0, 5, 0, 7, 9] [([0, 1, 2, 4, 6, 7, 9], [0], 3), ([], [0], 5), ([], [0], 8), ([], [], 10), ([], [], 11)] [] (by decide +kernel) ?_
        simp only [vsAll, loadA, loadRow, partA, partOk, cellA, cellsA, okParts, buildSliceA, buildMutA, partIdx, elemsA, lensA, okAll, stAll, opsA, partsA, partsOk, opA, appendA, dstOk, Nat.reduceMul, Nat.reduceLT, Nat.reduceLeDiff, Nat.reduceEqDiff, Nat.reduceBEq, ↓reduceIte, eq_self, wtAll]
        intro i42 hh_i42; (try simp only [ite_none] at hh_i42)
        refine ⟨fun i hi => by simp only [vsAll, cellA, okCells, eq_self, intF_at], by ((try clear ho); (try clear hh_i42); omega), by ((try clear ho); (try clear hh_i42); omega), fun i hi => by (have : i = 0 := by ((try clear ho); (try clear hh_i42); omega)); subst this; simp only [vsAll, cellA, okCells, eq_self], by ((try clear ho); (try clear hh_i42); omega), by ((try clear ho); (try clear hh_i42); omega), ?_⟩
        have hnn : ((l.length + (n + 1) : Nat) : Int) = (((l ++ [w]).length + n : Nat) : Int) := by rw [List.length_append, List.length_singleton]; ((try clear ho); (try clear hh_i42); omega)
        have hf2 : FirstP p (l ++ [w]) := ⟨by rw [List.length_append, List.length_singleton]; ((try clear ho); (try clear hh_i42); omega), fun q hq => by
         rw [List.length_append, List.length_singleton] at hq
         by_cases e : q = l.length
         ·subst e; rw [getD_app_len]; exact hw
         ·rw [getD_app l [w] (by ((try clear ho); (try clear hh_i42); omega))]; exact hf.at_ q (by ((try clear ho); (try clear hh_i42); omega))⟩
        refine callK (sub_call (p := p) (b := l) (z := w) (O := O ++ plP p S n l i) (cp_app l w) (Hp.set_same _ _ _) (by rw [hnn]; exact (ih (l ++ [w]) id (O ++ plP p S n l i) _ (by rw [List.length_append, List.length_singleton]; ((try clear ho); (try clear hh_i42); omega)) hf2 (by simp only [vsAll, ↓reduceIte, eq_self, hh_i42, Hp.del_get]; try rfl) (by rw [List.length_append]; ((try clear ho); (try clear hh_i42); omega))))) ?_
        rintro r H' ⟨rfl, rfl⟩
        have hz : H i42 = none := by simp only [hh_i42]
        have hz2 : (H.set id (.row 1 (O ++ plP p S n l i).length (llF (O ++ plP p S n l i)))) i42 = none := by rw [Hp.set_ne _ _ hh_i42.1.1]; exact hz
        rw [Hp.del_set, Hp.del_set, Hp.del_set, Hp.del_none _ _ hz2, Hp.set_set]
        have eO : O ++ plP p S n l i ++ plL p S n (l ++ [w]) = O ++ plP p S n l (i + 1) := by rw [ep, List.append_assoc]
        rw [eO]
        simp only [vsAll, binA, binLitA, intA, opA, dstOk, nilSliceOp, Nat.reduceLT, Nat.reduceEqDiff, Nat.reduceBEq, ↓reduceIte, eq_self]
        refine ⟨by simp only [InR_i64]; ((try clear ho); (try clear hh_i42); omega), loop_next (i + 1) (by ((try clear ho); (try clear hh_i42); omega)) (by ((try clear ho); (try clear hh_i42); omega)) ?_ HSub_rfl⟩
        simp only [vsAll, Nat.reduceEqDiff, ↓reduceIte, eq_self]
        rw [e13]
        exact AV.Le.refl _
       ·have ep := hno hc2
        simp only [vsAll, binA, binLitA, intA, opA, dstOk, nilSliceOp, Nat.reduceLT, Nat.reduceEqDiff, Nat.reduceBEq, ↓reduceIte, eq_self]
        refine ⟨by simp only [InR_i64]; ((try clear ho); omega), loop_next (i + 1) (by ((try clear ho); omega)) (by ((try clear ho); omega)) ?_ ?_⟩
        ·simp only [vsAll, Nat.reduceEqDiff, ↓reduceIte, eq_self, ep]
         rw [e13]
         exact AV.Le.refl _
        ·rw [ep]; exact HSub_rfl
      ·have ei : i = p.ws.length + 1 := by ((try clear ho); omega)
       subst ei
       simp only [vsAll, opA, dstOk, nilSliceOp, resA, retA.eq_1, Nat.reduceLT, Nat.reduceEqDiff, Nat.reduceBEq, ↓reduceIte, eq_self, Tryz.results36]
       exact ⟨_, HSub_rfl, by rw [e], by rw [e]⟩
end Go.Proofs.YtkcgocmjaggdiaaGreat
end
section
set_option linter.unusedVariables false
set_option linter.unusedSimpArgs false
namespace Go.Proofs.YtkcgocmjaggdiaaGreat
open Go.V Wl
theorem safe_nil (p : Pu) : safeB p [] = true := (safe_iff p []).2 fun i hi => absurd hi (Nat.not_lt_zero i)
theorem safe_snoc {p : Pu} {l : List Int} (h : safeB p l = true) (w : Int) : safeB p (l ++ [w]) = true ↔ watV p (l ++ [w]) false (l.length + 1) ≤ p.ca := by
 rw [safe_iff] at h ⊢
 rw [List.length_append, List.length_singleton]
 constructor
 ·intro g; exact g l.length (Nat.lt_succ_self _)
 ·intro g i hi
  by_cases e : i = l.length
  ·subst e; exact g
  ·rw [wat_pre p l [w] false (i + 1) (by omega)]; exact h i (by omega)
theorem pl_unsafe {p : Pu} {S n : Nat} {l : List Int} (h : safeB p l = false) : plL p S n l = [] := by
 cases n <;> (unfold plL; rw [if_neg (by rw [h]; decide)])
theorem one_iff {p : Pu} {S : Nat} {w : Int} : okw p S w ↔ ∃ j, j < p.ws.length + 1 ∧ oneB S j = true ∧ (j : Int) - 1 = w := by
 unfold oneB
 constructor
 ·rintro ⟨h1, h2, h3⟩
  refine ⟨(w + 1).toNat, by omega, ?_, by omega⟩
  rw [Bool.or_eq_true, decide_eq_true_eq]
  by_cases h : 0 ≤ w
  ·right
   have := h3 h
   rwa [show (w + 1).toNat - 1 = w.toNat by omega]
  ·left; omega
 ·rintro ⟨j, h1, h2, rfl⟩
  rw [Bool.or_eq_true, decide_eq_true_eq] at h2
  refine ⟨by omega, by omega, fun h => ?_⟩
  rcases h2 with h2 | h2
  ·omega
  ·rwa [show ((j : Int) - 1).toNat = j - 1 by omega]
theorem mem_pl {p : Pu} {S : Nat} : ∀ n l, safeB p l = true → ∀ x, x ∈ plL p S n l ↔ ∃ y, y.length = n ∧ x = l ++ y ∧ Goes p S l y := by
 intro n
 induction n with
 | zero =>
   intro l hs x
   unfold plL
   rw [if_pos hs, List.mem_singleton]
   constructor
   ·rintro rfl; exact ⟨[], rfl, by simp, goes_nil _ _ _⟩
   ·rintro ⟨y, hy, rfl, _⟩; rw [List.eq_nil_of_length_eq_zero hy]; simp
 | succ n ih =>
   intro l hs x
   unfold plL
   rw [if_pos hs, List.mem_flatMap]
   constructor
   ·rintro ⟨j, hj, hx⟩
    rw [List.mem_range] at hj
    split at hx
    ·rename_i hone
     cases hs2 : safeB p (l ++ [(j : Int) - 1]) with
     | false => rw [pl_unsafe hs2] at hx; cases hx
     | true =>
       obtain ⟨y, h1, h2, h3⟩ := (ih _ hs2 x).1 hx
       refine ⟨((j : Int) - 1) :: y, by simp [h1], by rw [h2]; simp, goes_cons.2 ⟨one_iff.2 ⟨j, hj, hone, rfl⟩, (safe_snoc hs _).1 hs2, h3⟩⟩
    ·cases hx
   ·rintro ⟨y, h1, rfl, h3⟩
    cases y with
    | nil => cases h1
    | cons w y =>
      obtain ⟨g1, g2, g3⟩ := goes_cons.1 h3
      obtain ⟨j, hj, hone, rfl⟩ := one_iff.1 g1
      refine ⟨j, List.mem_range.2 hj, ?_⟩
      rw [if_pos hone]
      exact (ih _ ((safe_snoc hs _).2 g2) _).2 ⟨y, by simpa using h1, by simp, g3⟩
theorem lex_pre : ∀ (l a b : List Int), lexB a b → lexB (l ++ a) (l ++ b)
 | [], _, _, h => h
 | x :: l, a, b, h => .inr ⟨rfl, lex_pre l a b h⟩
theorem lex_anti : ∀ a b : List Int, a.length = b.length → lexB a b → lexB b a → a = b
 | [], [], _, _, _ => rfl
 | [], _ :: _, h, _, _ => by cases h
 | _ :: _, [], h, _, _ => by cases h
 | x :: a, y :: b, h, h1, h2 => by
   rcases h1 with h1 | ⟨rfl, h1⟩
   ·rcases h2 with h2 | ⟨h2, _⟩ <;> omega
   ·rcases h2 with h2 | ⟨_, h2⟩
    ·omega
    ·rw [lex_anti a b (by simpa using h) h1 h2]
theorem pl_sorted {p : Pu} {S : Nat} : ∀ n l, (plL p S n l).Pairwise lexB := by
 intro n
 induction n with
 | zero => intro l; unfold plL; split <;> simp
 | succ n ih =>
   intro l
   cases hs : safeB p l with
   | false => rw [pl_unsafe hs]; simp
   | true =>
     unfold plL
     rw [if_pos hs, List.pairwise_flatMap]
     refine ⟨fun j hj => ?_, ?_⟩
     ·split
      ·exact ih _
      ·simp
     ·refine List.pairwise_lt_range.imp ?_
      intro i j hij x hx y hy
      split at hx
      ·split at hy
       ·cases h1 : safeB p (l ++ [(i : Int) - 1]) with
        | false => rw [pl_unsafe h1] at hx; cases hx
        | true =>
          cases h2 : safeB p (l ++ [(j : Int) - 1]) with
          | false => rw [pl_unsafe h2] at hy; cases hy
          | true =>
            obtain ⟨a, _, rfl, _⟩ := (mem_pl n _ h1 x).1 hx
            obtain ⟨b, _, rfl, _⟩ := (mem_pl n _ h2 y).1 hy
            rw [List.append_assoc, List.append_assoc]
            exact lex_pre l _ _ (.inl (by omega))
       ·cases hy
      ·cases hx
/-- She can be kept afloat just if there is a plan. -/
theorem pl_can (p : Pu) (S u : Nat) : canB p u S = decide (0 < (plL p S u []).length) := by
 refine bool_ext ?_
 rw [decide_eq_true_eq, can_iff, List.length_pos_iff_exists_mem]
 constructor
 ·rintro ⟨x, h1, h2⟩
  exact ⟨x, (mem_pl u [] (safe_nil p) x).2 ⟨x, h1, by simp, h2⟩⟩
 ·rintro ⟨x, hx⟩
  obtain ⟨y, h1, _, h3⟩ := (mem_pl u [] (safe_nil p) x).1 hx
  exact ⟨y, h1, h3⟩
def bestN (L : List (List Int)) : Nat → List Int
 | 0 => L.getD 0 []
 | i + 1 => if pumN (L.getD i []) < pumN (bestN L i) then L.getD i [] else bestN L i
theorem best_spec (L : List (List Int)) : ∀ i, ∃ j, bestN L i = L.getD j [] ∧ (j = 0 ∨ j < i) ∧ (∀ q, q < i → pumN (L.getD j []) ≤ pumN (L.getD q [])) ∧ ∀ q, q < j → pumN (L.getD j []) < pumN (L.getD q []) := by
 intro i
 induction i with
 | zero => exact ⟨0, rfl, .inl rfl, fun q hq => absurd hq (Nat.not_lt_zero q), fun q hq => absurd hq (Nat.not_lt_zero q)⟩
 | succ i ih =>
   obtain ⟨j, h1, h2, h3, h4⟩ := ih
   rw [bestN, h1]
   split
   ·rename_i hc
    refine ⟨i, rfl, .inr (Nat.lt_succ_self i), fun q hq => ?_, fun q hq => ?_⟩
    ·by_cases e : q = i
     ·subst e; exact Int.le_refl _
     ·have := h3 q (by omega); omega
    ·have := h3 q hq; omega
   ·rename_i hc
    refine ⟨j, rfl, ?_, fun q hq => ?_, h4⟩
    ·rcases h2 with h2 | h2
     ·exact .inl h2
     ·exact .inr (by omega)
    ·by_cases e : q = i
     ·subst e; omega
     ·exact h3 q (by omega)
theorem best_few {p : Pu} (h0 : errE p true = 0) : (fewE p = 0 ↔ 0 < (plL p (everyN p) p.fl.length []).length) ∧ (0 < (plL p (everyN p) p.fl.length []).length → bestN (plL p (everyN p) p.fl.length []) (plL p (everyN p) p.fl.length []).length = fewP p ∧ pumN (fewP p) = fewN p) := by
 have hc := pl_can p (everyN p) p.fl.length
 have hfz : fewE p = 0 ↔ 0 < (plL p (everyN p) p.fl.length []).length := by
  rw [few_zero, hc, decide_eq_true_eq]
  exact ⟨fun h => h.2, fun h => ⟨h0, h⟩⟩
 refine ⟨hfz, fun hl => ?_⟩
 have hz := hfz.2 hl
 obtain ⟨a1, a2, a3, a4⟩ := few_spec hz
 refine ⟨?_, a3⟩
 have hmem := mem_pl (p := p) (S := everyN p) p.fl.length [] (safe_nil p)
 have hsort := pl_sorted (p := p) (S := everyN p) p.fl.length []
 generalize plL p (everyN p) p.fl.length [] = L at hl hmem hsort ⊢
 obtain ⟨j, h1, h2, h3, h4⟩ := best_spec L L.length
 have hj : j < L.length := by rcases h2 with h | h <;> omega
 rw [h1]
 have hxm : fewP p ∈ L := (hmem _).2 ⟨fewP p, a1, by simp, a2⟩
 obtain ⟨q, hq, hqe⟩ := List.getElem_of_mem hxm
 have hqe : L.getD q [] = fewP p := by rw [List.getD_eq_getElem?_getD, List.getElem?_eq_getElem hq, hqe]; rfl
 have hjm : L.getD j [] ∈ L := mem_getD L j [] hj
 obtain ⟨y, b1, b2, b3⟩ := (hmem _).1 hjm
 rw [List.nil_append] at b2
 rw [← b2] at b1 b3
 obtain ⟨c1, c2⟩ := a4 _ b1 b3
 have c3 := h3 q hq
 rw [hqe, a3] at c3
 have c4 : pumN (L.getD j []) = fewN p := by omega
 have c5 := c2 c4
 have hge : j ≤ q := by
  apply Classical.byContradiction
  intro hlt
  have := h4 q (by omega)
  rw [hqe, a3] at this
  omega
 by_cases e : j = q
 ·rw [e, hqe]
 ·have c6 : lexB (L.getD j []) (L.getD q []) := by
   have := List.pairwise_iff_getElem.1 hsort j q hj hq (by omega)
   rw [List.getD_eq_getElem?_getD, List.getD_eq_getElem?_getD, List.getElem?_eq_getElem hj, List.getElem?_eq_getElem hq]
   exact this
  rw [hqe] at c6
  exact lex_anti _ _ (by rw [b1, a1]) c6 c5
def rwN (p : Pu) : Nat → Option Nat
 | 0 => none
 | s + 1 => if ((rwN p s = none ∨ bitN s < bitN ((rwN p s).getD 0)) ∧ canB p p.fl.length s = true) then some s else rwN p s
theorem rw_spec (p : Pu) : ∀ s, (rwN p s = none ∧ ∀ T, T < s → canB p p.fl.length T = false) ∨ ∃ r, rwN p s = some r ∧ r < s ∧ canB p p.fl.length r = true ∧ ∀ T, T < s → canB p p.fl.length T = true → bitN r < bitN T ∨ bitN r = bitN T ∧ r ≤ T := by
 intro s
 induction s with
 | zero => exact .inl ⟨rfl, fun T hT => absurd hT (Nat.not_lt_zero T)⟩
 | succ s ih =>
   rw [rwN]
   rcases ih with ⟨h1, h2⟩ | ⟨r, h1, h2, h3, h4⟩
   ·cases hc : canB p p.fl.length s with
    | true =>
      rw [if_pos ⟨.inl h1, rfl⟩]
      refine .inr ⟨s, rfl, Nat.lt_succ_self s, hc, fun T hT hT2 => ?_⟩
      by_cases e : T = s
      ·subst e; exact .inr ⟨rfl, Nat.le_refl _⟩
      ·rw [h2 T (by omega)] at hT2; cases hT2
    | false =>
      rw [if_neg fun h => by cases h.2]
      refine .inl ⟨h1, fun T hT => ?_⟩
      by_cases e : T = s
      ·subst e; exact hc
      ·exact h2 T (by omega)
   ·rw [h1]
    by_cases hc : (some r = none ∨ bitN s < bitN ((some r).getD 0)) ∧ canB p p.fl.length s = true
    ·rw [if_pos hc]
     obtain ⟨hc1, hc2⟩ := hc
     have hlt : bitN s < bitN r := by
      rcases hc1 with h | h
      ·cases h
      ·exact h
     refine .inr ⟨s, rfl, Nat.lt_succ_self s, hc2, fun T hT hT2 => ?_⟩
     by_cases e : T = s
     ·subst e; exact .inr ⟨rfl, Nat.le_refl _⟩
     ·rcases h4 T (by omega) hT2 with h | h <;> (left; omega)
    ·rw [if_neg hc]
     refine .inr ⟨r, rfl, by omega, h3, fun T hT hT2 => ?_⟩
     by_cases e : T = s
     ·subst e
      have : ¬ bitN T < bitN r := fun h => hc ⟨.inr h, hT2⟩
      by_cases e2 : bitN r = bitN T
      ·right; exact ⟨e2, by omega⟩
      ·left; omega
     ·exact h4 T (by omega) hT2
theorem rw_wch {p : Pu} (k : Ok p) (h0 : errE p true = 0) : (wchE p = 0 → ∃ S : Nat, wchV p = (S : Int) ∧ rwN p (2 ^ p.ws.length) = some S) ∧ (wchE p ≠ 0 → wchE p = 4 ∧ rwN p (2 ^ p.ws.length) = none) := by
 obtain ⟨s1, s2⟩ := wch_spec k
 refine ⟨fun hz => ?_, fun hz => ?_⟩
 ·obtain ⟨S, a1, a2, a3, a4⟩ := s2 hz
  refine ⟨S, a1, ?_⟩
  rcases rw_spec p (2 ^ p.ws.length) with ⟨h1, h2⟩ | ⟨r, h1, h2, h3, h4⟩
  ·rw [h2 S a2] at a3; cases a3
  ·have := a4 r h2 h3
   have := h4 S a2 a3
   rw [h1]
   congr 1
   omega
 ·have h4 : wchE p = 4 := by rw [s1] at hz ⊢; exact few_none h0 hz
  refine ⟨h4, ?_⟩
  rcases rw_spec p (2 ^ p.ws.length) with ⟨h1, _⟩ | ⟨r, h1, h2, h3, _⟩
  ·exact h1
  ·exfalso
   apply hz
   rw [s1]
   exact few_zero.2 ⟨h0, can_sub (fun w hw _ => every_bit hw) h3⟩
end Go.Proofs.YtkcgocmjaggdiaaGreat
end
section
set_option linter.unusedVariables false
set_option linter.unusedSimpArgs false
set_option maxHeartbeats 4000000
set_option maxRecDepth 100000
namespace Go.Proofs.YtkcgocmjaggdiaaGreat
open Go.V Wl
theorem plans0_tri (p : Pu) (S n : Nat) (H : Hp) (k : Ok p) (hA : 0 < (allA p.ho).length) (hS : S < 2 ^ 60) (hn : n ≤ p.fl.length) : PTri Tryz.prog (fnA 36) [p.av, i64 (n : Nat), i64 S, .lit (.slice none 0 0), .lit (.slice none 0 0)] H (llAV (plL p S n [])) := by
 have nF := k.nF
 have hl := pl_len p S k.nW n []
 have h4 : 4 ^ n ≤ 4 ^ 8 := Nat.pow_le_pow_right (by decide) (by omega)
 refine Tri.thawD (R1 := fun r H' => ∃ id, H id = none ∧ r = .ret (.sl id 1 (plL p S n []).length) ∧ H' = H.set id (.row 1 (plL p S n []).length (llF (plL p S n [])))) ?_ ?_
 ·refine tri_nil (args' := fun id => [p.av, i64 (n : Nat), i64 S, intsAV [], .sl id 1 0]) 1 (llF []) (fun _ => rfl) (fun id j hj => ?_) fun id hid => ?_
  ·match j, hj with
   | 0, _ => exact .inl (AV.Le.refl _)
   | 1, _ => exact .inl (AV.Le.refl _)
   | 2, _ => exact .inl (AV.Le.refl _)
   | 3, _ => exact .inl (AV.Le.nil 1 _)
   | 4, _ => exact .inr ⟨rfl, rfl⟩
  ·have h := rplans_tri p S k hA hS n [] id [] (H.set id (.row 1 0 (llF []))) (by simp; omega) ⟨by simp, fun i hi => absurd hi (Nat.not_lt_zero i)⟩ (Hp.set_same _ _ _) (by simp only [List.length_nil, Nat.zero_add]; omega)
   rw [show (([] : List Int).length + n) = n by simp] at h
   refine Tri.mono h ?_
   rintro r H' ⟨rfl, rfl⟩
   exact ⟨id, hid, rfl, by rw [Hp.set_set]; rfl⟩
 ·rintro r H' ⟨id, hid, rfl, rfl⟩
  right
  exact ⟨_, _, id, 1, _, llF (plL p S n []), rfl, Hp.set_same _ _ _, .hit fun _ _ => rfl, rfl, set_del hid⟩
theorem revery_tri (p : Pu) (H : Hp) (k : Ok p) : PTri Tryz.prog (fnA 37) [p.av] H (i64 (everyN p : Nat)) := by
 have nW := k.nW
 have hp0 : 0 < 2 ^ p.ws.length := Nat.pow_pos (by decide)
 have hp8 : 2 ^ p.ws.length ≤ 2 ^ 3 := Nat.pow_le_pow_right (by decide) nW
 refine tri_v0 (fun _ => false) Tryz.func37 (by kernel_rfl) rfl (by simp only [List.length_append, List.length_cons, List.length_nil, Tryz.ntmps37]; decide) ?_
 simp only [vsAll, loadA, loadRow, partA, partOk, fieldAddrA, lenA, boxA, boxZ, okAll, stAll, opsA, opA, dstOk, nilSliceOp, argFr, Nat.reduceAdd, Nat.reduceLT, Nat.reduceEqDiff, ↓reduceIte, eq_self, wtAll, Tryz.ntmps37]
 refine callK_pure (rpower_tri p.ws.length _ (by omega)) ?_
 have e : ((2 ^ p.ws.length : Nat) : Int) - 1 = ((everyN p : Nat) : Int) := by unfold everyN; omega
 simp only [vsAll, binA, binLitA, intA, opA, dstOk, nilSliceOp, resA, retA.eq_1, Nat.reduceLT, ↓reduceIte, eq_self, Tryz.results37]
 rw [e]
 exact ⟨by simp only [InR_i64]; unfold everyN; omega, rfl⟩
theorem pum_snoc (w : Int) : ∀ x : List Int, pumN (x ++ [w]) = costW w (pumN x)
 | [] => rfl
 | v :: x => by
   rw [List.cons_append, pumN, pumN, pum_snoc w x]
   unfold costW
   split <;> split <;> rfl
theorem pum_nn : ∀ x : List Int, 0 ≤ pumN x ∧ pumN x ≤ x.length
 | [] => by simp [pumN]
 | w :: x => by
   have := pum_nn x
   rw [pumN, List.length_cons]
   unfold costW
   split <;> omega
theorem take_snoc {l : List Int} {i : Nat} (h : i < l.length) : l.take (i + 1) = l.take i ++ [l.getD i 0] := by
 rw [List.take_succ_eq_append_getElem h]
 simp [List.getD_eq_getElem?_getD, h]
theorem rpumped_tri (l : List Int) (H : Hp) (hl : l.length ≤ 100) : PTri Tryz.prog (fnA 38) [intsAV l] H (i64 (pumN l)) := by
 refine tri_v0 (fun _ => false) Tryz.func38 (by kernel_rfl) rfl (by simp only [List.length_append, List.length_cons, List.length_nil, Tryz.ntmps38]; decide) ?_
 simp only [vsAll, opA, dstOk, nilSliceOp, Nat.reduceLT, eq_self, Tryz.ntmps38]
 refine vs_loop (σ := Nat) (fun i => i ≤ l.length) (fun i => [(0, intsAV l), (3, i64 (pumN (l.take i))), (4, i64 i)]) (fun _ => H) (fun i => l.length - i) 0 (Nat.zero_le _) ?_ HSub_rfl fun i hi => ?_
 ·simp only [vsAll, argFr, Nat.reduceEqDiff, ↓reduceIte, reduceCtorEq, eq_self, Int.natCast_zero, pumN]
 ·have hn := pum_nn (l.take i)
  rw [List.length_take] at hn
  simp only [vsAll, binA, binLitA, intA, lenA, opA, dstOk, Nat.reduceLT, Nat.reduceEqDiff, ↓reduceIte, reduceCtorEq, eq_self, wtAll]
  refine condD (fun hd => ?_) (fun hd => ?_)
  ·have his : i < l.length := by omega
   have e := pum_snoc (l.getD i 0) (l.take i)
   rw [← take_snoc his] at e
   unfold costW at e
   simp only [vsAll, binA, binLitA, intA, loadA, loadRow, partA, partOk, indexAddrA, opA, dstOk, Nat.reduceLT, Nat.reduceEqDiff, ↓reduceIte, reduceCtorEq, eq_self, wtAll, intF_at]
   refine ⟨⟨by omega, by omega⟩, his, condV (fun hc => ?_) (fun hc => ?_)⟩
   ·rw [if_pos (of_decide_eq_true hc)] at e
    simp only [vsAll, binA, binLitA, intA, opA, dstOk, nilSliceOp, Nat.reduceLT, Nat.reduceEqDiff, ↓reduceIte, reduceCtorEq, eq_self]
    refine ⟨by simp only [InR_i64]; omega, by simp only [InR_i64]; omega, loop_next (i + 1) (by omega) (by omega) ?_ HSub_rfl⟩
    simp only [vsAll, Nat.reduceEqDiff, ↓reduceIte, reduceCtorEq, eq_self, e, Int.natCast_add, Int.natCast_one]
   ·rw [if_neg (of_decide_eq_false hc)] at e
    simp only [vsAll, binA, binLitA, intA, opA, dstOk, nilSliceOp, Nat.reduceLT, Nat.reduceEqDiff, ↓reduceIte, reduceCtorEq, eq_self]
    refine ⟨by simp only [InR_i64]; omega, loop_next (i + 1) (by omega) (by omega) ?_ HSub_rfl⟩
    simp only [vsAll, Nat.reduceEqDiff, ↓reduceIte, reduceCtorEq, eq_self, e, Int.natCast_add, Int.natCast_one]
  ·have ei : i = l.length := by omega
   subst ei
   rw [List.take_length]
   simp only [vsAll, opA, dstOk, nilSliceOp, resA, retA.eq_1, Nat.reduceLT, Nat.reduceEqDiff, ↓reduceIte, reduceCtorEq, eq_self, Tryz.results38]
theorem rsize_tri (S : Nat) (H : Hp) (hS : S < 8) : PTri Tryz.prog (fnA 41) [i64 S] H (i64 (bitN S : Nat)) := by
 refine tri_v0 (fun _ => false) Tryz.func41 (by kernel_rfl) rfl (by simp only [List.length_append, List.length_cons, List.length_nil, Tryz.ntmps41]; decide) ?_
 simp only [vsAll, opA, dstOk, nilSliceOp, Nat.reduceLT, eq_self, Tryz.ntmps41]
 refine vs_loop (σ := Nat × Nat) (fun y => y.1 < 8 ∧ bitN y.1 + y.2 = bitN S) (fun y => [(0, i64 y.1), (3, i64 y.2)]) (fun _ => H) (fun y => y.1) (S, 0) ⟨hS, rfl⟩ ?_ HSub_rfl fun y hy => ?_
 ·simp only [vsAll, argFr, ↓reduceIte, reduceCtorEq, eq_self, Int.natCast_zero]
 ·obtain ⟨a, c⟩ := y
  obtain ⟨h1, h2⟩ := hy
  simp only [] at h1 h2
  have hb : bitN S ≤ 3 := by unfold bitN; omega
  simp only [vsAll, binA, binLitA, intA, opA, dstOk, Nat.reduceLT, ↓reduceIte, eq_self]
  refine condD (fun hd => ?_) (fun hd => ?_)
  ·have e1 : (a : Int).tmod 2 = ((a % 2 : Nat) : Int) := by rw [Int.tmod_eq_emod_of_nonneg (by omega)]; omega
   have e2 : (a : Int).tdiv 2 = ((a / 2 : Nat) : Int) := by rw [Int.tdiv_eq_ediv_of_nonneg (by omega)]; omega
   have e3 : bitN (a / 2) + (c + a % 2) = bitN S := by rw [← h2]; unfold bitN; omega
   simp only [vsAll, binA, binLitA, intA, opA, dstOk, nilSliceOp, Nat.reduceLT, Nat.reduceEqDiff, Int.reduceEq, ↓reduceIte, reduceCtorEq, eq_self, ne_eq, e1, e2]
   refine ⟨by simp only [InR_i64]; omega, by simp only [InR_i64]; omega, loop_next (a / 2, c + a % 2) ⟨by simp only []; omega, e3⟩ (by simp only []; omega) ?_ HSub_rfl⟩
   simp only [vsAll, ↓reduceIte, reduceCtorEq, eq_self, Int.natCast_add]
  ·have ea : a = 0 := by omega
   subst ea
   have : c = bitN S := by rw [← h2]; simp [bitN]
   subst this
   simp only [vsAll, opA, dstOk, nilSliceOp, resA, retA.eq_1, Nat.reduceLT, Nat.reduceEqDiff, ↓reduceIte, reduceCtorEq, eq_self, Tryz.results41]
theorem rfew_tri (p : Pu) (H : Hp) (kn : Near p) : PTri Tryz.prog (fnA 8) [p.av] H (.tuple [i64 (fewN p), intsAV (fewP p), i64 (fewE p)]) := by
 refine tri_v (fun _ => false) Tryz.func8 (by kernel_rfl) rfl (by simp only [List.length_append, List.length_cons, List.length_nil, Tryz.ntmps8]; decide) ?_
 simp only [vsAll, loadA, loadRow, partA, partOk, boxA, boxZ, okAll, stAll, opsA, opA, dstOk, nilSliceOp, argFr, Nat.reduceAdd, Nat.reduceLT, Nat.reduceEqDiff, ↓reduceIte, eq_self, wtAll, Tryz.ntmps8]
 refine callK_pure (rcheck_tri p true _ kn) ?_
 by_cases he : errE p true = 0
 ·obtain ⟨k, _, hA⟩ := errE_zero he
  have nF := k.nF
  have nW := k.nW
  obtain ⟨b1, b2⟩ := best_few he
  have hmem := mem_pl (p := p) (S := everyN p) p.fl.length [] (safe_nil p)
  have hlen := pl_len p (everyN p) k.nW p.fl.length []
  have h4 : 4 ^ p.fl.length ≤ 4 ^ 8 := Nat.pow_le_pow_right (by decide) nF
  have hev := every_lt k
  have hpl := fun H => plans0_tri p (everyN p) p.fl.length H k hA (by omega) (Nat.le_refl _)
  have hxl : ∀ x, x ∈ plL p (everyN p) p.fl.length [] → x.length ≤ 100 := fun x hx => by
   obtain ⟨y, h1, h2, _⟩ := (hmem x).1 hx
   rw [h2, List.nil_append, h1]; omega
  generalize plL p (everyN p) p.fl.length [] = L at b1 b2 hlen hpl hxl
  simp only [vsAll, binA, binLitA, intA, opA, dstOk, nilSliceOp, Nat.reduceLT, ↓reduceIte, eq_self, he]
  refine vs_draw2 [0, 0, 0, 0, 0, 0, 0, 0] [] [0, 1, 2, 3, 4, 5, 6, 7] (by decide +kernel) ?_
  simp only [vsAll, loadA, loadRow, partA, partOk, fieldAddrA, lenA, opA, dstOk, Nat.reduceLT, Nat.reduceEqDiff, ↓reduceIte, eq_self, wtAll]
  refine qcall _ ⟨trivial, by simp only [vsAll, okAll, opsA, opA, ↓reduceIte, eq_self], revery_tri p _ k⟩ ?_
  simp only [vsAll, dstOk, Nat.reduceLT, eq_self]
  refine qcall _ ⟨trivial, by simp only [vsAll, okAll, opsA, opA, Nat.reduceEqDiff, ↓reduceIte, eq_self], hpl _⟩ ?_
  by_cases hL : L.length = 0
  ·have e1 := few_none he (fun hz => by have := b1.1 hz; omega)
   have e2 : fewN p = 0 := if_neg (by rw [e1]; decide)
   have e3 : fewP p = [] := if_neg (by rw [e1]; decide)
   have d1 : decide ((L.length : Int) = 0) = true := decide_eq_true (by omega)
   simp only [vsAll, binA, binLitA, intA, lenA, opA, dstOk, nilSliceOp, Nat.reduceLT, ↓reduceIte, eq_self, wtAll, d1, e1, e2, e3]
   refine ret_of [(2, i64 0), (3, intsAV []), (4, i64 4)] H ?_ HSub_rfl ?_
   ·simp only [vsAll, Nat.reduceEqDiff, ↓reduceIte, eq_self]
    try exact AV.Le.nil _ _
   ·simp only [vsAll, resA, retA.eq_2, Nat.reduceEqDiff, ↓reduceIte, eq_self, Tryz.results8]
    try rfl
  ·have e1 := b1.2 (by omega)
   obtain ⟨e2, e3⟩ := b2 (by omega)
   have d1 : decide ((L.length : Int) = 0) = false := decide_eq_false (by omega)
   have hbl : ∀ i, (bestN L i).length ≤ 100 := fun i => by
    obtain ⟨j, g1, g2, _⟩ := best_spec L i
    rw [g1]
    by_cases hj : j < L.length
    ·exact hxl _ (mem_getD L j [] hj)
    ·rw [List.getD_eq_getElem?_getD, List.getElem?_eq_none (by omega)]; decide
   simp only [vsAll, binA, binLitA, intA, loadA, loadRow, partA, partOk, indexAddrA, lenA, opA, dstOk, nilSliceOp, Nat.reduceLT, Nat.reduceEqDiff, Int.reduceLE, Int.reduceToNat, ↓reduceIte, eq_self, wtAll, d1, llF_at]
   refine ⟨by omega, by omega, ?_⟩
   refine vs_loop (σ := Nat) (fun i => i ≤ L.length) (fun i => [(6, llAV L), (7, intsAV (bestN L i)), (8, i64 i)]) (fun _ => H) (fun i => L.length - i) 0 (Nat.zero_le _) ?_ HSub_rfl fun i hi => ?_
   ·simp only [vsAll, Nat.reduceEqDiff, ↓reduceIte, eq_self, Int.natCast_zero, bestN]
   ·have hbi := hbl i
    have hnx : bestN L (i + 1) = if pumN (L.getD i []) < pumN (bestN L i) then L.getD i [] else bestN L i := rfl
    simp only [vsAll, binA, binLitA, intA, lenA, opA, dstOk, Nat.reduceLT, Nat.reduceEqDiff, ↓reduceIte, eq_self, wtAll]
    refine condD (fun hd => ?_) (fun hd => ?_)
    ·have his : i < L.length := by omega
     have hxi := hxl _ (mem_getD L i [] his)
     simp only [vsAll, loadA, loadRow, partA, partOk, indexAddrA, okAll, stAll, opsA, opA, dstOk, Nat.reduceLT, Nat.reduceEqDiff, ↓reduceIte, eq_self, wtAll, llF_at]
     refine ⟨⟨by omega, by omega⟩, his, callK_pure (rpumped_tri (L.getD i []) _ hxi) ?_⟩
     simp only [vsAll, okAll, stAll, opsA, opA, dstOk, Nat.reduceLT, Nat.reduceEqDiff, ↓reduceIte, eq_self]
     refine callK_pure (rpumped_tri (bestN L i) _ hbi) ?_
     simp only [vsAll, binA, binLitA, intA, opA, dstOk, Nat.reduceLT, Nat.reduceEqDiff, ↓reduceIte, eq_self]
     refine condV (fun hc => ?_) (fun hc => ?_)
     ·rw [if_pos (of_decide_eq_true hc)] at hnx
      simp only [vsAll, binA, binLitA, intA, loadA, loadRow, partA, partOk, indexAddrA, opA, dstOk, nilSliceOp, Nat.reduceLT, Nat.reduceEqDiff, ↓reduceIte, eq_self, wtAll, llF_at]
      refine ⟨⟨by omega, by omega⟩, his, by simp only [InR_i64]; omega, loop_next (i + 1) (by omega) (by omega) ?_ HSub_rfl⟩
      simp only [vsAll, Nat.reduceEqDiff, ↓reduceIte, eq_self, hnx, Int.natCast_add, Int.natCast_one]
     ·rw [if_neg (of_decide_eq_false hc)] at hnx
      simp only [vsAll, binA, binLitA, intA, opA, dstOk, nilSliceOp, Nat.reduceLT, Nat.reduceEqDiff, ↓reduceIte, eq_self]
      refine ⟨by simp only [InR_i64]; omega, loop_next (i + 1) (by omega) (by omega) ?_ HSub_rfl⟩
      simp only [vsAll, Nat.reduceEqDiff, ↓reduceIte, eq_self, hnx, Int.natCast_add, Int.natCast_one]
    ·have ei : i = L.length := by omega
     subst ei
     rw [e2] at hbi ⊢
     simp only [vsAll, okAll, stAll, opsA, opA, dstOk, Nat.reduceLT, Nat.reduceEqDiff, ↓reduceIte, eq_self]
     refine callK_pure (rpumped_tri (fewP p) _ hbi) ?_
     simp only [vsAll, opA, dstOk, nilSliceOp, Nat.reduceLT, Nat.reduceEqDiff, ↓reduceIte, eq_self, e3, e1]
     refine ret0 ?_
     simp only [vsAll, resA, retA.eq_2, Nat.reduceEqDiff, ↓reduceIte, eq_self, Tryz.results8]
     try rfl
 ·have e1 : fewE p = errE p true := if_neg he
  have e2 : fewN p = 0 := if_neg (by rw [e1]; exact he)
  have e3 : fewP p = [] := if_neg (by rw [e1]; exact he)
  have d1 : decide (errE p true = 0) = false := decide_eq_false he
  simp only [vsAll, binA, binLitA, intA, opA, dstOk, nilSliceOp, Nat.reduceLT, Nat.reduceEqDiff, ↓reduceIte, eq_self, d1, e1, e2, e3]
  refine ret_of [(2, i64 0), (3, intsAV []), (4, i64 (errE p true))] H ?_ HSub_rfl ?_
  ·simp only [vsAll, Nat.reduceEqDiff, ↓reduceIte, eq_self]
   try exact AV.Le.nil _ _
  ·simp only [vsAll, resA, retA.eq_2, Nat.reduceEqDiff, ↓reduceIte, eq_self, Tryz.results8]
   try rfl
theorem runt_tri (p : Pu) (H : Hp) (kn : Near p) : PTri Tryz.prog (fnA 10) [p.av] H (.tuple [i64 (untV p), i64 (untE p)]) := by
 refine tri_v0 (fun _ => false) Tryz.func10 (by kernel_rfl) rfl (by simp only [List.length_append, List.length_cons, List.length_nil, Tryz.ntmps10]; decide) ?_
 simp only [vsAll, loadA, loadRow, partA, partOk, boxA, boxZ, okAll, stAll, opsA, opA, dstOk, nilSliceOp, argFr, Nat.reduceAdd, Nat.reduceLT, Nat.reduceEqDiff, ↓reduceIte, eq_self, wtAll, Tryz.ntmps10]
 refine callK_pure (rcheck_tri p true _ kn) ?_
 have eE : untE p = errE p true := rfl
 by_cases he : errE p true = 0
 ·obtain ⟨k, _, hA⟩ := errE_zero he
  have nF := k.nF
  have nW := k.nW
  have hev := every_lt k
  have ev : untV p = (untN p p.fl.length 0 : Nat) := if_pos he
  have hcan := fun u => pl_can p (everyN p) u
  have hlen := fun u => pl_len p (everyN p) k.nW u []
  simp only [vsAll, binA, binLitA, intA, opA, dstOk, nilSliceOp, Nat.reduceLT, ↓reduceIte, eq_self, he]
  refine vs_loop (σ := Nat) (fun m => m ≤ p.fl.length ∧ untN p (p.fl.length - m) m = untN p p.fl.length 0) (fun m => [(1, pptr p), (5, i64 m)]) (fun _ => H) (fun m => p.fl.length - m) 0 ⟨Nat.zero_le _, rfl⟩ ?_ HSub_rfl fun m hm => ?_
  ·simp only [vsAll, Nat.reduceEqDiff, ↓reduceIte, eq_self, Int.natCast_zero]
  ·obtain ⟨hm1, hm2⟩ := hm
   have hc := hcan (m + 1)
   simp only [vsAll]
   refine vs_draw2 [0, 0, 0, 0, 0, 0, 0, 0, 0, 0, 0, 0, 0, 0, 0] [] [0, 1, 2, 3, 4, 5, 6, 7, 8, 9, 10, 11, 12, 13, 14] (by decide +kernel) ?_
   simp only [vsAll, binA, binLitA, intA, loadA, loadRow, partA, partOk, fieldAddrA, lenA, opA, guardV, dstOk, Nat.reduceLT, Nat.reduceEqDiff, ↓reduceIte, implies_true, eq_self, wtAll]
   refine ⟨fun g => ⟨g, by have := of_decide_eq_true g; simp only [InR_i64]; omega⟩, ?_⟩
   refine qgcall _ (fun g => ⟨by simp only [vsAll, opA], by simp only [vsAll, okAll, opsA, opA, ↓reduceIte, eq_self, g], revery_tri p _ k⟩) ?_
   simp only [vsAll, guardV, dstOk, Nat.reduceLT, Nat.reduceEqDiff, ↓reduceIte, eq_self]
   refine qgcall (llAV (plL p (everyN p) (m + 1) [])) (fun g => ⟨by simp only [vsAll, opA], by simp only [vsAll, okAll, opsA, opA, Nat.reduceEqDiff, ↓reduceIte, eq_self, g], plans0_tri p (everyN p) (m + 1) _ k hA (by omega) (by have := of_decide_eq_true g; omega)⟩) ?_
   have hdc : decide (0 < ((plL p (everyN p) (m + 1) []).length : Int)) = canB p (m + 1) (everyN p) := by rw [hc]; exact decide_eq_decide.2 (by omega)
   simp only [vsAll, binA, binLitA, intA, lenA, pickA, opA, guardV, dstOk, Nat.reduceLT, Nat.reduceEqDiff, ↓reduceIte, implies_true, eq_self, wtAll, hdc]
   refine condV (fun hd => ?_) (fun hd => ?_)
   ·rw [Bool.and_eq_true, decide_eq_true_eq] at hd
    have hn2 : untN p (p.fl.length - (m + 1)) (m + 1) = untN p p.fl.length 0 := by
     rw [← hm2, show p.fl.length - m = (p.fl.length - (m + 1)) + 1 by omega, untN, if_pos hd.2]
    simp only [vsAll, binA, binLitA, intA, opA, dstOk, nilSliceOp, Nat.reduceLT, Nat.reduceEqDiff, ↓reduceIte, eq_self]
    refine ⟨by simp only [InR_i64]; omega, loop_next (m + 1) ⟨by omega, hn2⟩ (by omega) ?_ HSub_rfl⟩
    simp only [vsAll, Nat.reduceEqDiff, ↓reduceIte, eq_self, Int.natCast_add, Int.natCast_one]
   ·have hfin : untN p p.fl.length 0 = m := by
     rw [← hm2]
     by_cases h40 : m = p.fl.length
     ·rw [h40, Nat.sub_self]; rfl
     ·have hns : ¬ canB p (m + 1) (everyN p) = true := fun h => by
       rw [h, decide_eq_true (by omega : (m : Int) < p.fl.length)] at hd; cases hd
      rw [show p.fl.length - m = (p.fl.length - (m + 1)) + 1 by omega, untN, if_neg hns]
    rw [hfin] at ev
    simp only [vsAll, opA, dstOk, nilSliceOp, resA, retA.eq_2, Nat.reduceLT, Nat.reduceEqDiff, ↓reduceIte, eq_self, Tryz.results10, eE, he, ev]
 ·have e2 : untV p = 0 := if_neg he
  have d1 : decide (errE p true = 0) = false := decide_eq_false he
  simp only [vsAll, binA, binLitA, intA, opA, dstOk, nilSliceOp, resA, retA.eq_2, Nat.reduceLT, Nat.reduceEqDiff, ↓reduceIte, eq_self, Tryz.results10, d1, eE, e2]
end Go.Proofs.YtkcgocmjaggdiaaGreat
end
section
set_option linter.unusedVariables false
set_option linter.unusedSimpArgs false
set_option maxHeartbeats 4000000
set_option maxRecDepth 100000
namespace Go.Proofs.YtkcgocmjaggdiaaGreat
open Go.V Wl
theorem rwch_tri (p : Pu) (H : Hp) (kn : Near p) : PTri Tryz.prog (fnA 12) [p.av] H (.tuple [i64 (wchV p), i64 (wchE p)]) := by
 refine tri_v0 (fun _ => false) Tryz.func12 (by kernel_rfl) rfl (by simp only [List.length_append, List.length_cons, List.length_nil, Tryz.ntmps12]; decide) ?_
 simp only [vsAll, loadA, loadRow, partA, partOk, boxA, boxZ, okAll, stAll, opsA, opA, dstOk, nilSliceOp, argFr, Nat.reduceAdd, Nat.reduceLT, Nat.reduceEqDiff, ↓reduceIte, eq_self, wtAll, Tryz.ntmps12]
 refine callK_pure (rcheck_tri p true _ kn) ?_
 by_cases he : errE p true = 0
 ·obtain ⟨k, _, hA⟩ := errE_zero he
  have nF := k.nF
  have nW := k.nW
  have hev := every_lt k
  have hp0 : 0 < 2 ^ p.ws.length := Nat.pow_pos (by decide)
  have hp8 : 2 ^ p.ws.length ≤ 2 ^ 3 := Nat.pow_le_pow_right (by decide) nW
  have hee : everyN p + 1 = 2 ^ p.ws.length := by unfold everyN; omega
  have hcan := fun S => pl_can p S p.fl.length
  have hlen := fun S => pl_len p S k.nW p.fl.length []
  obtain ⟨w1, w2⟩ := rw_wch k he
  simp only [vsAll, binA, binLitA, intA, opA, dstOk, nilSliceOp, Nat.reduceLT, ↓reduceIte, eq_self, he]
  refine vs_loop (σ := Nat) (fun s => s ≤ 2 ^ p.ws.length) (fun s => [(1, pptr p), (5, i64 (((rwN p s).getD 0 : Nat) : Int)), (6, boo (rwN p s).isSome), (7, i64 s)]) (fun _ => H) (fun s => 2 ^ p.ws.length - s) 0 (Nat.zero_le _) ?_ HSub_rfl fun s hs => ?_
  ·simp only [vsAll, Nat.reduceEqDiff, ↓reduceIte, eq_self, Int.natCast_zero, rwN, Option.getD_none]
  ·have hsp := rw_spec p s
   have hnx : rwN p (s + 1) = if ((rwN p s = none ∨ bitN s < bitN ((rwN p s).getD 0)) ∧ canB p p.fl.length s = true) then some s else rwN p s := rfl
   have hb8 : (rwN p s).getD 0 < 8 := by
    rcases hsp with ⟨h, _⟩ | ⟨r, h, h2, _⟩
    ·rw [h]; decide
    ·rw [h]; simp; omega
   simp only [vsAll, loadA, loadRow, partA, partOk, okAll, stAll, opsA, opA, dstOk, Nat.reduceLT, Nat.reduceEqDiff, ↓reduceIte, eq_self, wtAll]
   refine callK_pure (revery_tri p _ k) ?_
   simp only [vsAll, binA, binLitA, intA, opA, dstOk, Nat.reduceLT, Nat.reduceEqDiff, ↓reduceIte, eq_self]
   refine condD (fun hd => ?_) (fun hd => ?_)
   ·have hs1 : s < 2 ^ p.ws.length := by omega
    have hc := hcan s
    have hl := hlen s
    have hdc : decide (0 < ((plL p s p.fl.length []).length : Int)) = canB p p.fl.length s := by rw [hc]; exact decide_eq_decide.2 (by omega)
    have hpl := fun H => plans0_tri p s p.fl.length H k hA (by omega) (Nat.le_refl _)
    have hcond : ((!(rwN p s).isSome || decide (((bitN s : Nat) : Int) < ((bitN ((rwN p s).getD 0) : Nat) : Int))) && canB p p.fl.length s) = true ↔ ((rwN p s = none ∨ bitN s < bitN ((rwN p s).getD 0)) ∧ canB p p.fl.length s = true) := by
     rw [Bool.and_eq_true, Bool.or_eq_true, decide_eq_true_eq]
     cases rwN p s with
     | none => simp
     | some r => simp
    generalize plL p s p.fl.length [] = L at hdc hpl
    simp only [vsAll, unA, opA, guardV, dstOk, Nat.reduceLT, Nat.reduceEqDiff, ↓reduceIte, implies_true, eq_self]
    refine gcall (i64 (bitN s : Nat)) (fun g => ⟨by simp only [vsAll, opA], by simp only [vsAll, okAll, opsA, opA, ↓reduceIte, eq_self, g], rsize_tri s _ (by omega)⟩) ?_
    simp only [vsAll, opA, guardV, dstOk, Nat.reduceLT, Nat.reduceEqDiff, ↓reduceIte, implies_true, eq_self]
    refine gcall (i64 (bitN ((rwN p s).getD 0) : Nat)) (fun g => ⟨by simp only [vsAll, opA], by simp only [vsAll, okAll, opsA, opA, ↓reduceIte, eq_self, g], rsize_tri ((rwN p s).getD 0) _ hb8⟩) ?_
    simp only [vsAll, binA, binLitA, intA, loadA, loadRow, partA, partOk, fieldAddrA, lenA, pickA, opA, guardV, dstOk, Nat.reduceLT, Nat.reduceEqDiff, ↓reduceIte, implies_true, eq_self, wtAll]
    refine gcall (llAV L) (fun g => ⟨by simp only [vsAll, opA], by simp only [vsAll, okAll, opsA, opA, Nat.reduceEqDiff, ↓reduceIte, eq_self, g], hpl _⟩) ?_
    simp only [vsAll, binA, binLitA, intA, lenA, pickA, opA, guardV, dstOk, Nat.reduceLT, Nat.reduceEqDiff, ↓reduceIte, implies_true, eq_self, wtAll, hdc]
    have e7 : (s : Int) + 1 = ((s + 1 : Nat) : Int) := by omega
    refine condV (fun hc2 => ?_) (fun hc2 => ?_)
    ·rw [if_pos (hcond.1 hc2)] at hnx
     simp only [vsAll, binA, binLitA, intA, opA, dstOk, nilSliceOp, Nat.reduceLT, Nat.reduceEqDiff, ↓reduceIte, eq_self]
     refine ⟨by simp only [InR_i64]; omega, loop_next (s + 1) (by omega) (by omega) ?_ HSub_rfl⟩
     simp only [vsAll, Nat.reduceEqDiff, ↓reduceIte, eq_self, hnx, e7, Option.getD_some]
    ·rw [if_neg fun h => by rw [hcond.2 h] at hc2; cases hc2] at hnx
     simp only [vsAll, binA, binLitA, intA, opA, dstOk, nilSliceOp, Nat.reduceLT, Nat.reduceEqDiff, ↓reduceIte, eq_self]
     refine ⟨by simp only [InR_i64]; omega, loop_next (s + 1) (by omega) (by omega) ?_ HSub_rfl⟩
     simp only [vsAll, Nat.reduceEqDiff, ↓reduceIte, eq_self, hnx, e7]
   ·have es : s = 2 ^ p.ws.length := by omega
    subst es
    by_cases hz : wchE p = 0
    ·obtain ⟨S, a1, a2⟩ := w1 hz
     simp only [vsAll, unA, opA, dstOk, nilSliceOp, resA, retA.eq_2, Nat.reduceLT, Nat.reduceEqDiff, ↓reduceIte, eq_self, Tryz.results12, a2, hz, a1, Option.getD_some]
    ·obtain ⟨a1, a2⟩ := w2 hz
     have a3 : wchV p = 0 := if_neg hz
     simp only [vsAll, unA, opA, dstOk, nilSliceOp, resA, retA.eq_2, Nat.reduceLT, Nat.reduceEqDiff, ↓reduceIte, eq_self, Tryz.results12, a2, a1, a3, Option.getD_none]
 ·have e1 : wchE p = errE p true := if_neg he
  have e2 : wchV p = 0 := if_neg (by rw [e1]; exact he)
  have d1 : decide (errE p true = 0) = false := decide_eq_false he
  simp only [vsAll, binA, binLitA, intA, opA, dstOk, nilSliceOp, resA, retA.eq_2, Nat.reduceLT, Nat.reduceEqDiff, ↓reduceIte, eq_self, Tryz.results12, d1, e1, e2]
theorem looks_law (p : Pu) (H : Hp) : PTri Tryz.prog (fnA 3) [p.av] H (boo true) := by
 refine tri_v0 (fun _ => false) Tryz.func3 (by kernel_rfl) rfl (by simp only [List.length_append, List.length_cons, List.length_nil, Tryz.ntmps3]; decide) ?_
 simp only [vsAll, loadA, loadRow, partA, partOk, boxA, boxZ, okAll, stAll, opsA, opA, dstOk, nilSliceOp, argFr, Nat.reduceAdd, Nat.reduceLT, Nat.reduceEqDiff, ↓reduceIte, eq_self, wtAll, Tryz.ntmps3]
 refine callK_pure (far0_tri p _) ?_
 simp only [vsAll, binA, binLitA, intA, loadA, loadRow, partA, partOk, fieldAddrA, lenA, opA, guardV, dstOk, Nat.reduceLT, Nat.reduceEqDiff, ↓reduceIte, implies_true, eq_self, wtAll]
 refine gcall (boo (decide (Ok p))) (fun g => ⟨by simp only [vsAll, opA], by simp only [vsAll, okAll, opsA, opA, ↓reduceIte, eq_self, g], rpump_tri p _ (far_near (by simpa using (Bool.and_eq_true_iff.1 g).1)).1⟩) ?_
 simp only [vsAll, pickA, opA, guardV, dstOk, Nat.reduceLT, Nat.reduceEqDiff, ↓reduceIte, implies_true, eq_self]
 refine ⟨fun g => ⟨g, fun g2 => by rw [g, g2]; rfl⟩, condV (fun hc => ?_) (fun hc => ?_)⟩
 ·simp only [vsAll, okAll, stAll, opsA, opA, dstOk, Nat.reduceLT]
  refine callK_pure (awake_tri _) ?_
  simp only [vsAll, opA, dstOk, nilSliceOp, resA, retA.eq_1, Nat.reduceLT, ↓reduceIte, eq_self, Tryz.results3]
 ·have kn : Near p := (far_near (by
   cases h : farB p 0 with
   | false => rfl
   | true => rw [h] at hc; simp at hc)).1
  have hfl : (fewP p).length < 2 ^ 60 := by
   by_cases hz : fewE p = 0
   ·have := (few_spec hz).1
    have := kn.nF
    omega
   ·have e : fewP p = [] := if_neg hz
    rw [e]; decide
  have hin := rints_tri (fewP p) (fewP p)
  rw [decide_eq_true (rfl : fewP p = fewP p)] at hin
  simp only [vsAll, loadA, loadRow, partA, partOk, okAll, stAll, opsA, opA, dstOk, Nat.reduceLT, Nat.reduceEqDiff, ↓reduceIte, eq_self, wtAll]
  refine callK_pure (few_tri p _ kn) ?_
  simp only [vsAll, loadA, loadRow, partA, partOk, extractA, okAll, stAll, opsA, opA, dstOk, nilSliceOp, Nat.reduceAdd, Nat.reduceLT, Nat.reduceEqDiff, ↓reduceIte, eq_self, wtAll]
  refine callK_pure (rfew_tri p _ kn) ?_
  simp only [vsAll, loadA, loadRow, partA, partOk, extractA, okAll, stAll, opsA, opA, dstOk, nilSliceOp, Nat.reduceAdd, Nat.reduceLT, Nat.reduceEqDiff, ↓reduceIte, eq_self, wtAll]
  refine callK_pure (unt_tri p _ kn) ?_
  simp only [vsAll, loadA, loadRow, partA, partOk, extractA, okAll, stAll, opsA, opA, dstOk, nilSliceOp, Nat.reduceAdd, Nat.reduceLT, Nat.reduceEqDiff, ↓reduceIte, eq_self, wtAll]
  refine callK_pure (runt_tri p _ kn) ?_
  simp only [vsAll, loadA, loadRow, partA, partOk, extractA, okAll, stAll, opsA, opA, dstOk, nilSliceOp, Nat.reduceAdd, Nat.reduceLT, Nat.reduceEqDiff, ↓reduceIte, eq_self, wtAll]
  refine callK_pure (wch_tri p _ kn) ?_
  simp only [vsAll, loadA, loadRow, partA, partOk, extractA, okAll, stAll, opsA, opA, dstOk, nilSliceOp, Nat.reduceAdd, Nat.reduceLT, Nat.reduceEqDiff, ↓reduceIte, eq_self, wtAll]
  refine callK_pure (rwch_tri p _ kn) ?_
  simp only [vsAll, binA, binLitA, intA, extractA, opA, guardV, dstOk, nilSliceOp, Nat.reduceAdd, Nat.reduceLT, Nat.reduceEqDiff, ↓reduceIte, eq_self]
  refine gcall (boo true) (fun g => ⟨by simp only [vsAll, opA], by simp only [vsAll, okAll, opsA, opA, Nat.reduceEqDiff, ↓reduceIte, eq_self], hin _ hfl hfl⟩) ?_
  simp only [vsAll, binA, binLitA, intA, pickA, opA, guardV, dstOk, Nat.reduceLT, Nat.reduceEqDiff, ↓reduceIte, implies_true, eq_self]
  refine gcall (boo true) (fun g => ⟨trivial, by simp only [okAll, opsA], awake_tri _⟩) ?_
  simp only [vsAll, pickA, opA, dstOk, nilSliceOp, resA, retA.eq_1, Nat.reduceLT, Nat.reduceEqDiff, ↓reduceIte, implies_true, eq_self, Tryz.results3]
end Go.Proofs.YtkcgocmjaggdiaaGreat
end
section
set_option linter.unusedVariables false
set_option linter.unusedSimpArgs false
set_option maxRecDepth 100000
namespace Go.Proofs.YtkcgocmjaggdiaaGreat
open Go.V Wl Go.ChangeShapes Go.WideShapes Go.ChangeAt Go.RowKit
theorem pump_cells : cellsT Tryz.prog 9 29 = some [.sl [.int .i64, .int .i64], .int .i64, .sl [.int .i64, .int .i64, .int .i64, .int .i64], .sl [.int .i64], .sl [.int .i64, .int .i64, .int .i64, .int .i64, .int .i64]] := by kernel_rfl
theorem ints_of {av : AV} (h : CKA (.sl [.int .i64]) av) : ∃ l : List Int, l.length ≤ maxLen ∧ AV.Le av (intsAV l) := by
 obtain ⟨l, h1, h2⟩ := told_slice (α := Int) (fun z => [i64 z]) 0 (fun cs hcs => by
  obtain ⟨z, hz, _⟩ := told_int 0 hcs rfl
  exact ⟨z, rfl, fun j hj => by
   match j, hj with
   | 0, _ => rw [hz]; exact AV.Le.refl _⟩) h
 exact ⟨l, h1, h2⟩
theorem spans_of {av : AV} (h : CKA (.sl [.int .i64, .int .i64]) av) : ∃ l : List (Int × Int), l.length ≤ maxLen ∧ AV.Le av (spansAV l) := by
 obtain ⟨l, h1, h2⟩ := told_slice (α := Int × Int) (fun z => [i64 z.1, i64 z.2]) (0, 0) (fun cs hcs => by
  obtain ⟨a, ha, _⟩ := told_int 0 hcs rfl
  obtain ⟨b, hb, _⟩ := told_int 1 hcs rfl
  exact ⟨(a, b), rfl, fun j hj => by
   match j, hj with
   | 0, _ => rw [ha]; exact AV.Le.refl _
   | 1, _ => rw [hb]; exact AV.Le.refl _⟩) h
 exact ⟨l, h1, h2⟩
theorem watches_of {av : AV} (h : CKA (.sl [.int .i64, .int .i64, .int .i64, .int .i64]) av) : ∃ l : List Wt, l.length ≤ maxLen ∧ AV.Le av (wsAV l) := by
 obtain ⟨l, h1, h2⟩ := told_slice (α := Wt) Wt.cs wt0 (fun cs hcs => by
  obtain ⟨a, ha, _⟩ := told_int 0 hcs rfl
  obtain ⟨b, hb, _⟩ := told_int 1 hcs rfl
  obtain ⟨c, hc, _⟩ := told_int 2 hcs rfl
  obtain ⟨d, hd, _⟩ := told_int 3 hcs rfl
  exact ⟨⟨a, b, c, d⟩, rfl, fun j hj => by
   match j, hj with
   | 0, _ => rw [ha]; exact AV.Le.refl _
   | 1, _ => rw [hb]; exact AV.Le.refl _
   | 2, _ => rw [hc]; exact AV.Le.refl _
   | 3, _ => rw [hd]; exact AV.Le.refl _⟩) h
 exact ⟨l, h1, h2⟩
def sd00 : Sd := ⟨0, 0, 0, 0, 0⟩
theorem soundings_of {av : AV} (h : CKA (.sl [.int .i64, .int .i64, .int .i64, .int .i64, .int .i64]) av) : ∃ l : List Sd, l.length ≤ maxLen ∧ AV.Le av (sdAV l.length fun i => l.getD i sd00) := by
 obtain ⟨l, h1, h2⟩ := told_slice (α := Sd) Sd.cs sd00 (fun cs hcs => by
  obtain ⟨a, ha, _⟩ := told_int 0 hcs rfl
  obtain ⟨b, hb, _⟩ := told_int 1 hcs rfl
  obtain ⟨c, hc, _⟩ := told_int 2 hcs rfl
  obtain ⟨d, hd, _⟩ := told_int 3 hcs rfl
  obtain ⟨e, he, _⟩ := told_int 4 hcs rfl
  exact ⟨⟨a, b, c, d, e⟩, rfl, fun j hj => by
   match j, hj with
   | 0, _ => rw [ha]; exact AV.Le.refl _
   | 1, _ => rw [hb]; exact AV.Le.refl _
   | 2, _ => rw [hc]; exact AV.Le.refl _
   | 3, _ => rw [hd]; exact AV.Le.refl _
   | 4, _ => rw [he]; exact AV.Le.refl _⟩) h
 exact ⟨l, h1, h2⟩
theorem pump_rel {H : Type} {enc : TypeId × Value → H} {W : World} {sp : Nat → Bool} {held : Bool} {v : Value} {d : DataW H} {ps : List MemPlace}
 {base : Nat} (hv : Value.okWide Tryz.prog W .any base 29 v) (h : DataW.Trod enc Tryz.prog W 0 sp held 29 v d ps) : ∃ p : Pu, True ∧ VRel (st0 W) p.av v := by
 obtain ⟨cs, hcs, hv⟩ := trod_agg pump_cells (by decide) h
 obtain ⟨fl, l0, h0⟩ := spans_of (hcs.2 0 _ rfl)
 obtain ⟨ca, h1, _⟩ := told_int 1 hcs rfl
 obtain ⟨ws, l2, h2⟩ := watches_of (hcs.2 2 _ rfl)
 obtain ⟨fo, l3, h3⟩ := ints_of (hcs.2 3 _ rfl)
 obtain ⟨sd, l4, h4⟩ := soundings_of (hcs.2 4 _ rfl)
 refine ⟨⟨fl, ca, ws, ⟨fo.length, fun i => fo.getD i 0, sd.length, fun i => sd.getD i sd00⟩⟩, trivial, AV.Le.aggD (cs := cs) hcs.1.symm (fun j hj => ?_) _ _ hv⟩
 have hj5 : j < 5 := by have := hcs.1; simp at this; omega
 match j, hj5 with
 | 0, _ => exact h0
 | 1, _ => rw [h1]; exact AV.Le.refl _
 | 2, _ => exact h2
 | 3, _ => exact h3
 | 4, _ => exact h4
theorem Tryz.own : ownKnob Tryz.prog.godebug = none := by kernel_rfl
theorem u4 : Tryz.prog.underlying 4 = some .bool := by kernel_rfl
def iz : Value → Int
 | .int _ n => n
 | _ => 0
end Go.Proofs.YtkcgocmjaggdiaaGreat
end
section
set_option linter.unusedVariables false
set_option linter.unusedSimpArgs false
set_option maxRecDepth 100000
namespace Go.Proofs.YtkcgocmjaggdiaaGreat
open Go.V Go.ChangeShapes Go.WideShapes Go.ChangeAt Go.RowKit
theorem pumpLooks_lifted (os : Os) (started : os.Started) (H : Type) (enc : TypeId × Value → H) :
 ReturnsInHanded {} Tryz.checked os 3 .any (Rows.pumpLooksSpec.pre6 enc Tryz.prog Tryz.f3 Rows.pumpLooksRow.domain false) (Rows.pumpLooksSpec.post enc Tryz.prog Tryz.f3 false true false false) := by
 refine returnsInHanded_of_change (C := Tryz.checked) Tryz.own started (by kernel_rfl) Tryz.func3
  (ChangeSpec.witness6 (enc := enc) (C := Tryz.checked) false ⟨#[], #[.agg #[.slice none 0 0, .int .i64 0, .slice none 0 0, .slice none 0 0, .slice none 0 0]], []⟩ 8 (by kernel_rfl) (by kernel_rfl) (by kernel_rfl) (by kernel_rfl)) ?_
 intro W base args ds gs before hval hW hcnd _
 have hW' := hW
 obtain ⟨p, q, hA, hV, rfl, hfz, hnd⟩ := hW
 obtain ⟨rfl, rfl⟩ := trodVars_none hV
 rw [show Tryz.f3.params.toList = [29] from by kernel_rfl] at hA
 obtain ⟨v0, d0, rfl, rfl, h0⟩ := trodAll_one hA
 have hval : ∀ (j : Nat) t v, Tryz.f3.params[j]? = some t → (#[v0] : Array Value)[j]? = some v → Value.okWide Tryz.prog W .any base t v := hval
 rw [show Tryz.f3.params = #[29] from by kernel_rfl] at hval
 obtain ⟨x0, b0, r0⟩ := pump_rel (hval 0 29 v0 rfl rfl) h0
 refine (law_calls (W := W) (args := #[v0]) Tryz.func3 (by kernel_rfl) rfl (Tri.mono (looks_law x0 H0 ) ?_) (fun p hp => by cases hp) ⟨rfl, fun k hk => match k, hk with | 0, _ => r0⟩).mono fun e W' he => ?_
 ·rintro r H' ⟨rfl, _⟩; rfl
 ·obtain ⟨rfl, hh, ho, hp⟩ := he
  exact ⟨_, rfl, law_post (d := 6) rfl (tb := 4) (by kernel_rfl) u4 (by decide +kernel) hW' rfl hh ho hp⟩

theorem pumpLooks_holds : Rows.PumpLooksSaid :=
 OpenClaim.holds_of_wide (p := Tryz.pinned) (s := Rows.pumpLooksSpec) (c := Rows.pumpLooksRow) 3 Tryz.f3 rfl rfl rfl rfl rfl rfl rfl ⟨rfl, rfl, rfl, rfl, rfl⟩ rfl rfl rfl rfl rfl (by kernel_rfl) Tryz.func3 (by kernel_rfl)
  (of_decide_eq_true (by kernel_rfl)) (by unfold Func.isWrapper; first | (rw [if_pos (by decide +kernel)]; kernel_rfl) | (rw [if_neg (by decide +kernel)]; exact ⟨rfl, rfl⟩))
  (fun os started H enc _ => pumpLooks_lifted os started H enc)

end Go.Proofs.YtkcgocmjaggdiaaGreat
end
