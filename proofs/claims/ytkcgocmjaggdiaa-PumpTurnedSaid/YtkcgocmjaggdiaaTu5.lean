/- Helper lemmas of this claim, part 5. -/
import Derived.Test.YtkcgocmjaggdiaaRows
import Derived.ChangeVars
import Derived.Test.YtkcgocmjaggdiaaTu4
section
set_option linter.unusedVariables false
set_option linter.unusedSimpArgs false
set_option maxHeartbeats 4000000
set_option maxRecDepth 100000
namespace Go.Proofs.Ytkcgocmjaggdiaa
open Go.V Wl
theorem vs_entF {P : Program} {m : Option Tmp → Bool} {n : Nat} {k : List It} {s : Fr} {ds : List AD} {H : Hp} {Q : Post} {g : Operand} {ps : Array Tmp} {assign body : Code} (h : Ent s ds H fun s ds H => VS none P m n (.code (.rangeFunc g ps assign body) :: k) s ds H Q) : VS none P m n (.code (.rangeFunc g ps assign body) :: k) s ds H Q :=
 (wps_ent h : WPS none P n (.rangeFunc g ps assign body) s ds H (TK none P m n k Q))
/-- The best and the worst water after so many hours: the first ones with both. -/
def plyH (p : Pu) (l : List Int) (a n : Nat) : List (Int × Int) := (List.range n).map fun i => (watV p l true (i + 1), if i < a then watV p l false (i + 1) else 0)
theorem plyH_len (p : Pu) (l : List Int) (a n : Nat) : (plyH p l a n).length = n := by simp [plyH]
theorem plyH_succ (p : Pu) (l : List Int) (n : Nat) : plyH p l 0 (n + 1) = plyH p l 0 n ++ [(watV p l true (n + 1), 0)] := by simp [plyH, List.range_succ]
theorem plyH_all (p : Pu) (l : List Int) (n : Nat) : plyH p l n n = plyL p l n := by
 unfold plyH plyL
 refine List.map_congr_left fun i hi => ?_
 rw [if_pos (List.mem_range.1 hi)]
theorem plyH_at (p : Pu) (l : List Int) (a : Nat) {n i : Nat} (hi : i < n) : (plyH p l a n).getD i (0, 0) = (watV p l true (i + 1), if i < a then watV p l false (i + 1) else 0) := by
 simp [plyH, List.getD_eq_getElem?_getD, hi]
theorem plyH_upd (p : Pu) (l : List Int) {n i : Nat} (hi : i < n) (q : Nat) (hq : q < n) : updF n i (spanF (plyH p l i n)) (List.take 1 (spanF (plyH p l i n) i) ++ [i64 (watV p l false (i + 1))] ++ List.drop 2 (spanF (plyH p l i n) i)) q = spanF (plyH p l (i + 1) n) q := by
 rw [updF_at hi hq]
 by_cases e : q = i
 ·subst e
  simp only [spanF, plyH_at p l _ hi, Nat.lt_succ_self, if_true]
  simp
 ·simp only [spanF, plyH_at p l _ hq]
  have : (q < i) = (q < i + 1) := by apply propext; omega
  simp [e, this]
/-- What is told of the water, in a row of its own. -/
def playR (p : Pu) (l : List Int) (H : Hp) : Res → Hp → Prop := fun r H' => ∃ id, H id = none ∧ r = .ret (.tuple [.sl id 2 (playV p l).length, i64 (playE p l)]) ∧ H' = H.set id (.row 2 (playV p l).length (spanF (playV p l)))
theorem wplay_triM (p : Pu) (l : List Int) (H : Hp) (kn : Near p) (hl : l.length ≤ 41) : Tri Try.prog (fnA 13) [p.av, intsAV l] H (playR p l H) := by
 refine Tri.drop ?_
 refine tri_am (m := mset [4]) ans44 Try.func13 (by kernel_rfl) rfl (by simp only [List.length_append, List.length_cons, List.length_nil, Try.ntmps13]; decide) ?_
 simp only [vsAll, boxA, boxZ, okAll, stAll, opsA, opA, allocA, dstOk, nilA, argFr, Nat.reduceAdd, Nat.reduceLT, Nat.reduceBEq, ↓reduceIte, eq_self, wtAll, Try.ntmps13]
 intro i4 hh_i4; (try simp only [Hp.set_none, ite_none] at hh_i4); intro i5 hh_i5; (try simp only [ite_none] at hh_i5)
 refine vs_draw2 [0, 0, 0, 0, 1, 2] [([0, 1, 2, 3], [], 4)] [5] (by decide +kernel) ?_
 simp only [vsAll, loadA, loadRow, partA, partOk, opA, dstOk, argFr, Nat.reduceLT, Nat.reduceEqDiff, ↓reduceIte, eq_self, wtAll]
 refine qcall _ ⟨trivial, by simp only [vsAll, okAll, opsA, opA, Nat.reduceEqDiff, ↓reduceIte, eq_self], isPlan_tri p l _⟩ ?_
 simp only [vsAll, okAll, stAll, opsA, opA, dstOk, Nat.reduceLT, Nat.reduceEqDiff, ↓reduceIte, eq_self]
 refine open_call (open_tri p _ (planB p l) _ kn trivial rfl (fun k H' => isPlan1_tri p l H' k hl)) (fun he => ?_) (fun k hv hA id hid => ?_)
 ·have e2 : playV p l = [] := if_neg he
  have e : playE p l = errE p (planB p l) := rfl
  simp only [vsAll, loadA, loadRow, partA, partOk, resA, retA.eq_2, Nat.reduceEqDiff, ↓reduceIte, eq_self, wtAll, Try.results13]
  refine ⟨errE p (planB p l), i5, _, rfl, rfl, by simp only [↓reduceIte, eq_self]; try rfl, ?_⟩
  simp only [vsAll, Nat.reduceLT, ↓reduceIte, eq_self]
  refine ⟨_, ?_, i4, hh_i4, by simp only [vsAll, eq_self, e2, e]; try rfl, rfl⟩
  rw [e2]
  refine HSub_put (o' := .row 2 0 fun _ => []) (by simp only [vsAll, ↓reduceIte, eq_self, hh_i5]) (row0_le _ _ _) ?_
  (repeat (first | exact HSub_rfl | refine HSub_put_eq (by simp only [vsAll, binA, binLitA, intA, aggA, aggV, boolA, nilA2, isConst, unA, loadA, loadRow, partA, partOk, fieldAddrA, indexAddrA, indexA, fieldA, extractA, lenA, nilCheckA, boxA, boxZ, cellA, cellsA, fillA, okParts, buildSliceA, buildMutA, makeSliceA, partIdx, elemsA, lensA, ifaceA, convA, mmA, pickA, okAll, stAll, opsA, partsA, partsOk, opA, allocA, boxMutA, newCells, okCells, storeObj, appendA, guardV, taA, nM, mapUpA, lookA, sliceA, sliceS, boundsA, opO, okO, copyA, dstOk, nilA, quietOk, nilSliceOp, deferV, panA, resA, argFr, retA.eq_1, retA.eq_2, Nat.reduceAdd, Nat.reduceSub, Nat.reduceMul, Nat.reduceLT, Nat.reduceLeDiff, Nat.reduceEqDiff, Nat.reduceBEq, Int.reduceAdd, Int.reduceSub, Int.reduceMul, Int.reduceNeg, Int.reduceLE, Int.reduceLT, Int.reduceEq, Int.reduceNe, Int.reduceToNat, ↓reduceIte, reduceCtorEq, implies_true, forall_const, eq_self, ne_eq, arrL, wtAll, Try.ntmps13, Try.results13, hh_i4, hh_i5]) ?_ | refine HSub_drop2 (by simp only [eq_self, hh_i4, hh_i5]) ?_ | refine HSub_keep_eq (by simp only [vsAll, binA, binLitA, intA, aggA, aggV, boolA, nilA2, isConst, unA, loadA, loadRow, partA, partOk, fieldAddrA, indexAddrA, indexA, fieldA, extractA, lenA, nilCheckA, boxA, boxZ, cellA, cellsA, fillA, okParts, buildSliceA, buildMutA, makeSliceA, partIdx, elemsA, lensA, ifaceA, convA, mmA, pickA, okAll, stAll, opsA, partsA, partsOk, opA, allocA, boxMutA, newCells, okCells, storeObj, appendA, guardV, taA, nM, mapUpA, lookA, sliceA, sliceS, boundsA, opO, okO, copyA, dstOk, nilA, quietOk, nilSliceOp, deferV, panA, resA, argFr, retA.eq_1, retA.eq_2, Nat.reduceAdd, Nat.reduceSub, Nat.reduceMul, Nat.reduceLT, Nat.reduceLeDiff, Nat.reduceEqDiff, Nat.reduceBEq, Int.reduceAdd, Int.reduceSub, Int.reduceMul, Int.reduceNeg, Int.reduceLE, Int.reduceLT, Int.reduceEq, Int.reduceNe, Int.reduceToNat, ↓reduceIte, reduceCtorEq, implies_true, forall_const, eq_self, ne_eq, arrL, wtAll, Try.ntmps13, Try.results13, hh_i4, hh_i5]) ?_))
 ·have he : playE p l = 0 := by
   show errE p (planB p l) = 0
   rw [hv]; exact errE_ok k (by ((try clear hh_i4); (try clear hh_i5); omega))
  have hF := firstP_of k hv
  have hn : l.length ≤ p.fl.length := by have := (planB_iff.1 hv).1; ((try clear hh_i4); (try clear hh_i5); omega)
  have hid' := hid
  simp only [Hp.set_none] at hid
  skip
  simp only [vsAll, loadA, loadRow, partA, partOk, nilCheckA, fillA, okParts, ifaceA, okAll, stAll, opsA, partsA, partsOk, opA, allocA, dstOk, Nat.reduceLT, Nat.reduceEqDiff, ↓reduceIte, eq_self, wtAll]
  intro i7 hh_i7; (try simp only [ite_none] at hh_i7)
  simp only [vsAll, Nat.reduceLT, ↓reduceIte, eq_self, hh_i7]
  refine ⟨_, in_tri p false true 0 _, fun r H' hr => ?_⟩
  obtain ⟨j, hj, rfl, rfl⟩ := hr
  simp only [Hp.set_none] at hj
  have hj' := hj
  skip
  simp only [vsAll, okAll, stAll, opsA, opA, dstOk, argFr, Nat.reduceLT, Nat.reduceEqDiff, ↓reduceIte, eq_self]
  refine callK_pure (run_tri p l j _) ?_
  simp only [vsAll]
  refine vs_entF (Ent.nilBox 2 (spanF []) (fun id _ => [.sl id 2 0]) (j := i7) (st' := 1) (n' := 1) (g := fun _ => [.lit (.slice none 0 0)]) ((Hp.set_ne _ _ hj.1.2).trans (Hp.set_same _ _ _)) (fun _ _ _ => rfl) (fun id q d hq hd => ?_) fun ih hih => ?_)
  ·match d, hd with
   | 0, _ => exact .hit
  simp only [Hp.set_none] at hih
  have hih' := hih
  skip
  refine vs_rangeB (σ := Unit) (runL p l true 0) (fun _ _ => True)
   (fun i _ => (((((H.set i4 (.row 2 0 fun _ => [])).set i5 (.box 1 1 fun _ => [i64 0])).set id (.box 9 1 fun _ => pmC p false 0)).set j (.box 9 1 fun _ => pmC p true 0)).set ih (.row 2 i (spanF (plyH p l 0 i)))).set i7 (.box 1 1 fun _ => [.sl ih 2 i])) () (PmAt p true 0 j) Try.func78 (by kernel_rfl) rfl (by simp only [vsAll, opA, ↓reduceIte, eq_self]) (by simp only [vsAll, opA, ↓reduceIte, eq_self]) (by decide) (fun v hv => by obtain ⟨q, _, rfl⟩ := List.mem_map.1 hv; rfl)
   (fun yf H K hp hi => run1_tri p l true 0 j k hA hF hn (by ((try clear hh_i4); (try clear hh_i5); (try clear hid); (try clear hh_i7); (try clear hj'); (try clear hih'); omega)) yf H K hi hp) trivial ?_ ?_ ?_ ?_ ?_
  ·show Go.V.HSub _ ((((((H.set i4 (.row 2 0 fun _ => [])).set i5 (.box 1 1 fun _ => [i64 0])).set id (.box 9 1 fun _ => pmC p false 0)).set j (.box 9 1 fun _ => pmC p true 0)).set ih (.row 2 0 (spanF []))).set i7 (.box 1 1 fun _ => [.sl ih 2 0]))
   (repeat (first | exact HSub_rfl | refine HSub_put_eq (by simp only [vsAll, ↓reduceIte, eq_self, hh_i5, hid, hh_i7, hj', hih']) ?_ | refine HSub_drop2 (by simp only [eq_self, hh_i4, hh_i5, hid, hh_i7, hj', hih']) ?_ | refine HSub_keep_eq (by simp only [vsAll, binA, binLitA, intA, aggA, aggV, boolA, nilA2, isConst, unA, loadA, loadRow, partA, partOk, fieldAddrA, indexAddrA, indexA, fieldA, extractA, lenA, nilCheckA, boxA, boxZ, cellA, cellsA, fillA, okParts, buildSliceA, buildMutA, makeSliceA, partIdx, elemsA, lensA, ifaceA, convA, mmA, pickA, okAll, stAll, opsA, partsA, partsOk, opA, allocA, boxMutA, newCells, okCells, storeObj, appendA, guardV, taA, nM, mapUpA, lookA, sliceA, sliceS, boundsA, opO, okO, copyA, dstOk, nilA, quietOk, nilSliceOp, deferV, panA, resA, argFr, retA.eq_1, retA.eq_2, Nat.reduceAdd, Nat.reduceSub, Nat.reduceMul, Nat.reduceLT, Nat.reduceLeDiff, Nat.reduceEqDiff, Nat.reduceBEq, Int.reduceAdd, Int.reduceSub, Int.reduceMul, Int.reduceNeg, Int.reduceLE, Int.reduceLT, Int.reduceEq, Int.reduceNe, Int.reduceToNat, ↓reduceIte, reduceCtorEq, implies_true, forall_const, eq_self, ne_eq, arrL, wtAll, Try.ntmps13, Try.results13, hh_i4, hh_i5, hid, hh_i7, hj', hih']) ?_))
  ·intro i _ _ q
   simp only [Hp.set_none]
  ·intro i x hi lid did o1 o2 h1 h2
   simp only [Hp.set_none] at h1 h2
   show Hp.set (Hp.set (Hp.set (Hp.set (Hp.set (Hp.set (Hp.set (Hp.set H i4 _) i5 _) id _) j _) ih _) i7 _) did _) lid _ j = _
   simp only [vsAll, ↓reduceIte, eq_self, hj', hih', h1, h2]
  ·rintro j2 o i v ⟨⟩ hv hi hj2 lid did l' lo h1 h2 h3 h5 h6
   simp only [Hp.set_none] at hj2 h1 h2
   have h4 : ¬ did = lid := fun e => h3 e.symm
   have h5' : ¬ lid = j2 := fun e => h5 e.symm
   have h6' : ¬ did = j2 := fun e => h6 e.symm
   skip
   obtain ⟨his, rfl⟩ := runL_get hv
   simp only [vsAll, loadA, loadRow, partA, partOk, fieldAddrA, cellA, cellsA, fillA, okParts, buildSliceA, partIdx, elemsA, lensA, partsA, partsOk, opA, allocA, newCells, okCells, storeObj, appendA, dstOk, quietOk, Nat.reduceAdd, Nat.reduceMul, Nat.reduceLT, Nat.reduceLeDiff, Nat.reduceEqDiff, Nat.reduceBEq, ↓reduceIte, eq_self, wtAll, hj2, h1, h2]
   intro i9 hh_i9; (try simp only [ite_none] at hh_i9)
   refine ⟨?_, ?_⟩
   ·simp only [↓reduceIte, eq_self, hh_i9]
   simp only [vsAll, Nat.reduceAdd, Nat.reduceLT, ↓reduceIte, eq_self, hih', hj2, h1, h2, hh_i9]
   rw [moreP_zero, app_spans' (plyH_len p l 0 i) (watV p l true (i + 1)) 0 _ rfl, ← plyH_succ]
   exact ⟨fun q hq => by (have : q = 0 := by ((try clear hh_i4); (try clear hh_i5); (try clear hid); (try clear hh_i7); (try clear hj'); (try clear hih'); (try clear hj2); (try clear h1); (try clear h2); (try clear h3); (try clear h4); (try clear h5); (try clear h6); (try clear h5'); (try clear h6'); (try clear hh_i9); omega)); subst this; exact ⟨rfl, rfl, trivial⟩, by ((try clear hh_i4); (try clear hh_i5); (try clear hid); (try clear hh_i7); (try clear hj'); (try clear hih'); (try clear hj2); (try clear h1); (try clear h2); (try clear h3); (try clear h4); (try clear h5); (try clear h6); (try clear h5'); (try clear h6'); (try clear hh_i9); omega), by ((try clear hh_i4); (try clear hh_i5); (try clear hid); (try clear hh_i7); (try clear hj'); (try clear hih'); (try clear hj2); (try clear h1); (try clear h2); (try clear h3); (try clear h4); (try clear h5); (try clear h6); (try clear h5'); (try clear h6'); (try clear hh_i9); omega), ⟨_, _, rfl⟩, _, ⟨(), rfl⟩, by (repeat (first | exact HSub_rfl | refine HSub_put_eq (by simp only [vsAll, ↓reduceIte, eq_self, hh_i5, hid, hh_i7, hj', hih', hj2, h1, h2, h4, h5, h6, hh_i9]) ?_ | refine HSub_drop2 (by simp only [eq_self, hh_i4, hh_i5, hid, hh_i7, hj', hih', hj2, h1, h2, hh_i9]) ?_ | refine HSub_keep_eq (by simp only [vsAll, binA, binLitA, intA, aggA, aggV, boolA, nilA2, isConst, unA, loadA, loadRow, partA, partOk, fieldAddrA, indexAddrA, indexA, fieldA, extractA, lenA, nilCheckA, boxA, boxZ, cellA, cellsA, fillA, okParts, buildSliceA, buildMutA, makeSliceA, partIdx, elemsA, lensA, ifaceA, convA, mmA, pickA, okAll, stAll, opsA, partsA, partsOk, opA, allocA, boxMutA, newCells, okCells, storeObj, appendA, guardV, taA, nM, mapUpA, lookA, sliceA, sliceS, boundsA, opO, okO, copyA, dstOk, nilA, quietOk, nilSliceOp, deferV, panA, resA, argFr, retA.eq_1, retA.eq_2, Nat.reduceAdd, Nat.reduceSub, Nat.reduceMul, Nat.reduceLT, Nat.reduceLeDiff, Nat.reduceEqDiff, Nat.reduceBEq, Int.reduceAdd, Int.reduceSub, Int.reduceMul, Int.reduceNeg, Int.reduceLE, Int.reduceLT, Int.reduceEq, Int.reduceNe, Int.reduceToNat, ↓reduceIte, reduceCtorEq, implies_true, forall_const, eq_self, ne_eq, arrL, wtAll, Try.ntmps13, Try.results13, hh_i4, hh_i5, hid, hh_i7, hj', hih', hj2, h1, h2, h3, h4, h5, h6, h5', h6', hh_i9]) ?_))⟩
  ·rintro ⟨⟩ hi lid did lo h1 h2 h3
   simp only [Hp.set_none] at h1 h2
   have h4 : ¬ did = lid := fun e => h3 e.symm
   skip
   rw [runL_len]
   simp only [vsAll, okAll, stAll, opsA, opA, dstOk, argFr, Nat.reduceLT, Nat.reduceEqDiff, ↓reduceIte, eq_self]
   refine callK_pure (run_tri p l id _) ?_
   simp only [vsAll]
   refine vs_rangeB (σ := Unit) (runL p l false 0) (fun _ _ => True)
    (fun i _ => ((((((H.set i4 (.row 2 0 fun _ => [])).set i5 (.box 1 1 fun _ => [i64 0])).set id (.box 9 1 fun _ => pmC p false 0)).set j (.box 9 1 fun _ => pmC p true 0)).set ih (.row 2 l.length (spanF (plyH p l i l.length)))).set i7 (.box 1 1 fun _ => [.sl ih 2 l.length])).set did (.raw (.deferred (some [])))) () (PmAt p false 0 id) Try.func78 (by kernel_rfl) rfl (by simp only [vsAll, opA, ↓reduceIte, eq_self]) (by simp only [vsAll, opA, ↓reduceIte, eq_self]) (by decide) (fun v hv => by obtain ⟨q, _, rfl⟩ := List.mem_map.1 hv; rfl)
    (fun yf H K hp hi => run1_tri p l false 0 id k hA hF hn (by ((try clear hh_i4); (try clear hh_i5); (try clear hid); (try clear hh_i7); (try clear hj'); (try clear hih'); (try clear h1); (try clear h2); (try clear h3); (try clear h4); omega)) yf H K hi hp) trivial ?_ ?_ ?_ ?_ ?_
   ·(repeat (first | exact HSub_rfl | refine HSub_put_eq (by simp only [vsAll, ↓reduceIte, eq_self, hh_i5, hid, hh_i7, hj', hih', h1, h2, h4]) ?_ | refine HSub_drop2 (by simp only [eq_self, hh_i4, hh_i5, hid, hh_i7, hj', hih', h1, h2]) ?_ | refine HSub_keep_eq (by simp only [vsAll, binA, binLitA, intA, aggA, aggV, boolA, nilA2, isConst, unA, loadA, loadRow, partA, partOk, fieldAddrA, indexAddrA, indexA, fieldA, extractA, lenA, nilCheckA, boxA, boxZ, cellA, cellsA, fillA, okParts, buildSliceA, buildMutA, makeSliceA, partIdx, elemsA, lensA, ifaceA, convA, mmA, pickA, okAll, stAll, opsA, partsA, partsOk, opA, allocA, boxMutA, newCells, okCells, storeObj, appendA, guardV, taA, nM, mapUpA, lookA, sliceA, sliceS, boundsA, opO, okO, copyA, dstOk, nilA, quietOk, nilSliceOp, deferV, panA, resA, argFr, retA.eq_1, retA.eq_2, Nat.reduceAdd, Nat.reduceSub, Nat.reduceMul, Nat.reduceLT, Nat.reduceLeDiff, Nat.reduceEqDiff, Nat.reduceBEq, Int.reduceAdd, Int.reduceSub, Int.reduceMul, Int.reduceNeg, Int.reduceLE, Int.reduceLT, Int.reduceEq, Int.reduceNe, Int.reduceToNat, ↓reduceIte, reduceCtorEq, implies_true, forall_const, eq_self, ne_eq, arrL, wtAll, Try.ntmps13, Try.results13, hh_i4, hh_i5, hid, hh_i7, hj', hih', h1, h2, h3, h4]) ?_))
   ·intro i _ _ q
    simp only [Hp.set_none]
   ·intro i x hi lid2 did2 o1 o2 g1 g2
    simp only [Hp.set_none] at g1 g2
    show Hp.set (Hp.set (Hp.set (Hp.set (Hp.set (Hp.set (Hp.set (Hp.set (Hp.set H i4 _) i5 _) id _) j _) ih _) i7 _) did _) did2 _) lid2 _ id = _
    simp only [vsAll, ↓reduceIte, eq_self, hh_i7, hj', hih', h2, g1, g2]
   ·rintro j3 o i v ⟨⟩ hv hi hj3 lid2 did2 l' lo2 g1 g2 g3 g5 g6
    simp only [Hp.set_none] at hj3 g1 g2
    have g4 : ¬ did2 = lid2 := fun e => g3 e.symm
    have g5' : ¬ lid2 = j3 := fun e => g5 e.symm
    have g6' : ¬ did2 = j3 := fun e => g6 e.symm
    skip
    obtain ⟨his, rfl⟩ := runL_get hv
    simp only [vsAll, loadA, loadRow, partA, partOk, fieldAddrA, indexAddrA, cellA, cellsA, opA, allocA, newCells, okCells, storeObj, dstOk, quietOk, nilSliceOp, Nat.reduceAdd, Nat.reduceLT, Nat.reduceEqDiff, Nat.reduceBEq, ↓reduceIte, reduceCtorEq, eq_self, wtAll, h2, hj3, g1, g2]
    intro i11 hh_i11; (try simp only [ite_none] at hh_i11)
    refine ⟨?_, ?_⟩
    ·simp only [↓reduceIte, eq_self, hh_i11]
    simp only [vsAll, cellA, okCells, Nat.reduceAdd, Nat.reduceLT, ↓reduceIte, eq_self, hih', h2, hj3, g1, g2, hh_i11]
    rw [moreP_zero]
    refine ⟨⟨by ((try clear hh_i4); (try clear hh_i5); (try clear hid); (try clear hh_i7); (try clear hj'); (try clear hih'); (try clear h1); (try clear h2); (try clear h3); (try clear h4); (try clear hj3); (try clear g1); (try clear g2); (try clear g3); (try clear g4); (try clear g5); (try clear g6); (try clear g5'); (try clear g6'); (try clear hh_i11); omega), by ((try clear hh_i4); (try clear hh_i5); (try clear hid); (try clear hh_i7); (try clear hj'); (try clear hih'); (try clear h1); (try clear h2); (try clear h3); (try clear h4); (try clear hj3); (try clear g1); (try clear g2); (try clear g3); (try clear g4); (try clear g5); (try clear g6); (try clear g5'); (try clear g6'); (try clear hh_i11); omega)⟩, his, ⟨_, _, rfl⟩, _, ⟨(), rfl⟩, ?_⟩
    refine HSub_put_eq (by simp only [vsAll, ↓reduceIte, eq_self, g1]) ?_
    refine HSub_put_eq (by simp only [vsAll, ↓reduceIte, eq_self, g2, g4, hh_i11]) ?_
    refine HSub_put_eq (by simp only [vsAll, ↓reduceIte, eq_self, hj3, g5, g6, hh_i11]) ?_
    refine HSub_put_eq (by simp only [vsAll, ↓reduceIte, eq_self, h2, hj3, g1, g2, hh_i11]) ?_
    refine HSub_put_eq (by simp only [vsAll, ↓reduceIte, eq_self, hih', h2, hj3, g1, g2, hh_i11]) ?_
    refine HSub_put (o' := .row 2 l.length (updF l.length i (spanF (plyH p l i l.length)) (List.take 1 (spanF (plyH p l i l.length) i) ++ [i64 (watV p l false (i + 1))] ++ List.drop 2 (spanF (plyH p l i l.length) i)))) (by simp only [vsAll, ↓reduceIte, eq_self]) (row_ext (plyH_upd p l his)) ?_
    (repeat (first | exact HSub_rfl | refine HSub_put_eq (by simp only [vsAll, ↓reduceIte, eq_self, hh_i5, hid, hh_i7, hj', hih', h2, hj3, g1, g2, hh_i11]) ?_ | refine HSub_drop2 (by simp only [eq_self, hh_i4, hh_i5, hid, hh_i7, hj', hih', h2, hj3, g1, g2, hh_i11]) ?_ | refine HSub_keep_eq (by simp only [vsAll, binA, binLitA, intA, aggA, aggV, boolA, nilA2, isConst, unA, loadA, loadRow, partA, partOk, fieldAddrA, indexAddrA, indexA, fieldA, extractA, lenA, nilCheckA, boxA, boxZ, cellA, cellsA, fillA, okParts, buildSliceA, buildMutA, makeSliceA, partIdx, elemsA, lensA, ifaceA, convA, mmA, pickA, okAll, stAll, opsA, partsA, partsOk, opA, allocA, boxMutA, newCells, okCells, storeObj, appendA, guardV, taA, nM, mapUpA, lookA, sliceA, sliceS, boundsA, opO, okO, copyA, dstOk, nilA, quietOk, nilSliceOp, deferV, panA, resA, argFr, retA.eq_1, retA.eq_2, Nat.reduceAdd, Nat.reduceSub, Nat.reduceMul, Nat.reduceLT, Nat.reduceLeDiff, Nat.reduceEqDiff, Nat.reduceBEq, Int.reduceAdd, Int.reduceSub, Int.reduceMul, Int.reduceNeg, Int.reduceLE, Int.reduceLT, Int.reduceEq, Int.reduceNe, Int.reduceToNat, ↓reduceIte, reduceCtorEq, implies_true, forall_const, eq_self, ne_eq, arrL, wtAll, Try.ntmps13, Try.results13, hh_i4, hh_i5, hid, hh_i7, hj', hih', h1, h2, h3, h4, hj3, g1, g2, g3, g4, g5, g6, g5', g6', hh_i11]) ?_))
   ·rintro ⟨⟩ hi lid2 did2 lo2 g1 g2 g3
    simp only [Hp.set_none] at g1 g2
    have g4 : ¬ did2 = lid2 := fun e => g3 e.symm
    skip
    rw [runL_len]
    simp only [vsAll, loadA, loadRow, partA, partOk, cellA, cellsA, opA, newCells, okCells, storeObj, dstOk, nilSliceOp, resA, retA.eq_2, Nat.reduceLT, Nat.reduceEqDiff, Nat.reduceBEq, ↓reduceIte, eq_self, wtAll, Try.results13, hid, hh_i7, hj', hih', h2, g1, g2, g4]
    have ev : playV p l = plyL p l l.length := if_pos he
    have el : (playV p l).length = l.length := by rw [ev, ply_len]
    refine ⟨i5, _, rfl, by simp only [↓reduceIte, eq_self, h2, g2]; try rfl, ?_⟩
    rw [plyH_all]
    refine ⟨H.set ih (.row 2 (playV p l).length (spanF (playV p l))), ?_, ih, by simp only [eq_self, hih'], by simp only [eq_self, el, he]; try rfl, rfl⟩
    rw [el, ev]
    (repeat (first | exact HSub_rfl | refine HSub_put_eq (by simp only [vsAll, ↓reduceIte, eq_self, hih', h2, g1, g2]) ?_ | refine HSub_drop2 (by simp only [eq_self, hh_i4, hh_i5, hid, hh_i7, hj', hih', h2, g1, g2]) ?_ | refine HSub_keep_eq (by simp only [vsAll, binA, binLitA, intA, aggA, aggV, boolA, nilA2, isConst, unA, loadA, loadRow, partA, partOk, fieldAddrA, indexAddrA, indexA, fieldA, extractA, lenA, nilCheckA, boxA, boxZ, cellA, cellsA, fillA, okParts, buildSliceA, buildMutA, makeSliceA, partIdx, elemsA, lensA, ifaceA, convA, mmA, pickA, okAll, stAll, opsA, partsA, partsOk, opA, allocA, boxMutA, newCells, okCells, storeObj, appendA, guardV, taA, nM, mapUpA, lookA, sliceA, sliceS, boundsA, opO, okO, copyA, dstOk, nilA, quietOk, nilSliceOp, deferV, panA, resA, argFr, retA.eq_1, retA.eq_2, Nat.reduceAdd, Nat.reduceSub, Nat.reduceMul, Nat.reduceLT, Nat.reduceLeDiff, Nat.reduceEqDiff, Nat.reduceBEq, Int.reduceAdd, Int.reduceSub, Int.reduceMul, Int.reduceNeg, Int.reduceLE, Int.reduceLT, Int.reduceEq, Int.reduceNe, Int.reduceToNat, ↓reduceIte, reduceCtorEq, implies_true, forall_const, eq_self, ne_eq, arrL, wtAll, Try.ntmps13, Try.results13, hh_i4, hh_i5, hid, hh_i7, hj', hih', h1, h2, h3, h4, g1, g2, g3, g4]) ?_))
theorem wplay_tri (p : Pu) (l : List Int) (H : Hp) (kn : Near p) (hl : l.length ≤ 41) : PTri Try.prog (fnA 13) [p.av, intsAV l] H (.tuple [spansAV (playV p l), i64 (playE p l)]) := by
 refine Tri.thaw (wplay_triM p l H kn hl) ?_
 rintro r H' ⟨id, hid, rfl, rfl⟩
 right
 exact ⟨_, id, 2, _, _, 0, rfl, Hp.set_same _ _ _, by simp, rfl, rfl, set_del hid⟩
end Go.Proofs.Ytkcgocmjaggdiaa
end
section
set_option linter.unusedVariables false
set_option linter.unusedSimpArgs false
set_option maxHeartbeats 4000000
set_option maxRecDepth 100000
namespace Go.Proofs.Ytkcgocmjaggdiaa
open Go.V Wl
/-- What a watch pumps out. -/
theorem outG_tri (p : Pu) (l : List Int) (b c : Bool) (m : Int) (i : Nat) (w : Int) (id : Nat) (H : Hp) (k : Ok p) (ho : PmAt p b m id H) (hi : i ≤ 8) (hw : -1 ≤ w ∧ w < p.ws.length) :
 PTri Try.prog (fnA 54) [.ref id 0 9 0 0, .agg (dkC p l c 0 i), i64 w] H (i64 (if w < 0 then 0 else max 0 (freshV p w.toNat b - (p.wt w.toNat).ti * (wornV p l w.toNat i : Nat)))) := by
 have nW := k.nW
 refine Tri.drop ?_
 refine tri_v0 (fun _ => false) Try.func54 (by kernel_rfl) rfl (by simp only [List.length_append, List.length_cons, List.length_nil, Try.ntmps54]; decide) ?_
 skip
 simp only [vsAll, binA, binLitA, intA, boxA, boxZ, opA, dstOk, nilSliceOp, argFr, Nat.reduceAdd, Nat.reduceLT, Nat.reduceEqDiff, ↓reduceIte, eq_self, wtAll, Try.ntmps54]
 refine condV (fun hc => ?_) (fun hc => ?_)
 ·rw [if_pos (of_decide_eq_true hc)]
  simp only [vsAll, opA, dstOk, nilSliceOp, resA, retA.eq_1, Nat.reduceLT, ↓reduceIte, eq_self, Try.results54]
  exact dropR_pure rfl HSub_rfl
 ·have hc := of_decide_eq_false hc
  rw [if_neg hc]
  obtain ⟨v, rfl⟩ : ∃ v : Nat, w = (v : Int) := ⟨w.toNat, by ((try clear ho); omega)⟩
  have hv : v < p.ws.length := by ((try clear ho); omega)
  have hk := k.m.wt hv
  rw [Int.toNat_natCast]
  have hle := (doneW_le (p.wt v).re l v i).1
  have hp := wt_prod (n := wornV p l v i) hk.2.1 (by unfold wornV; ((try clear ho); omega))
  have ewt : p.ws.getD v wt0 = p.wt v := rfl
  have hv3 : v = 0 ∨ v = 1 ∨ v = 2 := by ((try clear ho); omega)
  have em : (menV p l i v).1 = wornV p l v i := by unfold menV; rw [if_pos hv]; rfl
  simp only [vsAll]
  refine vs_draw2 [0, 0, 0, 0, 0, 0, 0, 0, 0, 0, 0, 0, 0, 0, 0, 0, 0, 0, 0, 0, 0, 0, 0, 0, 0, 0, 0, 0, 0, 0, 0, 0, 0] [] [0, 1, 2, 3, 4, 5, 6, 7, 8, 9, 10, 11, 12, 13, 14, 15, 16, 17, 18, 19, 20, 21, 22, 23, 24, 25, 26, 27, 28, 29, 30, 31, 32] (by decide +kernel) ?_
  simp only [vsAll, loadA, loadRow, partA, partOk, fieldAddrA, indexAddrA, nilCheckA, opA, dstOk, argFr, Nat.reduceLT, Nat.reduceEqDiff, ↓reduceIte, reduceCtorEq, eq_self, wtAll, ho, wsF_at, ewt]
  refine ⟨⟨by ((try clear ho); omega), by ((try clear ho); omega)⟩, hv, ?_⟩
  refine qcall _ ⟨trivial, by simp only [vsAll, okAll, opsA, opA, Nat.reduceEqDiff, ↓reduceIte, eq_self], strm_tri b (p.wt v) _⟩ ?_
  have efr : (if b = true then (p.wt v).hi else (p.wt v).lo) = freshV p v b := rfl
  have hfr : 0 ≤ freshV p v b ∧ freshV p v b ≤ 40 := by unfold freshV; split <;> ((try clear ho); omega)
  rw [efr]
  generalize freshV p v b = F at hfr ⊢
  have ecell : (List.drop (1 + v * 2) (dkC p l c 0 i)).getD 0 AV.any = i64 (wornV p l v i : Nat) := by
   rw [← em]
   rcases hv3 with rfl | rfl | rfl <;> rfl
  simp only [vsAll, binA, binLitA, intA, loadA, loadRow, partA, partOk, fieldAddrA, indexAddrA, nilCheckA, cellA, cellsA, okParts, buildSliceA, partIdx, elemsA, lensA, partsA, partsOk, opA, dstOk, argFr, Nat.reduceMul, Nat.reduceLT, Nat.reduceLeDiff, Nat.reduceEqDiff, ↓reduceIte, reduceCtorEq, eq_self, wtAll, ho, wsF_at, ewt, ecell]
  refine ⟨⟨by ((try clear ho); omega), by ((try clear ho); omega)⟩, hv, ⟨by ((try clear ho); omega), by ((try clear ho); omega)⟩, by ((try clear ho); omega), by simp only [InR_i64]; ((try clear ho); omega), ?_⟩
  refine qcall _ ⟨trivial, by simp only [vsAll, okAll, opsA, opA, Nat.reduceEqDiff, ↓reduceIte, eq_self], left_tri F ((p.wt v).ti * (wornV p l v i : Nat)) _ (by ((try clear ho); omega)) (by ((try clear ho); omega))⟩ ?_
  simp only [vsAll, opA, dstOk, resA, retA.eq_1, Nat.reduceLT, ↓reduceIte, eq_self, Try.results54]
  exact dropR_pure rfl HSub_rfl

theorem strV_eq (p : Pu) (l : List Int) (i : Nat) (b : Bool) : (if l.getD i (-1) < 0 then 0 else max 0 (freshV p (l.getD i (-1)).toNat b - (p.wt (l.getD i (-1)).toNat).ti * (wornV p l (l.getD i (-1)).toNat i : Nat))) = strV p l i b := rfl
theorem wout_tri (p : Pu) (l : List Int) (h : Int) (H : Hp) (kn : Near p) (hl : l.length ≤ 41) : PTri Try.prog (fnA 15) [p.av, intsAV l, i64 h] H (.tuple [.agg [i64 (outV p l h).1, i64 (outV p l h).2], i64 (outE p l h)]) := by
 refine Tri.drop ?_
 refine tri_am (m := fun _ => false) ans44 Try.func15 (by kernel_rfl) rfl (by simp only [List.length_append, List.length_cons, List.length_nil, Try.ntmps15]; decide) ?_
 simp only [vsAll, loadA, loadRow, partA, partOk, boxA, boxZ, cellA, okAll, stAll, opsA, opA, allocA, dstOk, argFr, Nat.reduceAdd, Nat.reduceLT, Nat.reduceEqDiff, ↓reduceIte, eq_self, wtAll, Try.ntmps15]
 intro i6 hh_i6; (try simp only [Hp.set_none, ite_none] at hh_i6); intro i7 hh_i7; (try simp only [ite_none] at hh_i7)
 refine open_call (open_tri p _ (planB p l && (decide (0 ≤ h) && decide (h ≤ (p.fl.length : Int) - 1))) _ kn trivial rfl (fun k H' => out1_tri p l h H' k hl)) (fun he => ?_) (fun k hv hA id hid => ?_)
 ·have e2 : outV p l h = (0, 0) := if_neg he
  have e : outE p l h = errE p (planB p l && (decide (0 ≤ h) && decide (h ≤ (p.fl.length : Int) - 1))) := rfl
  simp only [vsAll, loadA, loadRow, partA, partOk, resA, retA.eq_2, Nat.reduceEqDiff, ↓reduceIte, eq_self, wtAll, Try.results15, hh_i7]
  refine ⟨outE p l h, i7, _, rfl, rfl, by simp only [↓reduceIte, eq_self]; try rfl, ?_⟩
  simp only [vsAll, Nat.reduceLT, ↓reduceIte, eq_self, hh_i7]
  refine dropR_pure ?_ (by (repeat (first | exact HSub_rfl | refine HSub_put_eq (by simp only [vsAll, binA, binLitA, intA, aggA, aggV, boolA, nilA2, isConst, unA, loadA, loadRow, partA, partOk, fieldAddrA, indexAddrA, indexA, fieldA, extractA, lenA, nilCheckA, boxA, boxZ, cellA, cellsA, fillA, okParts, buildSliceA, buildMutA, makeSliceA, partIdx, elemsA, lensA, ifaceA, convA, mmA, pickA, okAll, stAll, opsA, partsA, partsOk, opA, allocA, boxMutA, newCells, okCells, storeObj, appendA, guardV, taA, nM, mapUpA, lookA, sliceA, sliceS, boundsA, opO, okO, copyA, dstOk, nilA, quietOk, nilSliceOp, deferV, panA, resA, argFr, retA.eq_1, retA.eq_2, Nat.reduceAdd, Nat.reduceSub, Nat.reduceMul, Nat.reduceLT, Nat.reduceLeDiff, Nat.reduceEqDiff, Nat.reduceBEq, Int.reduceAdd, Int.reduceSub, Int.reduceMul, Int.reduceNeg, Int.reduceLE, Int.reduceLT, Int.reduceEq, Int.reduceNe, Int.reduceToNat, ↓reduceIte, reduceCtorEq, implies_true, forall_const, eq_self, ne_eq, arrL, wtAll, Try.ntmps15, Try.results15, hh_i6, hh_i7]) ?_ | refine HSub_drop2 (by simp only [eq_self, hh_i6, hh_i7]) ?_ | refine HSub_keep_eq (by simp only [vsAll, binA, binLitA, intA, aggA, aggV, boolA, nilA2, isConst, unA, loadA, loadRow, partA, partOk, fieldAddrA, indexAddrA, indexA, fieldA, extractA, lenA, nilCheckA, boxA, boxZ, cellA, cellsA, fillA, okParts, buildSliceA, buildMutA, makeSliceA, partIdx, elemsA, lensA, ifaceA, convA, mmA, pickA, okAll, stAll, opsA, partsA, partsOk, opA, allocA, boxMutA, newCells, okCells, storeObj, appendA, guardV, taA, nM, mapUpA, lookA, sliceA, sliceS, boundsA, opO, okO, copyA, dstOk, nilA, quietOk, nilSliceOp, deferV, panA, resA, argFr, retA.eq_1, retA.eq_2, Nat.reduceAdd, Nat.reduceSub, Nat.reduceMul, Nat.reduceLT, Nat.reduceLeDiff, Nat.reduceEqDiff, Nat.reduceBEq, Int.reduceAdd, Int.reduceSub, Int.reduceMul, Int.reduceNeg, Int.reduceLE, Int.reduceLT, Int.reduceEq, Int.reduceNe, Int.reduceToNat, ↓reduceIte, reduceCtorEq, implies_true, forall_const, eq_self, ne_eq, arrL, wtAll, Try.ntmps15, Try.results15, hh_i6, hh_i7]) ?_)))
  simp only [eq_self, e2]
 ·have he : outE p l h = 0 := by
   show errE p _ = 0
   rw [hv]; exact errE_ok k (by ((try clear hh_i6); (try clear hh_i7); omega))
  rw [Bool.and_eq_true, Bool.and_eq_true, decide_eq_true_eq, decide_eq_true_eq] at hv
  obtain ⟨hv, hb1, hb2⟩ := hv
  obtain ⟨t, rfl⟩ : ∃ t : Nat, h = (t : Int) := ⟨h.toNat, by ((try clear hh_i6); (try clear hh_i7); omega)⟩
  have hF := firstP_of k hv
  have hne : l.length = p.fl.length := (planB_iff.1 hv).1
  have hn : l.length ≤ p.fl.length := by ((try clear hh_i6); (try clear hh_i7); omega)
  have htl : t < l.length := by ((try clear hh_i6); (try clear hh_i7); omega)
  have hid' := hid
  simp only [Hp.set_none] at hid
  skip
  simp only [vsAll, okAll, stAll, opsA, opA, dstOk, nilSliceOp, Nat.reduceLT, ↓reduceIte, eq_self]
  refine callK_pure (begin_tri p l false 0 id _ (Hp.set_same _ _ _)) ?_
  simp only [vsAll, loadA, loadRow, partA, partOk, cellA, okAll, stAll, opsA, opA, allocA, newCells, okCells, storeObj, dstOk, Nat.reduceAdd, Nat.reduceLT, Nat.reduceEqDiff, ↓reduceIte, eq_self, wtAll]
  intro i9 hh_i9; (try simp only [ite_none] at hh_i9)
  refine callK_pure (run_tri p l id _) ?_
  simp only [vsAll]
  refine vs_rangeB (σ := Unit) (runL p l false 0) (fun i _ => i ≤ t)
   (fun i _ => (((H.set i6 (.box 2 1 fun _ => [i64 0, i64 0])).set i7 (.box 1 1 fun _ => [i64 0])).set id (.box 9 1 fun _ => pmC p false 0)).set i9 (.box 8 1 fun _ => dkC p l false 0 i)) () (PmAt p false 0 id) Try.func78 (by kernel_rfl) rfl (by simp only [vsAll, opA, ↓reduceIte, eq_self]) (by simp only [vsAll, opA, ↓reduceIte, eq_self]) (by decide) (fun v hv => by obtain ⟨q, _, rfl⟩ := List.mem_map.1 hv; rfl)
   (fun yf H K hp hi => run1_tri p l false 0 id k hA hF hn (by ((try clear hh_i6); (try clear hh_i7); (try clear hid); (try clear hh_i9); omega)) yf H K hi hp) (Nat.zero_le _) ?_ ?_ ?_ ?_ ?_
  ·(repeat (first | exact HSub_rfl | refine HSub_put_eq (by simp only [vsAll, ↓reduceIte, eq_self, hh_i7, hid, hh_i9]) ?_ | refine HSub_drop2 (by simp only [eq_self, hh_i6, hh_i7, hid, hh_i9]) ?_ | refine HSub_keep_eq (by simp only [vsAll, binA, binLitA, intA, aggA, aggV, boolA, nilA2, isConst, unA, loadA, loadRow, partA, partOk, fieldAddrA, indexAddrA, indexA, fieldA, extractA, lenA, nilCheckA, boxA, boxZ, cellA, cellsA, fillA, okParts, buildSliceA, buildMutA, makeSliceA, partIdx, elemsA, lensA, ifaceA, convA, mmA, pickA, okAll, stAll, opsA, partsA, partsOk, opA, allocA, boxMutA, newCells, okCells, storeObj, appendA, guardV, taA, nM, mapUpA, lookA, sliceA, sliceS, boundsA, opO, okO, copyA, dstOk, nilA, quietOk, nilSliceOp, deferV, panA, resA, argFr, retA.eq_1, retA.eq_2, Nat.reduceAdd, Nat.reduceSub, Nat.reduceMul, Nat.reduceLT, Nat.reduceLeDiff, Nat.reduceEqDiff, Nat.reduceBEq, Int.reduceAdd, Int.reduceSub, Int.reduceMul, Int.reduceNeg, Int.reduceLE, Int.reduceLT, Int.reduceEq, Int.reduceNe, Int.reduceToNat, ↓reduceIte, reduceCtorEq, implies_true, forall_const, eq_self, ne_eq, arrL, wtAll, Try.ntmps15, Try.results15, hh_i6, hh_i7, hid, hh_i9]) ?_))
  ·intro i _ _ q
   simp only [Hp.set_none]
  ·intro i x hi lid did o1 o2 h1 h2
   simp only [Hp.set_none] at h1 h2
   show Hp.set (Hp.set (Hp.set (Hp.set (Hp.set (Hp.set H i6 _) i7 _) id _) i9 _) did _) lid _ id = _
   simp only [vsAll, ↓reduceIte, eq_self, hh_i9, h1, h2]
  ·rintro j o i v ⟨⟩ hv hi hj lid did l' lo h1 h2 h3 h5 h6
   simp only [Hp.set_none] at hj h1 h2
   have h4 : ¬ did = lid := fun e => h3 e.symm
   have h5' : ¬ lid = j := fun e => h5 e.symm
   have h6' : ¬ did = j := fun e => h6 e.symm
   skip
   obtain ⟨his, rfl⟩ := runL_get hv
   simp only [vsAll, binA, binLitA, intA, loadA, loadRow, partA, partOk, cellA, opA, allocA, newCells, okCells, storeObj, dstOk, quietOk, nilSliceOp, Nat.reduceAdd, Nat.reduceLT, Nat.reduceEqDiff, ↓reduceIte, eq_self, wtAll]
   intro i11 hh_i11; (try simp only [ite_none] at hh_i11)
   refine ⟨?_, ?_⟩
   ·simp only [↓reduceIte, eq_self, hh_i11]
   refine condD (fun hc => ?_) (fun hc => ?_)
   case refine_2 =>
    simp only [vsAll, loadA, loadRow, partA, partOk, cellA, opA, newCells, okCells, storeObj, dstOk, quietOk, Nat.reduceAdd, Nat.reduceLT, Nat.reduceEqDiff, ↓reduceIte, eq_self, wtAll, hj, h1, h2, hh_i11]
    exact ⟨⟨_, _, rfl⟩, _, ⟨(), by ((try clear hh_i6); (try clear hh_i7); (try clear hid); (try clear hh_i9); (try clear hj); (try clear h1); (try clear h2); (try clear h3); (try clear h4); (try clear h5); (try clear h6); (try clear h5'); (try clear h6'); (try clear hh_i11); omega), rfl⟩, by (repeat (first | exact HSub_rfl | refine HSub_put_eq (by simp only [vsAll, ↓reduceIte, eq_self, hh_i7, hid, hh_i9, hj, h1, h2, h4, h5, h6, hh_i11]) ?_ | refine HSub_drop2 (by simp only [eq_self, hh_i6, hh_i7, hid, hh_i9, hj, h1, h2, hh_i11]) ?_ | refine HSub_keep_eq (by simp only [vsAll, binA, binLitA, intA, aggA, aggV, boolA, nilA2, isConst, unA, loadA, loadRow, partA, partOk, fieldAddrA, indexAddrA, indexA, fieldA, extractA, lenA, nilCheckA, boxA, boxZ, cellA, cellsA, fillA, okParts, buildSliceA, buildMutA, makeSliceA, partIdx, elemsA, lensA, ifaceA, convA, mmA, pickA, okAll, stAll, opsA, partsA, partsOk, opA, allocA, boxMutA, newCells, okCells, storeObj, appendA, guardV, taA, nM, mapUpA, lookA, sliceA, sliceS, boundsA, opO, okO, copyA, dstOk, nilA, quietOk, nilSliceOp, deferV, panA, resA, argFr, retA.eq_1, retA.eq_2, Nat.reduceAdd, Nat.reduceSub, Nat.reduceMul, Nat.reduceLT, Nat.reduceLeDiff, Nat.reduceEqDiff, Nat.reduceBEq, Int.reduceAdd, Int.reduceSub, Int.reduceMul, Int.reduceNeg, Int.reduceLE, Int.reduceLT, Int.reduceEq, Int.reduceNe, Int.reduceToNat, ↓reduceIte, reduceCtorEq, implies_true, forall_const, eq_self, ne_eq, arrL, wtAll, Try.ntmps15, Try.results15, hh_i6, hh_i7, hid, hh_i9, hj, h1, h2, h3, h4, h5, h6, h5', h6', hh_i11]) ?_))⟩
   have hit : i = t := by ((try clear hh_i6); (try clear hh_i7); (try clear hid); (try clear hh_i9); (try clear hj); (try clear h1); (try clear h2); (try clear h3); (try clear h4); (try clear h5); (try clear h6); (try clear h5'); (try clear h6'); (try clear hh_i11); omega)
   subst hit
   simp only [vsAll, ↓reduceIte, reduceCtorEq, eq_self]
   refine ⟨⟨_, _, rfl⟩, ?_⟩
   refine vs_draw2 [0, 0, 0, 0, 0, 0, 0, 0, 0, 0, 0, 0, 1, 0, 0, 0, 0, 0, 2, 3, 4, 5, 6, 7, 9] [([0, 1, 2, 3, 4, 5, 6, 7, 8, 9, 10, 11, 13, 14, 15, 16, 17], [13, 14, 15, 17], 12), ([18], [], 19), ([20], [], 21), ([22], [], 23), ([], [], 24)] [] (by decide +kernel) ?_
   have e0 : l.getD i 0 = l.getD i (-1) := by simp [List.getD_eq_getElem?_getD, his]
   have hat := hF.at_ i his
   have hll := hF.len
   have hll := hF.len
   simp only [vsAll, loadA, loadRow, partA, partOk, indexAddrA, opA, dstOk, Nat.reduceLT, Nat.reduceEqDiff, Int.reduceNeg, ↓reduceIte, eq_self, wtAll, hj, h1, h2, hh_i11, intF_at, e0]
   have hpm : ∀ X : Hp, X id = some (.box 9 1 fun _ => pmC p false 0) → PmAt p false 0 id X := fun _ h => h
   refine ⟨⟨by ((try clear hh_i6); (try clear hh_i7); (try clear hid); (try clear hh_i9); (try clear hj); (try clear h1); (try clear h2); (try clear h3); (try clear h4); (try clear h5); (try clear h6); (try clear h5'); (try clear h6'); (try clear hh_i11); omega), by ((try clear hh_i6); (try clear hh_i7); (try clear hid); (try clear hh_i9); (try clear hj); (try clear h1); (try clear h2); (try clear h3); (try clear h4); (try clear h5); (try clear h6); (try clear h5'); (try clear h6'); (try clear hh_i11); omega)⟩, his, ?_⟩
   refine qcall _ ⟨trivial, by simp only [vsAll, okAll, opsA, opA, Nat.reduceEqDiff, Int.reduceNeg, ↓reduceIte, eq_self], outG_tri p l false false 0 i (l.getD i (-1)) id _ k (hpm _ (by simp only [vsAll, ↓reduceIte, eq_self, hh_i9, hj, h1, h2, hh_i11])) (by ((try clear hh_i6); (try clear hh_i7); (try clear hid); (try clear hh_i9); (try clear hj); (try clear h1); (try clear h2); (try clear h3); (try clear h4); (try clear h5); (try clear h6); (try clear h5'); (try clear h6'); (try clear hh_i11); omega)) hat⟩ ?_
   rw [strV_eq]
   simp only [vsAll, loadA, loadRow, partA, partOk, indexAddrA, nilCheckA, fillA, okParts, ifaceA, okAll, stAll, opsA, partsA, partsOk, opA, dstOk, Nat.reduceLT, Nat.reduceEqDiff, Int.reduceNeg, ↓reduceIte, eq_self, wtAll, hh_i9, hj, h1, h2, hh_i11, intF_at, e0]
   refine ⟨⟨by ((try clear hh_i6); (try clear hh_i7); (try clear hid); (try clear hh_i9); (try clear hj); (try clear h1); (try clear h2); (try clear h3); (try clear h4); (try clear h5); (try clear h6); (try clear h5'); (try clear h6'); (try clear hh_i11); omega), by ((try clear hh_i6); (try clear hh_i7); (try clear hid); (try clear hh_i9); (try clear hj); (try clear h1); (try clear h2); (try clear h3); (try clear h4); (try clear h5); (try clear h6); (try clear h5'); (try clear h6'); (try clear hh_i11); omega)⟩, his, ?_⟩
   refine ⟨_, in_tri p false true 0 _, fun r H' hr => ?_⟩
   obtain ⟨j2, hj2, rfl, rfl⟩ := hr
   simp only [Hp.set_none] at hj2
   have hj2' := hj2
   skip
   simp only [vsAll, loadA, loadRow, partA, partOk, opA, dstOk, Nat.reduceLT, Nat.reduceEqDiff, Int.reduceNeg, ↓reduceIte, eq_self, wtAll, hj, h1, h2, hh_i11, hj2', intF_at, e0]
   refine ⟨his, ?_⟩
   have hpm2 : ∀ X : Hp, X j2 = some (.box 9 1 fun _ => pmC p true 0) → PmAt p true 0 j2 X := fun _ h => h
   refine qcall _ ⟨trivial, by simp only [vsAll, okAll, opsA, opA, Nat.reduceEqDiff, Int.reduceNeg, ↓reduceIte, eq_self], outG_tri p l true false 0 i (l.getD i (-1)) j2 _ k (hpm2 _ (by simp only [vsAll, ↓reduceIte, eq_self])) (by ((try clear hh_i6); (try clear hh_i7); (try clear hid); (try clear hh_i9); (try clear hj); (try clear h1); (try clear h2); (try clear h3); (try clear h4); (try clear h5); (try clear h6); (try clear h5'); (try clear h6'); (try clear hh_i11); (try clear hj2'); omega)) hat⟩ ?_
   rw [strV_eq]
   simp only [vsAll, loadA, loadRow, partA, partOk, fieldAddrA, cellA, cellsA, opA, newCells, okCells, storeObj, dstOk, resA, retA.eq_2, Nat.reduceAdd, Nat.reduceLT, Nat.reduceLeDiff, Nat.reduceEqDiff, Int.reduceNeg, ↓reduceIte, eq_self, wtAll, Try.results15, hh_i7, hid, hh_i9, hj, h1, h2, h4, hh_i11, hj2']
   have e2 : outV p l (i : Int) = (strV p l i false, strV p l i true) := by
    unfold outV; rw [if_pos he, Int.toNat_natCast]
   refine ⟨i7, _, rfl, by simp only [↓reduceIte, eq_self, h2]; try rfl, ?_⟩
   refine dropR_pure ?_ (by (repeat (first | exact HSub_rfl | refine HSub_put_eq (by simp only [vsAll, binA, binLitA, intA, aggA, aggV, boolA, nilA2, isConst, unA, loadA, loadRow, partA, partOk, fieldAddrA, indexAddrA, indexA, fieldA, extractA, lenA, nilCheckA, boxA, boxZ, cellA, cellsA, fillA, okParts, buildSliceA, buildMutA, makeSliceA, partIdx, elemsA, lensA, ifaceA, convA, mmA, pickA, okAll, stAll, opsA, partsA, partsOk, opA, allocA, boxMutA, newCells, okCells, storeObj, appendA, guardV, taA, nM, mapUpA, lookA, sliceA, sliceS, boundsA, opO, okO, copyA, dstOk, nilA, quietOk, nilSliceOp, deferV, panA, resA, argFr, retA.eq_1, retA.eq_2, Nat.reduceAdd, Nat.reduceSub, Nat.reduceMul, Nat.reduceLT, Nat.reduceLeDiff, Nat.reduceEqDiff, Nat.reduceBEq, Int.reduceAdd, Int.reduceSub, Int.reduceMul, Int.reduceNeg, Int.reduceLE, Int.reduceLT, Int.reduceEq, Int.reduceNe, Int.reduceToNat, ↓reduceIte, reduceCtorEq, implies_true, forall_const, eq_self, ne_eq, arrL, wtAll, Try.ntmps15, Try.results15, hh_i6, hh_i7, hid, hh_i9, hj, h1, h2, h3, h4, h5, h6, h5', h6', hh_i11, hj2']) ?_ | refine HSub_drop2 (by simp only [eq_self, hh_i6, hh_i7, hid, hh_i9, hj, h1, h2, hh_i11, hj2']) ?_ | refine HSub_keep_eq (by simp only [vsAll, binA, binLitA, intA, aggA, aggV, boolA, nilA2, isConst, unA, loadA, loadRow, partA, partOk, fieldAddrA, indexAddrA, indexA, fieldA, extractA, lenA, nilCheckA, boxA, boxZ, cellA, cellsA, fillA, okParts, buildSliceA, buildMutA, makeSliceA, partIdx, elemsA, lensA, ifaceA, convA, mmA, pickA, okAll, stAll, opsA, partsA, partsOk, opA, allocA, boxMutA, newCells, okCells, storeObj, appendA, guardV, taA, nM, mapUpA, lookA, sliceA, sliceS, boundsA, opO, okO, copyA, dstOk, nilA, quietOk, nilSliceOp, deferV, panA, resA, argFr, retA.eq_1, retA.eq_2, Nat.reduceAdd, Nat.reduceSub, Nat.reduceMul, Nat.reduceLT, Nat.reduceLeDiff, Nat.reduceEqDiff, Nat.reduceBEq, Int.reduceAdd, Int.reduceSub, Int.reduceMul, Int.reduceNeg, Int.reduceLE, Int.reduceLT, Int.reduceEq, Int.reduceNe, Int.reduceToNat, ↓reduceIte, reduceCtorEq, implies_true, forall_const, eq_self, ne_eq, arrL, wtAll, Try.ntmps15, Try.results15, hh_i6, hh_i7, hid, hh_i9, hj, h1, h2, h3, h4, h5, h6, h5', h6', hh_i11, hj2']) ?_)))
   simp only [eq_self, he, e2]
  ·rintro ⟨⟩ hi lid did lo h1 h2 h3
   rw [runL_len] at hi
   ((try clear hh_i6); (try clear hh_i7); (try clear hid); (try clear hh_i9); omega)
end Go.Proofs.Ytkcgocmjaggdiaa
end
section
set_option linter.unusedVariables false
set_option linter.unusedSimpArgs false
set_option maxHeartbeats 4000000
set_option maxRecDepth 100000
namespace Go.Proofs.Ytkcgocmjaggdiaa
open Go.V Wl
/-- What tells of decks. -/
abbrev onF (id u S i9 i10 : Nat) : AV := .func (.func 93) [] [.rptr 1 1 (fun _ => [i64 (u : Int)]) 0 0, .ref i9 0 1 0 0, .rptr 1 1 (fun _ => [.ref id 0 9 0 0]) 0 0, .rptr 1 1 (fun _ => [u64 (S : Int)]) 0 0, .ref i10 0 1 0 0, .rptr 1 2 (fun _ => [.func (.func 91) [] [], .func (.func 92) [] []]) 0 0]
theorem FirstL.first {p : Pu} {u : Nat} {l : List Int} (k : Ok p) (h : FirstL p u l) (hu : u ≤ p.fl.length) : FirstP p l := ⟨by have := h.len; have := k.nF; omega, h.at_⟩
theorem dk_rng {p : Pu} (k : Ok p) {u : Nat} {l : List Int} (h : FirstL p u l) (hu : u ≤ p.fl.length) : ∀ x ∈ dkI p l, -1000000 ≤ x ∧ x ≤ 1000000 := by
 have nF := k.nF
 have hl := h.len
 have hm : ∀ v, (menV p l l.length v).1 ≤ 100 ∧ (menV p l l.length v).2 ≤ 100 := fun v => by
  unfold menV
  split
  ·have h1 := doneW_le (p.wt v).re l (v : Int) l.length
   unfold capM
   simp only []
   omega
  ·exact ⟨by decide, by decide⟩
 have hw : 0 ≤ watV p l false l.length ∧ watV p l false l.length ≤ 1000 := by
  have := wat_rng (flowLe_ok k hu) l false l.length hl
  omega
 have h0 := hm 0
 have h1 := hm 1
 have h2 := hm 2
 intro x hx
 unfold dkI at hx
 simp only [List.mem_cons, List.not_mem_nil, or_false] at hx
 rcases hx with rfl | rfl | rfl | rfl | rfl | rfl | rfl | rfl <;> omega
theorem dkP_key {p : Pu} (k : Ok p) {u : Nat} {l : List Int} (h : FirstL p u l) (hu : u ≤ p.fl.length) : ∃ s, keyOf Try.prog 87 (dkP p l) = some s := dkK (dk_rng k h hu)
theorem memT_key {p : Pu} (k : Ok p) {u S : Nat} (hu : u ≤ p.fl.length) {q v : Value} (h : memT p u S q v) : ∃ s, keyOf Try.prog 87 q = some s := by
 obtain ⟨l, h1, rfl, _⟩ := h
 exact dkP_key k h1 hu
theorem bit_eq0 (C i : Nat) : decide ((((((C : Int) / 2 ^ i).toNat &&& 1 : Nat) : Int)) = 0) = !C.testBit i := by
 have e : (C : Int) / 2 ^ i = ((C / 2 ^ i : Nat) : Int) := by simp
 rw [e, Int.toNat_natCast, Nat.and_one_is_mod, Nat.testBit_eq_decide_div_mod_eq]
 have h : C / 2 ^ i % 2 = 0 ∨ C / 2 ^ i % 2 = 1 := by omega
 rcases h with h | h <;> rw [h] <;> rfl
theorem div_rng (C i : Nat) (h : C < 8) : 0 ≤ (C : Int) / 2 ^ i ∧ (C : Int) / 2 ^ i < 8 := by
 have e : (C : Int) / 2 ^ i = ((C / 2 ^ i : Nat) : Int) := by simp
 have := Nat.div_le_self C (2 ^ i)
 rw [e]
 exact ⟨Int.natCast_nonneg _, Int.ofNat_lt.2 (Nat.lt_of_le_of_lt this h)⟩
theorem on_tri {p : Pu} {id u S i9 i10 im : Nat} (k : Ok p) (hA : 0 < (allA p.ho).length) (hu : u ≤ p.fl.length) (hS : S < 8) :
 ∀ (n : Nat) (l : List Int) (H : Hp), l.length + n = u → FirstL p u l → PmAt p false 0 id H → H i9 = some (.box 1 1 fun _ => [.map im]) → H i10 = some (.box 1 1 fun _ => [onF id u S i9 i10]) → H im = some (.memo (memT p u S)) →
   PTri Try.prog (onF id u S i9 i10) [.agg (dkC p l false 0 l.length)] H (knA (leastB p S n l)) := by
 have nF := k.nF
 have nW := k.nW
 intro n
 induction n with
 | zero =>
   intro l H hl hf hp h9 h10 hm
   refine Tri.drop ?_
   refine tri_m (m := fun _ => false) Try.func93 (by kernel_rfl) rfl (by simp only [List.length_append, List.length_cons, List.length_nil, Try.ntmps93]; decide) ?_
   have es : l.length = u := by omega
   rw [es]
   simp only [vsAll, binA, binLitA, intA, loadA, loadRow, partA, partOk, fieldAddrA, boxA, boxZ, opA, allocA, dstOk, nilSliceOp, resA, argFr, retA.eq_2, Nat.reduceAdd, Nat.reduceLT, Nat.reduceEqDiff, Int.reduceNeg, ↓reduceIte, eq_self, wtAll, Try.ntmps93, Try.results93]
   intro i10k hh_i10k; (try simp only [Hp.set_none, ite_none] at hh_i10k)
   exact dropR_pure rfl (by (repeat (first | exact HSub_rfl | refine HSub_put_eq (by simp only [vsAll, binA, binLitA, intA, aggA, aggV, boolA, nilA2, isConst, unA, loadA, loadRow, partA, partOk, fieldAddrA, indexAddrA, indexA, fieldA, extractA, lenA, nilCheckA, boxA, boxZ, cellA, cellsA, fillA, okParts, buildSliceA, buildMutA, makeSliceA, partIdx, elemsA, lensA, ifaceA, convA, mmA, pickA, okAll, stAll, opsA, partsA, partsOk, opA, allocA, boxMutA, newCells, okCells, storeObj, appendA, guardV, taA, nM, mapUpA, lookA, sliceA, sliceS, boundsA, opO, okO, copyA, dstOk, nilA, quietOk, nilSliceOp, deferV, panA, resA, argFr, retA.eq_1, retA.eq_2, Nat.reduceAdd, Nat.reduceSub, Nat.reduceMul, Nat.reduceLT, Nat.reduceLeDiff, Nat.reduceEqDiff, Nat.reduceBEq, Int.reduceAdd, Int.reduceSub, Int.reduceMul, Int.reduceNeg, Int.reduceLE, Int.reduceLT, Int.reduceEq, Int.reduceNe, Int.reduceToNat, ↓reduceIte, reduceCtorEq, implies_true, forall_const, eq_self, ne_eq, arrL, wtAll, Try.ntmps93, Try.results93, hh_i10k]) ?_ | refine HSub_drop2 (by simp only [eq_self, hh_i10k]) ?_ | refine HSub_keep_eq (by simp only [vsAll, binA, binLitA, intA, aggA, aggV, boolA, nilA2, isConst, unA, loadA, loadRow, partA, partOk, fieldAddrA, indexAddrA, indexA, fieldA, extractA, lenA, nilCheckA, boxA, boxZ, cellA, cellsA, fillA, okParts, buildSliceA, buildMutA, makeSliceA, partIdx, elemsA, lensA, ifaceA, convA, mmA, pickA, okAll, stAll, opsA, partsA, partsOk, opA, allocA, boxMutA, newCells, okCells, storeObj, appendA, guardV, taA, nM, mapUpA, lookA, sliceA, sliceS, boundsA, opO, okO, copyA, dstOk, nilA, quietOk, nilSliceOp, deferV, panA, resA, argFr, retA.eq_1, retA.eq_2, Nat.reduceAdd, Nat.reduceSub, Nat.reduceMul, Nat.reduceLT, Nat.reduceLeDiff, Nat.reduceEqDiff, Nat.reduceBEq, Int.reduceAdd, Int.reduceSub, Int.reduceMul, Int.reduceNeg, Int.reduceLE, Int.reduceLT, Int.reduceEq, Int.reduceNe, Int.reduceToNat, ↓reduceIte, reduceCtorEq, implies_true, forall_const, eq_self, ne_eq, arrL, wtAll, Try.ntmps93, Try.results93, hh_i10k]) ?_)))
 | succ n ih =>
   intro l H hl hf hp h9 h10 hm
   have hne : ¬ l.length = u := by omega
   refine Tri.unpack hm fun es ck hes hpw => ?_
   have hkey : ∃ s, keyOf Try.prog 87 (dkP p l) = some s := dkP_key k hf hu
   obtain ⟨o, hfo, hst, hcase⟩ := found_of und141 key87 hkey (fun e he => memT_key k hu (hes e he)) hpw
   have hback : Go.V.HSub (H.set im (.raw (.map es ck))) H := HSub_set' hm (memo_le hes hpw)
   have n9 : ¬ i9 = im := fun q => by rw [q, hm] at h9; cases h9
   have n10 : ¬ i10 = im := fun q => by rw [q, hm] at h10; cases h10
   have nid : ¬ id = im := fun q => by rw [q] at hp; have := hm.symm.trans hp; cases this
   have n9' : ¬ im = i9 := fun q => n9 q.symm
   have n10' : ¬ im = i10 := fun q => n10 q.symm
   have nid' : ¬ im = id := fun q => nid q.symm
   refine Tri.drop ?_
   refine tri_m (m := fun _ => false) Try.func93 (by kernel_rfl) rfl (by simp only [List.length_append, List.length_cons, List.length_nil, Try.ntmps93]; decide) ?_
   skip
   simp only [vsAll, binA, binLitA, intA, loadA, loadRow, partA, partOk, fieldAddrA, boxA, boxZ, opA, allocA, dstOk, nilSliceOp, argFr, Nat.reduceAdd, Nat.reduceLT, Nat.reduceEqDiff, Int.reduceNeg, ↓reduceIte, eq_self, wtAll, Try.ntmps93]
   intro i10k hh_i10k; (try simp only [ite_none] at hh_i10k)
   have a1 := ne_some hh_i10k.2 hp
   have a2 := ne_some hh_i10k.2 h9
   have a3 := ne_some hh_i10k.2 h10
   have a4 := ne_some hh_i10k.2 hm
   skip
   refine condV (fun hc => ?_) (fun hc => ?_)
   ·simp only [decide_eq_true_eq] at hc; ((try clear hp); (try clear h9); (try clear h10); (try clear hm); (try clear n9); (try clear n10); (try clear nid); (try clear n9'); (try clear n10'); (try clear nid'); (try clear hh_i10k); (try clear a1); (try clear a2); (try clear a3); (try clear a4); omega)
   have e0 : dkC p l false 0 l.length = [i64 (l.length : Int), i64 (menV p l l.length 0).1, i64 (menV p l l.length 0).2, i64 (menV p l l.length 1).1, i64 (menV p l l.length 1).2, i64 (menV p l l.length 2).1, i64 (menV p l l.length 2).2, i64 (watV p l false l.length)] := by
    simp only [dkC, moreP_zero]
   simp only [vsAll, loadA, loadRow, partA, partOk, extractA, cellsA, opA, allocA, newCells, storeObj, lookA, dstOk, nilSliceOp, argFr, Nat.reduceAdd, Nat.reduceMul, Nat.reduceLT, Nat.reduceEqDiff, Int.reduceNeg, ↓reduceIte, eq_self, wtAll, h9, n9, hh_i10k, a2, mapZ141, e0]
   refine ⟨o, hfo _, ?_⟩
   rcases hcase with ⟨rfl, hno⟩ | ⟨j, en, rfl, hj, hkn⟩
   ·simp only [vsAll, cellA, opA, okCells, dstOk, nilSliceOp, Nat.reduceAdd, Nat.reduceLT, Int.reduceNeg, eq_self]
    intro i11 hh_i11; (try simp only [ite_none] at hh_i11)
    have b1 := ne_some hh_i11.2.2 hp
    have b2 := ne_some hh_i11.2.2 h9
    have b3 := ne_some hh_i11.2.2 h10
    have b4 := ne_some hh_i11.2.2 hm
    skip
    generalize hpv : rowB p S (leastB p S n) l = pv
    have hpv0 : pv 0 = none := by rw [← hpv]; rfl
    have hend : leastB p S (n + 1) l = pv (p.ws.length + 1) := by rw [← hpv]; rfl
    refine vs_loop (σ := Nat) (fun j => j ≤ p.ws.length + 1) (fun j => [(2, .ref i9 0 1 0 0), (3, .rptr 1 1 (fun _ => [.ref id 0 9 0 0]) 0 0), (4, .rptr 1 1 (fun _ => [u64 (S : Int)]) 0 0), (5, .ref i10 0 1 0 0), (6, .rptr 1 2 (fun _ => [.func (.func 91) [] [], .func (.func 92) [] []]) 0 0), (7, .rptr 1 8 (fun _ => dkC p l false 0 l.length) 0 0), (10, .ref i10k 0 2 0 0), (13, i64 ((j : Int) - 1))])
     (fun j => H.set i10k (.box 2 1 fun _ => [i64 ((pv j).getD 0), boo (pv j).isSome])) (fun j => p.ws.length + 1 - j) 0 (Nat.zero_le _) ?_ ?_ fun j hj => ?_
    ·simp only [vsAll, argFr, Nat.reduceEqDiff, Int.reduceNeg, ↓reduceIte, eq_self, e0]
     exact AV.Le.refl _
    ·simp only [hpv0]
     show Go.V.HSub _ (H.set i10k (.box 2 1 fun _ => [i64 0, boo false]))
     refine HSub_put_eq (by simp only [vsAll, ↓reduceIte, eq_self, hh_i11]) ?_
     rw [Hp.set_set]
     refine HSub_drop2 (by simp only [eq_self, hh_i11]) (HSub_drop2 (by simp only [eq_self, hh_i10k]) hback)
    ·simp only [vsAll, binA, binLitA, intA, loadA, loadRow, partA, partOk, fieldAddrA, lenA, nilCheckA, opA, dstOk, Nat.reduceLT, Nat.reduceEqDiff, ↓reduceIte, eq_self, wtAll, hp, a1, e0]
     refine condD (fun hd => ?_) (fun hd => ?_)
     case refine_2 =>
      have ej : j = p.ws.length + 1 := by ((try clear hp); (try clear h9); (try clear h10); (try clear hm); (try clear n9); (try clear n10); (try clear nid); (try clear n9'); (try clear n10'); (try clear nid'); (try clear hh_i10k); (try clear a1); (try clear a2); (try clear a3); (try clear a4); (try clear hh_i11); (try clear b1); (try clear b2); (try clear b3); (try clear b4); omega)
      subst ej
      simp only [vsAll, loadA, loadRow, partA, partOk, opA, mapUpA, dstOk, Nat.reduceLT, Nat.reduceEqDiff, ↓reduceIte, eq_self, wtAll, h9, hm, hh_i10k, a2]
      have hul : u - l.length = n + 1 := by ((try clear hp); (try clear h9); (try clear h10); (try clear hm); (try clear n9); (try clear n10); (try clear nid); (try clear n9'); (try clear n10'); (try clear nid'); (try clear hh_i10k); (try clear a1); (try clear a2); (try clear a3); (try clear a4); (try clear hh_i11); (try clear b1); (try clear b2); (try clear b3); (try clear b4); omega)
      refine ⟨87, 143, und141, key87, hkey, fun q v h => memT_key k hu h, ⟨l, hf, rfl, by rw [hul, hend]⟩, ?_⟩
      refine vs_draw2 [0, 0, 0, 0, 1, 3] [([0, 1, 2, 3], [3], 4), ([], [], 5)] [] (by decide +kernel) ?_
      simp only [vsAll, loadA, loadRow, partA, partOk, fieldAddrA, opA, dstOk, nilSliceOp, resA, retA.eq_2, Nat.reduceLT, Nat.reduceEqDiff, ↓reduceIte, eq_self, wtAll, Try.results93]
      exact dropR_pure (by rw [hend]) (by (repeat (first | exact HSub_rfl | refine HSub_put_eq (by simp only [vsAll, binA, binLitA, intA, aggA, aggV, boolA, nilA2, isConst, unA, loadA, loadRow, partA, partOk, fieldAddrA, indexAddrA, indexA, fieldA, extractA, lenA, nilCheckA, boxA, boxZ, cellA, cellsA, fillA, okParts, buildSliceA, buildMutA, makeSliceA, partIdx, elemsA, lensA, ifaceA, convA, mmA, pickA, okAll, stAll, opsA, partsA, partsOk, opA, allocA, boxMutA, newCells, okCells, storeObj, appendA, guardV, taA, nM, mapUpA, lookA, sliceA, sliceS, boundsA, opO, okO, copyA, dstOk, nilA, quietOk, nilSliceOp, deferV, panA, resA, argFr, retA.eq_1, retA.eq_2, Nat.reduceAdd, Nat.reduceSub, Nat.reduceMul, Nat.reduceLT, Nat.reduceLeDiff, Nat.reduceEqDiff, Nat.reduceBEq, Int.reduceAdd, Int.reduceSub, Int.reduceMul, Int.reduceNeg, Int.reduceLE, Int.reduceLT, Int.reduceEq, Int.reduceNe, Int.reduceToNat, ↓reduceIte, reduceCtorEq, implies_true, forall_const, eq_self, ne_eq, arrL, wtAll, Try.ntmps93, Try.results93, hp, h9, h10, hm, n9, n10, nid, n9', n10', nid', hh_i10k, a1, a2, a3, a4, hh_i11, b1, b2, b3, b4]) ?_ | refine HSub_drop2 (by simp only [eq_self, hh_i10k]) ?_ | refine HSub_keep_eq (by simp only [vsAll, binA, binLitA, intA, aggA, aggV, boolA, nilA2, isConst, unA, loadA, loadRow, partA, partOk, fieldAddrA, indexAddrA, indexA, fieldA, extractA, lenA, nilCheckA, boxA, boxZ, cellA, cellsA, fillA, okParts, buildSliceA, buildMutA, makeSliceA, partIdx, elemsA, lensA, ifaceA, convA, mmA, pickA, okAll, stAll, opsA, partsA, partsOk, opA, allocA, boxMutA, newCells, okCells, storeObj, appendA, guardV, taA, nM, mapUpA, lookA, sliceA, sliceS, boundsA, opO, okO, copyA, dstOk, nilA, quietOk, nilSliceOp, deferV, panA, resA, argFr, retA.eq_1, retA.eq_2, Nat.reduceAdd, Nat.reduceSub, Nat.reduceMul, Nat.reduceLT, Nat.reduceLeDiff, Nat.reduceEqDiff, Nat.reduceBEq, Int.reduceAdd, Int.reduceSub, Int.reduceMul, Int.reduceNeg, Int.reduceLE, Int.reduceLT, Int.reduceEq, Int.reduceNe, Int.reduceToNat, ↓reduceIte, reduceCtorEq, implies_true, forall_const, eq_self, ne_eq, arrL, wtAll, Try.ntmps93, Try.results93, hp, h9, h10, hm, n9, n10, nid, n9', n10', nid', hh_i10k, a1, a2, a3, a4, hh_i11, b1, b2, b3, b4]) ?_)))
     have hw : -1 ≤ (j : Int) - 1 ∧ (j : Int) - 1 < p.ws.length := by ((try clear hp); (try clear h9); (try clear h10); (try clear hm); (try clear n9); (try clear n10); (try clear nid); (try clear n9'); (try clear n10'); (try clear nid'); (try clear hh_i10k); (try clear a1); (try clear a2); (try clear a3); (try clear a4); (try clear hh_i11); (try clear b1); (try clear b2); (try clear b3); (try clear b4); omega)
     generalize hjw : (j : Int) - 1 = w at hw hd
     have hf2 := hf.snoc (by ((try clear hp); (try clear h9); (try clear h10); (try clear hm); (try clear n9); (try clear n10); (try clear nid); (try clear n9'); (try clear n10'); (try clear nid'); (try clear hh_i10k); (try clear a1); (try clear a2); (try clear a3); (try clear a4); (try clear hh_i11); (try clear b1); (try clear b2); (try clear b3); (try clear b4); omega)) hw
     rw [← e0, ← deck_pre p l [w] false 0 l.length (Nat.le_refl _)]
     simp only [vsAll, loadA, loadRow, partA, partOk, okAll, stAll, opsA, opA, dstOk, Nat.reduceLT, Nat.reduceEqDiff, ↓reduceIte, eq_self, wtAll]
     refine callK_pure (next_tri p (l ++ [w]) false 0 l.length w id _ k hA (by show Hp.set _ _ _ id = _; simp only [vsAll, ↓reduceIte, eq_self, hp, a1]) (by ((try clear hp); (try clear h9); (try clear h10); (try clear hm); (try clear n9); (try clear n10); (try clear nid); (try clear n9'); (try clear n10'); (try clear nid'); (try clear hh_i10k); (try clear a1); (try clear a2); (try clear a3); (try clear a4); (try clear hh_i11); (try clear b1); (try clear b2); (try clear b3); (try clear b4); omega)) hw (getD_app_len l w) (by ((try clear hp); (try clear h9); (try clear h10); (try clear hm); (try clear n9); (try clear n10); (try clear nid); (try clear n9'); (try clear n10'); (try clear nid'); (try clear hh_i10k); (try clear a1); (try clear a2); (try clear a3); (try clear a4); (try clear hh_i11); (try clear b1); (try clear b2); (try clear b3); (try clear b4); omega))) ?_
     simp only [vsAll, binA, binLitA, intA, loadA, loadRow, partA, partOk, cellA, pickA, opA, allocA, newCells, okCells, storeObj, guardV, dstOk, Nat.reduceAdd, Nat.reduceLT, Nat.reduceEqDiff, Int.reduceLE, Int.reduceToNat, ↓reduceIte, implies_true, eq_self, wtAll]
     intro i14 hh_i14; (try simp only [ite_none] at hh_i14)
     have c1 := ne_some hh_i14.2 hp
     have c2 := ne_some hh_i14.2 h9
     have c3 := ne_some hh_i14.2 h10
     have c4 := ne_some hh_i14.2 hm
     skip
     rw [Hp.set_set]
     have hdv := div_rng S w.toNat hS
     refine ⟨fun g => ⟨g, g, of_decide_eq_true g, by ((try clear hp); (try clear h9); (try clear h10); (try clear hm); (try clear n9); (try clear n10); (try clear nid); (try clear n9'); (try clear n10'); (try clear nid'); (try clear hh_i10k); (try clear a1); (try clear a2); (try clear a3); (try clear a4); (try clear hh_i11); (try clear b1); (try clear b2); (try clear b3); (try clear b4); (try clear hh_i14); (try clear c1); (try clear c2); (try clear c3); (try clear c4); omega), rfl⟩, fun g => ⟨g, hdv.1, by simp only [InR_u64]; ((try clear hp); (try clear h9); (try clear h10); (try clear hm); (try clear n9); (try clear n10); (try clear nid); (try clear n9'); (try clear n10'); (try clear nid'); (try clear hh_i10k); (try clear a1); (try clear a2); (try clear a3); (try clear a4); (try clear hh_i11); (try clear b1); (try clear b2); (try clear b3); (try clear b4); (try clear hh_i14); (try clear c1); (try clear c2); (try clear c3); (try clear c4); omega), by simp only [InR_u64]; ((try clear hp); (try clear h9); (try clear h10); (try clear hm); (try clear n9); (try clear n10); (try clear nid); (try clear n9'); (try clear n10'); (try clear nid'); (try clear hh_i10k); (try clear a1); (try clear a2); (try clear a3); (try clear a4); (try clear hh_i11); (try clear b1); (try clear b2); (try clear b3); (try clear b4); (try clear hh_i14); (try clear c1); (try clear c2); (try clear c3); (try clear c4); omega)⟩, ?_⟩
     rw [bit_eq0]
     refine gcall _ (fun g => ⟨by simp only [vsAll, opA], by simp only [vsAll, okAll, opsA, opA, Nat.reduceEqDiff, ↓reduceIte, eq_self, g], floats_tri p (l ++ [w]) false 0 (l.length + 1) id _ (by show Hp.set (Hp.set _ _ _) _ _ id = _; simp only [vsAll, ↓reduceIte, eq_self, hp, a1, c1])⟩) ?_
     rw [moreP_zero]
     simp only [vsAll, unA, pickA, opA, guardV, dstOk, Nat.reduceLT, Nat.reduceEqDiff, ↓reduceIte, implies_true, eq_self]
     have hpn : pv (j + 1) = stepB p S (leastB p S n) l (pv j) w := by
      rw [← hpv, ← hjw]; rfl
     have e13 : w + 1 = ((j + 1 : Nat) : Int) - 1 := by ((try clear hp); (try clear h9); (try clear h10); (try clear hm); (try clear n9); (try clear n10); (try clear nid); (try clear n9'); (try clear n10'); (try clear nid'); (try clear hh_i10k); (try clear a1); (try clear a2); (try clear a3); (try clear a4); (try clear hh_i11); (try clear b1); (try clear b2); (try clear b3); (try clear b4); (try clear hh_i14); (try clear c1); (try clear c2); (try clear c3); (try clear c4); omega)
     refine condV (fun hc => ?_) (fun hc => ?_)
     ·have hc' : (0 ≤ w ∧ S.testBit w.toNat = false) ∨ ¬ watV p (l ++ [w]) false (l.length + 1) ≤ p.ca := by simpa using hc
      rw [stepB, if_pos hc'] at hpn
      simp only [vsAll, binA, binLitA, intA, opA, dstOk, nilSliceOp, Nat.reduceLT, Nat.reduceEqDiff, ↓reduceIte, eq_self]
      refine ⟨by simp only [InR_i64]; ((try clear hp); (try clear h9); (try clear h10); (try clear hm); (try clear n9); (try clear n10); (try clear nid); (try clear n9'); (try clear n10'); (try clear nid'); (try clear hh_i10k); (try clear a1); (try clear a2); (try clear a3); (try clear a4); (try clear hh_i11); (try clear b1); (try clear b2); (try clear b3); (try clear b4); (try clear hh_i14); (try clear c1); (try clear c2); (try clear c3); (try clear c4); omega), loop_next (j + 1) (by ((try clear hp); (try clear h9); (try clear h10); (try clear hm); (try clear n9); (try clear n10); (try clear nid); (try clear n9'); (try clear n10'); (try clear nid'); (try clear hh_i10k); (try clear a1); (try clear a2); (try clear a3); (try clear a4); (try clear hh_i11); (try clear b1); (try clear b2); (try clear b3); (try clear b4); (try clear hh_i14); (try clear c1); (try clear c2); (try clear c3); (try clear c4); omega)) (by ((try clear hp); (try clear h9); (try clear h10); (try clear hm); (try clear n9); (try clear n10); (try clear nid); (try clear n9'); (try clear n10'); (try clear nid'); (try clear hh_i10k); (try clear a1); (try clear a2); (try clear a3); (try clear a4); (try clear hh_i11); (try clear b1); (try clear b2); (try clear b3); (try clear b4); (try clear hh_i14); (try clear c1); (try clear c2); (try clear c3); (try clear c4); omega)) ?_ ?_⟩
      ·simp only [vsAll, Nat.reduceEqDiff, ↓reduceIte, eq_self]
       rw [e13]
       exact AV.Le.refl _
      ·simp only [hpn]
       (repeat (first | exact HSub_rfl | refine HSub_put_eq (by simp only [vsAll, ↓reduceIte, eq_self, hh_i14]) ?_ | refine HSub_drop2 (by simp only [eq_self, hh_i10k, hh_i14]) ?_ | refine HSub_keep_eq (by simp only [vsAll, binA, binLitA, intA, aggA, aggV, boolA, nilA2, isConst, unA, loadA, loadRow, partA, partOk, fieldAddrA, indexAddrA, indexA, fieldA, extractA, lenA, nilCheckA, boxA, boxZ, cellA, cellsA, fillA, okParts, buildSliceA, buildMutA, makeSliceA, partIdx, elemsA, lensA, ifaceA, convA, mmA, pickA, okAll, stAll, opsA, partsA, partsOk, opA, allocA, boxMutA, newCells, okCells, storeObj, appendA, guardV, taA, nM, mapUpA, lookA, sliceA, sliceS, boundsA, opO, okO, copyA, dstOk, nilA, quietOk, nilSliceOp, deferV, panA, resA, argFr, retA.eq_1, retA.eq_2, Nat.reduceAdd, Nat.reduceSub, Nat.reduceMul, Nat.reduceLT, Nat.reduceLeDiff, Nat.reduceEqDiff, Nat.reduceBEq, Int.reduceAdd, Int.reduceSub, Int.reduceMul, Int.reduceNeg, Int.reduceLE, Int.reduceLT, Int.reduceEq, Int.reduceNe, Int.reduceToNat, ↓reduceIte, reduceCtorEq, implies_true, forall_const, eq_self, ne_eq, arrL, wtAll, Try.ntmps93, Try.results93, hp, h9, h10, hm, n9, n10, nid, n9', n10', nid', hh_i10k, a1, a2, a3, a4, hh_i11, b1, b2, b3, b4, hh_i14, c1, c2, c3, c4]) ?_))
     ·have hc' : ¬ ((0 ≤ w ∧ S.testBit w.toNat = false) ∨ ¬ watV p (l ++ [w]) false (l.length + 1) ≤ p.ca) := fun h => by
       have : (decide (0 ≤ w) && !S.testBit w.toNat || !decide (watV p (l ++ [w]) false (l.length + 1) ≤ p.ca)) = true := by simpa using h
       rw [this] at hc
       cases hc
      rw [stepB, if_neg hc'] at hpn
      simp only [vsAll, loadA, loadRow, partA, partOk, okAll, stAll, opsA, opA, dstOk, Nat.reduceLT, Nat.reduceEqDiff, ↓reduceIte, eq_self, wtAll, h10, a3, c3]
      have hih := fun X => ih (l ++ [w]) X (by rw [List.length_append, List.length_singleton]; ((try clear hp); (try clear h9); (try clear h10); (try clear hm); (try clear n9); (try clear n10); (try clear nid); (try clear n9'); (try clear n10'); (try clear nid'); (try clear hh_i10k); (try clear a1); (try clear a2); (try clear a3); (try clear a4); (try clear hh_i11); (try clear b1); (try clear b2); (try clear b3); (try clear b4); (try clear hh_i14); (try clear c1); (try clear c2); (try clear c3); (try clear c4); omega)) hf2
      rw [List.length_append, List.length_singleton] at hih
      refine callK_pure (hih _ (by show Hp.set (Hp.set _ _ _) _ _ id = _; simp only [vsAll, ↓reduceIte, eq_self, hp, a1, c1]) (by show Hp.set (Hp.set _ _ _) _ _ i9 = _; simp only [vsAll, ↓reduceIte, eq_self, h9, a2, c2]) (by show Hp.set (Hp.set _ _ _) _ _ i10 = _; simp only [vsAll, ↓reduceIte, eq_self, h10, a3, c3]) (by show Hp.set (Hp.set _ _ _) _ _ im = _; simp only [vsAll, ↓reduceIte, eq_self, hm, hh_i10k, c4])) ?_
      generalize hq : leastB p S n (l ++ [w]) = q at hpn
      cases q with
      | none =>
        simp only [] at hpn
        simp only [vsAll, binA, binLitA, intA, unA, extractA, opA, dstOk, nilSliceOp, Nat.reduceAdd, Nat.reduceLT, Nat.reduceEqDiff, ↓reduceIte, eq_self]
        refine ⟨by simp only [InR_i64]; ((try clear hp); (try clear h9); (try clear h10); (try clear hm); (try clear n9); (try clear n10); (try clear nid); (try clear n9'); (try clear n10'); (try clear nid'); (try clear hh_i10k); (try clear a1); (try clear a2); (try clear a3); (try clear a4); (try clear hh_i11); (try clear b1); (try clear b2); (try clear b3); (try clear b4); (try clear hh_i14); (try clear c1); (try clear c2); (try clear c3); (try clear c4); omega), loop_next (j + 1) (by ((try clear hp); (try clear h9); (try clear h10); (try clear hm); (try clear n9); (try clear n10); (try clear nid); (try clear n9'); (try clear n10'); (try clear nid'); (try clear hh_i10k); (try clear a1); (try clear a2); (try clear a3); (try clear a4); (try clear hh_i11); (try clear b1); (try clear b2); (try clear b3); (try clear b4); (try clear hh_i14); (try clear c1); (try clear c2); (try clear c3); (try clear c4); omega)) (by ((try clear hp); (try clear h9); (try clear h10); (try clear hm); (try clear n9); (try clear n10); (try clear nid); (try clear n9'); (try clear n10'); (try clear nid'); (try clear hh_i10k); (try clear a1); (try clear a2); (try clear a3); (try clear a4); (try clear hh_i11); (try clear b1); (try clear b2); (try clear b3); (try clear b4); (try clear hh_i14); (try clear c1); (try clear c2); (try clear c3); (try clear c4); omega)) ?_ ?_⟩
        ·simp only [vsAll, Nat.reduceEqDiff, ↓reduceIte, eq_self]
         rw [e13]
         exact AV.Le.refl _
        ·simp only [hpn]
         (repeat (first | exact HSub_rfl | refine HSub_put_eq (by simp only [vsAll, ↓reduceIte, eq_self, hh_i14]) ?_ | refine HSub_drop2 (by simp only [eq_self, hh_i10k, hh_i14]) ?_ | refine HSub_keep_eq (by simp only [vsAll, binA, binLitA, intA, aggA, aggV, boolA, nilA2, isConst, unA, loadA, loadRow, partA, partOk, fieldAddrA, indexAddrA, indexA, fieldA, extractA, lenA, nilCheckA, boxA, boxZ, cellA, cellsA, fillA, okParts, buildSliceA, buildMutA, makeSliceA, partIdx, elemsA, lensA, ifaceA, convA, mmA, pickA, okAll, stAll, opsA, partsA, partsOk, opA, allocA, boxMutA, newCells, okCells, storeObj, appendA, guardV, taA, nM, mapUpA, lookA, sliceA, sliceS, boundsA, opO, okO, copyA, dstOk, nilA, quietOk, nilSliceOp, deferV, panA, resA, argFr, retA.eq_1, retA.eq_2, Nat.reduceAdd, Nat.reduceSub, Nat.reduceMul, Nat.reduceLT, Nat.reduceLeDiff, Nat.reduceEqDiff, Nat.reduceBEq, Int.reduceAdd, Int.reduceSub, Int.reduceMul, Int.reduceNeg, Int.reduceLE, Int.reduceLT, Int.reduceEq, Int.reduceNe, Int.reduceToNat, ↓reduceIte, reduceCtorEq, implies_true, forall_const, eq_self, ne_eq, arrL, wtAll, Try.ntmps93, Try.results93, hp, h9, h10, hm, n9, n10, nid, n9', n10', nid', hh_i10k, a1, a2, a3, a4, hh_i11, b1, b2, b3, b4, hh_i14, c1, c2, c3, c4]) ?_))
      | some x =>
        simp only [] at hpn
        have hx := least_rng S n _ _ hq
        have hl8 := hf2.len
        have hn8 : (n : Int) ≤ 8 := by ((try clear hp); (try clear h9); (try clear h10); (try clear hm); (try clear n9); (try clear n10); (try clear nid); (try clear n9'); (try clear n10'); (try clear nid'); (try clear hh_i10k); (try clear a1); (try clear a2); (try clear a3); (try clear a4); (try clear hh_i11); (try clear b1); (try clear b2); (try clear b3); (try clear b4); (try clear hh_i14); (try clear c1); (try clear c2); (try clear c3); (try clear c4); omega)
        simp only [vsAll, unA, loadA, loadRow, partA, partOk, fieldAddrA, extractA, okAll, stAll, opsA, opA, dstOk, nilSliceOp, Nat.reduceAdd, Nat.reduceLT, Nat.reduceEqDiff, ↓reduceIte, eq_self, wtAll, Option.getD_some]
        refine callK_pure (of_tri2 w x _ (by ((try clear hp); (try clear h9); (try clear h10); (try clear hm); (try clear n9); (try clear n10); (try clear nid); (try clear n9'); (try clear n10'); (try clear nid'); (try clear hh_i10k); (try clear a1); (try clear a2); (try clear a3); (try clear a4); (try clear hh_i11); (try clear b1); (try clear b2); (try clear b3); (try clear b4); (try clear hh_i14); (try clear c1); (try clear c2); (try clear c3); (try clear c4); omega))) ?_
        cases hpj : pv j with
        | none =>
          rw [hpj] at hpn
          simp only [] at hpn
          simp only [vsAll, unA, loadA, loadRow, partA, partOk, fieldAddrA, opA, guardV, dstOk, nilSliceOp, Nat.reduceLT, Nat.reduceEqDiff, ↓reduceIte, implies_true, eq_self, wtAll, hh_i14]
          refine gcall (boo true) (fun g => by cases g) ?_
          simp only [vsAll, binA, binLitA, intA, cellA, cellsA, fillA, okParts, pickA, partsA, partsOk, opA, newCells, okCells, storeObj, dstOk, nilSliceOp, Nat.reduceAdd, Nat.reduceLT, Nat.reduceLeDiff, Nat.reduceEqDiff, ↓reduceIte, eq_self, wtAll, hh_i14]
          refine ⟨by simp only [InR_i64]; ((try clear hp); (try clear h9); (try clear h10); (try clear hm); (try clear n9); (try clear n10); (try clear nid); (try clear n9'); (try clear n10'); (try clear nid'); (try clear hh_i10k); (try clear a1); (try clear a2); (try clear a3); (try clear a4); (try clear hh_i11); (try clear b1); (try clear b2); (try clear b3); (try clear b4); (try clear hh_i14); (try clear c1); (try clear c2); (try clear c3); (try clear c4); omega), loop_next (j + 1) (by ((try clear hp); (try clear h9); (try clear h10); (try clear hm); (try clear n9); (try clear n10); (try clear nid); (try clear n9'); (try clear n10'); (try clear nid'); (try clear hh_i10k); (try clear a1); (try clear a2); (try clear a3); (try clear a4); (try clear hh_i11); (try clear b1); (try clear b2); (try clear b3); (try clear b4); (try clear hh_i14); (try clear c1); (try clear c2); (try clear c3); (try clear c4); omega)) (by ((try clear hp); (try clear h9); (try clear h10); (try clear hm); (try clear n9); (try clear n10); (try clear nid); (try clear n9'); (try clear n10'); (try clear nid'); (try clear hh_i10k); (try clear a1); (try clear a2); (try clear a3); (try clear a4); (try clear hh_i11); (try clear b1); (try clear b2); (try clear b3); (try clear b4); (try clear hh_i14); (try clear c1); (try clear c2); (try clear c3); (try clear c4); omega)) ?_ ?_⟩
          ·simp only [vsAll, Nat.reduceEqDiff, ↓reduceIte, eq_self]
           rw [e13]
           exact AV.Le.refl _
          ·simp only [hpn, Option.getD_some, Option.isSome_some]
           (repeat (first | exact HSub_rfl | refine HSub_put_eq (by simp only [vsAll, ↓reduceIte, eq_self]) ?_ | refine HSub_drop2 (by simp only [eq_self, hh_i10k, hh_i14]) ?_ | refine HSub_keep_eq (by simp only [vsAll, binA, binLitA, intA, aggA, aggV, boolA, nilA2, isConst, unA, loadA, loadRow, partA, partOk, fieldAddrA, indexAddrA, indexA, fieldA, extractA, lenA, nilCheckA, boxA, boxZ, cellA, cellsA, fillA, okParts, buildSliceA, buildMutA, makeSliceA, partIdx, elemsA, lensA, ifaceA, convA, mmA, pickA, okAll, stAll, opsA, partsA, partsOk, opA, allocA, boxMutA, newCells, okCells, storeObj, appendA, guardV, taA, nM, mapUpA, lookA, sliceA, sliceS, boundsA, opO, okO, copyA, dstOk, nilA, quietOk, nilSliceOp, deferV, panA, resA, argFr, retA.eq_1, retA.eq_2, Nat.reduceAdd, Nat.reduceSub, Nat.reduceMul, Nat.reduceLT, Nat.reduceLeDiff, Nat.reduceEqDiff, Nat.reduceBEq, Int.reduceAdd, Int.reduceSub, Int.reduceMul, Int.reduceNeg, Int.reduceLE, Int.reduceLT, Int.reduceEq, Int.reduceNe, Int.reduceToNat, ↓reduceIte, reduceCtorEq, implies_true, forall_const, eq_self, ne_eq, arrL, wtAll, Try.ntmps93, Try.results93, hp, h9, h10, hm, n9, n10, nid, n9', n10', nid', hh_i10k, a1, a2, a3, a4, hh_i11, b1, b2, b3, b4, hh_i14, c1, c2, c3, c4]) ?_))
        | some y =>
          rw [hpj] at hpn
          simp only [] at hpn
          simp only [vsAll, unA, loadA, loadRow, partA, partOk, fieldAddrA, opA, guardV, dstOk, nilSliceOp, Nat.reduceLT, Nat.reduceEqDiff, ↓reduceIte, eq_self, wtAll, hh_i14, Option.getD_some]
          refine gcall _ (fun g => ⟨by simp only [vsAll, opA, Nat.reduceEqDiff, ↓reduceIte, eq_self], by simp only [vsAll, okAll, opsA, opA, Nat.reduceEqDiff, ↓reduceIte, eq_self], less_tri (costW w x) y _⟩) ?_
          simp only [vsAll, pickA, opA, dstOk, Nat.reduceLT, Nat.reduceEqDiff, ↓reduceIte, implies_true, eq_self]
          refine condD (fun hc2 => ?_) (fun hc2 => ?_)
          ·rw [if_pos hc2] at hpn
           simp only [vsAll, binA, binLitA, intA, cellA, cellsA, fillA, okParts, partsA, partsOk, opA, newCells, okCells, storeObj, dstOk, nilSliceOp, Nat.reduceAdd, Nat.reduceLT, Nat.reduceLeDiff, Nat.reduceEqDiff, ↓reduceIte, eq_self, wtAll, hh_i14]
           refine ⟨by simp only [InR_i64]; ((try clear hp); (try clear h9); (try clear h10); (try clear hm); (try clear n9); (try clear n10); (try clear nid); (try clear n9'); (try clear n10'); (try clear nid'); (try clear hh_i10k); (try clear a1); (try clear a2); (try clear a3); (try clear a4); (try clear hh_i11); (try clear b1); (try clear b2); (try clear b3); (try clear b4); (try clear hh_i14); (try clear c1); (try clear c2); (try clear c3); (try clear c4); omega), loop_next (j + 1) (by ((try clear hp); (try clear h9); (try clear h10); (try clear hm); (try clear n9); (try clear n10); (try clear nid); (try clear n9'); (try clear n10'); (try clear nid'); (try clear hh_i10k); (try clear a1); (try clear a2); (try clear a3); (try clear a4); (try clear hh_i11); (try clear b1); (try clear b2); (try clear b3); (try clear b4); (try clear hh_i14); (try clear c1); (try clear c2); (try clear c3); (try clear c4); omega)) (by ((try clear hp); (try clear h9); (try clear h10); (try clear hm); (try clear n9); (try clear n10); (try clear nid); (try clear n9'); (try clear n10'); (try clear nid'); (try clear hh_i10k); (try clear a1); (try clear a2); (try clear a3); (try clear a4); (try clear hh_i11); (try clear b1); (try clear b2); (try clear b3); (try clear b4); (try clear hh_i14); (try clear c1); (try clear c2); (try clear c3); (try clear c4); omega)) ?_ ?_⟩
           ·simp only [vsAll, Nat.reduceEqDiff, ↓reduceIte, eq_self]
            rw [e13]
            exact AV.Le.refl _
           ·simp only [hpn, Option.getD_some, Option.isSome_some]
            (repeat (first | exact HSub_rfl | refine HSub_put_eq (by simp only [vsAll, ↓reduceIte, eq_self]) ?_ | refine HSub_drop2 (by simp only [eq_self, hh_i10k, hh_i14]) ?_ | refine HSub_keep_eq (by simp only [vsAll, binA, binLitA, intA, aggA, aggV, boolA, nilA2, isConst, unA, loadA, loadRow, partA, partOk, fieldAddrA, indexAddrA, indexA, fieldA, extractA, lenA, nilCheckA, boxA, boxZ, cellA, cellsA, fillA, okParts, buildSliceA, buildMutA, makeSliceA, partIdx, elemsA, lensA, ifaceA, convA, mmA, pickA, okAll, stAll, opsA, partsA, partsOk, opA, allocA, boxMutA, newCells, okCells, storeObj, appendA, guardV, taA, nM, mapUpA, lookA, sliceA, sliceS, boundsA, opO, okO, copyA, dstOk, nilA, quietOk, nilSliceOp, deferV, panA, resA, argFr, retA.eq_1, retA.eq_2, Nat.reduceAdd, Nat.reduceSub, Nat.reduceMul, Nat.reduceLT, Nat.reduceLeDiff, Nat.reduceEqDiff, Nat.reduceBEq, Int.reduceAdd, Int.reduceSub, Int.reduceMul, Int.reduceNeg, Int.reduceLE, Int.reduceLT, Int.reduceEq, Int.reduceNe, Int.reduceToNat, ↓reduceIte, reduceCtorEq, implies_true, forall_const, eq_self, ne_eq, arrL, wtAll, Try.ntmps93, Try.results93, hp, h9, h10, hm, n9, n10, nid, n9', n10', nid', hh_i10k, a1, a2, a3, a4, hh_i11, b1, b2, b3, b4, hh_i14, c1, c2, c3, c4]) ?_))
          ·rw [if_neg hc2] at hpn
           simp only [vsAll, binA, binLitA, intA, opA, dstOk, nilSliceOp, Nat.reduceLT, Nat.reduceEqDiff, ↓reduceIte, eq_self]
           refine ⟨by simp only [InR_i64]; ((try clear hp); (try clear h9); (try clear h10); (try clear hm); (try clear n9); (try clear n10); (try clear nid); (try clear n9'); (try clear n10'); (try clear nid'); (try clear hh_i10k); (try clear a1); (try clear a2); (try clear a3); (try clear a4); (try clear hh_i11); (try clear b1); (try clear b2); (try clear b3); (try clear b4); (try clear hh_i14); (try clear c1); (try clear c2); (try clear c3); (try clear c4); omega), loop_next (j + 1) (by ((try clear hp); (try clear h9); (try clear h10); (try clear hm); (try clear n9); (try clear n10); (try clear nid); (try clear n9'); (try clear n10'); (try clear nid'); (try clear hh_i10k); (try clear a1); (try clear a2); (try clear a3); (try clear a4); (try clear hh_i11); (try clear b1); (try clear b2); (try clear b3); (try clear b4); (try clear hh_i14); (try clear c1); (try clear c2); (try clear c3); (try clear c4); omega)) (by ((try clear hp); (try clear h9); (try clear h10); (try clear hm); (try clear n9); (try clear n10); (try clear nid); (try clear n9'); (try clear n10'); (try clear nid'); (try clear hh_i10k); (try clear a1); (try clear a2); (try clear a3); (try clear a4); (try clear hh_i11); (try clear b1); (try clear b2); (try clear b3); (try clear b4); (try clear hh_i14); (try clear c1); (try clear c2); (try clear c3); (try clear c4); omega)) ?_ ?_⟩
           ·simp only [vsAll, Nat.reduceEqDiff, ↓reduceIte, eq_self]
            rw [e13]
            exact AV.Le.refl _
           ·simp only [hpn, Option.getD_some, Option.isSome_some]
            (repeat (first | exact HSub_rfl | refine HSub_put_eq (by simp only [vsAll, ↓reduceIte, eq_self, hh_i14]) ?_ | refine HSub_drop2 (by simp only [eq_self, hh_i10k, hh_i14]) ?_ | refine HSub_keep_eq (by simp only [vsAll, binA, binLitA, intA, aggA, aggV, boolA, nilA2, isConst, unA, loadA, loadRow, partA, partOk, fieldAddrA, indexAddrA, indexA, fieldA, extractA, lenA, nilCheckA, boxA, boxZ, cellA, cellsA, fillA, okParts, buildSliceA, buildMutA, makeSliceA, partIdx, elemsA, lensA, ifaceA, convA, mmA, pickA, okAll, stAll, opsA, partsA, partsOk, opA, allocA, boxMutA, newCells, okCells, storeObj, appendA, guardV, taA, nM, mapUpA, lookA, sliceA, sliceS, boundsA, opO, okO, copyA, dstOk, nilA, quietOk, nilSliceOp, deferV, panA, resA, argFr, retA.eq_1, retA.eq_2, Nat.reduceAdd, Nat.reduceSub, Nat.reduceMul, Nat.reduceLT, Nat.reduceLeDiff, Nat.reduceEqDiff, Nat.reduceBEq, Int.reduceAdd, Int.reduceSub, Int.reduceMul, Int.reduceNeg, Int.reduceLE, Int.reduceLT, Int.reduceEq, Int.reduceNe, Int.reduceToNat, ↓reduceIte, reduceCtorEq, implies_true, forall_const, eq_self, ne_eq, arrL, wtAll, Try.ntmps93, Try.results93, hp, h9, h10, hm, n9, n10, nid, n9', n10', nid', hh_i10k, a1, a2, a3, a4, hh_i11, b1, b2, b3, b4, hh_i14, c1, c2, c3, c4]) ?_))
   ·obtain ⟨l', h1, h2, h3⟩ := hes en (by
     have := Array.getElem?_eq_some_iff.1 hj
     obtain ⟨hl, rfl⟩ := this
     simp)
    have hval : en.val = knV (leastB p S (n + 1) l) := by
     have hd : dkI p l' = dkI p l := dkP_inj (h2.symm.trans hkn)
     have hl' := (dkI_inj hd).1
     rw [h3, show u - l'.length = n + 1 by ((try clear hp); (try clear h9); (try clear h10); (try clear hm); (try clear n9); (try clear n10); (try clear nid); (try clear n9'); (try clear n10'); (try clear nid'); (try clear hh_i10k); (try clear a1); (try clear a2); (try clear a3); (try clear a4); omega), least_congr k S _ _ _ hd]
    generalize htl : leastB p S (n + 1) l = tv at hval
    simp only [vsAll, cellA, okCells, Nat.reduceAdd, Int.reduceNeg, eq_self, hval]
    intro i11 hh_i11; (try simp only [ite_none] at hh_i11)
    refine vs_draw2 [0, 0, 0, 0, 1, 3] [([0, 1, 2, 3], [3], 4), ([], [], 5)] [] (by decide +kernel) ?_
    simp only [vsAll, loadA, loadRow, partA, partOk, fieldAddrA, opA, dstOk, nilSliceOp, resA, retA.eq_2, Nat.reduceLT, Nat.reduceEqDiff, Int.reduceNeg, ↓reduceIte, eq_self, wtAll, Try.results93]
    rw [Hp.set_set]
    exact dropR_pure rfl (HSub_drop2 (by simp only [eq_self, hh_i11]) (HSub_drop2 (by simp only [eq_self, hh_i10k]) hback))
end Go.Proofs.Ytkcgocmjaggdiaa
end
section
set_option linter.unusedVariables false
set_option linter.unusedSimpArgs false
set_option maxHeartbeats 4000000
set_option maxRecDepth 100000
namespace Go.Proofs.Ytkcgocmjaggdiaa
open Go.V Wl
theorem azT141 : azT Try.prog 141 = some (1, 1, [.map none]) := by kernel_rfl
theorem azT111 : azT Try.prog 111 = some (1, 1, [.nilFunc]) := by kernel_rfl
/-- The heap behind a teller that is made. -/
abbrev cheH (p : Pu) (id u S : Nat) (H : Hp) (im i9 i10 : Nat) : Hp :=
 ((H.set im (.memo (memT p u S))).set i9 (.box 1 1 fun _ => [.map im])).set i10 (.box 1 1 fun _ => [onF id u S i9 i10])
def cheR (p : Pu) (id u S : Nat) (H : Hp) : Res → Hp → Prop := fun r H' =>
 ∃ i9 i10 im, r = .ret (onF id u S i9 i10) ∧ (H im = none ∧ H i9 = none ∧ H i10 = none) ∧ ((¬ i9 = im ∧ ¬ im = i9) ∧ (¬ i10 = im ∧ ¬ im = i10) ∧ ¬ i10 = i9 ∧ ¬ i9 = i10) ∧ H' = cheH p id u S H im i9 i10
theorem che_tri (p : Pu) (id u S : Nat) (H : Hp) : Tri Try.prog (fnA 69) [.ref id 0 9 0 0, i64 (u : Int), u64 (S : Int), hoursA] H (cheR p id u S H) := by
 refine Tri.drop ?_
 refine tri_v0 (fun _ => false) Try.func69 (by kernel_rfl) rfl (by simp only [List.length_append, List.length_cons, List.length_nil, Try.ntmps69]; decide) ?_
 simp only [vsAll, loadA, loadRow, partA, partOk, boxA, boxZ, cellA, cellsA, okAll, stAll, opsA, opA, allocA, newCells, okCells, storeObj, nM, dstOk, nilSliceOp, resA, argFr, retA.eq_1, Nat.reduceAdd, Nat.reduceLT, Nat.reduceEqDiff, ↓reduceIte, eq_self, wtAll, Try.ntmps69, Try.results69, azT141, azT111]
 intro im hh_im; (try simp only [Hp.set_none, ite_none] at hh_im); intro i9 hh_i9; (try simp only [ite_none] at hh_i9); intro i10 hh_i10; (try simp only [ite_none] at hh_i10)
 rw [Hp.set_set, Hp.set_set]
 refine ⟨cheH p id u S H im i9 i10, HSub.set (HSub.set (HSub.set (HSub.refl _) (memo_le (by simp) (by simp))) (.refl _)) (.refl _), i9, i10, im, rfl, ?_, ?_, rfl⟩
 ·refine ⟨?_, ?_, ?_⟩ <;> simp_all
 ·refine ⟨⟨?_, ?_⟩, ⟨?_, ?_⟩, ?_, ?_⟩ <;> simp_all
theorem cheH_sub {p : Pu} {id u S : Nat} {H : Hp} {im i9 i10 : Nat} (h : H im = none ∧ H i9 = none ∧ H i10 = none) : Go.V.HSub (cheH p id u S H im i9 i10) H := fun q o hq => by
 have h1 : ¬ q = i10 := fun e => by rw [e, h.2.2] at hq; cases hq
 have h2 : ¬ q = i9 := fun e => by rw [e, h.2.1] at hq; cases hq
 have h3 : ¬ q = im := fun e => by rw [e, h.1] at hq; cases hq
 exact ⟨o, by rw [cheH, Hp.set_ne _ _ h1, Hp.set_ne _ _ h2, Hp.set_ne _ _ h3]; exact hq, .refl _⟩
/-- What is told of a plan so far, by a teller that was made. -/
theorem told_tri {p : Pu} {id u S : Nat} {H : Hp} {im i9 i10 : Nat} (k : Ok p) (hA : 0 < (allA p.ho).length) (hu : u ≤ p.fl.length) (hS : S < 8)
 (hd : (¬ i9 = im ∧ ¬ im = i9) ∧ (¬ i10 = im ∧ ¬ im = i10) ∧ ¬ i10 = i9 ∧ ¬ i9 = i10) (hf : H im = none ∧ H i9 = none ∧ H i10 = none) (hp : PmAt p false 0 id H) (n : Nat) (l : List Int) (hn : l.length + n = u) (hl : FirstL p u l) :
 PTri Try.prog (onF id u S i9 i10) [.agg (dkC p l false 0 l.length)] (cheH p id u S H im i9 i10) (knA (leastB p S n l)) := by
 obtain ⟨o, g1, g2⟩ := cheH_sub (p := p) (id := id) (u := u) (S := S) hf id _ hp
 have e : PmAt p false 0 id (cheH p id u S H im i9 i10) := by
  have n1 := (ne_some hf.2.2 hp).2
  have n2 := (ne_some hf.2.1 hp).2
  have n3 := (ne_some hf.1 hp).2
  show cheH p id u S H im i9 i10 id = _
  rw [cheH, Hp.set_ne _ _ n1, Hp.set_ne _ _ n2, Hp.set_ne _ _ n3]; exact hp
 exact on_tri k hA hu hS n l _ hn hl e (by rw [cheH, Hp.set_ne _ _ hd.2.2.2, Hp.set_same]) (by rw [cheH, Hp.set_same]) (by rw [cheH, Hp.set_ne _ _ hd.2.1.2, Hp.set_ne _ _ hd.1.2, Hp.set_same])
theorem cheH_pm {p : Pu} {id u S : Nat} {H : Hp} {im i9 i10 : Nat} (hf : H im = none ∧ H i9 = none ∧ H i10 = none) {b : Bool} {m : Int} (hp : PmAt p b m id H) : PmAt p b m id (cheH p id u S H im i9 i10) := by
 have n1 := (ne_some hf.2.2 hp).2
 have n2 := (ne_some hf.2.1 hp).2
 have n3 := (ne_some hf.1 hp).2
 show cheH p id u S H im i9 i10 id = _
 rw [cheH, Hp.set_ne _ _ n1, Hp.set_ne _ _ n2, Hp.set_ne _ _ n3]; exact hp
theorem first0 (p : Pu) (u : Nat) : FirstL p u [] := ⟨Nat.zero_le _, fun i hi => absurd hi (Nat.not_lt_zero i)⟩
/-- Can she be kept afloat for so many hours, by some watches? -/
def canB (p : Pu) (u S : Nat) : Bool := (leastB p S u []).isSome
theorem can_tri (p : Pu) (u S : Nat) (id : Nat) (H : Hp) (k : Ok p) (hA : 0 < (allA p.ho).length) (hu : u ≤ p.fl.length) (hS : S < 8) (ho : PmAt p false 0 id H) : PTri Try.prog (fnA 73) [.ref id 0 9 0 0, i64 (u : Int), u64 (S : Int)] H (boo (canB p u S)) := by
 refine Tri.drop ?_
 refine tri_v0 (fun _ => false) Try.func73 (by kernel_rfl) rfl (by simp only [List.length_append, List.length_cons, List.length_nil, Try.ntmps73]; decide) ?_
 simp only [vsAll, okAll, stAll, opsA, opA, dstOk, nilSliceOp, argFr, Nat.reduceLT, Nat.reduceEqDiff, ↓reduceIte, reduceCtorEq, eq_self, Try.ntmps73]
 refine callK_pure (hours_tri _) ?_
 simp only [vsAll, okAll, stAll, opsA, opA, dstOk, Nat.reduceLT, Nat.reduceEqDiff, ↓reduceIte, eq_self]
 refine ⟨_, che_tri p id u S H, fun r H' hr => ?_⟩
 obtain ⟨i9, i10, im, rfl, hfr, hd, rfl⟩ := hr
 have hsub := cheH_sub (p := p) (id := id) (u := u) (S := S) hfr
 have hpm := cheH_pm (u := u) (S := S) hfr ho
 have htold := told_tri k hA hu hS hd hfr ho u [] (by rw [List.length_nil, Nat.zero_add]) (first0 p u)
 rw [List.length_nil] at htold
 generalize cheH p id u S H im i9 i10 = G at hsub hpm htold ⊢
 generalize hT : onF id u S i9 i10 = T at htold ⊢
 have hok : T.ok := by rw [← hT]; trivial
 have hst : T.st = T := by rw [← hT]; rfl
 simp only [vsAll, okAll, stAll, opsA, opA, dstOk, argFr, Nat.reduceLT, ↓reduceIte, reduceCtorEq, eq_self]
 refine callK_pure (begin_tri p [] false 0 id _ hpm) ?_
 simp only [vsAll, okAll, stAll, opsA, opA, dstOk, Nat.reduceLT, Nat.reduceEqDiff, ↓reduceIte, eq_self, hok, hst]
 refine callK_pure htold ?_
 simp only [vsAll, extractA, opA, dstOk, nilSliceOp, resA, retA.eq_1, Nat.reduceAdd, Nat.reduceLT, Nat.reduceEqDiff, ↓reduceIte, eq_self, Try.results73]
 exact dropR_pure rfl hsub
end Go.Proofs.Ytkcgocmjaggdiaa
end
section
set_option linter.unusedVariables false
set_option linter.unusedSimpArgs false
set_option maxHeartbeats 4000000
set_option maxRecDepth 100000
namespace Go.Proofs.Ytkcgocmjaggdiaa
open Go.V Wl
abbrev everyN (p : Pu) : Nat := 2 ^ p.ws.length - 1
theorem every_lt {p : Pu} (k : Ok p) : everyN p < 8 := by
 have nW := k.nW
 unfold everyN
 have : p.ws.length = 0 ∨ p.ws.length = 1 ∨ p.ws.length = 2 ∨ p.ws.length = 3 := by omega
 rcases this with h | h | h | h <;> rw [h] <;> decide
/-- For how many hours she can be kept afloat, tried from some number on. -/
def untN (p : Pu) : Nat → Nat → Nat
 | 0, m => m
 | k + 1, m => if canB p (m + 1) (everyN p) = true then untN p k (m + 1) else m
def untE (p : Pu) : Int := errE p true
def untV (p : Pu) : Int := if untE p = 0 then (untN p p.fl.length 0 : Nat) else 0
theorem unt_tri (p : Pu) (H : Hp) (kn : Near p) : PTri Try.prog (fnA 32) [p.av] H (.tuple [i64 (untV p), i64 (untE p)]) := by
 refine Tri.drop ?_
 refine tri_am (m := fun _ => false) ans44 Try.func32 (by kernel_rfl) rfl (by simp only [List.length_append, List.length_cons, List.length_nil, Try.ntmps32]; decide) ?_
 simp only [vsAll, loadA, loadRow, partA, partOk, boxA, boxZ, okAll, stAll, opsA, opA, allocA, dstOk, nilSliceOp, argFr, Nat.reduceAdd, Nat.reduceLT, Nat.reduceEqDiff, ↓reduceIte, eq_self, wtAll, Try.ntmps32]
 intro i3 hh_i3; (try simp only [Hp.set_none, ite_none] at hh_i3)
 refine open_call (open_tri p _ true _ kn trivial rfl (fun k H' => palways_tri H')) (fun he => ?_) (fun k hv hA id hid => ?_)
 ·have e2 : untV p = 0 := if_neg he
  have e : untE p = errE p true := rfl
  simp only [vsAll, loadA, loadRow, partA, partOk, resA, retA.eq_2, Nat.reduceEqDiff, ↓reduceIte, eq_self, wtAll, Try.results32]
  refine ⟨errE p true, i3, _, rfl, rfl, by simp only [↓reduceIte, eq_self]; try rfl, ?_⟩
  simp only [vsAll, Nat.reduceLT, ↓reduceIte, eq_self]
  refine dropR_pure ?_ (by (repeat (first | exact HSub_rfl | refine HSub_put_eq (by simp only [vsAll, binA, binLitA, intA, aggA, aggV, boolA, nilA2, isConst, unA, loadA, loadRow, partA, partOk, fieldAddrA, indexAddrA, indexA, fieldA, extractA, lenA, nilCheckA, boxA, boxZ, cellA, cellsA, fillA, okParts, buildSliceA, buildMutA, makeSliceA, partIdx, elemsA, lensA, ifaceA, convA, mmA, pickA, okAll, stAll, opsA, partsA, partsOk, opA, allocA, boxMutA, newCells, okCells, storeObj, appendA, guardV, taA, nM, mapUpA, lookA, sliceA, sliceS, boundsA, opO, okO, copyA, dstOk, nilA, quietOk, nilSliceOp, deferV, panA, resA, argFr, retA.eq_1, retA.eq_2, Nat.reduceAdd, Nat.reduceSub, Nat.reduceMul, Nat.reduceLT, Nat.reduceLeDiff, Nat.reduceEqDiff, Nat.reduceBEq, Int.reduceAdd, Int.reduceSub, Int.reduceMul, Int.reduceNeg, Int.reduceLE, Int.reduceLT, Int.reduceEq, Int.reduceNe, Int.reduceToNat, ↓reduceIte, reduceCtorEq, implies_true, forall_const, eq_self, ne_eq, arrL, wtAll, Try.ntmps32, Try.results32, hh_i3]) ?_ | refine HSub_drop2 (by simp only [eq_self, hh_i3]) ?_ | refine HSub_keep_eq (by simp only [vsAll, binA, binLitA, intA, aggA, aggV, boolA, nilA2, isConst, unA, loadA, loadRow, partA, partOk, fieldAddrA, indexAddrA, indexA, fieldA, extractA, lenA, nilCheckA, boxA, boxZ, cellA, cellsA, fillA, okParts, buildSliceA, buildMutA, makeSliceA, partIdx, elemsA, lensA, ifaceA, convA, mmA, pickA, okAll, stAll, opsA, partsA, partsOk, opA, allocA, boxMutA, newCells, okCells, storeObj, appendA, guardV, taA, nM, mapUpA, lookA, sliceA, sliceS, boundsA, opO, okO, copyA, dstOk, nilA, quietOk, nilSliceOp, deferV, panA, resA, argFr, retA.eq_1, retA.eq_2, Nat.reduceAdd, Nat.reduceSub, Nat.reduceMul, Nat.reduceLT, Nat.reduceLeDiff, Nat.reduceEqDiff, Nat.reduceBEq, Int.reduceAdd, Int.reduceSub, Int.reduceMul, Int.reduceNeg, Int.reduceLE, Int.reduceLT, Int.reduceEq, Int.reduceNe, Int.reduceToNat, ↓reduceIte, reduceCtorEq, implies_true, forall_const, eq_self, ne_eq, arrL, wtAll, Try.ntmps32, Try.results32, hh_i3]) ?_)))
  simp only [eq_self, e, e2]
 ·have he : untE p = 0 := errE_ok k (by ((try clear hh_i3); omega))
  have ev : untV p = (untN p p.fl.length 0 : Nat) := if_pos he
  have nF := k.nF
  have hE := every_lt k
  have hid' := hid
  simp only [Hp.set_none] at hid
  skip
  simp only [vsAll, opA, dstOk, nilSliceOp, Nat.reduceLT, ↓reduceIte, eq_self]
  refine vs_loop (σ := Nat) (fun m => m ≤ p.fl.length ∧ untN p (p.fl.length - m) m = untN p p.fl.length 0) (fun m => [(3, .ref i3 0 1 0 0), (4, .ref id 0 9 0 0), (5, i64 m)])
   (fun _ => (H.set i3 (.box 1 1 fun _ => [i64 0])).set id (.box 9 1 fun _ => pmC p false 0)) (fun m => p.fl.length - m) 0 ⟨Nat.zero_le _, rfl⟩ ?_ HSub_rfl fun m hm => ?_
  ·simp only [vsAll, Nat.reduceEqDiff, ↓reduceIte, eq_self, Int.natCast_zero]
  ·obtain ⟨hm1, hm2⟩ := hm
   have hpm : ∀ X : Hp, X id = some (.box 9 1 fun _ => pmC p false 0) → PmAt p false 0 id X := fun _ h => h
   simp only [vsAll, binA, binLitA, intA, loadA, loadRow, partA, partOk, fieldAddrA, lenA, nilCheckA, opA, guardV, dstOk, Nat.reduceLT, Nat.reduceEqDiff, ↓reduceIte, implies_true, eq_self, wtAll]
   refine ⟨fun g => ⟨g, by have := of_decide_eq_true g; simp only [InR_i64]; ((try clear hh_i3); (try clear hid); omega)⟩, ?_⟩
   refine gcall _ (fun g => ⟨by simp only [vsAll, opA], by simp only [vsAll, okAll, opsA, opA, ↓reduceIte, eq_self, g], every_tri p false 0 id _ k (Hp.set_same _ _ _)⟩) ?_
   simp only [vsAll, guardV, dstOk, Nat.reduceLT, Nat.reduceEqDiff, ↓reduceIte, eq_self]
   refine gcall (boo (canB p (m + 1) (everyN p))) (fun g => ⟨by simp only [vsAll, opA], by simp only [vsAll, okAll, opsA, opA, Nat.reduceEqDiff, ↓reduceIte, eq_self, g], can_tri p (m + 1) (everyN p) id _ k hA (by have := of_decide_eq_true g; ((try clear hh_i3); (try clear hid); omega)) hE (Hp.set_same _ _ _)⟩) ?_
   simp only [vsAll, pickA, opA, dstOk, Nat.reduceLT, Nat.reduceEqDiff, ↓reduceIte, implies_true, eq_self]
   refine condV (fun hd => ?_) (fun hd => ?_)
   ·rw [Bool.and_eq_true, decide_eq_true_eq] at hd
    have hn2 : untN p (p.fl.length - (m + 1)) (m + 1) = untN p p.fl.length 0 := by
     rw [← hm2, show p.fl.length - m = (p.fl.length - (m + 1)) + 1 by ((try clear hh_i3); (try clear hid); omega), untN, if_pos hd.2]
    simp only [vsAll, binA, binLitA, intA, opA, dstOk, nilSliceOp, Nat.reduceLT, Nat.reduceEqDiff, ↓reduceIte, eq_self]
    refine ⟨by simp only [InR_i64]; ((try clear hh_i3); (try clear hid); omega), loop_next (m + 1) ⟨by ((try clear hh_i3); (try clear hid); omega), hn2⟩ (by ((try clear hh_i3); (try clear hid); omega)) ?_ HSub_rfl⟩
    simp only [vsAll, Nat.reduceEqDiff, ↓reduceIte, eq_self, Int.natCast_add, Int.natCast_one]
   ·have hfin : untN p p.fl.length 0 = m := by
     rw [← hm2]
     by_cases h40 : m = p.fl.length
     ·rw [h40, Nat.sub_self]; rfl
     ·have hns : ¬ canB p (m + 1) (everyN p) = true := fun h => by
       rw [h, decide_eq_true (by ((try clear hh_i3); (try clear hid); omega) : (m : Int) < p.fl.length)] at hd; cases hd
      rw [show p.fl.length - m = (p.fl.length - (m + 1)) + 1 by ((try clear hh_i3); (try clear hid); omega), untN, if_neg hns]
    rw [hfin] at ev
    simp only [vsAll, loadA, loadRow, partA, partOk, cellA, cellsA, opA, newCells, okCells, storeObj, dstOk, nilSliceOp, resA, retA.eq_2, Nat.reduceLT, Nat.reduceEqDiff, ↓reduceIte, eq_self, wtAll, Try.results32, hid]
    refine ⟨i3, _, rfl, by simp only [↓reduceIte, eq_self]; try rfl, ?_⟩
    refine dropR_pure ?_ (by (repeat (first | exact HSub_rfl | refine HSub_put_eq (by simp only [vsAll, binA, binLitA, intA, aggA, aggV, boolA, nilA2, isConst, unA, loadA, loadRow, partA, partOk, fieldAddrA, indexAddrA, indexA, fieldA, extractA, lenA, nilCheckA, boxA, boxZ, cellA, cellsA, fillA, okParts, buildSliceA, buildMutA, makeSliceA, partIdx, elemsA, lensA, ifaceA, convA, mmA, pickA, okAll, stAll, opsA, partsA, partsOk, opA, allocA, boxMutA, newCells, okCells, storeObj, appendA, guardV, taA, nM, mapUpA, lookA, sliceA, sliceS, boundsA, opO, okO, copyA, dstOk, nilA, quietOk, nilSliceOp, deferV, panA, resA, argFr, retA.eq_1, retA.eq_2, Nat.reduceAdd, Nat.reduceSub, Nat.reduceMul, Nat.reduceLT, Nat.reduceLeDiff, Nat.reduceEqDiff, Nat.reduceBEq, Int.reduceAdd, Int.reduceSub, Int.reduceMul, Int.reduceNeg, Int.reduceLE, Int.reduceLT, Int.reduceEq, Int.reduceNe, Int.reduceToNat, ↓reduceIte, reduceCtorEq, implies_true, forall_const, eq_self, ne_eq, arrL, wtAll, Try.ntmps32, Try.results32, hh_i3, hid]) ?_ | refine HSub_drop2 (by simp only [eq_self, hh_i3, hid]) ?_ | refine HSub_keep_eq (by simp only [vsAll, binA, binLitA, intA, aggA, aggV, boolA, nilA2, isConst, unA, loadA, loadRow, partA, partOk, fieldAddrA, indexAddrA, indexA, fieldA, extractA, lenA, nilCheckA, boxA, boxZ, cellA, cellsA, fillA, okParts, buildSliceA, buildMutA, makeSliceA, partIdx, elemsA, lensA, ifaceA, convA, mmA, pickA, okAll, stAll, opsA, partsA, partsOk, opA, allocA, boxMutA, newCells, okCells, storeObj, appendA, guardV, taA, nM, mapUpA, lookA, sliceA, sliceS, boundsA, opO, okO, copyA, dstOk, nilA, quietOk, nilSliceOp, deferV, panA, resA, argFr, retA.eq_1, retA.eq_2, Nat.reduceAdd, Nat.reduceSub, Nat.reduceMul, Nat.reduceLT, Nat.reduceLeDiff, Nat.reduceEqDiff, Nat.reduceBEq, Int.reduceAdd, Int.reduceSub, Int.reduceMul, Int.reduceNeg, Int.reduceLE, Int.reduceLT, Int.reduceEq, Int.reduceNe, Int.reduceToNat, ↓reduceIte, reduceCtorEq, implies_true, forall_const, eq_self, ne_eq, arrL, wtAll, Try.ntmps32, Try.results32, hh_i3, hid]) ?_)))
    simp only [eq_self, he, ev]
end Go.Proofs.Ytkcgocmjaggdiaa
end
section
set_option linter.unusedVariables false
set_option linter.unusedSimpArgs false
namespace Go.Proofs.Ytkcgocmjaggdiaa
open Go.V Wl
/-- Does a watch do, if so much is wanted? -/
def okB (p : Pu) (S n : Nat) (l : List Int) (want w : Int) : Bool := match leastB p S n (l ++ [w]) with
 | some x => decide (watV p (l ++ [w]) false (l.length + 1) ≤ p.ca) && decide (costW w x = want)
 | none => false
def firstW (p : Pu) (S n : Nat) (l : List Int) (want : Int) : Option Nat := (List.range (p.ws.length + 1)).find? fun j => okB p S n l want ((j : Int) - 1)
def fewL (p : Pu) (S : Nat) : Nat → List Int → Int → List Int
 | 0, l, _ => l
 | n + 1, l, want => match firstW p S n l want with
   | some j => fewL p S n (l ++ [(j : Int) - 1]) ((leastB p S n (l ++ [(j : Int) - 1])).getD 0)
   | none => l
theorem row_att {p : Pu} {S : Nat} {f : List Int → Option Int} {l : List Int} : ∀ j y, rowB p S f l j = some y → ∃ i, i < j ∧ watV p (l ++ [(i : Int) - 1]) false (l.length + 1) ≤ p.ca ∧ ∃ x, f (l ++ [(i : Int) - 1]) = some x ∧ costW ((i : Int) - 1) x = y := by
 intro j
 induction j with
 | zero => intro y h; cases h
 | succ j ih =>
   intro y h
   have old : rowB p S f l j = some y → ∃ i, i < j + 1 ∧ watV p (l ++ [(i : Int) - 1]) false (l.length + 1) ≤ p.ca ∧ ∃ x, f (l ++ [(i : Int) - 1]) = some x ∧ costW ((i : Int) - 1) x = y := fun h => by
    obtain ⟨i, hi, h⟩ := ih y h
    exact ⟨i, by omega, h⟩
   simp only [rowB, stepB] at h
   split at h
   ·exact old h
   ·rename_i hc
    have hw : watV p (l ++ [(j : Int) - 1]) false (l.length + 1) ≤ p.ca := Classical.byContradiction fun q => hc (.inr q)
    split at h
    ·exact old h
    ·rename_i x hx
     have new : costW ((j : Int) - 1) x = y → ∃ i, i < j + 1 ∧ watV p (l ++ [(i : Int) - 1]) false (l.length + 1) ≤ p.ca ∧ ∃ x, f (l ++ [(i : Int) - 1]) = some x ∧ costW ((i : Int) - 1) x = y := fun e => ⟨j, Nat.lt_succ_self j, hw, x, hx, e⟩
     split at h
     ·simp only [Option.some.injEq] at h; exact new h
     ·split at h
      ·simp only [Option.some.injEq] at h; exact new h
      ·exact old h
theorem first_some {p : Pu} {S n : Nat} {l : List Int} {want : Int} (h : leastB p S (n + 1) l = some want) : ∃ j, firstW p S n l want = some j ∧ j < p.ws.length + 1 ∧ okB p S n l want ((j : Int) - 1) = true ∧ ∀ i, i < j → okB p S n l want ((i : Int) - 1) = false := by
 obtain ⟨i, hi, h1, x, h2, h3⟩ := row_att _ _ h
 have hok : okB p S n l want ((i : Int) - 1) = true := by
  unfold okB
  rw [h2]
  simp only [Bool.and_eq_true, decide_eq_true_eq]
  exact ⟨h1, h3⟩
 cases hf : firstW p S n l want with
 | none =>
   unfold firstW at hf
   rw [List.find?_eq_none] at hf
   exact absurd hok (hf i (List.mem_range.2 hi))
 | some j =>
   have hf' := hf
   unfold firstW at hf'
   rw [List.find?_range_eq_some] at hf'
   obtain ⟨g1, g2, g3⟩ := hf'
   exact ⟨j, rfl, List.mem_range.1 g2, g1, fun i hi => by simpa using g3 i hi⟩
theorem ok_some {p : Pu} {S n : Nat} {l : List Int} {want w : Int} (h : okB p S n l want w = true) : ∃ x, leastB p S n (l ++ [w]) = some x ∧ costW w x = want := by
 unfold okB at h
 split at h
 ·rename_i x hx
  rw [Bool.and_eq_true, decide_eq_true_eq, decide_eq_true_eq] at h
  exact ⟨x, hx, h.2⟩
 ·cases h
theorem few_at {p : Pu} {S n : Nat} {l : List Int} {want : Int} {j : Nat} (hj : j < p.ws.length + 1) (hok : okB p S n l want ((j : Int) - 1) = true) (hb : ∀ i, i < j → okB p S n l want ((i : Int) - 1) = false) {x : Int} (hx : leastB p S n (l ++ [(j : Int) - 1]) = some x) : fewL p S (n + 1) l want = fewL p S n (l ++ [(j : Int) - 1]) x := by
 have hf : firstW p S n l want = some j := by
  unfold firstW
  rw [List.find?_range_eq_some]
  exact ⟨hok, List.mem_range.2 hj, fun i hi => by simpa using hb i hi⟩
 rw [fewL, hf]
 simp only [hx, Option.getD_some]
/-- What is told: the number, the plan, and why not. -/
def fewE (p : Pu) : Int := if errE p true = 0 then if (leastB p (everyN p) p.fl.length []).isSome = true then 0 else 4 else errE p true
def fewN (p : Pu) : Int := if fewE p = 0 then (leastB p (everyN p) p.fl.length []).getD 0 else 0
def fewP (p : Pu) : List Int := if fewE p = 0 then fewL p (everyN p) p.fl.length [] (fewN p) else []
end Go.Proofs.Ytkcgocmjaggdiaa
end
section
set_option linter.unusedVariables false
set_option linter.unusedSimpArgs false
set_option maxHeartbeats 4000000
set_option maxRecDepth 100000
namespace Go.Proofs.Ytkcgocmjaggdiaa
open Go.V Wl
theorem cheH_at {p : Pu} {id u S : Nat} {H : Hp} {im i9 i10 : Nat} (hf : H im = none ∧ H i9 = none ∧ H i10 = none) {q : Nat} {o : Go.V.Obj} (hp : H q = some o) : cheH p id u S H im i9 i10 q = some o := by
 have n1 := (ne_some hf.2.2 hp).2
 have n2 := (ne_some hf.2.1 hp).2
 have n3 := (ne_some hf.1 hp).2
 rw [cheH, Hp.set_ne _ _ n1, Hp.set_ne _ _ n2, Hp.set_ne _ _ n3]; exact hp
theorem intF_put (l : List Int) (w : Int) (hl : l.length < 8) (q : Nat) (hq : q < 8) : updF 8 l.length (intF l) (i64 w :: List.drop 1 (intF l l.length)) q = intF (l ++ [w]) q := by
 rw [updF_at hl hq]
 by_cases e : q = l.length
 ·rw [if_pos e, e]
  simp [intF, List.getD_eq_getElem?_getD]
 ·rw [if_neg e]
  simp only [intF]
  by_cases e' : q < l.length
  ·rw [List.getD_eq_getElem?_getD, List.getD_eq_getElem?_getD, List.getElem?_append_left e']
  ·rw [List.getD_eq_getElem?_getD, List.getD_eq_getElem?_getD, List.getElem?_eq_none (by omega), List.getElem?_eq_none (by simp; omega)]
/-- What is told of the fewest hours, the plan in a row of its own. -/
def fewR (p : Pu) (H : Hp) : Res → Hp → Prop := fun r H' => ∃ id, H id = none ∧ r = .ret (.tuple [i64 (fewN p), .sl id 1 (fewP p).length, i64 (fewE p)]) ∧ H' = H.set id (.row 1 (fewP p).length (intF (fewP p)))
theorem fewM_tri (p : Pu) (H : Hp) (kn : Near p) : Tri Try.prog (fnA 31) [p.av] H (fewR p H) := by
 refine Tri.drop ?_
 refine tri_am (m := mset [3, 99]) ans44 Try.func31 (by kernel_rfl) rfl (by simp only [List.length_append, List.length_cons, List.length_nil, Try.ntmps31]; decide) ?_
 simp only [vsAll, loadA, loadRow, partA, partOk, boxA, boxZ, okAll, stAll, opsA, opA, allocA, dstOk, nilA, nilSliceOp, argFr, Nat.reduceAdd, Nat.reduceLT, Nat.reduceEqDiff, Nat.reduceBEq, Int.reduceNeg, ↓reduceIte, eq_self, wtAll, Try.ntmps31]
 intro i3 hh_i3; (try simp only [Hp.set_none, ite_none] at hh_i3); intro i4 hh_i4; (try simp only [ite_none] at hh_i4)
 refine open_call (open_tri p _ true _ kn trivial rfl (fun k H' => palways_tri H')) (fun he => ?_) (fun k hv hA id hid => ?_)
 ·have e : fewE p = errE p true := if_neg he
  have e2 : fewN p = 0 := if_neg (by rw [e]; exact he)
  have e3 : fewP p = [] := if_neg (by rw [e]; exact he)
  simp only [vsAll, loadA, loadRow, partA, partOk, resA, retA.eq_2, Nat.reduceEqDiff, Int.reduceNeg, ↓reduceIte, eq_self, wtAll, Try.results31]
  refine ⟨errE p true, i4, _, rfl, rfl, by simp only [↓reduceIte, eq_self]; try rfl, ?_⟩
  simp only [vsAll, Nat.reduceLT, ↓reduceIte, eq_self]
  refine ⟨_, ?_, i3, hh_i3, by simp only [vsAll, eq_self, e3, e, e2]; try rfl, rfl⟩
  rw [e3]
  refine HSub_put (o' := .row 1 0 fun _ => []) (by simp only [vsAll, ↓reduceIte, eq_self, hh_i4]) (row0_le _ _ _) ?_
  (repeat (first | exact HSub_rfl | refine HSub_put_eq (by simp only [vsAll, binA, binLitA, intA, aggA, aggV, boolA, nilA2, isConst, unA, loadA, loadRow, partA, partOk, fieldAddrA, indexAddrA, indexA, fieldA, extractA, lenA, nilCheckA, boxA, boxZ, cellA, cellsA, fillA, okParts, buildSliceA, buildMutA, makeSliceA, partIdx, elemsA, lensA, ifaceA, convA, mmA, pickA, okAll, stAll, opsA, partsA, partsOk, opA, allocA, boxMutA, newCells, okCells, storeObj, appendA, guardV, taA, nM, mapUpA, lookA, sliceA, sliceS, boundsA, opO, okO, copyA, dstOk, nilA, quietOk, nilSliceOp, deferV, panA, resA, argFr, retA.eq_1, retA.eq_2, Nat.reduceAdd, Nat.reduceSub, Nat.reduceMul, Nat.reduceLT, Nat.reduceLeDiff, Nat.reduceEqDiff, Nat.reduceBEq, Int.reduceAdd, Int.reduceSub, Int.reduceMul, Int.reduceNeg, Int.reduceLE, Int.reduceLT, Int.reduceEq, Int.reduceNe, Int.reduceToNat, ↓reduceIte, reduceCtorEq, implies_true, forall_const, eq_self, ne_eq, arrL, wtAll, Try.ntmps31, Try.results31, hh_i3, hh_i4]) ?_ | refine HSub_drop2 (by simp only [eq_self, hh_i3, hh_i4]) ?_ | refine HSub_keep_eq (by simp only [vsAll, binA, binLitA, intA, aggA, aggV, boolA, nilA2, isConst, unA, loadA, loadRow, partA, partOk, fieldAddrA, indexAddrA, indexA, fieldA, extractA, lenA, nilCheckA, boxA, boxZ, cellA, cellsA, fillA, okParts, buildSliceA, buildMutA, makeSliceA, partIdx, elemsA, lensA, ifaceA, convA, mmA, pickA, okAll, stAll, opsA, partsA, partsOk, opA, allocA, boxMutA, newCells, okCells, storeObj, appendA, guardV, taA, nM, mapUpA, lookA, sliceA, sliceS, boundsA, opO, okO, copyA, dstOk, nilA, quietOk, nilSliceOp, deferV, panA, resA, argFr, retA.eq_1, retA.eq_2, Nat.reduceAdd, Nat.reduceSub, Nat.reduceMul, Nat.reduceLT, Nat.reduceLeDiff, Nat.reduceEqDiff, Nat.reduceBEq, Int.reduceAdd, Int.reduceSub, Int.reduceMul, Int.reduceNeg, Int.reduceLE, Int.reduceLT, Int.reduceEq, Int.reduceNe, Int.reduceToNat, ↓reduceIte, reduceCtorEq, implies_true, forall_const, eq_self, ne_eq, arrL, wtAll, Try.ntmps31, Try.results31, hh_i3, hh_i4]) ?_))
 ·have eN : errE p true = 0 := errE_ok k (by ((try clear hh_i3); (try clear hh_i4); omega))
  have nF := k.nF
  have nW := k.nW
  have hE := every_lt k
  have hid' := hid
  simp only [Hp.set_none] at hid
  skip
  simp only [vsAll, okAll, stAll, opsA, opA, dstOk, nilSliceOp, Nat.reduceLT, Nat.reduceBEq, Int.reduceNeg, ↓reduceIte, eq_self]
  refine callK_pure (hours_tri _) ?_
  simp only [vsAll, cellA, opA, allocA, newCells, okCells, storeObj, dstOk, Nat.reduceAdd, Nat.reduceLT, Nat.reduceEqDiff, Int.reduceNeg, ↓reduceIte, eq_self, wtAll]
  intro i6 hh_i6; (try simp only [ite_none] at hh_i6)
  rw [Hp.set_set]
  refine vs_draw2 [0, 0, 0, 0, 0, 0, 0, 0, 0, 0, 1, 2] [([0, 1, 2, 3, 4, 5, 6, 7, 8, 9], [], 10)] [11] (by decide +kernel) ?_
  simp only [vsAll, loadA, loadRow, partA, partOk, fieldAddrA, lenA, nilCheckA, opA, dstOk, Nat.reduceLT, Nat.reduceEqDiff, Int.reduceNeg, ↓reduceIte, eq_self, wtAll, hh_i6]
  refine qcall _ ⟨trivial, by simp only [vsAll, okAll, opsA, opA, ↓reduceIte, eq_self], every_tri p false 0 id _ k (by show Hp.set _ _ _ id = _; simp only [vsAll, ↓reduceIte, eq_self, hh_i6])⟩ ?_
  simp only [vsAll, loadA, loadRow, partA, partOk, okAll, stAll, opsA, opA, dstOk, Nat.reduceLT, Nat.reduceEqDiff, Int.reduceNeg, ↓reduceIte, eq_self, wtAll]
  refine ⟨_, che_tri p id p.fl.length (everyN p) _, fun r H' hr => ?_⟩
  obtain ⟨i9, i10, im, rfl, hfr, hd, rfl⟩ := hr
  have hpm : PmAt p false 0 id ((((H.set i3 (.row 1 0 fun _ => [])).set i4 (.box 1 1 fun _ => [i64 0])).set id (.box 9 1 fun _ => pmC p false 0)).set i6 (.box 2 1 fun _ => [.func (.func 91) [] [], .func (.func 92) [] []])) := by
   show Hp.set _ _ _ id = _
   simp only [vsAll, ↓reduceIte, eq_self, hh_i6]
  have hB4 : ((((H.set i3 (.row 1 0 fun _ => [])).set i4 (.box 1 1 fun _ => [i64 0])).set id (.box 9 1 fun _ => pmC p false 0)).set i6 (.box 2 1 fun _ => [.func (.func 91) [] [], .func (.func 92) [] []])) i4 = some (.box 1 1 fun _ => [i64 0]) := by simp only [vsAll, ↓reduceIte, eq_self, hid, hh_i6]
  have hB6 : ((((H.set i3 (.row 1 0 fun _ => [])).set i4 (.box 1 1 fun _ => [i64 0])).set id (.box 9 1 fun _ => pmC p false 0)).set i6 (.box 2 1 fun _ => [.func (.func 91) [] [], .func (.func 92) [] []])) i6 = some (.box 2 1 fun _ => [.func (.func 91) [] [], .func (.func 92) [] []]) := Hp.set_same _ _ _
  have hB3 : ((((H.set i3 (.row 1 0 fun _ => [])).set i4 (.box 1 1 fun _ => [i64 0])).set id (.box 9 1 fun _ => pmC p false 0)).set i6 (.box 2 1 fun _ => [.func (.func 91) [] [], .func (.func 92) [] []])) i3 = some (.row 1 0 fun _ => []) := by simp only [vsAll, ↓reduceIte, eq_self, hh_i4, hid, hh_i6]
  have hBH : Go.V.HSub ((((H.set i3 (.row 1 0 fun _ => [])).set i4 (.box 1 1 fun _ => [i64 0])).set id (.box 9 1 fun _ => pmC p false 0)).set i6 (.box 2 1 fun _ => [.func (.func 91) [] [], .func (.func 92) [] []])) H := by (repeat (first | exact HSub_rfl | refine HSub_put_eq (by simp only [vsAll, binA, binLitA, intA, aggA, aggV, boolA, nilA2, isConst, unA, loadA, loadRow, partA, partOk, fieldAddrA, indexAddrA, indexA, fieldA, extractA, lenA, nilCheckA, boxA, boxZ, cellA, cellsA, fillA, okParts, buildSliceA, buildMutA, makeSliceA, partIdx, elemsA, lensA, ifaceA, convA, mmA, pickA, okAll, stAll, opsA, partsA, partsOk, opA, allocA, boxMutA, newCells, okCells, storeObj, appendA, guardV, taA, nM, mapUpA, lookA, sliceA, sliceS, boundsA, opO, okO, copyA, dstOk, nilA, quietOk, nilSliceOp, deferV, panA, resA, argFr, retA.eq_1, retA.eq_2, Nat.reduceAdd, Nat.reduceSub, Nat.reduceMul, Nat.reduceLT, Nat.reduceLeDiff, Nat.reduceEqDiff, Nat.reduceBEq, Int.reduceAdd, Int.reduceSub, Int.reduceMul, Int.reduceNeg, Int.reduceLE, Int.reduceLT, Int.reduceEq, Int.reduceNe, Int.reduceToNat, ↓reduceIte, reduceCtorEq, implies_true, forall_const, eq_self, ne_eq, arrL, wtAll, Try.ntmps31, Try.results31, hh_i3, hh_i4, hid, hh_i6]) ?_ | refine HSub_drop2 (by simp only [eq_self, hh_i3, hh_i4, hid, hh_i6]) ?_ | refine HSub_keep_eq (by simp only [vsAll, binA, binLitA, intA, aggA, aggV, boolA, nilA2, isConst, unA, loadA, loadRow, partA, partOk, fieldAddrA, indexAddrA, indexA, fieldA, extractA, lenA, nilCheckA, boxA, boxZ, cellA, cellsA, fillA, okParts, buildSliceA, buildMutA, makeSliceA, partIdx, elemsA, lensA, ifaceA, convA, mmA, pickA, okAll, stAll, opsA, partsA, partsOk, opA, allocA, boxMutA, newCells, okCells, storeObj, appendA, guardV, taA, nM, mapUpA, lookA, sliceA, sliceS, boundsA, opO, okO, copyA, dstOk, nilA, quietOk, nilSliceOp, deferV, panA, resA, argFr, retA.eq_1, retA.eq_2, Nat.reduceAdd, Nat.reduceSub, Nat.reduceMul, Nat.reduceLT, Nat.reduceLeDiff, Nat.reduceEqDiff, Nat.reduceBEq, Int.reduceAdd, Int.reduceSub, Int.reduceMul, Int.reduceNeg, Int.reduceLE, Int.reduceLT, Int.reduceEq, Int.reduceNe, Int.reduceToNat, ↓reduceIte, reduceCtorEq, implies_true, forall_const, eq_self, ne_eq, arrL, wtAll, Try.ntmps31, Try.results31, hh_i3, hh_i4, hid, hh_i6]) ?_))
  generalize ((((H.set i3 (.row 1 0 fun _ => [])).set i4 (.box 1 1 fun _ => [i64 0])).set id (.box 9 1 fun _ => pmC p false 0)).set i6 (.box 2 1 fun _ => [.func (.func 91) [] [], .func (.func 92) [] []])) = B at hfr hpm hB4 hB6 hB3 hBH ⊢
  have hGp := cheH_pm (u := p.fl.length) (S := everyN p) hfr hpm
  have hG4 := cheH_at (p := p) (id := id) (u := p.fl.length) (S := everyN p) hfr hB4
  have hG6 := cheH_at (p := p) (id := id) (u := p.fl.length) (S := everyN p) hfr hB6
  have hG3 := cheH_at (p := p) (id := id) (u := p.fl.length) (S := everyN p) hfr hB3
  have hGH := HSub.trans (cheH_sub (p := p) (id := id) (u := p.fl.length) (S := everyN p) hfr) hBH
  have hG9 : cheH p id p.fl.length (everyN p) B im i9 i10 i9 = some (.box 1 1 fun _ => [.map im]) := by rw [cheH, Hp.set_ne _ _ hd.2.2.2, Hp.set_same]
  have hG10 : cheH p id p.fl.length (everyN p) B im i9 i10 i10 = some (.box 1 1 fun _ => [onF id p.fl.length (everyN p) i9 i10]) := by rw [cheH, Hp.set_same]
  have hGm : cheH p id p.fl.length (everyN p) B im i9 i10 im = some (.memo (memT p p.fl.length (everyN p))) := by rw [cheH, Hp.set_ne _ _ hd.2.1.2, Hp.set_ne _ _ hd.1.2, Hp.set_same]
  generalize cheH p id p.fl.length (everyN p) B im i9 i10 = G at hGp hG4 hG6 hG3 hGH hG9 hG10 hGm ⊢
  have hnone : ∀ q, G q = none → H q = none := fun q hq => by
   cases e : H q with
   | none => rfl
   | some o =>
     obtain ⟨o', e1, _⟩ := hGH q o e
     rw [hq] at e1; cases e1
  have hon := fun n l X h1 h2 h3 h4 h5 h6 => on_tri (p := p) (id := id) (i9 := i9) (i10 := i10) (im := im) k hA (Nat.le_refl p.fl.length) hE n l X h1 h2 h3 h4 h5 h6
  have hok : (onF id p.fl.length (everyN p) i9 i10).ok := trivial
  have hst : (onF id p.fl.length (everyN p) i9 i10).st = onF id p.fl.length (everyN p) i9 i10 := rfl
  generalize onF id p.fl.length (everyN p) i9 i10 = T at hG10 hon hok hst ⊢
  skip
  simp only [vsAll, okAll, stAll, opsA, opA, dstOk, Nat.reduceLT, Nat.reduceEqDiff, Int.reduceNeg, ↓reduceIte, eq_self, hok, hst]
  refine callK_pure (begin_tri p [] false 0 id _ hGp) ?_
  simp only [vsAll, loadA, loadRow, partA, partOk, cellA, okAll, stAll, opsA, opA, allocA, newCells, okCells, storeObj, dstOk, Nat.reduceAdd, Nat.reduceLT, Nat.reduceEqDiff, Int.reduceNeg, ↓reduceIte, eq_self, wtAll, hok, hst]
  intro i8 hh_i8; (try simp only [Hp.set_none, ite_none] at hh_i8)
  have a1 := ne_some hh_i8 hGp
  have a2 := ne_some hh_i8 hG4
  have a3 := ne_some hh_i8 hG6
  have a4 := ne_some hh_i8 hG9
  have a5 := ne_some hh_i8 hG10
  have a6 := ne_some hh_i8 hGm
  skip
  rw [Hp.set_set]
  refine callK_pure (hon p.fl.length [] _ (Nat.zero_add _) (first0 p _) (by show Hp.set _ _ _ id = _; simp only [vsAll, ↓reduceIte, eq_self, hGp, a1]) (by simp only [vsAll, ↓reduceIte, eq_self, hG9, a4]) (by simp only [vsAll, ↓reduceIte, eq_self, hG10, a5]) (by simp only [vsAll, ↓reduceIte, eq_self, hGm, a6])) ?_
  cases hL : leastB p (everyN p) p.fl.length [] with
  | none =>
    have e : fewE p = 4 := by rw [fewE, if_pos eN, hL]; rfl
    have e2 : fewN p = 0 := if_neg (by rw [e]; decide)
    have e3 : fewP p = [] := if_neg (by rw [e]; decide)
    simp only [vsAll, extractA, okAll, stAll, opsA, opA, dstOk, nilSliceOp, Nat.reduceAdd, Nat.reduceLT, Nat.reduceEqDiff, Nat.reduceBEq, Int.reduceNeg, ↓reduceIte, eq_self, Option.getD_none]
    refine pask_call (fun hc => by cases hc) (fun _ => ?_)
    simp only [vsAll, loadA, loadRow, partA, partOk, resA, retA.eq_2, Nat.reduceEqDiff, Int.reduceNeg, ↓reduceIte, eq_self, wtAll, Try.results31, hG4, a2]
    refine ⟨4, i4, _, rfl, rfl, by simp only [↓reduceIte, hG4, a2]; try rfl, ?_⟩
    simp only [vsAll, Nat.reduceLT, ↓reduceIte, eq_self]
    have c3 := ne_some hh_i8 hG3
    have c4 : ¬ i3 = i4 := fun e => by rw [e] at hG3; have := hG3.symm.trans hG4; cases this
    refine ⟨H.set i3 (.row 1 0 (intF [])), ?_, i3, hh_i3, by rw [e, e2, e3]; rfl, by rw [e3]; rfl⟩
    refine HSub_put (o' := .row 1 0 fun _ => []) ?_ (row0_le _ _ _) (HSub_drop2 hh_i4.2 (HSub_drop2 (hnone _ hh_i8) hGH))
    rw [Hp.set_ne _ _ c4, Hp.set_ne _ _ c3.2]
    exact hG3
  | some want =>
    have e : fewE p = 0 := by rw [fewE, if_pos eN, hL]; rfl
    have e2 : fewN p = want := by rw [fewN, if_pos e, hL]; rfl
    have e3 : fewP p = fewL p (everyN p) p.fl.length [] want := by rw [fewP, if_pos e, e2]
    simp only [vsAll, extractA, okAll, stAll, opsA, opA, dstOk, nilSliceOp, Nat.reduceAdd, Nat.reduceLT, Nat.reduceEqDiff, Nat.reduceBEq, Int.reduceNeg, ↓reduceIte, eq_self, Option.getD_some]
    refine pask_call (fun _ => ?_) (fun hc => by cases hc)
    simp only [vsAll, opA, allocA, dstOk, nilSliceOp, Nat.reduceLT, Nat.reduceEqDiff, Nat.reduceBEq, Int.reduceNeg, ↓reduceIte, eq_self, wtAll]
    intro i11 hh_i11; (try simp only [ite_none] at hh_i11)
    have b1 := ne_some hh_i11.2 hGp
    have b2 := ne_some hh_i11.2 hG4
    have b3 := ne_some hh_i11.2 hG6
    have b4 := ne_some hh_i11.2 hG9
    have b5 := ne_some hh_i11.2 hG10
    have b6 := ne_some hh_i11.2 hGm
    skip
    refine vs_loop (σ := List Int × Int) (fun y => FirstL p p.fl.length y.1 ∧ leastB p (everyN p) (p.fl.length - y.1.length) y.1 = some y.2 ∧ fewL p (everyN p) (p.fl.length - y.1.length) y.1 y.2 = fewL p (everyN p) p.fl.length [] want)
     (fun y => [(4, .ref i4 0 1 0 0), (5, .ref id 0 9 0 0), (6, .ref i6 0 2 0 0), (7, T), (8, .ref i8 0 8 0 0), (9, i64 want), (11, .ref i11 0 1 0 0), (12, i64 y.2)])
     (fun y => (G.set i8 (.box 8 1 fun _ => dkC p y.1 false 0 y.1.length)).set i11 (.box 1 8 (intF y.1))) (fun y => p.fl.length - y.1.length) ([], want) ⟨first0 p _, hL, rfl⟩ ?_ ?_ fun y hy => ?_
    ·simp only [vsAll, Nat.reduceEqDiff, ↓reduceIte, eq_self]
    ·exact HSub_rfl
    ·obtain ⟨l, wt⟩ := y
     obtain ⟨hl1, hl2, hl3⟩ := hy
     simp only [] at hl1 hl2 hl3
     have hll := hl1.len
     simp only [vsAll, Int.reduceNeg]
     refine vs_draw2 [0, 0, 0, 0, 0, 0, 0, 0, 0] [] [0, 1, 2, 3, 4, 5, 6, 7, 8] (by decide +kernel) ?_
     simp only [vsAll, binA, binLitA, intA, loadA, loadRow, partA, partOk, fieldAddrA, lenA, nilCheckA, opA, dstOk, Nat.reduceLT, Nat.reduceEqDiff, Int.reduceNeg, ↓reduceIte, eq_self, wtAll, hGp, a1, hh_i11, b1]
     refine condD (fun hd1 => ?_) (fun hd1 => ?_)
     case refine_2 =>
      have el : p.fl.length - l.length = 0 := by ((try clear hh_i3); (try clear hh_i4); (try clear hid); (try clear hh_i6); (try clear hGp); (try clear hG4); (try clear hG6); (try clear hG9); (try clear hG10); (try clear hGm); (try clear hh_i8); (try clear a1); (try clear a2); (try clear a3); (try clear a4); (try clear a5); (try clear a6); (try clear hh_i11); (try clear b1); (try clear b2); (try clear b3); (try clear b4); (try clear b5); (try clear b6); omega)
      rw [el] at hl3
      have hfin : fewP p = l := by rw [e3, ← hl3]; rfl
      have el2 : l.length = p.fl.length := by ((try clear hh_i3); (try clear hh_i4); (try clear hid); (try clear hh_i6); (try clear hGp); (try clear hG4); (try clear hG6); (try clear hG9); (try clear hG10); (try clear hGm); (try clear hh_i8); (try clear a1); (try clear a2); (try clear a3); (try clear a4); (try clear a5); (try clear a6); (try clear hh_i11); (try clear b1); (try clear b2); (try clear b3); (try clear b4); (try clear b5); (try clear b6); omega)
      simp only [vsAll, loadA, loadRow, partA, partOk, fieldAddrA, lenA, nilCheckA, cellA, cellsA, makeSliceA, opA, newCells, okCells, storeObj, sliceA, boundsA, opO, okO, copyA, dstOk, nilSliceOp, resA, retA.eq_2, Nat.reduceSub, Nat.reduceLT, Nat.reduceEqDiff, Nat.reduceBEq, Int.reduceNeg, ↓reduceIte, eq_self, wtAll, Try.results31, hGp, hG4, a1, a2, b1, b2]
      refine ⟨by ((try clear hh_i3); (try clear hh_i4); (try clear hid); (try clear hh_i6); (try clear hGp); (try clear hG4); (try clear hG6); (try clear hG9); (try clear hG10); (try clear hGm); (try clear hh_i8); (try clear a1); (try clear a2); (try clear a3); (try clear a4); (try clear a5); (try clear a6); (try clear hh_i11); (try clear b1); (try clear b2); (try clear b3); (try clear b4); (try clear b5); (try clear b6); omega), by ((try clear hh_i3); (try clear hh_i4); (try clear hid); (try clear hh_i6); (try clear hGp); (try clear hG4); (try clear hG6); (try clear hG9); (try clear hG10); (try clear hGm); (try clear hh_i8); (try clear a1); (try clear a2); (try clear a3); (try clear a4); (try clear a5); (try clear a6); (try clear hh_i11); (try clear b1); (try clear b2); (try clear b3); (try clear b4); (try clear b5); (try clear b6); omega), by ((try clear hh_i3); (try clear hh_i4); (try clear hid); (try clear hh_i6); (try clear hGp); (try clear hG4); (try clear hG6); (try clear hG9); (try clear hG10); (try clear hGm); (try clear hh_i8); (try clear a1); (try clear a2); (try clear a3); (try clear a4); (try clear a5); (try clear a6); (try clear hh_i11); (try clear b1); (try clear b2); (try clear b3); (try clear b4); (try clear b5); (try clear b6); omega), ?_⟩
      intro io hh_io; (try simp only [ite_none] at hh_io)
      have u1 := ne_some hh_io.2.2 hG4
      skip
      simp only [vsAll, Nat.reduceLT, ↓reduceIte, eq_self, hh_io, u1]
      refine ⟨fun q hq => ⟨rfl, trivial⟩, ?_⟩
      have ecp : cpF 0 (min 8 p.fl.length) (fun _ => [i64 0]) 0 (fun i => intF l i) = intF l := by
       funext q
       simp only [cpF, Nat.zero_add, Nat.sub_zero, Nat.zero_le, true_and]
       split
       ·rfl
       ·simp only [intF]
        rw [List.getD_eq_getElem?_getD, List.getElem?_eq_none (by ((try clear hh_i3); (try clear hh_i4); (try clear hid); (try clear hh_i6); (try clear hGp); (try clear hG4); (try clear hG6); (try clear hG9); (try clear hG10); (try clear hGm); (try clear hh_i8); (try clear a1); (try clear a2); (try clear a3); (try clear a4); (try clear a5); (try clear a6); (try clear hh_i11); (try clear b1); (try clear b2); (try clear b3); (try clear b4); (try clear b5); (try clear b6); (try clear hh_io); (try clear u1); omega))]
        rfl
      rw [ecp]
      refine ⟨i4, _, rfl, by simp only [↓reduceIte, eq_self]; try rfl, H.set io (.row 1 p.fl.length (intF l)), ?_, io, hnone io hh_io.2.2, by rw [e, e2, hfin, el2], by rw [hfin, el2]⟩
      exact HSub_put_eq (by simp only [vsAll, ↓reduceIte, eq_self, u1]) (HSub_drop2 hh_i4.2 (HSub_drop2 (hnone _ hh_io.2.2) (HSub_drop2 (hnone _ hh_io.2.2) (HSub_drop2 (hnone _ hh_i11.2) (HSub_drop2 (hnone _ hh_i8) hGH)))))
     have hlt : l.length < p.fl.length := by ((try clear hh_i3); (try clear hh_i4); (try clear hid); (try clear hh_i6); (try clear hGp); (try clear hG4); (try clear hG6); (try clear hG9); (try clear hG10); (try clear hGm); (try clear hh_i8); (try clear a1); (try clear a2); (try clear a3); (try clear a4); (try clear a5); (try clear a6); (try clear hh_i11); (try clear b1); (try clear b2); (try clear b3); (try clear b4); (try clear b5); (try clear b6); omega)
     obtain ⟨n, hn⟩ : ∃ n, p.fl.length - l.length = n + 1 := ⟨p.fl.length - l.length - 1, by ((try clear hh_i3); (try clear hh_i4); (try clear hid); (try clear hh_i6); (try clear hGp); (try clear hG4); (try clear hG6); (try clear hG9); (try clear hG10); (try clear hGm); (try clear hh_i8); (try clear a1); (try clear a2); (try clear a3); (try clear a4); (try clear a5); (try clear a6); (try clear hh_i11); (try clear b1); (try clear b2); (try clear b3); (try clear b4); (try clear b5); (try clear b6); omega)⟩
     rw [hn] at hl2 hl3
     obtain ⟨j0, f1, f2, f3, f4⟩ := first_some hl2
     simp only [vsAll, opA, dstOk, nilSliceOp, Nat.reduceLT, Nat.reduceBEq, Int.reduceNeg, eq_self]
     refine vs_loop (σ := Nat) (fun j => j ≤ p.ws.length + 1 ∧ ∀ i, i < j → okB p (everyN p) n l wt ((i : Int) - 1) = false)
      (fun j => [(4, .ref i4 0 1 0 0), (5, .ref id 0 9 0 0), (6, .ref i6 0 2 0 0), (7, T), (8, .ref i8 0 8 0 0), (9, i64 want), (11, .ref i11 0 1 0 0), (12, i64 wt), (13, i64 ((j : Int) - 1))])
      (fun _ => (G.set i8 (.box 8 1 fun _ => dkC p l false 0 l.length)).set i11 (.box 1 8 (intF l))) (fun j => p.ws.length + 1 - j) 0 ⟨Nat.zero_le _, fun i hi => absurd hi (Nat.not_lt_zero i)⟩ ?_ HSub_rfl fun j hj => ?_
     ·simp only [vsAll, Nat.reduceEqDiff, Int.reduceNeg, ↓reduceIte, eq_self]
      exact AV.Le.refl _
     ·obtain ⟨hj1, hj2⟩ := hj
      simp only [vsAll, binA, binLitA, intA, loadA, loadRow, partA, partOk, fieldAddrA, lenA, nilCheckA, opA, dstOk, Nat.reduceLT, Nat.reduceEqDiff, ↓reduceIte, eq_self, wtAll, hGp, a1, b1]
      refine condD (fun hd2 => ?_) (fun hd2 => ?_)
      case refine_2 =>
       have ej : j = p.ws.length + 1 := by ((try clear hh_i3); (try clear hh_i4); (try clear hid); (try clear hh_i6); (try clear hGp); (try clear hG4); (try clear hG6); (try clear hG9); (try clear hG10); (try clear hGm); (try clear hh_i8); (try clear a1); (try clear a2); (try clear a3); (try clear a4); (try clear a5); (try clear a6); (try clear hh_i11); (try clear b1); (try clear b2); (try clear b3); (try clear b4); (try clear b5); (try clear b6); omega)
       have := hj2 j0 (by ((try clear hh_i3); (try clear hh_i4); (try clear hid); (try clear hh_i6); (try clear hGp); (try clear hG4); (try clear hG6); (try clear hG9); (try clear hG10); (try clear hGm); (try clear hh_i8); (try clear a1); (try clear a2); (try clear a3); (try clear a4); (try clear a5); (try clear a6); (try clear hh_i11); (try clear b1); (try clear b2); (try clear b3); (try clear b4); (try clear b5); (try clear b6); omega))
       rw [f3] at this
       cases this
      have hw : -1 ≤ (j : Int) - 1 ∧ (j : Int) - 1 < p.ws.length := by ((try clear hh_i3); (try clear hh_i4); (try clear hid); (try clear hh_i6); (try clear hGp); (try clear hG4); (try clear hG6); (try clear hG9); (try clear hG10); (try clear hGm); (try clear hh_i8); (try clear a1); (try clear a2); (try clear a3); (try clear a4); (try clear a5); (try clear a6); (try clear hh_i11); (try clear b1); (try clear b2); (try clear b3); (try clear b4); (try clear b5); (try clear b6); omega)
      generalize hjw : (j : Int) - 1 = w at hw hd2
      have hf2 := hl1.snoc hlt hw
      rw [← deck_pre p l [w] false 0 l.length (Nat.le_refl _)]
      simp only [vsAll, loadA, loadRow, partA, partOk, okAll, stAll, opsA, opA, dstOk, Nat.reduceLT, Nat.reduceEqDiff, ↓reduceIte, eq_self, wtAll, hh_i11]
      refine callK_pure (next_tri p (l ++ [w]) false 0 l.length w id _ k hA (by show Hp.set (Hp.set _ _ _) _ _ id = _; simp only [vsAll, ↓reduceIte, eq_self, hGp, a1, b1]) (by ((try clear hh_i3); (try clear hh_i4); (try clear hid); (try clear hh_i6); (try clear hGp); (try clear hG4); (try clear hG6); (try clear hG9); (try clear hG10); (try clear hGm); (try clear hh_i8); (try clear a1); (try clear a2); (try clear a3); (try clear a4); (try clear a5); (try clear a6); (try clear hh_i11); (try clear b1); (try clear b2); (try clear b3); (try clear b4); (try clear b5); (try clear b6); omega)) hw (getD_app_len l w) (by ((try clear hh_i3); (try clear hh_i4); (try clear hid); (try clear hh_i6); (try clear hGp); (try clear hG4); (try clear hG6); (try clear hG9); (try clear hG10); (try clear hGm); (try clear hh_i8); (try clear a1); (try clear a2); (try clear a3); (try clear a4); (try clear a5); (try clear a6); (try clear hh_i11); (try clear b1); (try clear b2); (try clear b3); (try clear b4); (try clear b5); (try clear b6); omega))) ?_
      simp only [vsAll, loadA, loadRow, partA, partOk, cellA, okAll, stAll, opsA, opA, allocA, newCells, okCells, storeObj, dstOk, Nat.reduceAdd, Nat.reduceLT, Nat.reduceEqDiff, ↓reduceIte, eq_self, wtAll]
      intro i14 hh_i14; (try simp only [ite_none] at hh_i14)
      have d1 := ne_some hh_i14.2.2 hGp
      have d2 := ne_some hh_i14.2.2 hG4
      have d3 := ne_some hh_i14.2.2 hG6
      have d4 := ne_some hh_i14.2.2 hG9
      have d5 := ne_some hh_i14.2.2 hG10
      have d6 := ne_some hh_i14.2.2 hGm
      skip
      rw [Hp.set_set]
      have hih := fun X => hon n (l ++ [w]) X (by rw [List.length_append, List.length_singleton]; ((try clear hh_i3); (try clear hh_i4); (try clear hid); (try clear hh_i6); (try clear hGp); (try clear hG4); (try clear hG6); (try clear hG9); (try clear hG10); (try clear hGm); (try clear hh_i8); (try clear a1); (try clear a2); (try clear a3); (try clear a4); (try clear a5); (try clear a6); (try clear hh_i11); (try clear b1); (try clear b2); (try clear b3); (try clear b4); (try clear b5); (try clear b6); (try clear hh_i14); (try clear d1); (try clear d2); (try clear d3); (try clear d4); (try clear d5); (try clear d6); omega)) hf2
      rw [List.length_append, List.length_singleton] at hih
      simp only [vsAll, hok, hst]
      refine callK_pure (hih _ (by show Hp.set (Hp.set (Hp.set _ _ _) _ _) _ _ id = _; simp only [vsAll, ↓reduceIte, eq_self, hGp, a1, b1, d1]) (by show Hp.set (Hp.set (Hp.set _ _ _) _ _) _ _ i9 = _; simp only [vsAll, ↓reduceIte, eq_self, hG9, a4, b4, d4]) (by show Hp.set (Hp.set (Hp.set _ _ _) _ _) _ _ i10 = _; simp only [vsAll, ↓reduceIte, eq_self, hG10, a5, b5, d5]) (by show Hp.set (Hp.set (Hp.set _ _ _) _ _) _ _ im = _; simp only [vsAll, ↓reduceIte, eq_self, hGm, a6, b6, d6])) ?_
      have e13 : w + 1 = ((j + 1 : Nat) : Int) - 1 := by ((try clear hh_i3); (try clear hh_i4); (try clear hid); (try clear hh_i6); (try clear hGp); (try clear hG4); (try clear hG6); (try clear hG9); (try clear hG10); (try clear hGm); (try clear hh_i8); (try clear a1); (try clear a2); (try clear a3); (try clear a4); (try clear a5); (try clear a6); (try clear hh_i11); (try clear b1); (try clear b2); (try clear b3); (try clear b4); (try clear b5); (try clear b6); (try clear hh_i14); (try clear d1); (try clear d2); (try clear d3); (try clear d4); (try clear d5); (try clear d6); omega)
      have hnext : okB p (everyN p) n l wt w = false → ∀ i, i < j + 1 → okB p (everyN p) n l wt ((i : Int) - 1) = false := fun h i hi => by
       by_cases e : i = j
       ·rw [e, hjw]; exact h
       ·exact hj2 i (by ((try clear hh_i3); (try clear hh_i4); (try clear hid); (try clear hh_i6); (try clear hGp); (try clear hG4); (try clear hG6); (try clear hG9); (try clear hG10); (try clear hGm); (try clear hh_i8); (try clear a1); (try clear a2); (try clear a3); (try clear a4); (try clear a5); (try clear a6); (try clear hh_i11); (try clear b1); (try clear b2); (try clear b3); (try clear b4); (try clear b5); (try clear b6); (try clear hh_i14); (try clear d1); (try clear d2); (try clear d3); (try clear d4); (try clear d5); (try clear d6); omega))
      have eok : okB p (everyN p) n l wt w = match leastB p (everyN p) n (l ++ [w]) with | some x => decide (watV p (l ++ [w]) false (l.length + 1) ≤ p.ca) && decide (costW w x = wt) | none => false := rfl
      cases hq : leastB p (everyN p) n (l ++ [w]) with
      | none =>
        rw [hq] at eok
        simp only [] at eok
        simp only [vsAll, loadA, loadRow, partA, partOk, extractA, opA, guardV, dstOk, nilSliceOp, Nat.reduceAdd, Nat.reduceLT, Nat.reduceEqDiff, Nat.reduceBEq, ↓reduceIte, implies_true, eq_self, wtAll]
        refine gcall (boo true) (fun g => by cases g) ?_
        simp only [vsAll, loadA, loadRow, partA, partOk, fieldAddrA, pickA, opA, guardV, dstOk, Nat.reduceLT, Nat.reduceEqDiff, ↓reduceIte, implies_true, eq_self, wtAll, hG6, a3, b3, d3]
        refine gcall (i64 0) (fun g => by cases g) ?_
        simp only [vsAll, binA, binLitA, intA, pickA, opA, guardV, dstOk, nilSliceOp, Nat.reduceLT, Nat.reduceEqDiff, Nat.reduceBEq, ↓reduceIte, implies_true, eq_self]
        refine ⟨by simp only [InR_i64]; ((try clear hh_i3); (try clear hh_i4); (try clear hid); (try clear hh_i6); (try clear hGp); (try clear hG4); (try clear hG6); (try clear hG9); (try clear hG10); (try clear hGm); (try clear hh_i8); (try clear a1); (try clear a2); (try clear a3); (try clear a4); (try clear a5); (try clear a6); (try clear hh_i11); (try clear b1); (try clear b2); (try clear b3); (try clear b4); (try clear b5); (try clear b6); (try clear hh_i14); (try clear d1); (try clear d2); (try clear d3); (try clear d4); (try clear d5); (try clear d6); omega), loop_next (j + 1) ⟨by ((try clear hh_i3); (try clear hh_i4); (try clear hid); (try clear hh_i6); (try clear hGp); (try clear hG4); (try clear hG6); (try clear hG9); (try clear hG10); (try clear hGm); (try clear hh_i8); (try clear a1); (try clear a2); (try clear a3); (try clear a4); (try clear a5); (try clear a6); (try clear hh_i11); (try clear b1); (try clear b2); (try clear b3); (try clear b4); (try clear b5); (try clear b6); (try clear hh_i14); (try clear d1); (try clear d2); (try clear d3); (try clear d4); (try clear d5); (try clear d6); omega), hnext eok⟩ (by ((try clear hh_i3); (try clear hh_i4); (try clear hid); (try clear hh_i6); (try clear hGp); (try clear hG4); (try clear hG6); (try clear hG9); (try clear hG10); (try clear hGm); (try clear hh_i8); (try clear a1); (try clear a2); (try clear a3); (try clear a4); (try clear a5); (try clear a6); (try clear hh_i11); (try clear b1); (try clear b2); (try clear b3); (try clear b4); (try clear b5); (try clear b6); (try clear hh_i14); (try clear d1); (try clear d2); (try clear d3); (try clear d4); (try clear d5); (try clear d6); omega)) ?_ (by (repeat (first | exact HSub_rfl | refine HSub_put_eq (by simp only [vsAll, ↓reduceIte, eq_self, hh_i11, hh_i14]) ?_ | refine HSub_drop2 (by simp only [eq_self, hh_i8, hh_i11, hh_i14]) ?_ | refine HSub_keep_eq (by simp only [vsAll, binA, binLitA, intA, aggA, aggV, boolA, nilA2, isConst, unA, loadA, loadRow, partA, partOk, fieldAddrA, indexAddrA, indexA, fieldA, extractA, lenA, nilCheckA, boxA, boxZ, cellA, cellsA, fillA, okParts, buildSliceA, buildMutA, makeSliceA, partIdx, elemsA, lensA, ifaceA, convA, mmA, pickA, okAll, stAll, opsA, partsA, partsOk, opA, allocA, boxMutA, newCells, okCells, storeObj, appendA, guardV, taA, nM, mapUpA, lookA, sliceA, sliceS, boundsA, opO, okO, copyA, dstOk, nilA, quietOk, nilSliceOp, deferV, panA, resA, argFr, retA.eq_1, retA.eq_2, Nat.reduceAdd, Nat.reduceSub, Nat.reduceMul, Nat.reduceLT, Nat.reduceLeDiff, Nat.reduceEqDiff, Nat.reduceBEq, Int.reduceAdd, Int.reduceSub, Int.reduceMul, Int.reduceNeg, Int.reduceLE, Int.reduceLT, Int.reduceEq, Int.reduceNe, Int.reduceToNat, ↓reduceIte, reduceCtorEq, implies_true, forall_const, eq_self, ne_eq, arrL, wtAll, Try.ntmps31, Try.results31, hh_i3, hh_i4, hid, hh_i6, hGp, hG4, hG6, hG9, hG10, hGm, hh_i8, a1, a2, a3, a4, a5, a6, hh_i11, b1, b2, b3, b4, b5, b6, hh_i14, d1, d2, d3, d4, d5, d6]) ?_)))⟩
        simp only [vsAll, Nat.reduceEqDiff, ↓reduceIte, eq_self]
        rw [e13]
        exact AV.Le.refl _
      | some x =>
        rw [hq] at eok
        simp only [] at eok
        have hx := least_rng (everyN p) n _ _ hq
        simp only [vsAll, loadA, loadRow, partA, partOk, extractA, opA, guardV, dstOk, nilSliceOp, Nat.reduceAdd, Nat.reduceLT, Nat.reduceEqDiff, Nat.reduceBEq, ↓reduceIte, eq_self, wtAll, Option.getD_some]
        refine gcall _ (fun g => ⟨by simp only [vsAll, opA], by simp only [vsAll, okAll, opsA, opA, Nat.reduceEqDiff, ↓reduceIte, eq_self], floats_tri p (l ++ [w]) false 0 (l.length + 1) id _ (by show Hp.set (Hp.set (Hp.set _ _ _) _ _) _ _ id = _; simp only [vsAll, ↓reduceIte, eq_self, hGp, a1, b1, d1])⟩) ?_
        rw [moreP_zero]
        simp only [vsAll, loadA, loadRow, partA, partOk, fieldAddrA, pickA, opA, guardV, dstOk, Nat.reduceLT, Nat.reduceEqDiff, ↓reduceIte, implies_true, eq_self, wtAll, hG6, a3, b3, d3]
        refine gcall (i64 (costW w x)) (fun g => ⟨by simp only [vsAll, opA, Nat.reduceEqDiff, ↓reduceIte, eq_self, g], by simp only [vsAll, okAll, opsA, opA, Nat.reduceEqDiff, ↓reduceIte, eq_self, g], of_tri2 w x _ (by ((try clear hh_i3); (try clear hh_i4); (try clear hid); (try clear hh_i6); (try clear hGp); (try clear hG4); (try clear hG6); (try clear hG9); (try clear hG10); (try clear hGm); (try clear hh_i8); (try clear a1); (try clear a2); (try clear a3); (try clear a4); (try clear a5); (try clear a6); (try clear hh_i11); (try clear b1); (try clear b2); (try clear b3); (try clear b4); (try clear b5); (try clear b6); (try clear hh_i14); (try clear d1); (try clear d2); (try clear d3); (try clear d4); (try clear d5); (try clear d6); omega))⟩) ?_
        simp only [vsAll, binA, binLitA, intA, pickA, opA, guardV, dstOk, Nat.reduceLT, Nat.reduceEqDiff, ↓reduceIte, implies_true, eq_self]
        rw [← eok]
        refine condV (fun hc3 => ?_) (fun hc3 => ?_)
        ·obtain ⟨x', g1, g2⟩ := ok_some hc3
         have hxx : x' = x := by rw [hq] at g1; simpa using g1.symm
         subst hxx
         have hj3 : j < p.ws.length + 1 := by ((try clear hh_i3); (try clear hh_i4); (try clear hid); (try clear hh_i6); (try clear hGp); (try clear hG4); (try clear hG6); (try clear hG9); (try clear hG10); (try clear hGm); (try clear hh_i8); (try clear a1); (try clear a2); (try clear a3); (try clear a4); (try clear a5); (try clear a6); (try clear hh_i11); (try clear b1); (try clear b2); (try clear b3); (try clear b4); (try clear b5); (try clear b6); (try clear hh_i14); (try clear d1); (try clear d2); (try clear d3); (try clear d4); (try clear d5); (try clear d6); omega)
         have hc4 : okB p (everyN p) n l wt ((j : Int) - 1) = true := by rw [hjw]; exact hc3
         have hq4 : leastB p (everyN p) n (l ++ [(j : Int) - 1]) = some x' := by rw [hjw]; exact hq
         have hfe := few_at hj3 hc4 hj2 hq4
         rw [hjw] at hfe
         simp only [vsAll]
         refine vs_draw2 [0, 0, 0, 0, 0, 0, 1, 3, 5] [([0, 1, 2, 3, 4, 5], [3], 6), ([], [], 7), ([], [], 8)] [] (by decide +kernel) ?_
         simp only [vsAll, loadA, loadRow, partA, partOk, fieldAddrA, indexAddrA, cellA, cellsA, opA, newCells, okCells, storeObj, dstOk, nilSliceOp, Nat.reduceAdd, Nat.reduceLT, Nat.reduceEqDiff, Nat.reduceBEq, ↓reduceIte, eq_self, wtAll, hh_i11, hh_i14]
         have hlen2 : (l ++ [w]).length = l.length + 1 := by rw [List.length_append, List.length_singleton]
         have hn2 : p.fl.length - (l ++ [w]).length = n := by rw [hlen2]; ((try clear hh_i3); (try clear hh_i4); (try clear hid); (try clear hh_i6); (try clear hGp); (try clear hG4); (try clear hG6); (try clear hG9); (try clear hG10); (try clear hGm); (try clear hh_i8); (try clear a1); (try clear a2); (try clear a3); (try clear a4); (try clear a5); (try clear a6); (try clear hh_i11); (try clear b1); (try clear b2); (try clear b3); (try clear b4); (try clear b5); (try clear b6); (try clear hh_i14); (try clear d1); (try clear d2); (try clear d3); (try clear d4); (try clear d5); (try clear d6); omega)
         refine ⟨⟨by ((try clear hh_i3); (try clear hh_i4); (try clear hid); (try clear hh_i6); (try clear hGp); (try clear hG4); (try clear hG6); (try clear hG9); (try clear hG10); (try clear hGm); (try clear hh_i8); (try clear a1); (try clear a2); (try clear a3); (try clear a4); (try clear a5); (try clear a6); (try clear hh_i11); (try clear b1); (try clear b2); (try clear b3); (try clear b4); (try clear b5); (try clear b6); (try clear hh_i14); (try clear d1); (try clear d2); (try clear d3); (try clear d4); (try clear d5); (try clear d6); omega), by ((try clear hh_i3); (try clear hh_i4); (try clear hid); (try clear hh_i6); (try clear hGp); (try clear hG4); (try clear hG6); (try clear hG9); (try clear hG10); (try clear hGm); (try clear hh_i8); (try clear a1); (try clear a2); (try clear a3); (try clear a4); (try clear a5); (try clear a6); (try clear hh_i11); (try clear b1); (try clear b2); (try clear b3); (try clear b4); (try clear b5); (try clear b6); (try clear hh_i14); (try clear d1); (try clear d2); (try clear d3); (try clear d4); (try clear d5); (try clear d6); omega)⟩, by ((try clear hh_i3); (try clear hh_i4); (try clear hid); (try clear hh_i6); (try clear hGp); (try clear hG4); (try clear hG6); (try clear hG9); (try clear hG10); (try clear hGm); (try clear hh_i8); (try clear a1); (try clear a2); (try clear a3); (try clear a4); (try clear a5); (try clear a6); (try clear hh_i11); (try clear b1); (try clear b2); (try clear b3); (try clear b4); (try clear b5); (try clear b6); (try clear hh_i14); (try clear d1); (try clear d2); (try clear d3); (try clear d4); (try clear d5); (try clear d6); omega), loop_next (l ++ [w], x') ⟨hf2, by simp only [hn2]; exact hq, by simp only [hn2]; rw [← hfe]; exact hl3⟩ (by simp only []; ((try clear hh_i3); (try clear hh_i4); (try clear hid); (try clear hh_i6); (try clear hGp); (try clear hG4); (try clear hG6); (try clear hG9); (try clear hG10); (try clear hGm); (try clear hh_i8); (try clear a1); (try clear a2); (try clear a3); (try clear a4); (try clear a5); (try clear a6); (try clear hh_i11); (try clear b1); (try clear b2); (try clear b3); (try clear b4); (try clear b5); (try clear b6); (try clear hh_i14); (try clear d1); (try clear d2); (try clear d3); (try clear d4); (try clear d5); (try clear d6); omega)) ?_ ?_⟩
         ·simp only [vsAll, Nat.reduceEqDiff, ↓reduceIte, eq_self]
         ·simp only [hlen2]
          refine HSub_put (o' := .box 1 8 (updF 8 l.length (intF l) (i64 w :: List.drop 1 (intF l l.length)))) (by simp only [vsAll, ↓reduceIte, eq_self, hh_i11]) (box_ext (intF_put l w (by ((try clear hh_i3); (try clear hh_i4); (try clear hid); (try clear hh_i6); (try clear hGp); (try clear hG4); (try clear hG6); (try clear hG9); (try clear hG10); (try clear hGm); (try clear hh_i8); (try clear a1); (try clear a2); (try clear a3); (try clear a4); (try clear a5); (try clear a6); (try clear hh_i11); (try clear b1); (try clear b2); (try clear b3); (try clear b4); (try clear b5); (try clear b6); (try clear hh_i14); (try clear d1); (try clear d2); (try clear d3); (try clear d4); (try clear d5); (try clear d6); omega)))) ?_
          refine HSub_put_eq (by simp only [vsAll, ↓reduceIte, eq_self]) ?_
          exact HSub_drop2 hh_i8 (HSub_drop2 hh_i11.2 (HSub_drop2 hh_i14.2.2 (HSub_drop2 hh_i11.2 (HSub_drop2 hh_i8 HSub_rfl))))
        ·simp only [vsAll, binA, binLitA, intA, opA, dstOk, nilSliceOp, Nat.reduceLT, Nat.reduceEqDiff, Nat.reduceBEq, ↓reduceIte, eq_self]
         refine ⟨by simp only [InR_i64]; ((try clear hh_i3); (try clear hh_i4); (try clear hid); (try clear hh_i6); (try clear hGp); (try clear hG4); (try clear hG6); (try clear hG9); (try clear hG10); (try clear hGm); (try clear hh_i8); (try clear a1); (try clear a2); (try clear a3); (try clear a4); (try clear a5); (try clear a6); (try clear hh_i11); (try clear b1); (try clear b2); (try clear b3); (try clear b4); (try clear b5); (try clear b6); (try clear hh_i14); (try clear d1); (try clear d2); (try clear d3); (try clear d4); (try clear d5); (try clear d6); omega), loop_next (j + 1) ⟨by ((try clear hh_i3); (try clear hh_i4); (try clear hid); (try clear hh_i6); (try clear hGp); (try clear hG4); (try clear hG6); (try clear hG9); (try clear hG10); (try clear hGm); (try clear hh_i8); (try clear a1); (try clear a2); (try clear a3); (try clear a4); (try clear a5); (try clear a6); (try clear hh_i11); (try clear b1); (try clear b2); (try clear b3); (try clear b4); (try clear b5); (try clear b6); (try clear hh_i14); (try clear d1); (try clear d2); (try clear d3); (try clear d4); (try clear d5); (try clear d6); omega), hnext hc3⟩ (by ((try clear hh_i3); (try clear hh_i4); (try clear hid); (try clear hh_i6); (try clear hGp); (try clear hG4); (try clear hG6); (try clear hG9); (try clear hG10); (try clear hGm); (try clear hh_i8); (try clear a1); (try clear a2); (try clear a3); (try clear a4); (try clear a5); (try clear a6); (try clear hh_i11); (try clear b1); (try clear b2); (try clear b3); (try clear b4); (try clear b5); (try clear b6); (try clear hh_i14); (try clear d1); (try clear d2); (try clear d3); (try clear d4); (try clear d5); (try clear d6); omega)) ?_ (by (repeat (first | exact HSub_rfl | refine HSub_put_eq (by simp only [vsAll, ↓reduceIte, eq_self, hh_i11, hh_i14]) ?_ | refine HSub_drop2 (by simp only [eq_self, hh_i8, hh_i11, hh_i14]) ?_ | refine HSub_keep_eq (by simp only [vsAll, binA, binLitA, intA, aggA, aggV, boolA, nilA2, isConst, unA, loadA, loadRow, partA, partOk, fieldAddrA, indexAddrA, indexA, fieldA, extractA, lenA, nilCheckA, boxA, boxZ, cellA, cellsA, fillA, okParts, buildSliceA, buildMutA, makeSliceA, partIdx, elemsA, lensA, ifaceA, convA, mmA, pickA, okAll, stAll, opsA, partsA, partsOk, opA, allocA, boxMutA, newCells, okCells, storeObj, appendA, guardV, taA, nM, mapUpA, lookA, sliceA, sliceS, boundsA, opO, okO, copyA, dstOk, nilA, quietOk, nilSliceOp, deferV, panA, resA, argFr, retA.eq_1, retA.eq_2, Nat.reduceAdd, Nat.reduceSub, Nat.reduceMul, Nat.reduceLT, Nat.reduceLeDiff, Nat.reduceEqDiff, Nat.reduceBEq, Int.reduceAdd, Int.reduceSub, Int.reduceMul, Int.reduceNeg, Int.reduceLE, Int.reduceLT, Int.reduceEq, Int.reduceNe, Int.reduceToNat, ↓reduceIte, reduceCtorEq, implies_true, forall_const, eq_self, ne_eq, arrL, wtAll, Try.ntmps31, Try.results31, hh_i3, hh_i4, hid, hh_i6, hGp, hG4, hG6, hG9, hG10, hGm, hh_i8, a1, a2, a3, a4, a5, a6, hh_i11, b1, b2, b3, b4, b5, b6, hh_i14, d1, d2, d3, d4, d5, d6]) ?_)))⟩
         simp only [vsAll, Nat.reduceEqDiff, ↓reduceIte, eq_self]
         rw [e13]
         exact AV.Le.refl _
theorem few_tri (p : Pu) (H : Hp) (kn : Near p) : PTri Try.prog (fnA 31) [p.av] H (.tuple [i64 (fewN p), intsAV (fewP p), i64 (fewE p)]) := by
 refine Tri.thaw (fewM_tri p H kn) ?_
 rintro r H' ⟨id, hid, rfl, rfl⟩
 right
 exact ⟨_, id, 1, _, _, 1, rfl, Hp.set_same _ _ _, by simp, rfl, rfl, set_del hid⟩
end Go.Proofs.Ytkcgocmjaggdiaa
end
section
set_option linter.unusedVariables false
set_option linter.unusedSimpArgs false
set_option maxHeartbeats 4000000
set_option maxRecDepth 100000
namespace Go.Proofs.Ytkcgocmjaggdiaa
open Go.V Wl
/-- How many watches are in a set. -/
def bitN (S : Nat) : Nat := S % 2 + S / 2 % 2 + S / 4 % 2
theorem ones64_tri (S : Nat) (H : Hp) (hS : S < 8) : PTri Try.prog (fnA 96) [u64 (S : Int)] H (i64 (bitN S : Nat)) := by
 refine tri_v0 (fun _ => false) Try.func96 (by kernel_rfl) rfl (by simp only [List.length_append, List.length_cons, List.length_nil, Try.ntmps96]; decide) ?_
 simp only [vsAll, binA, binLitA, intA, convA, opA, dstOk, nilSliceOp, resA, argFr, retA.eq_1, Nat.reduceLT, Nat.reduceEqDiff, Int.reduceLE, Int.reduceLT, Int.reduceToNat, ↓reduceIte, reduceCtorEq, eq_self, wtAll, Try.ntmps96, Try.results96]
 have h8 : S = 0 ∨ S = 1 ∨ S = 2 ∨ S = 3 ∨ S = 4 ∨ S = 5 ∨ S = 6 ∨ S = 7 := by omega
 rcases h8 with rfl | rfl | rfl | rfl | rfl | rfl | rfl | rfl <;>
 ·simp only [InR_u64, InR_i64]
  (repeat' apply And.intro) <;> first | decide +kernel | exact congrArg (fun q : Int => Res.ret (i64 q)) (by decide +kernel)
theorem ones_tri (S : Nat) (H : Hp) (hS : S < 8) : PTri Try.prog (fnA 74) [u64 (S : Int)] H (i64 (bitN S : Nat)) := by
 refine tri_v0 (fun _ => false) Try.func74 (by kernel_rfl) rfl (by simp only [List.length_append, List.length_cons, List.length_nil, Try.ntmps74]; decide) ?_
 simp only [vsAll, okAll, stAll, opsA, opA, dstOk, nilSliceOp, argFr, Nat.reduceLT, ↓reduceIte, reduceCtorEq, eq_self, Try.ntmps74]
 refine callK_pure (ones64_tri S _ hS) ?_
 simp only [vsAll, opA, dstOk, nilSliceOp, resA, retA.eq_1, Nat.reduceLT, ↓reduceIte, eq_self, Try.results74]
end Go.Proofs.Ytkcgocmjaggdiaa
end
section
set_option linter.unusedVariables false
set_option linter.unusedSimpArgs false
set_option maxHeartbeats 4000000
set_option maxRecDepth 100000
namespace Go.Proofs.Ytkcgocmjaggdiaa
open Go.V Wl
/-- Is a set of so many watches enough? -/
def setB (p : Pu) (m S : Nat) : Bool := decide (bitN S = m) && canB p p.fl.length S
def setsO (p : Pu) (m : Nat) : Option Nat := (List.range (2 ^ p.ws.length)).find? (setB p m)
def wchO (p : Pu) : Option Nat := (List.range (p.ws.length + 1)).findSome? (setsO p)
def wchE (p : Pu) : Int := if errE p true = 0 then if (wchO p).isSome = true then 0 else 4 else errE p true
def wchV (p : Pu) : Int := if wchE p = 0 then ((wchO p).getD 0 : Nat) else 0
theorem findSome_at {α : Type} {f : Nat → Option α} {n m : Nat} {a : α} (hm : m < n) (h : f m = some a) (hb : ∀ i, i < m → f i = none) : (List.range n).findSome? f = some a := by
 induction n with
 | zero => omega
 | succ n ih =>
   rw [List.range_succ, List.findSome?_append]
   by_cases e : m = n
   ·subst e
    have : (List.range m).findSome? f = none := List.findSome?_eq_none_iff.2 fun x hx => hb x (List.mem_range.1 hx)
    rw [this]
    simp [h]
   ·rw [ih (by omega)]
    rfl
theorem wch_tri (p : Pu) (H : Hp) (kn : Near p) : PTri Try.prog (fnA 37) [p.av] H (.tuple [i64 (wchV p), i64 (wchE p)]) := by
 refine Tri.drop ?_
 refine tri_am (m := fun _ => false) ans44 Try.func37 (by kernel_rfl) rfl (by simp only [List.length_append, List.length_cons, List.length_nil, Try.ntmps37]; decide) ?_
 simp only [vsAll, loadA, loadRow, partA, partOk, boxA, boxZ, okAll, stAll, opsA, opA, allocA, dstOk, nilSliceOp, argFr, Nat.reduceAdd, Nat.reduceLT, Nat.reduceEqDiff, ↓reduceIte, eq_self, wtAll, Try.ntmps37]
 intro i3 hh_i3; (try simp only [Hp.set_none, ite_none] at hh_i3)
 refine open_call (open_tri p _ true _ kn trivial rfl (fun k H' => palways_tri H')) (fun he => ?_) (fun k hv hA id hid => ?_)
 ·have e : wchE p = errE p true := if_neg he
  have e2 : wchV p = 0 := if_neg (by rw [e]; exact he)
  simp only [vsAll, loadA, loadRow, partA, partOk, resA, retA.eq_2, Nat.reduceEqDiff, ↓reduceIte, eq_self, wtAll, Try.results37]
  refine ⟨errE p true, i3, _, rfl, rfl, by simp only [↓reduceIte, eq_self]; try rfl, ?_⟩
  simp only [vsAll, Nat.reduceLT, ↓reduceIte, eq_self]
  refine dropR_pure ?_ (by (repeat (first | exact HSub_rfl | refine HSub_put_eq (by simp only [vsAll, binA, binLitA, intA, aggA, aggV, boolA, nilA2, isConst, unA, loadA, loadRow, partA, partOk, fieldAddrA, indexAddrA, indexA, fieldA, extractA, lenA, nilCheckA, boxA, boxZ, cellA, cellsA, fillA, okParts, buildSliceA, buildMutA, makeSliceA, partIdx, elemsA, lensA, ifaceA, convA, mmA, pickA, okAll, stAll, opsA, partsA, partsOk, opA, allocA, boxMutA, newCells, okCells, storeObj, appendA, guardV, taA, nM, mapUpA, lookA, sliceA, sliceS, boundsA, opO, okO, copyA, dstOk, nilA, quietOk, nilSliceOp, deferV, panA, resA, argFr, retA.eq_1, retA.eq_2, Nat.reduceAdd, Nat.reduceSub, Nat.reduceMul, Nat.reduceLT, Nat.reduceLeDiff, Nat.reduceEqDiff, Nat.reduceBEq, Int.reduceAdd, Int.reduceSub, Int.reduceMul, Int.reduceNeg, Int.reduceLE, Int.reduceLT, Int.reduceEq, Int.reduceNe, Int.reduceToNat, ↓reduceIte, reduceCtorEq, implies_true, forall_const, eq_self, ne_eq, arrL, wtAll, Try.ntmps37, Try.results37, hh_i3]) ?_ | refine HSub_drop2 (by simp only [eq_self, hh_i3]) ?_ | refine HSub_keep_eq (by simp only [vsAll, binA, binLitA, intA, aggA, aggV, boolA, nilA2, isConst, unA, loadA, loadRow, partA, partOk, fieldAddrA, indexAddrA, indexA, fieldA, extractA, lenA, nilCheckA, boxA, boxZ, cellA, cellsA, fillA, okParts, buildSliceA, buildMutA, makeSliceA, partIdx, elemsA, lensA, ifaceA, convA, mmA, pickA, okAll, stAll, opsA, partsA, partsOk, opA, allocA, boxMutA, newCells, okCells, storeObj, appendA, guardV, taA, nM, mapUpA, lookA, sliceA, sliceS, boundsA, opO, okO, copyA, dstOk, nilA, quietOk, nilSliceOp, deferV, panA, resA, argFr, retA.eq_1, retA.eq_2, Nat.reduceAdd, Nat.reduceSub, Nat.reduceMul, Nat.reduceLT, Nat.reduceLeDiff, Nat.reduceEqDiff, Nat.reduceBEq, Int.reduceAdd, Int.reduceSub, Int.reduceMul, Int.reduceNeg, Int.reduceLE, Int.reduceLT, Int.reduceEq, Int.reduceNe, Int.reduceToNat, ↓reduceIte, reduceCtorEq, implies_true, forall_const, eq_self, ne_eq, arrL, wtAll, Try.ntmps37, Try.results37, hh_i3]) ?_)))
  simp only [eq_self, e, e2]
 ·have eN : errE p true = 0 := errE_ok k (by ((try clear hh_i3); omega))
  have nF := k.nF
  have nW := k.nW
  have hE := every_lt k
  have hpw : 0 < 2 ^ p.ws.length := Nat.pow_pos (by decide)
  have hpe : everyN p + 1 = 2 ^ p.ws.length := by unfold everyN; ((try clear hh_i3); omega)
  have hid' := hid
  simp only [Hp.set_none] at hid
  skip
  have hpm : ∀ X : Hp, X id = some (.box 9 1 fun _ => pmC p false 0) → PmAt p false 0 id X := fun _ h => h
  simp only [vsAll, binA, binLitA, intA, loadA, loadRow, partA, partOk, fieldAddrA, lenA, nilCheckA, opA, dstOk, nilSliceOp, Nat.reduceLT, ↓reduceIte, eq_self, wtAll]
  refine ⟨by simp only [InR_i64]; ((try clear hh_i3); (try clear hid); omega), ?_⟩
  refine vs_loop (σ := Nat) (fun m => m ≤ p.ws.length + 1 ∧ ∀ i, i < m → setsO p i = none) (fun m => [(3, .ref i3 0 1 0 0), (4, .ref id 0 9 0 0), (15, i64 ((p.ws.length : Int) + 1)), (16, i64 m)])
   (fun _ => (H.set i3 (.box 1 1 fun _ => [i64 0])).set id (.box 9 1 fun _ => pmC p false 0)) (fun m => p.ws.length + 1 - m) 0 ⟨Nat.zero_le _, fun i hi => absurd hi (Nat.not_lt_zero i)⟩ ?_ HSub_rfl fun m hm => ?_
  ·simp only [vsAll, Nat.reduceEqDiff, ↓reduceIte, eq_self, Int.natCast_zero]
  ·obtain ⟨hm1, hm2⟩ := hm
   simp only [vsAll, binA, binLitA, intA, opA, dstOk, Nat.reduceLT, Nat.reduceEqDiff, ↓reduceIte, eq_self]
   refine condD (fun hd => ?_) (fun hd => ?_)
   case refine_2 =>
    have em : m = p.ws.length + 1 := by ((try clear hh_i3); (try clear hid); omega)
    subst em
    have hno : wchO p = none := List.findSome?_eq_none_iff.2 fun x hx => hm2 x (List.mem_range.1 hx)
    have e : wchE p = 4 := by rw [wchE, if_pos eN, hno]; rfl
    have ev : wchV p = 0 := if_neg (by rw [e]; decide)
    simp only [vsAll, loadA, loadRow, partA, partOk, cellA, cellsA, opA, newCells, okCells, storeObj, dstOk, nilSliceOp, resA, retA.eq_2, Nat.reduceLT, Nat.reduceEqDiff, ↓reduceIte, eq_self, wtAll, Try.results37, hid]
    refine ⟨i3, _, rfl, by simp only [↓reduceIte, eq_self]; try rfl, ?_⟩
    refine dropR_pure ?_ (by (repeat (first | exact HSub_rfl | refine HSub_put_eq (by simp only [vsAll, binA, binLitA, intA, aggA, aggV, boolA, nilA2, isConst, unA, loadA, loadRow, partA, partOk, fieldAddrA, indexAddrA, indexA, fieldA, extractA, lenA, nilCheckA, boxA, boxZ, cellA, cellsA, fillA, okParts, buildSliceA, buildMutA, makeSliceA, partIdx, elemsA, lensA, ifaceA, convA, mmA, pickA, okAll, stAll, opsA, partsA, partsOk, opA, allocA, boxMutA, newCells, okCells, storeObj, appendA, guardV, taA, nM, mapUpA, lookA, sliceA, sliceS, boundsA, opO, okO, copyA, dstOk, nilA, quietOk, nilSliceOp, deferV, panA, resA, argFr, retA.eq_1, retA.eq_2, Nat.reduceAdd, Nat.reduceSub, Nat.reduceMul, Nat.reduceLT, Nat.reduceLeDiff, Nat.reduceEqDiff, Nat.reduceBEq, Int.reduceAdd, Int.reduceSub, Int.reduceMul, Int.reduceNeg, Int.reduceLE, Int.reduceLT, Int.reduceEq, Int.reduceNe, Int.reduceToNat, ↓reduceIte, reduceCtorEq, implies_true, forall_const, eq_self, ne_eq, arrL, wtAll, Try.ntmps37, Try.results37, hh_i3, hid]) ?_ | refine HSub_drop2 (by simp only [eq_self, hh_i3, hid]) ?_ | refine HSub_keep_eq (by simp only [vsAll, binA, binLitA, intA, aggA, aggV, boolA, nilA2, isConst, unA, loadA, loadRow, partA, partOk, fieldAddrA, indexAddrA, indexA, fieldA, extractA, lenA, nilCheckA, boxA, boxZ, cellA, cellsA, fillA, okParts, buildSliceA, buildMutA, makeSliceA, partIdx, elemsA, lensA, ifaceA, convA, mmA, pickA, okAll, stAll, opsA, partsA, partsOk, opA, allocA, boxMutA, newCells, okCells, storeObj, appendA, guardV, taA, nM, mapUpA, lookA, sliceA, sliceS, boundsA, opO, okO, copyA, dstOk, nilA, quietOk, nilSliceOp, deferV, panA, resA, argFr, retA.eq_1, retA.eq_2, Nat.reduceAdd, Nat.reduceSub, Nat.reduceMul, Nat.reduceLT, Nat.reduceLeDiff, Nat.reduceEqDiff, Nat.reduceBEq, Int.reduceAdd, Int.reduceSub, Int.reduceMul, Int.reduceNeg, Int.reduceLE, Int.reduceLT, Int.reduceEq, Int.reduceNe, Int.reduceToNat, ↓reduceIte, reduceCtorEq, implies_true, forall_const, eq_self, ne_eq, arrL, wtAll, Try.ntmps37, Try.results37, hh_i3, hid]) ?_)))
    simp only [eq_self, e, ev]
   have hmw : m < p.ws.length + 1 := by ((try clear hh_i3); (try clear hid); omega)
   simp only [vsAll, okAll, stAll, opsA, opA, dstOk, nilSliceOp, Nat.reduceLT, Nat.reduceEqDiff, ↓reduceIte, eq_self]
   refine callK_pure (every_tri p false 0 id _ k (Hp.set_same _ _ _)) ?_
   have hw8 : 2 ^ p.ws.length ≤ 8 := by unfold everyN at hE; ((try clear hh_i3); (try clear hid); omega)
   have e21 : (((2 ^ p.ws.length - 1 : Nat) : Int) + 1) = ((2 ^ p.ws.length : Nat) : Int) := by ((try clear hh_i3); (try clear hid); omega)
   simp only [vsAll, binA, binLitA, intA, opA, dstOk, Nat.reduceLT, ↓reduceIte, eq_self, e21]
   refine ⟨by simp only [InR_u64]; ((try clear hh_i3); (try clear hid); omega), ?_⟩
   refine vs_loop (σ := Nat) (fun S => S ≤ 2 ^ p.ws.length ∧ ∀ i, i < S → setB p m i = false) (fun S => [(3, .ref i3 0 1 0 0), (4, .ref id 0 9 0 0), (5, i64 m), (15, i64 ((p.ws.length : Int) + 1)), (16, i64 m), (21, u64 ((2 ^ p.ws.length : Nat) : Int)), (22, u64 (S : Int))])
    (fun _ => (H.set i3 (.box 1 1 fun _ => [i64 0])).set id (.box 9 1 fun _ => pmC p false 0)) (fun S => 2 ^ p.ws.length - S) 0 ⟨Nat.zero_le _, fun i hi => absurd hi (Nat.not_lt_zero i)⟩ ?_ HSub_rfl fun S hS => ?_
   ·simp only [vsAll, Nat.reduceEqDiff, ↓reduceIte, eq_self, Int.natCast_zero]
   ·obtain ⟨hS1, hS2⟩ := hS
    simp only [vsAll, binA, binLitA, intA, opA, dstOk, Nat.reduceLT, Nat.reduceEqDiff, ↓reduceIte, eq_self]
    refine condD (fun hd2 => ?_) (fun hd2 => ?_)
    case refine_2 =>
     have eS : S = 2 ^ p.ws.length := by ((try clear hh_i3); (try clear hid); omega)
     have hnone : setsO p m = none := by
      unfold setsO
      rw [List.find?_eq_none]
      intro x hx
      rw [hS2 x (by rw [eS]; exact List.mem_range.1 hx)]
      decide
     simp only [vsAll, binA, binLitA, intA, opA, dstOk, Nat.reduceLT, Nat.reduceEqDiff, ↓reduceIte, eq_self]
     refine ⟨by simp only [InR_i64]; ((try clear hh_i3); (try clear hid); omega), loop_next (m + 1) ⟨by ((try clear hh_i3); (try clear hid); omega), fun i hi => ?_⟩ (by ((try clear hh_i3); (try clear hid); omega)) ?_ HSub_rfl⟩
     ·by_cases e : i = m
      ·rw [e]; exact hnone
      ·exact hm2 i (by ((try clear hh_i3); (try clear hid); omega))
     ·simp only [vsAll, Nat.reduceEqDiff, ↓reduceIte, eq_self, Int.natCast_add, Int.natCast_one]
    have hSl : S < 2 ^ p.ws.length := by ((try clear hh_i3); (try clear hid); omega)
    simp only [vsAll, okAll, stAll, opsA, opA, dstOk, nilSliceOp, Nat.reduceLT, Nat.reduceEqDiff, ↓reduceIte, eq_self]
    refine callK_pure (ones_tri S _ (by ((try clear hh_i3); (try clear hid); omega))) ?_
    simp only [vsAll, binA, binLitA, intA, loadA, loadRow, partA, partOk, fieldAddrA, lenA, nilCheckA, opA, guardV, dstOk, Nat.reduceLT, Nat.reduceEqDiff, ↓reduceIte, implies_true, eq_self, wtAll]
    refine gcall (boo (canB p p.fl.length S)) (fun g => ⟨by simp only [vsAll, opA], by simp only [vsAll, okAll, opsA, opA, Nat.reduceEqDiff, ↓reduceIte, eq_self, g], can_tri p p.fl.length S id _ k hA (Nat.le_refl _) (by ((try clear hh_i3); (try clear hid); omega)) (Hp.set_same _ _ _)⟩) ?_
    simp only [vsAll, pickA, opA, dstOk, Nat.reduceLT, Nat.reduceEqDiff, ↓reduceIte, implies_true, eq_self]
    have eb : (decide ((bitN S : Int) = (m : Int)) && canB p p.fl.length S) = setB p m S := by
     unfold setB
     rw [show decide ((bitN S : Int) = (m : Int)) = decide (bitN S = m) from decide_eq_decide.2 (by ((try clear hh_i3); (try clear hid); omega))]
    rw [eb]
    refine condV (fun hc => ?_) (fun hc => ?_)
    ·have hso : setsO p m = some S := by
      unfold setsO
      rw [List.find?_range_eq_some]
      exact ⟨hc, List.mem_range.2 hSl, fun i hi => by rw [hS2 i hi]; rfl⟩
     have hwo : wchO p = some S := findSome_at hmw hso hm2
     have e : wchE p = 0 := by rw [wchE, if_pos eN, hwo]; rfl
     have ev : wchV p = (S : Int) := by rw [wchV, if_pos e, hwo]; rfl
     simp only [vsAll, loadA, loadRow, partA, partOk, cellA, cellsA, convA, opA, newCells, okCells, storeObj, dstOk, nilSliceOp, resA, retA.eq_2, Nat.reduceLT, Nat.reduceEqDiff, ↓reduceIte, eq_self, wtAll, Try.results37, hid]
     refine ⟨by simp only [InR_i64]; ((try clear hh_i3); (try clear hid); omega), i3, _, rfl, by simp only [↓reduceIte, eq_self]; try rfl, ?_⟩
     refine dropR_pure ?_ (by (repeat (first | exact HSub_rfl | refine HSub_put_eq (by simp only [vsAll, binA, binLitA, intA, aggA, aggV, boolA, nilA2, isConst, unA, loadA, loadRow, partA, partOk, fieldAddrA, indexAddrA, indexA, fieldA, extractA, lenA, nilCheckA, boxA, boxZ, cellA, cellsA, fillA, okParts, buildSliceA, buildMutA, makeSliceA, partIdx, elemsA, lensA, ifaceA, convA, mmA, pickA, okAll, stAll, opsA, partsA, partsOk, opA, allocA, boxMutA, newCells, okCells, storeObj, appendA, guardV, taA, nM, mapUpA, lookA, sliceA, sliceS, boundsA, opO, okO, copyA, dstOk, nilA, quietOk, nilSliceOp, deferV, panA, resA, argFr, retA.eq_1, retA.eq_2, Nat.reduceAdd, Nat.reduceSub, Nat.reduceMul, Nat.reduceLT, Nat.reduceLeDiff, Nat.reduceEqDiff, Nat.reduceBEq, Int.reduceAdd, Int.reduceSub, Int.reduceMul, Int.reduceNeg, Int.reduceLE, Int.reduceLT, Int.reduceEq, Int.reduceNe, Int.reduceToNat, ↓reduceIte, reduceCtorEq, implies_true, forall_const, eq_self, ne_eq, arrL, wtAll, Try.ntmps37, Try.results37, hh_i3, hid]) ?_ | refine HSub_drop2 (by simp only [eq_self, hh_i3, hid]) ?_ | refine HSub_keep_eq (by simp only [vsAll, binA, binLitA, intA, aggA, aggV, boolA, nilA2, isConst, unA, loadA, loadRow, partA, partOk, fieldAddrA, indexAddrA, indexA, fieldA, extractA, lenA, nilCheckA, boxA, boxZ, cellA, cellsA, fillA, okParts, buildSliceA, buildMutA, makeSliceA, partIdx, elemsA, lensA, ifaceA, convA, mmA, pickA, okAll, stAll, opsA, partsA, partsOk, opA, allocA, boxMutA, newCells, okCells, storeObj, appendA, guardV, taA, nM, mapUpA, lookA, sliceA, sliceS, boundsA, opO, okO, copyA, dstOk, nilA, quietOk, nilSliceOp, deferV, panA, resA, argFr, retA.eq_1, retA.eq_2, Nat.reduceAdd, Nat.reduceSub, Nat.reduceMul, Nat.reduceLT, Nat.reduceLeDiff, Nat.reduceEqDiff, Nat.reduceBEq, Int.reduceAdd, Int.reduceSub, Int.reduceMul, Int.reduceNeg, Int.reduceLE, Int.reduceLT, Int.reduceEq, Int.reduceNe, Int.reduceToNat, ↓reduceIte, reduceCtorEq, implies_true, forall_const, eq_self, ne_eq, arrL, wtAll, Try.ntmps37, Try.results37, hh_i3, hid]) ?_)))
     simp only [eq_self, e, ev]
    ·simp only [vsAll, binA, binLitA, intA, opA, dstOk, Nat.reduceLT, Nat.reduceEqDiff, ↓reduceIte, eq_self]
     refine ⟨by simp only [InR_u64]; ((try clear hh_i3); (try clear hid); omega), loop_next (S + 1) ⟨by ((try clear hh_i3); (try clear hid); omega), fun i hi => ?_⟩ (by ((try clear hh_i3); (try clear hid); omega)) ?_ HSub_rfl⟩
     ·by_cases e : i = S
      ·rw [e]; exact hc
      ·exact hS2 i (by ((try clear hh_i3); (try clear hid); omega))
     ·simp only [vsAll, Nat.reduceEqDiff, ↓reduceIte, eq_self, Int.natCast_add, Int.natCast_one]
end Go.Proofs.Ytkcgocmjaggdiaa
end
section
set_option linter.unusedVariables false
set_option linter.unusedSimpArgs false
set_option maxRecDepth 100000
namespace Go.Proofs.Ytkcgocmjaggdiaa
open Go.V Wl
def smP (n : Int) : Pu := ⟨[(6, 8), (6, 8), (6, 8)], n, [⟨9, 10, 3, 1⟩, ⟨6, 6, 0, 0⟩], ⟨3, fun i => [2, 0, 2].getD i 0, 1, fun _ => ⟨1, 0, 0, 3, 3⟩⟩⟩
theorem sm_ok : Ok (smP 14) := by decide +kernel
theorem sm1 : playV (smP 14) [0, 0, 0] = [(1, 6), (0, 8), (2, 13)] := by decide +kernel
theorem sm2 : playE (smP 14) [0, 0, 0] = 0 := by decide +kernel
theorem sm3 : outV (smP 14) [0, 0, 0] 1 = (6, 7) := by decide +kernel
theorem sm4 : outE (smP 14) [0, 0, 0] 1 = 0 := by decide +kernel
theorem sm5 : floV (smP 14) [1, -1, 0] = 1 := by decide +kernel
theorem sm6 : playE (smP 14) [1, -1, 0] = 0 := by decide +kernel
theorem sm7 : losV (smP 14) [1, -1, 0] = 1 := by decide +kernel
theorem sm8 : losE (smP 14) [1, -1, 0] = 0 := by decide +kernel
theorem sm9 : spaV (smP 14) [0, 1, 0] = 2 := by decide +kernel
theorem sm10 : spaE (smP 14) [0, 1, 0] = 0 := by decide +kernel
theorem sm11 : fewN (smP 14) = 2 := by decide +kernel
theorem sm12 : fewP (smP 14) = [0, -1, 0] := by decide +kernel
theorem sm13 : fewE (smP 14) = 0 := by decide +kernel
theorem sm14 : untV (smP 14) = 3 := by decide +kernel
theorem sm15 : untE (smP 14) = 0 := by decide +kernel
theorem sm16 : wchV (smP 14) = 1 := by decide +kernel
theorem sm17 : wchE (smP 14) = 0 := by decide +kernel
theorem sm18 : floV (smP 14) [0, 1, 0] = 2 := by decide +kernel
theorem sm19 : playE (smP 14) [0, 1, 0] = 0 := by decide +kernel
end Go.Proofs.Ytkcgocmjaggdiaa
end
section
set_option linter.unusedVariables false
set_option linter.unusedSimpArgs false
set_option maxHeartbeats 4000000
set_option maxRecDepth 100000
namespace Go.Proofs.Ytkcgocmjaggdiaa
open Go.V Wl
/-- Too large to be looked at. -/
def farB (p : Pu) (n : Nat) : Bool := decide ((40 : Int) < max (max (max (max (p.fl.length : Int) (p.ws.length : Int)) (n : Int)) (p.ho.n : Int)) (p.ho.m : Int))
theorem far0_tri (p : Pu) (H : Hp) : PTri Try.prog (fnA 11) [p.av, .lit (.slice none 0 0)] H (boo (farB p 0)) := by
 refine tri_v0 (fun _ => false) Try.func11 (by kernel_rfl) rfl (by simp only [List.length_append, List.length_cons, List.length_nil, Try.ntmps11]; decide) ?_
 simp only [vsAll, binA, binLitA, intA, loadA, loadRow, partA, partOk, fieldAddrA, lenA, boxA, boxZ, mmA, okAll, stAll, opsA, opA, dstOk, nilSliceOp, resA, argFr, retA.eq_1, Nat.reduceAdd, Nat.reduceLT, Nat.reduceEqDiff, ↓reduceIte, eq_self, wtAll, Try.ntmps11, Try.results11]
 rfl
theorem ret_le {P : Program} {fv : AV} {args : List AV} {H : Hp} {v v' : AV} (h : PTri P fv args H v) (hle : AV.Le v v') : PTri P fv args H v' := by
 intro S vf vs hH hvf ha
 obtain ⟨nx, h1, h2⟩ := h S vf vs hH hvf ha
 have ho : ∀ e w, Out S (fun r H' => r = .ret v ∧ H' = H) e w → Out S (fun r H' => r = .ret v' ∧ H' = H) e w := by
  rintro e w ⟨S', r, H', hw, hl, hH', hrr, rfl, rfl⟩
  refine ⟨S', .ret v', H', hw, hl, hH', ?_, rfl, rfl⟩
  cases e with
  | returned cv => exact hle S' cv hrr
  | panicked ch => exact hrr.elim
  | outgrown => exact hrr.elim
 refine ⟨nx, h1, ?_⟩
 cases nx <;> simp only [NextOk] at h2 ⊢
 ·exact Calls.mono h2 ho
 ·exact h2.mono ho
theorem span_tri (a b : Int) (H : Hp) : PTri Try.prog (fnA 28) [i64 a, i64 b] H (.agg [i64 a, i64 b]) := by
 refine Tri.drop ?_
 refine tri_v0 (fun _ => false) Try.func28 (by kernel_rfl) rfl (by simp only [List.length_append, List.length_cons, List.length_nil, Try.ntmps28]; decide) ?_
 simp only [vsAll, loadA, loadRow, partA, partOk, cellA, cellsA, fillA, okParts, partsA, partsOk, opA, allocA, newCells, okCells, storeObj, dstOk, resA, argFr, retA.eq_1, Nat.reduceAdd, Nat.reduceLT, Nat.reduceLeDiff, Nat.reduceEqDiff, ↓reduceIte, reduceCtorEq, eq_self, wtAll, Try.ntmps28, Try.results28]
 intro i4 hh_i4; (try simp only [Hp.set_none, ite_none] at hh_i4)
 refine dropR_pure ?_ (by (repeat (first | exact HSub_rfl | refine HSub_put_eq (by simp only [vsAll, binA, binLitA, intA, aggA, aggV, boolA, nilA2, isConst, unA, loadA, loadRow, partA, partOk, fieldAddrA, indexAddrA, indexA, fieldA, extractA, lenA, nilCheckA, boxA, boxZ, cellA, cellsA, fillA, okParts, buildSliceA, buildMutA, makeSliceA, partIdx, elemsA, lensA, ifaceA, convA, mmA, pickA, okAll, stAll, opsA, partsA, partsOk, opA, allocA, boxMutA, newCells, okCells, storeObj, appendA, guardV, taA, nM, mapUpA, lookA, sliceA, sliceS, boundsA, opO, okO, copyA, dstOk, nilA, quietOk, nilSliceOp, deferV, panA, resA, argFr, retA.eq_1, retA.eq_2, Nat.reduceAdd, Nat.reduceSub, Nat.reduceMul, Nat.reduceLT, Nat.reduceLeDiff, Nat.reduceEqDiff, Nat.reduceBEq, Int.reduceAdd, Int.reduceSub, Int.reduceMul, Int.reduceNeg, Int.reduceLE, Int.reduceLT, Int.reduceEq, Int.reduceNe, Int.reduceToNat, ↓reduceIte, reduceCtorEq, implies_true, forall_const, eq_self, ne_eq, arrL, wtAll, Try.ntmps28, Try.results28, hh_i4]) ?_ | refine HSub_drop2 (by simp only [eq_self, hh_i4]) ?_ | refine HSub_keep_eq (by simp only [vsAll, binA, binLitA, intA, aggA, aggV, boolA, nilA2, isConst, unA, loadA, loadRow, partA, partOk, fieldAddrA, indexAddrA, indexA, fieldA, extractA, lenA, nilCheckA, boxA, boxZ, cellA, cellsA, fillA, okParts, buildSliceA, buildMutA, makeSliceA, partIdx, elemsA, lensA, ifaceA, convA, mmA, pickA, okAll, stAll, opsA, partsA, partsOk, opA, allocA, boxMutA, newCells, okCells, storeObj, appendA, guardV, taA, nM, mapUpA, lookA, sliceA, sliceS, boundsA, opO, okO, copyA, dstOk, nilA, quietOk, nilSliceOp, deferV, panA, resA, argFr, retA.eq_1, retA.eq_2, Nat.reduceAdd, Nat.reduceSub, Nat.reduceMul, Nat.reduceLT, Nat.reduceLeDiff, Nat.reduceEqDiff, Nat.reduceBEq, Int.reduceAdd, Int.reduceSub, Int.reduceMul, Int.reduceNeg, Int.reduceLE, Int.reduceLT, Int.reduceEq, Int.reduceNe, Int.reduceToNat, ↓reduceIte, reduceCtorEq, implies_true, forall_const, eq_self, ne_eq, arrL, wtAll, Try.ntmps28, Try.results28, hh_i4]) ?_)))
 rfl
theorem sample_tri (n : Int) (H : Hp) : PTri Try.prog (fnA 43) [i64 n] H (smP n).av := by
 refine ret_le (v := .agg [.rsl 3 2 (fun i => [[i64 6, i64 8], [i64 6, i64 8], [i64 6, i64 8]].getD i []), i64 n, .rsl 2 4 (fun i => [[i64 9, i64 10, i64 3, i64 1], [i64 6, i64 6, i64 0, i64 0]].getD i []), .rsl 3 1 (fun i => [[i64 2], [i64 0], [i64 2]].getD i []), .rsl 1 5 (fun i => [[i64 1, i64 0, i64 0, i64 3, i64 3]].getD i [])]) ?_ ?_
 ·refine Tri.drop ?_
  refine tri_v0 (fun _ => false) Try.func43 (by kernel_rfl) rfl (by simp only [List.length_append, List.length_cons, List.length_nil, Try.ntmps43]; decide) ?_
  simp only [vsAll, okAll, stAll, opsA, opA, allocA, dstOk, Nat.reduceAdd, Nat.reduceLT, eq_self, wtAll, Try.ntmps43]
  intro i2 hh_i2; (try simp only [Hp.set_none, ite_none] at hh_i2)
  refine callK_pure (span_tri 6 8 _) ?_
  simp only [vsAll, okAll, stAll, opsA, opA, dstOk, Nat.reduceLT]
  refine callK_pure (span_tri 6 8 _) ?_
  simp only [vsAll, okAll, stAll, opsA, opA, dstOk, Nat.reduceLT]
  refine callK_pure (span_tri 6 8 _) ?_
  simp only [vsAll, cellsA, okParts, buildSliceA, partIdx, elemsA, lensA, okAll, stAll, opsA, partsA, partsOk, opA, dstOk, argFr, Nat.reduceAdd, Nat.reduceMul, Nat.reduceLT, Nat.reduceLeDiff, Nat.reduceEqDiff, ↓reduceIte, reduceCtorEq, eq_self, wtAll]
  refine callK_pure (span_tri 9 10 _) ?_
  simp only [vsAll, cellA, cellsA, fillA, okParts, okAll, stAll, opsA, partsA, partsOk, opA, dstOk, Nat.reduceAdd, Nat.reduceLT, Nat.reduceLeDiff, ↓reduceIte, eq_self, wtAll]
  refine callK_pure (span_tri 6 6 _) ?_
  simp only [vsAll, cellA, cellsA, fillA, okParts, buildSliceA, partIdx, elemsA, lensA, okAll, stAll, opsA, partsA, partsOk, opA, dstOk, Nat.reduceAdd, Nat.reduceMul, Nat.reduceLT, Nat.reduceLeDiff, Nat.reduceEqDiff, ↓reduceIte, eq_self, wtAll]
  refine callK_pure (span_tri 3 3 _) ?_
  simp only [vsAll, loadA, loadRow, partA, partOk, cellA, cellsA, fillA, okParts, buildSliceA, partIdx, elemsA, lensA, partsA, partsOk, opA, newCells, okCells, storeObj, dstOk, resA, retA.eq_1, Nat.reduceAdd, Nat.reduceMul, Nat.reduceLT, Nat.reduceLeDiff, Nat.reduceEqDiff, ↓reduceIte, eq_self, wtAll, Try.results43]
  exact dropR_pure rfl (by (repeat (first | exact HSub_rfl | refine HSub_put_eq (by simp only [vsAll, binA, binLitA, intA, aggA, aggV, boolA, nilA2, isConst, unA, loadA, loadRow, partA, partOk, fieldAddrA, indexAddrA, indexA, fieldA, extractA, lenA, nilCheckA, boxA, boxZ, cellA, cellsA, fillA, okParts, buildSliceA, buildMutA, makeSliceA, partIdx, elemsA, lensA, ifaceA, convA, mmA, pickA, okAll, stAll, opsA, partsA, partsOk, opA, allocA, boxMutA, newCells, okCells, storeObj, appendA, guardV, taA, nM, mapUpA, lookA, sliceA, sliceS, boundsA, opO, okO, copyA, dstOk, nilA, quietOk, nilSliceOp, deferV, panA, resA, argFr, retA.eq_1, retA.eq_2, Nat.reduceAdd, Nat.reduceSub, Nat.reduceMul, Nat.reduceLT, Nat.reduceLeDiff, Nat.reduceEqDiff, Nat.reduceBEq, Int.reduceAdd, Int.reduceSub, Int.reduceMul, Int.reduceNeg, Int.reduceLE, Int.reduceLT, Int.reduceEq, Int.reduceNe, Int.reduceToNat, ↓reduceIte, reduceCtorEq, implies_true, forall_const, eq_self, ne_eq, arrL, wtAll, Try.ntmps43, Try.results43, hh_i2]) ?_ | refine HSub_drop2 (by simp only [eq_self, hh_i2]) ?_ | refine HSub_keep_eq (by simp only [vsAll, binA, binLitA, intA, aggA, aggV, boolA, nilA2, isConst, unA, loadA, loadRow, partA, partOk, fieldAddrA, indexAddrA, indexA, fieldA, extractA, lenA, nilCheckA, boxA, boxZ, cellA, cellsA, fillA, okParts, buildSliceA, buildMutA, makeSliceA, partIdx, elemsA, lensA, ifaceA, convA, mmA, pickA, okAll, stAll, opsA, partsA, partsOk, opA, allocA, boxMutA, newCells, okCells, storeObj, appendA, guardV, taA, nM, mapUpA, lookA, sliceA, sliceS, boundsA, opO, okO, copyA, dstOk, nilA, quietOk, nilSliceOp, deferV, panA, resA, argFr, retA.eq_1, retA.eq_2, Nat.reduceAdd, Nat.reduceSub, Nat.reduceMul, Nat.reduceLT, Nat.reduceLeDiff, Nat.reduceEqDiff, Nat.reduceBEq, Int.reduceAdd, Int.reduceSub, Int.reduceMul, Int.reduceNeg, Int.reduceLE, Int.reduceLT, Int.reduceEq, Int.reduceNe, Int.reduceToNat, ↓reduceIte, reduceCtorEq, implies_true, forall_const, eq_self, ne_eq, arrL, wtAll, Try.ntmps43, Try.results43, hh_i2]) ?_)))
 ·refine AV.Le.aggD rfl fun j hj => ?_
  match j, hj with
  | 0, _ =>
    refine AV.Le.rsl fun i hi => ?_
    match i, hi with
    | 0, _ => rfl
    | 1, _ => rfl
    | 2, _ => rfl
  | 1, _ => exact AV.Le.refl _
  | 2, _ =>
    refine AV.Le.rsl fun i hi => ?_
    match i, hi with
    | 0, _ => rfl
    | 1, _ => rfl
  | 3, _ =>
    refine AV.Le.rsl fun i hi => ?_
    match i, hi with
    | 0, _ => rfl
    | 1, _ => rfl
    | 2, _ => rfl
  | 4, _ =>
    refine AV.Le.rsl fun i hi => ?_
    match i, hi with
    | 0, _ => rfl
theorem rspans_tri (a b : List (Int × Int)) (H : Hp) (ha : a.length < 2 ^ 60) (hb : b.length < 2 ^ 60) : PTri Try.prog (fnA 23) [spansAV a, spansAV b] H (boo (decide (a = b))) := by
 refine tri_v0 (fun _ => false) Try.func23 (by kernel_rfl) rfl (by simp only [List.length_append, List.length_cons, List.length_nil, Try.ntmps23]; decide) ?_
 simp only [vsAll, okAll, stAll, opsA, opA, dstOk, nilSliceOp, argFr, Nat.reduceLT, Nat.reduceEqDiff, ↓reduceIte, reduceCtorEq, eq_self, Try.ntmps23]
 refine callK_pure (spans_tri a b _ ha hb) ?_
 simp only [vsAll, opA, dstOk, nilSliceOp, resA, retA.eq_1, Nat.reduceLT, ↓reduceIte, eq_self, Try.results23]
theorem rints_tri (a b : List Int) (H : Hp) (ha : a.length < 2 ^ 60) (hb : b.length < 2 ^ 60) : PTri Try.prog (fnA 42) [intsAV a, intsAV b] H (boo (decide (a = b))) := by
 refine tri_v0 (fun _ => false) Try.func42 (by kernel_rfl) rfl (by simp only [List.length_append, List.length_cons, List.length_nil, Try.ntmps42]; decide) ?_
 simp only [vsAll, okAll, stAll, opsA, opA, dstOk, nilSliceOp, argFr, Nat.reduceLT, Nat.reduceEqDiff, ↓reduceIte, reduceCtorEq, eq_self, Try.ntmps42]
 refine callK_pure (ints_tri a b _ ha hb) ?_
 simp only [vsAll, opA, dstOk, nilSliceOp, resA, retA.eq_1, Nat.reduceLT, ↓reduceIte, eq_self, Try.results42]
theorem eq_sp : eqT Try.prog 36 2 := eqT_of (by kernel_rfl) (by kernel_rfl) (by kernel_rfl) (by kernel_rfl) (by kernel_rfl)
theorem int3 (a b c : Int) : AV.Le (.rsl 3 1 (fun i => [[i64 a], [i64 b], [i64 c]].getD i [])) (intsAV [a, b, c]) := AV.Le.rsl fun i hi => by
 match i, hi with
 | 0, _ => rfl
 | 1, _ => rfl
 | 2, _ => rfl
theorem sp3 (a b c d e f : Int) : AV.Le (.rsl 3 2 (fun i => [[i64 a, i64 b], [i64 c, i64 d], [i64 e, i64 f]].getD i [])) (spansAV [(a, b), (c, d), (e, f)]) := AV.Le.rsl fun i hi => by
 match i, hi with
 | 0, _ => rfl
 | 1, _ => rfl
 | 2, _ => rfl
/-- A call with a plan that is written out. -/
theorem tri3 {f : Nat} {v : AV} {p : Pu} {a b c : Int} {H : Hp} (h : PTri Try.prog (fnA f) [p.av, intsAV [a, b, c]] H v) : PTri Try.prog (fnA f) [p.av, .rsl 3 1 (fun i => [[i64 a], [i64 b], [i64 c]].getD i [])] H v := Tri.args h rfl fun j hj => by
 match j, hj with
 | 0, _ => exact AV.Le.refl _
 | 1, _ => exact int3 a b c
theorem tri3o {f : Nat} {v : AV} {p : Pu} {a b c h : Int} {H : Hp} (q : PTri Try.prog (fnA f) [p.av, intsAV [a, b, c], i64 h] H v) : PTri Try.prog (fnA f) [p.av, .rsl 3 1 (fun i => [[i64 a], [i64 b], [i64 c]].getD i []), i64 h] H v := Tri.args q rfl fun j hj => by
 match j, hj with
 | 0, _ => exact AV.Le.refl _
 | 1, _ => exact int3 a b c
 | 2, _ => exact AV.Le.refl _
theorem awake_tri (H : Hp) : PTri Try.prog (fnA 12) [] H (boo true) := by
 have kn := sm_ok.near
 refine Tri.drop ?_
 refine tri_v0 (fun _ => false) Try.func12 (by kernel_rfl) rfl (by simp only [List.length_append, List.length_nil, Try.ntmps12]; decide) ?_
 simp only [vsAll, okAll, stAll, opsA, opA, dstOk, nilSliceOp, Nat.reduceLT, Int.reduceNeg, eq_self, Try.ntmps12]
 refine callK_pure (sample_tri 14 _) ?_
 simp only [vsAll, loadA, loadRow, partA, partOk, cellA, cellsA, okParts, buildSliceA, partIdx, elemsA, lensA, okAll, stAll, opsA, partsA, partsOk, opA, allocA, newCells, okCells, storeObj, dstOk, Nat.reduceAdd, Nat.reduceMul, Nat.reduceLT, Nat.reduceLeDiff, Nat.reduceEqDiff, Int.reduceNeg, ↓reduceIte, eq_self, wtAll]
 intro i1 hh_i1; (try simp only [Hp.set_none, ite_none] at hh_i1)
 refine callK_pure (tri3 (wplay_tri (smP 14) [0, 0, 0] _ kn (by decide))) ?_
 simp only [vsAll, loadA, loadRow, partA, partOk, extractA, cellA, cellsA, okParts, buildSliceA, partIdx, elemsA, lensA, okAll, stAll, opsA, partsA, partsOk, opA, dstOk, nilSliceOp, Nat.reduceAdd, Nat.reduceMul, Nat.reduceLT, Nat.reduceLeDiff, Nat.reduceEqDiff, Int.reduceNeg, ↓reduceIte, eq_self, wtAll, sm1, sm2]
 refine callK_pure (tri3o (wout_tri (smP 14) [0, 0, 0] 1 _ kn (by decide))) ?_
 simp only [vsAll, loadA, loadRow, partA, partOk, extractA, cellA, cellsA, okParts, buildSliceA, partIdx, elemsA, lensA, okAll, stAll, opsA, partsA, partsOk, opA, allocA, newCells, okCells, storeObj, dstOk, nilSliceOp, Nat.reduceAdd, Nat.reduceMul, Nat.reduceLT, Nat.reduceLeDiff, Nat.reduceEqDiff, Int.reduceNeg, ↓reduceIte, eq_self, wtAll, sm3, sm4]
 intro i4 hh_i4; (try simp only [ite_none] at hh_i4)
 simp only [vsAll, Nat.reduceLT, Int.reduceNeg, ↓reduceIte, eq_self, hh_i4]
 refine callK_pure (tri3 (flo_tri (smP 14) [1, -1, 0] _ kn (by decide))) ?_
 simp only [vsAll, loadA, loadRow, partA, partOk, extractA, cellA, cellsA, okParts, buildSliceA, partIdx, elemsA, lensA, okAll, stAll, opsA, partsA, partsOk, opA, dstOk, nilSliceOp, Nat.reduceAdd, Nat.reduceMul, Nat.reduceLT, Nat.reduceLeDiff, Nat.reduceEqDiff, Int.reduceNeg, ↓reduceIte, eq_self, wtAll, hh_i4, sm5, sm6]
 refine callK_pure (tri3 (los_tri (smP 14) [1, -1, 0] _ kn (by decide))) ?_
 simp only [vsAll, loadA, loadRow, partA, partOk, extractA, cellA, cellsA, okParts, buildSliceA, partIdx, elemsA, lensA, okAll, stAll, opsA, partsA, partsOk, opA, dstOk, nilSliceOp, Nat.reduceAdd, Nat.reduceMul, Nat.reduceLT, Nat.reduceLeDiff, Nat.reduceEqDiff, Int.reduceNeg, ↓reduceIte, eq_self, wtAll, hh_i4, sm7, sm8]
 refine callK_pure (tri3 (spa_tri (smP 14) [0, 1, 0] _ kn (by decide))) ?_
 simp only [vsAll, loadA, loadRow, partA, partOk, extractA, okAll, stAll, opsA, opA, dstOk, nilSliceOp, Nat.reduceAdd, Nat.reduceLT, Nat.reduceEqDiff, Int.reduceNeg, ↓reduceIte, eq_self, wtAll, hh_i4, sm9, sm10]
 refine callK_pure (few_tri (smP 14) _ kn) ?_
 simp only [vsAll, loadA, loadRow, partA, partOk, extractA, okAll, stAll, opsA, opA, dstOk, nilSliceOp, Nat.reduceAdd, Nat.reduceLT, Nat.reduceEqDiff, Int.reduceNeg, ↓reduceIte, eq_self, wtAll, hh_i4, sm11, sm12, sm13]
 refine callK_pure (unt_tri (smP 14) _ kn) ?_
 simp only [vsAll, loadA, loadRow, partA, partOk, extractA, okAll, stAll, opsA, opA, dstOk, nilSliceOp, Nat.reduceAdd, Nat.reduceLT, Nat.reduceEqDiff, Int.reduceNeg, ↓reduceIte, eq_self, wtAll, hh_i4, sm14, sm15]
 refine callK_pure (wch_tri (smP 14) _ kn) ?_
 simp only [vsAll, loadA, loadRow, partA, partOk, extractA, cellA, cellsA, okParts, buildSliceA, partIdx, elemsA, lensA, okAll, stAll, opsA, partsA, partsOk, opA, dstOk, nilSliceOp, Nat.reduceAdd, Nat.reduceMul, Nat.reduceLT, Nat.reduceLeDiff, Nat.reduceEqDiff, Int.reduceNeg, ↓reduceIte, eq_self, wtAll, hh_i4, sm16, sm17]
 refine callK_pure (tri3 (flo_tri (smP 14) [0, 1, 0] _ kn (by decide))) ?_
 simp only [vsAll, extractA, opA, dstOk, nilSliceOp, Nat.reduceAdd, Nat.reduceLT, Nat.reduceEqDiff, Int.reduceNeg, ↓reduceIte, eq_self, sm18, sm19]
 refine vs_draw2 [0, 0, 0, 0, 0, 0, 0, 0, 0, 0, 0, 0, 0, 0, 0, 0, 0, 0, 0, 0, 0, 0, 0, 0, 0, 0, 0, 0, 0, 0, 0, 0, 0, 0, 0, 0] [] [0, 1, 2, 3, 4, 5, 6, 7, 8, 9, 10, 11, 12, 13, 14, 15, 16, 17, 18, 19, 20, 21, 22, 23, 24, 25, 26, 27, 28, 29, 30, 31, 32, 33, 34, 35] (by decide +kernel) ?_
 simp only [vsAll, opA, dstOk, Nat.reduceLT, Nat.reduceEqDiff, Int.reduceNeg, ↓reduceIte, eq_self]
 refine qcall _ ⟨trivial, by simp only [vsAll, okAll, opsA, opA], span_tri 1 6 _⟩ ?_
 simp only [vsAll, dstOk, Nat.reduceLT, Int.reduceNeg, eq_self]
 refine qcall _ ⟨trivial, by simp only [vsAll, okAll, opsA, opA], span_tri 0 8 _⟩ ?_
 simp only [vsAll, dstOk, Nat.reduceLT, Int.reduceNeg, eq_self]
 refine qcall _ ⟨trivial, by simp only [vsAll, okAll, opsA, opA], span_tri 2 13 _⟩ ?_
 simp only [vsAll, cellsA, okParts, buildSliceA, partIdx, elemsA, lensA, partsA, partsOk, opA, dstOk, Nat.reduceAdd, Nat.reduceMul, Nat.reduceLT, Nat.reduceLeDiff, Nat.reduceEqDiff, Int.reduceNeg, ↓reduceIte, eq_self, wtAll]
 refine qcall _ ⟨trivial, by simp only [vsAll, okAll, opsA, opA, Nat.reduceEqDiff, Int.reduceNeg, ↓reduceIte, eq_self], Tri.args (args' := [spansAV [(1, 6), (0, 8), (2, 13)], spansAV [(1, 6), (0, 8), (2, 13)]]) (rspans_tri [(1, 6), (0, 8), (2, 13)] [(1, 6), (0, 8), (2, 13)] _ (by decide) (by decide)) rfl fun j hj => ?_⟩ ?_
 ·match j, hj with
  | 0, _ => exact AV.Le.refl _
  | 1, _ => exact sp3 1 6 0 8 2 13
 simp only [vsAll, binA, binLitA, intA, unA, loadA, loadRow, partA, partOk, pickA, opA, guardV, dstOk, Nat.reduceLT, Nat.reduceEqDiff, Int.reduceNeg, ↓reduceIte, implies_true, eq_self, wtAll]
 refine qgcall _ (fun hg => ⟨by simp only [vsAll, opA], by simp only [vsAll, okAll, opsA, opA], span_tri 6 7 _⟩) ?_
 simp only [vsAll, binA, binLitA, intA, aggA, cellA, cellsA, okParts, buildSliceA, partIdx, elemsA, lensA, pickA, partsA, partsOk, opA, guardV, dstOk, Nat.reduceAdd, Nat.reduceMul, Nat.reduceLT, Nat.reduceLeDiff, Nat.reduceEqDiff, Int.reduceNeg, ↓reduceIte, implies_true, forall_const, eq_self, wtAll]
 refine ⟨eq_sp, gcall (boo true) (fun hg => ⟨by simp only [vsAll, opA], by simp only [vsAll, okAll, opsA, opA, Nat.reduceEqDiff, Int.reduceNeg, ↓reduceIte, eq_self], Tri.args (args' := [intsAV [0, -1, 0], intsAV [0, -1, 0]]) (rints_tri [0, -1, 0] [0, -1, 0] _ (by decide) (by decide)) rfl fun j hj => ?_⟩) ?_⟩
 ·match j, hj with
  | 0, _ => exact AV.Le.refl _
  | 1, _ => exact int3 0 (-1) 0
 simp only [vsAll, binA, binLitA, intA, pickA, opA, guardV, dstOk, nilSliceOp, resA, retA.eq_1, Nat.reduceLT, Nat.reduceEqDiff, Int.reduceNeg, ↓reduceIte, implies_true, eq_self, Try.results12]
 exact dropR_pure rfl (by (repeat (first | exact HSub_rfl | refine HSub_put_eq (by simp only [vsAll, binA, binLitA, intA, aggA, aggV, boolA, nilA2, isConst, unA, loadA, loadRow, partA, partOk, fieldAddrA, indexAddrA, indexA, fieldA, extractA, lenA, nilCheckA, boxA, boxZ, cellA, cellsA, fillA, okParts, buildSliceA, buildMutA, makeSliceA, partIdx, elemsA, lensA, ifaceA, convA, mmA, pickA, okAll, stAll, opsA, partsA, partsOk, opA, allocA, boxMutA, newCells, okCells, storeObj, appendA, guardV, taA, nM, mapUpA, lookA, sliceA, sliceS, boundsA, opO, okO, copyA, dstOk, nilA, quietOk, nilSliceOp, deferV, panA, resA, argFr, retA.eq_1, retA.eq_2, Nat.reduceAdd, Nat.reduceSub, Nat.reduceMul, Nat.reduceLT, Nat.reduceLeDiff, Nat.reduceEqDiff, Nat.reduceBEq, Int.reduceAdd, Int.reduceSub, Int.reduceMul, Int.reduceNeg, Int.reduceLE, Int.reduceLT, Int.reduceEq, Int.reduceNe, Int.reduceToNat, ↓reduceIte, reduceCtorEq, implies_true, forall_const, eq_self, ne_eq, arrL, wtAll, Try.ntmps12, Try.results12, hh_i1, hh_i4]) ?_ | refine HSub_drop2 (by simp only [eq_self, hh_i1, hh_i4]) ?_ | refine HSub_keep_eq (by simp only [vsAll, binA, binLitA, intA, aggA, aggV, boolA, nilA2, isConst, unA, loadA, loadRow, partA, partOk, fieldAddrA, indexAddrA, indexA, fieldA, extractA, lenA, nilCheckA, boxA, boxZ, cellA, cellsA, fillA, okParts, buildSliceA, buildMutA, makeSliceA, partIdx, elemsA, lensA, ifaceA, convA, mmA, pickA, okAll, stAll, opsA, partsA, partsOk, opA, allocA, boxMutA, newCells, okCells, storeObj, appendA, guardV, taA, nM, mapUpA, lookA, sliceA, sliceS, boundsA, opO, okO, copyA, dstOk, nilA, quietOk, nilSliceOp, deferV, panA, resA, argFr, retA.eq_1, retA.eq_2, Nat.reduceAdd, Nat.reduceSub, Nat.reduceMul, Nat.reduceLT, Nat.reduceLeDiff, Nat.reduceEqDiff, Nat.reduceBEq, Int.reduceAdd, Int.reduceSub, Int.reduceMul, Int.reduceNeg, Int.reduceLE, Int.reduceLT, Int.reduceEq, Int.reduceNe, Int.reduceToNat, ↓reduceIte, reduceCtorEq, implies_true, forall_const, eq_self, ne_eq, arrL, wtAll, Try.ntmps12, Try.results12, hh_i1, hh_i4]) ?_)))
theorem far_near {p : Pu} {n : Nat} (h : farB p n = false) : Near p ∧ n ≤ 40 := by
 have := of_decide_eq_false h
 exact ⟨⟨by omega, by omega, ⟨by omega, by omega⟩⟩, by omega⟩
end Go.Proofs.Ytkcgocmjaggdiaa
end
section
set_option linter.unusedVariables false
set_option linter.unusedSimpArgs false
set_option maxRecDepth 100000
namespace Go.Proofs.Ytkcgocmjaggdiaa
open Go.V Wl Go.ChangeShapes Go.WideShapes Go.ChangeAt Go.RowKit
theorem pump_cells : cellsT Try.prog 9 29 = some [.sl [.int .i64, .int .i64], .int .i64, .sl [.int .i64, .int .i64, .int .i64, .int .i64], .sl [.int .i64], .sl [.int .i64, .int .i64, .int .i64, .int .i64, .int .i64]] := by kernel_rfl
theorem ints_of {av : AV} (h : CKA (.sl [.int .i64]) av) : ∃ l : List Int, l.length ≤ maxLen ∧ AV.Le av (intsAV l) := by
 obtain ⟨l, h1, h2⟩ := told_slice (α := Int) (fun z => [i64 z]) 0 (fun cs hcs => by
  obtain ⟨z, hz, _⟩ := told_int 0 hcs rfl
  exact ⟨z, rfl, fun j hj => by
   match j, hj with
   | 0, _ => rw [hz]; exact AV.Le.refl _⟩) h
 exact ⟨l, h1, h2⟩
theorem spans_of {av : AV} (h : CKA (.sl [.int .i64, .int .i64]) av) : ∃ l : List (Int × Int), l.length ≤ maxLen ∧ AV.Le av (spansAV l) := by
 obtain ⟨l, h1, h2⟩ := told_slice (α := Int × Int) (fun z => [i64 z.1, i64 z.2]) (0, 0) (fun cs hcs => by
  obtain ⟨a, ha, _⟩ := told_int 0 hcs rfl
  obtain ⟨b, hb, _⟩ := told_int 1 hcs rfl
  exact ⟨(a, b), rfl, fun j hj => by
   match j, hj with
   | 0, _ => rw [ha]; exact AV.Le.refl _
   | 1, _ => rw [hb]; exact AV.Le.refl _⟩) h
 exact ⟨l, h1, h2⟩
theorem watches_of {av : AV} (h : CKA (.sl [.int .i64, .int .i64, .int .i64, .int .i64]) av) : ∃ l : List Wt, l.length ≤ maxLen ∧ AV.Le av (wsAV l) := by
 obtain ⟨l, h1, h2⟩ := told_slice (α := Wt) Wt.cs wt0 (fun cs hcs => by
  obtain ⟨a, ha, _⟩ := told_int 0 hcs rfl
  obtain ⟨b, hb, _⟩ := told_int 1 hcs rfl
  obtain ⟨c, hc, _⟩ := told_int 2 hcs rfl
  obtain ⟨d, hd, _⟩ := told_int 3 hcs rfl
  exact ⟨⟨a, b, c, d⟩, rfl, fun j hj => by
   match j, hj with
   | 0, _ => rw [ha]; exact AV.Le.refl _
   | 1, _ => rw [hb]; exact AV.Le.refl _
   | 2, _ => rw [hc]; exact AV.Le.refl _
   | 3, _ => rw [hd]; exact AV.Le.refl _⟩) h
 exact ⟨l, h1, h2⟩
def sd00 : Sd := ⟨0, 0, 0, 0, 0⟩
theorem soundings_of {av : AV} (h : CKA (.sl [.int .i64, .int .i64, .int .i64, .int .i64, .int .i64]) av) : ∃ l : List Sd, l.length ≤ maxLen ∧ AV.Le av (sdAV l.length fun i => l.getD i sd00) := by
 obtain ⟨l, h1, h2⟩ := told_slice (α := Sd) Sd.cs sd00 (fun cs hcs => by
  obtain ⟨a, ha, _⟩ := told_int 0 hcs rfl
  obtain ⟨b, hb, _⟩ := told_int 1 hcs rfl
  obtain ⟨c, hc, _⟩ := told_int 2 hcs rfl
  obtain ⟨d, hd, _⟩ := told_int 3 hcs rfl
  obtain ⟨e, he, _⟩ := told_int 4 hcs rfl
  exact ⟨⟨a, b, c, d, e⟩, rfl, fun j hj => by
   match j, hj with
   | 0, _ => rw [ha]; exact AV.Le.refl _
   | 1, _ => rw [hb]; exact AV.Le.refl _
   | 2, _ => rw [hc]; exact AV.Le.refl _
   | 3, _ => rw [hd]; exact AV.Le.refl _
   | 4, _ => rw [he]; exact AV.Le.refl _⟩) h
 exact ⟨l, h1, h2⟩
theorem pump_rel {H : Type} {enc : TypeId × Value → H} {W : World} {sp : Nat → Bool} {held : Bool} {v : Value} {d : DataW H} {ps : List MemPlace}
 {base : Nat} (hv : Value.okWide Try.prog W .any base 29 v) (h : DataW.Trod enc Try.prog W 0 sp held 29 v d ps) : ∃ p : Pu, True ∧ VRel (st0 W) p.av v := by
 obtain ⟨cs, hcs, hv⟩ := trod_agg pump_cells (by decide) h
 obtain ⟨fl, l0, h0⟩ := spans_of (hcs.2 0 _ rfl)
 obtain ⟨ca, h1, _⟩ := told_int 1 hcs rfl
 obtain ⟨ws, l2, h2⟩ := watches_of (hcs.2 2 _ rfl)
 obtain ⟨fo, l3, h3⟩ := ints_of (hcs.2 3 _ rfl)
 obtain ⟨sd, l4, h4⟩ := soundings_of (hcs.2 4 _ rfl)
 refine ⟨⟨fl, ca, ws, ⟨fo.length, fun i => fo.getD i 0, sd.length, fun i => sd.getD i sd00⟩⟩, trivial, AV.Le.aggD (cs := cs) hcs.1.symm (fun j hj => ?_) _ _ hv⟩
 have hj5 : j < 5 := by have := hcs.1; simp at this; omega
 match j, hj5 with
 | 0, _ => exact h0
 | 1, _ => rw [h1]; exact AV.Le.refl _
 | 2, _ => exact h2
 | 3, _ => exact h3
 | 4, _ => exact h4
theorem Try.own : ownKnob Try.prog.godebug = none := by kernel_rfl
theorem u4 : Try.prog.underlying 4 = some .bool := by kernel_rfl
theorem u43 : Try.prog.underlying 43 = some (.slice 5) := by kernel_rfl
theorem wf_u8 {n : Int} (h : (Lit.int .u8 n).wf = true) : 0 ≤ n ∧ n ≤ 255 := by
 simp [Lit.wf, IntKind.min, IntKind.max, IntKind.signed, IntKind.bits] at h
 omega
def iz : Value → Int
 | .int _ n => n
 | _ => 0
end Go.Proofs.Ytkcgocmjaggdiaa
end
section
set_option linter.unusedVariables false
namespace Go.Proofs.Ytkcgocmjaggdiaa
open Go.V
def byF (b : Nat → Int) : Nat → List AV := fun i => [.lit (.int .u8 (b i))]
theorem byF_at (b : Nat → Int) (i : Nat) : byF b i = [.lit (.int .u8 (b i))] := rfl
def wyF (b : Nat → Int) : Nat → List AV := fun i => [.lit (.int .u16 (b i))]
end Go.Proofs.Ytkcgocmjaggdiaa
end
section
set_option linter.unusedVariables false
set_option linter.unusedSimpArgs false
set_option maxRecDepth 100000
namespace Go.Proofs.Ytkcgocmjaggdiaa
open Go.V Wl Go.ChangeShapes Go.WideShapes Go.ChangeAt Go.RowKit
theorem by_rel {H : Type} {enc : TypeId × Value → H} {W : World} {sp : Nat → Bool} {held : Bool} {v : Value} {d : DataW H} {ps : List MemPlace} {base : Nat}
 (hv : Value.okWide Try.prog W .any base 43 v) (h : DataW.Trod enc Try.prog W 0 sp held 43 v d ps) : ∃ (N : Nat) (b : Nat → Int), (N < 2 ^ 63 ∧ ∀ i, i < N → 0 ≤ b i ∧ b i ≤ 255) ∧ VRel (st0 W) (.rsl N 1 (byF b)) v := by
 obtain ⟨a, len, cap, rfl⟩ := okWide_slice u43 hv
 obtain ⟨fuel, h⟩ := h
 obtain ⟨n, g, hn, hl, hr⟩ := trod_slice_rel (d := 4) (e := 5) (ks := [.int .u8]) u43 (by decide +kernel) (by decide +kernel) (by decide) (show DataW.trod enc Try.prog W 0 sp held fuel 43 [.slice a len cap] = some (d, ps) from h)
 have key : ∀ i, i < n → ∃ z : Int, g i = [.int .u8 z] ∧ 0 ≤ z ∧ z ≤ 255 := fun i hi => by
  obtain ⟨h1, h2⟩ := hl i hi
  match hg : g i, h1 with
  | [x], _ =>
    obtain ⟨z, rfl, hz⟩ := h2 0 (.int .u8) x rfl (by rw [hg]; rfl)
    exact ⟨z, rfl, wf_u8 hz⟩
 have hm : maxLen < 2 ^ 63 := by decide
 refine ⟨n, fun i => iz ((g i).getD 0 undef), ⟨by omega, fun i hi => ?_⟩, AV.Le.rsl (fun i hi => ?_) _ _ hr⟩
 ·obtain ⟨z, e, hz⟩ := key i hi
  simp only [e]; exact hz
 ·obtain ⟨z, e, hz⟩ := key i hi
  simp only [e]; simp only [byF, e]; rfl
end Go.Proofs.Ytkcgocmjaggdiaa
end
section
set_option linter.unusedVariables false
set_option linter.unusedSimpArgs false
namespace Go.Proofs.Ytkcgocmjaggdiaa
open Go.V Wl
/-- A watch, or none, of a set. -/
def okw (p : Pu) (S : Nat) (w : Int) : Prop := -1 ≤ w ∧ w < p.ws.length ∧ (0 ≤ w → S.testBit w.toNat = true)
/-- A list goes on from a plan so far. -/
structure Goes (p : Pu) (S : Nat) (l x : List Int) : Prop where
 at_ : ∀ w ∈ x, okw p S w
 dry : ∀ i, l.length < i → i ≤ l.length + x.length → watV p (l ++ x) false i ≤ p.ca
/-- In how many hours somebody pumps. -/
def pumN : List Int → Int
 | [] => 0
 | w :: x => costW w (pumN x)
theorem cost_mono {w a b : Int} (h : a ≤ b) : costW w a ≤ costW w b := by unfold costW; split <;> omega
theorem cost_inj {w a b : Int} (h : costW w a = costW w b) : a = b := by unfold costW at h; split at h <;> omega
theorem goes_nil (p : Pu) (S : Nat) (l : List Int) : Goes p S l [] := ⟨fun w h => (by cases h), fun i h1 h2 => (by simp at h2; omega)⟩
theorem goes_cons {p : Pu} {S : Nat} {l : List Int} {w : Int} {x : List Int} : Goes p S l (w :: x) ↔ okw p S w ∧ watV p (l ++ [w]) false (l.length + 1) ≤ p.ca ∧ Goes p S (l ++ [w]) x := by
 have e : l ++ w :: x = (l ++ [w]) ++ x := by simp
 have el : (l ++ [w]).length = l.length + 1 := by simp
 constructor
 ·rintro ⟨h1, h2⟩
  refine ⟨h1 w List.mem_cons_self, ?_, ⟨fun v hv => h1 v (List.mem_cons_of_mem _ hv), fun i hi hj => ?_⟩⟩
  ·have := h2 (l.length + 1) (by omega) (by simp)
   rw [e, wat_pre p (l ++ [w]) x false _ (by omega)] at this
   exact this
  ·rw [← e]
   rw [el] at hi hj
   exact h2 i (by omega) (by simp; omega)
 ·rintro ⟨h1, h2, h3⟩
  refine ⟨fun v hv => ?_, fun i hi hj => ?_⟩
  ·rcases List.mem_cons.1 hv with h | h
   ·rw [h]; exact h1
   ·exact h3.at_ v h
  ·rw [e]
   by_cases h : i = l.length + 1
   ·subst h
    rw [wat_pre p (l ++ [w]) x false _ (by omega)]
    exact h2
   ·exact h3.dry i (by omega) (by simp at hj; rw [el]; omega)
theorem step_rng {p : Pu} {S : Nat} {f : List Int → Option Int} {l : List Int} {acc : Option Int} {w y : Int} (h : stepB p S f l acc w = some y) :
 acc = some y ∨ (¬ ((0 ≤ w ∧ S.testBit w.toNat = false) ∨ ¬ watV p (l ++ [w]) false (l.length + 1) ≤ p.ca) ∧ ∃ x, f (l ++ [w]) = some x ∧ costW w x = y) := by
 unfold stepB at h
 split at h
 ·exact .inl h
 ·rename_i hc
  split at h
  ·exact .inl h
  ·rename_i x hx
   split at h
   ·simp only [Option.some.injEq] at h; exact .inr ⟨hc, x, hx, h⟩
   ·split at h
    ·simp only [Option.some.injEq] at h; exact .inr ⟨hc, x, hx, h⟩
    ·exact .inl h
theorem step_le {p : Pu} {S : Nat} {f : List Int → Option Int} {l : List Int} {acc : Option Int} {w : Int} {a : Int} (h : acc = some a) : ∃ y, stepB p S f l acc w = some y ∧ y ≤ a := by
 subst h
 unfold stepB
 split
 ·exact ⟨a, rfl, Int.le_refl _⟩
 ·split
  ·exact ⟨a, rfl, Int.le_refl _⟩
  ·simp only []
   split
   ·exact ⟨_, rfl, by omega⟩
   ·exact ⟨a, rfl, Int.le_refl _⟩
theorem step_new {p : Pu} {S : Nat} {f : List Int → Option Int} {l : List Int} {acc : Option Int} {w : Int} {x : Int} (hc : ¬ ((0 ≤ w ∧ S.testBit w.toNat = false) ∨ ¬ watV p (l ++ [w]) false (l.length + 1) ≤ p.ca)) (h : f (l ++ [w]) = some x) : ∃ y, stepB p S f l acc w = some y ∧ y ≤ costW w x := by
 unfold stepB
 rw [if_neg hc, h]
 simp only []
 split
 ·exact ⟨_, rfl, Int.le_refl _⟩
 ·split
  ·exact ⟨_, rfl, Int.le_refl _⟩
  ·exact ⟨_, rfl, by omega⟩
theorem okw_of {p : Pu} {S : Nat} {l : List Int} {i : Nat} (hi : i < p.ws.length + 1) (hc : ¬ ((0 ≤ (i : Int) - 1 ∧ S.testBit ((i : Int) - 1).toNat = false) ∨ ¬ watV p (l ++ [(i : Int) - 1]) false (l.length + 1) ≤ p.ca)) : okw p S ((i : Int) - 1) ∧ watV p (l ++ [(i : Int) - 1]) false (l.length + 1) ≤ p.ca := by
 refine ⟨⟨by omega, by omega, fun h => ?_⟩, Classical.byContradiction fun h => hc (.inr h)⟩
 cases hb : S.testBit ((i : Int) - 1).toNat with
 | true => rfl
 | false => exact absurd (.inl ⟨h, hb⟩) hc
theorem rowB_att {p : Pu} {S : Nat} {f : List Int → Option Int} {l : List Int} : ∀ j y, j ≤ p.ws.length + 1 → rowB p S f l j = some y → ∃ w, okw p S w ∧ watV p (l ++ [w]) false (l.length + 1) ≤ p.ca ∧ ∃ x, f (l ++ [w]) = some x ∧ costW w x = y := by
 intro j
 induction j with
 | zero => intro y _ h; cases h
 | succ j ih =>
   intro y hj h
   rcases step_rng h with h | ⟨hc, h⟩
   ·exact ih y (by omega) h
   ·obtain ⟨h1, h2⟩ := okw_of (by omega) hc
    exact ⟨_, h1, h2, h⟩
theorem rowB_le {p : Pu} {S : Nat} {f : List Int → Option Int} {l : List Int} {w : Int} {x : Int} (hw : okw p S w) (hd : watV p (l ++ [w]) false (l.length + 1) ≤ p.ca) (hx : f (l ++ [w]) = some x) : ∀ j : Nat, w + 1 < (j : Int) → ∃ y, rowB p S f l j = some y ∧ y ≤ costW w x := by
 intro j
 induction j with
 | zero => intro h; have := hw.1; omega
 | succ j ih =>
   intro h
   by_cases e : w = (j : Int) - 1
   ·rw [rowB, ← e]
    refine step_new (fun hc => ?_) hx
    rcases hc with ⟨h1, h2⟩ | h1
    ·rw [hw.2.2 h1] at h2; cases h2
    ·exact h1 hd
   ·obtain ⟨y, h1, h2⟩ := ih (by omega)
    obtain ⟨z, h3, h4⟩ := step_le (p := p) (S := S) (f := f) (l := l) (w := (j : Int) - 1) h1
    exact ⟨z, h3, by omega⟩
theorem least_att {p : Pu} {S : Nat} : ∀ n l m, leastB p S n l = some m → ∃ x, x.length = n ∧ Goes p S l x ∧ pumN x = m := by
 intro n
 induction n with
 | zero => intro l m h; simp only [leastB, Option.some.injEq] at h; exact ⟨[], rfl, goes_nil _ _ _, h⟩
 | succ n ih =>
   intro l m h
   obtain ⟨w, h1, h2, y, h3, h4⟩ := rowB_att _ _ (Nat.le_refl _) h
   obtain ⟨x, g1, g2, g3⟩ := ih _ _ h3
   exact ⟨w :: x, by simp [g1], goes_cons.2 ⟨h1, h2, g2⟩, by rw [pumN, g3]; exact h4⟩
theorem least_le {p : Pu} {S : Nat} : ∀ n l x, x.length = n → Goes p S l x → ∃ m, leastB p S n l = some m ∧ m ≤ pumN x := by
 intro n
 induction n with
 | zero =>
   intro l x hx _
   rw [List.eq_nil_of_length_eq_zero hx]
   exact ⟨0, rfl, Int.le_refl _⟩
 | succ n ih =>
   intro l x hx h
   cases x with
   | nil => cases hx
   | cons w x =>
     obtain ⟨h1, h2, h3⟩ := goes_cons.1 h
     obtain ⟨m, g1, g2⟩ := ih _ x (by simpa using hx) h3
     have hw := h1
     unfold okw at hw
     obtain ⟨y, f1, f2⟩ := rowB_le h1 h2 g1 (p.ws.length + 1) (by omega)
     exact ⟨y, f1, by have := cost_mono (w := w) g2; rw [pumN]; omega⟩
/-- One list comes before another one, or is the same. -/
def lexB : List Int → List Int → Prop
 | [], _ => True
 | _ :: _, [] => False
 | a :: x, b :: y => a < b ∨ a = b ∧ lexB x y
theorem few_first {p : Pu} {S : Nat} (hS : ∀ w, w < p.ws.length → S.testBit w = true) : ∀ n l m, leastB p S n l = some m → ∃ x, fewL p S n l m = l ++ x ∧ x.length = n ∧ Goes p S l x ∧ pumN x = m ∧ ∀ y, y.length = n → Goes p S l y → pumN y = m → lexB x y := by
 intro n
 induction n with
 | zero => intro l m h; simp only [leastB, Option.some.injEq] at h; exact ⟨[], by simp [fewL], rfl, goes_nil _ _ _, h, fun y _ _ _ => trivial⟩
 | succ n ih =>
   intro l m h
   obtain ⟨j, h1, h2, h3, h4⟩ := first_some h
   obtain ⟨m', h5, h6⟩ := ok_some h3
   have hd : watV p (l ++ [(j : Int) - 1]) false (l.length + 1) ≤ p.ca := by
    unfold okB at h3
    rw [h5] at h3
    simp only [Bool.and_eq_true, decide_eq_true_eq] at h3
    exact h3.1
   obtain ⟨x, g1, g2, g3, g4, g5⟩ := ih _ _ h5
   have hw : okw p S ((j : Int) - 1) := ⟨by omega, by omega, fun h => hS _ (by omega)⟩
   refine ⟨((j : Int) - 1) :: x, ?_, by simp [g2], goes_cons.2 ⟨hw, hd, g3⟩, by rw [pumN, g4]; exact h6, fun y hy hg hp => ?_⟩
   ·rw [few_at h2 h3 h4 h5, g1]; simp
   ·cases y with
    | nil => cases hy
    | cons w y =>
      obtain ⟨k1, k2, k3⟩ := goes_cons.1 hg
      obtain ⟨q, q1, q2⟩ := least_le n _ y (by simpa using hy) k3
      have hw := k1
      unfold okw at hw
      obtain ⟨z, z1, z2⟩ := rowB_le k1 k2 q1 (p.ws.length + 1) (by omega)
      have ez : z = m := by
       have : leastB p S (n + 1) l = some z := z1
       rw [h] at this
       exact (Option.some.inj this).symm
      rw [pumN] at hp
      have hq : costW w q = m := by have := cost_mono (w := w) q2; omega
      have hok : okB p S n l m w = true := by
       unfold okB
       rw [q1]
       simp only [Bool.and_eq_true, decide_eq_true_eq]
       exact ⟨k2, hq⟩
      have hge : (j : Int) - 1 ≤ w := by
       apply Classical.byContradiction
       intro hlt
       have e : ((w + 1).toNat : Int) - 1 = w := by omega
       have := h4 (w + 1).toNat (by omega)
       rw [e, hok] at this
       cases this
      by_cases e : (j : Int) - 1 = w
      ·right
       refine ⟨e, g5 y (by simpa using hy) (by rw [e]; exact k3) ?_⟩
       rw [e] at h6
       exact cost_inj (w := w) (by omega)
      ·left; omega
end Go.Proofs.Ytkcgocmjaggdiaa
end
section
set_option linter.unusedVariables false
set_option linter.unusedSimpArgs false
namespace Go.Proofs.Ytkcgocmjaggdiaa
open Go.V Wl
theorem plan_okw {p : Pu} {l : List Int} : planB p l = true ↔ l.length = p.fl.length ∧ ∀ w ∈ l, -1 ≤ w ∧ w < p.ws.length := by
 rw [planB, Bool.and_eq_true, List.all_eq_true, decide_eq_true_eq]
 exact ⟨fun h => ⟨h.2, fun w hw => (isW_iff p w).1 (h.1 w hw)⟩, fun h => ⟨fun w hw => (isW_iff p w).2 (h.2 w hw), h.1⟩⟩
theorem every_bit {p : Pu} {w : Nat} (h : w < p.ws.length) : (everyN p).testBit w = true := by
 unfold everyN
 rw [Nat.testBit_two_pow_sub_one]
 exact decide_eq_true h
theorem can_iff {p : Pu} {u S : Nat} : canB p u S = true ↔ ∃ x, x.length = u ∧ Goes p S [] x := by
 unfold canB
 rw [Option.isSome_iff_exists]
 exact ⟨fun ⟨m, h⟩ => let ⟨x, h1, h2, _⟩ := least_att u [] m h; ⟨x, h1, h2⟩, fun ⟨x, h1, h2⟩ => let ⟨m, h, _⟩ := least_le u [] x h1 h2; ⟨m, h⟩⟩
theorem goes_take {p : Pu} {S : Nat} {x : List Int} (h : Goes p S [] x) (u : Nat) : Goes p S [] (x.take u) := by
 refine ⟨fun w hw => h.at_ w (List.mem_of_mem_take hw), fun i hi hj => ?_⟩
 simp only [List.nil_append, List.length_nil, Nat.zero_add, List.length_take] at hi hj ⊢
 have := h.dry i (by simpa using hi) (by simp; omega)
 rw [List.nil_append] at this
 have e := wat_pre p (x.take u) (x.drop u) false i (by simp; omega)
 rw [List.take_append_drop] at e
 rw [← e]
 exact this
theorem can_mono {p : Pu} {u v S : Nat} (h : canB p v S = true) (huv : u ≤ v) : canB p u S = true := by
 obtain ⟨x, h1, h2⟩ := can_iff.1 h
 exact can_iff.2 ⟨x.take u, by simp; omega, goes_take h2 u⟩
theorem can_zero (p : Pu) (S : Nat) : canB p 0 S = true := rfl
theorem unt_spec {p : Pu} : ∀ k m, canB p m (everyN p) = true → m ≤ untN p k m ∧ untN p k m ≤ m + k ∧ canB p (untN p k m) (everyN p) = true ∧ (untN p k m < m + k → canB p (untN p k m + 1) (everyN p) = false) := by
 intro k
 induction k with
 | zero => intro m h; exact ⟨Nat.le_refl _, Nat.le_refl _, h, fun h => absurd h (Nat.lt_irrefl _)⟩
 | succ k ih =>
   intro m h
   rw [untN]
   split
   ·rename_i hc
    obtain ⟨h1, h2, h3, h4⟩ := ih (m + 1) hc
    exact ⟨by omega, by omega, h3, fun h => h4 (by omega)⟩
   ·rename_i hc
    exact ⟨Nat.le_refl _, by omega, h, fun _ => by simpa using hc⟩
/-- Until when she can be kept afloat. -/
theorem unt_eq {p : Pu} (h : untE p = 0) : ∃ n : Nat, untV p = (n : Int) ∧ n ≤ p.fl.length ∧ ∀ u, u ≤ p.fl.length → (canB p u (everyN p) = true ↔ u ≤ n) := by
 obtain ⟨h1, h2, h3, h4⟩ := unt_spec (p := p) p.fl.length 0 (can_zero _ _)
 refine ⟨untN p p.fl.length 0, if_pos h, by omega, fun u hu => ⟨fun hc => ?_, fun hc => can_mono h3 hc⟩⟩
 apply Classical.byContradiction
 intro hlt
 have := h4 (by omega)
 rw [can_mono hc (by omega)] at this
 cases this
theorem few_zero {p : Pu} : fewE p = 0 ↔ errE p true = 0 ∧ canB p p.fl.length (everyN p) = true := by
 unfold fewE canB
 constructor
 ·intro h
  split at h
  ·rename_i h0
   split at h
   ·rename_i h1; exact ⟨h0, h1⟩
   ·omega
  ·rename_i h0; exact absurd h h0
 ·rintro ⟨h0, h1⟩; rw [if_pos h0, if_pos h1]
theorem few_none {p : Pu} (h0 : errE p true = 0) (h : fewE p ≠ 0) : fewE p = 4 := by
 unfold fewE at h ⊢
 rw [if_pos h0] at h ⊢
 split at h
 ·exact absurd rfl h
 ·rename_i h1; rw [if_neg h1]
/-- The plan that is told. -/
theorem few_spec {p : Pu} (h : fewE p = 0) : (fewP p).length = p.fl.length ∧ Goes p (everyN p) [] (fewP p) ∧ pumN (fewP p) = fewN p ∧ ∀ y, y.length = p.fl.length → Goes p (everyN p) [] y → fewN p ≤ pumN y ∧ (pumN y = fewN p → lexB (fewP p) y) := by
 have hc := (few_zero.1 h).2
 unfold canB at hc
 obtain ⟨m, hm⟩ := Option.isSome_iff_exists.1 hc
 have en : fewN p = m := by rw [fewN, if_pos h, hm]; rfl
 obtain ⟨x, h1, h2, h3, h4, h5⟩ := few_first (fun w hw => every_bit hw) _ _ _ hm
 have ep : fewP p = x := by rw [fewP, if_pos h, en, h1]; rfl
 rw [ep, en]
 refine ⟨h2, h3, h4, fun y hy hg => ⟨?_, h5 y hy hg⟩⟩
 obtain ⟨m', g1, g2⟩ := least_le _ _ y hy hg
 rw [hm] at g1
 cases g1
 exact g2
/-- What is pumped out in an hour, if watches are so strong. -/
def trS (p : Pu) (l : List Int) (st : Nat → Int) (i : Nat) : Int :=
 if l.getD i (-1) < 0 then 0 else max 0 (st (l.getD i (-1)).toNat - (p.wt (l.getD i (-1)).toNat).ti * (wornV p l (l.getD i (-1)).toNat i : Nat))
/-- The water after so many hours. -/
def trV (p : Pu) (l : List Int) (w : Int) (f st : Nat → Int) : Nat → Int
 | 0 => w
 | i + 1 => max 0 (trV p l w f st i + f i - trS p l st i)
def truL (p : Pu) (l : List Int) (w : Int) (f st : Nat → Int) (n : Nat) : List Int := (List.range n).map fun i => trV p l w f st (i + 1)
end Go.Proofs.Ytkcgocmjaggdiaa
end
section
set_option linter.unusedVariables false
set_option linter.unusedSimpArgs false
namespace Go.Proofs.Ytkcgocmjaggdiaa
open Go.V Wl
structure EasW (w v : Wt) : Prop where
 lo : w.lo ≤ v.lo
 hi : w.hi ≤ v.hi
 ti : v.ti ≤ w.ti
 re : v.re ≤ w.re
structure Eas (p x : Pu) : Prop where
 ho : x.ho = p.ho
 nW : x.ws.length = p.ws.length
 nF : x.fl.length = p.fl.length
 ca : p.ca ≤ x.ca
 f : ∀ i, i < p.fl.length → (x.fl.getD i (0, 0)).1 ≤ (p.fl.getD i (0, 0)).1 ∧ (x.fl.getD i (0, 0)).2 ≤ (p.fl.getD i (0, 0)).2
 w : ∀ i, i < p.ws.length → EasW (p.wt i) (x.wt i)
theorem goes_rng {p : Pu} {S : Nat} {x : List Int} (h : Goes p S [] x) {i : Nat} (hi : i < x.length) : -1 ≤ x.getD i (-1) ∧ x.getD i (-1) < p.ws.length := by
 have := h.at_ _ (mem_getD x i (-1) hi)
 exact ⟨this.1, this.2.1⟩
theorem plan_rng {p : Pu} {l : List Int} (h : planB p l = true) : l.length = p.fl.length ∧ ∀ i, i < p.fl.length → -1 ≤ l.getD i (-1) ∧ l.getD i (-1) < p.ws.length := by
 have := planB_iff.1 h
 exact ⟨this.1, fun i hi => this.2 i (by omega)⟩
end Go.Proofs.Ytkcgocmjaggdiaa
end
section
set_option linter.unusedVariables false
set_option linter.unusedSimpArgs false
namespace Go.Proofs.Ytkcgocmjaggdiaa
open Go.V Wl
structure SpI (a0 : Nat) (s : List (Int × Int)) (z : Nat) : Prop where
 ne : 0 < s.length
 fst : (s.getD 0 (0, 0)).1 = a0
 lst : (s.getD (s.length - 1) (0, 0)).2 = z
 all : ∀ r ∈ s, (a0 : Int) ≤ r.1 ∧ r.1 ≤ r.2 ∧ r.2 ≤ z
end Go.Proofs.Ytkcgocmjaggdiaa
end
section
set_option linter.unusedVariables false
set_option linter.unusedSimpArgs false
set_option maxHeartbeats 4000000
set_option maxRecDepth 100000
namespace Go.Proofs.Ytkcgocmjaggdiaa
open Go.V Wl
theorem fine_tri (p : Pu) (H : Hp) : PTri Try.prog (fnA 24) [p.av] H (boo (!farB p 0 && decide (Ok p))) := by
 refine tri_v0 (fun _ => false) Try.func24 (by kernel_rfl) rfl (by simp only [List.length_append, List.length_cons, List.length_nil, Try.ntmps24]; decide) ?_
 simp only [vsAll, loadA, loadRow, partA, partOk, boxA, boxZ, okAll, stAll, opsA, opA, dstOk, nilSliceOp, argFr, Nat.reduceAdd, Nat.reduceLT, Nat.reduceEqDiff, ↓reduceIte, eq_self, wtAll, Try.ntmps24]
 refine callK_pure (far0_tri p _) ?_
 simp only [vsAll, unA, loadA, loadRow, partA, partOk, opA, guardV, dstOk, Nat.reduceLT, Nat.reduceEqDiff, ↓reduceIte, implies_true, eq_self, wtAll]
 refine gcall (boo (decide (Ok p))) (fun g => ⟨by simp only [vsAll, opA], by simp only [vsAll, okAll, opsA, opA, ↓reduceIte, eq_self, g], rpump_tri p _ (far_near (by simpa using g)).1⟩) ?_
 simp only [vsAll, pickA, opA, dstOk, nilSliceOp, resA, retA.eq_1, Nat.reduceLT, Nat.reduceEqDiff, ↓reduceIte, implies_true, eq_self, Try.results24]
theorem fine_ok {p : Pu} (h : (!farB p 0 && decide (Ok p)) = true) : Ok p ∧ Near p := by
 rw [Bool.and_eq_true, decide_eq_true_eq] at h
 exact ⟨h.2, h.2.near⟩
def madeR (p : Pu) (H : Hp) : Res → Hp → Prop := fun r H' => H' = H ∧ ∃ l, planB p l = true ∧ r = .ret (intsAV l)
theorem made_tri (p : Pu) (N : Nat) (b : Nat → Int) (H : Hp) (k : Ok p) (hN : N < 2 ^ 63) (hb : ∀ i, i < N → 0 ≤ b i ∧ b i ≤ 255) : Tri Try.prog (fnA 25) [p.av, .rsl N 1 (byF b)] H (madeR p H) := by
 have nF := k.nF
 have nW := k.nW
 refine tri_vs (m := mset [5]) Try.func25 (by kernel_rfl) rfl (by simp only [List.length_append, List.length_cons, List.length_nil, Try.ntmps25]; decide) ?_
 simp only [vsAll, loadA, loadRow, partA, partOk, fieldAddrA, lenA, boxA, boxZ, opA, dstOk, nilA, nilSliceOp, argFr, Nat.reduceAdd, Nat.reduceLT, Nat.reduceEqDiff, Nat.reduceBEq, Int.reduceNeg, ↓reduceIte, eq_self, wtAll, Try.ntmps25]
 intro il hh_il; (try simp only [Hp.set_none, ite_none] at hh_il)
 refine vs_loop (σ := Nat × List Int) (fun y => y.1 ≤ p.fl.length ∧ y.2.length = y.1 ∧ ∀ w ∈ y.2, -1 ≤ w ∧ w < p.ws.length) (fun y => [(1, .rsl N 1 (byF b)), (2, pptr p), (5, .sl il 1 y.1), (10, i64 p.fl.length), (11, i64 y.1)])
  (fun y => H.set il (.row 1 y.1 (intF y.2))) (fun y => p.fl.length - y.1) (0, []) ⟨Nat.zero_le _, rfl, fun x hx => by cases hx⟩ ?_ ?_ fun y hy => ?_
 ·simp only [vsAll, argFr, Nat.reduceEqDiff, ↓reduceIte, eq_self, Int.natCast_zero]
 ·exact HSub.set HSub_rfl (row_ext fun q hq => absurd hq (Nat.not_lt_zero q))
 ·obtain ⟨i, l⟩ := y
  obtain ⟨hi, hll, hl⟩ := hy
  simp only [] at hi hll hl
  have happ : ∀ w : Int, appF i 1 (intF l) (fun q => [[i64 w]].getD q []) = intF (l ++ [w]) := fun w => app_ints' hll w _ rfl
  simp only [vsAll, binA, binLitA, intA, opA, dstOk, Nat.reduceLT, Nat.reduceEqDiff, Int.reduceNeg, ↓reduceIte, eq_self]
  refine condD (fun hd => ?_) (fun hd => ?_)
  ·have his : i < p.fl.length := by ((try clear hh_il); omega)
   simp only [vsAll, binA, binLitA, intA, lenA, opA, dstOk, nilSliceOp, Nat.reduceLT, Nat.reduceEqDiff, Nat.reduceBEq, Int.reduceNeg, ↓reduceIte, eq_self, wtAll]
   refine condV (fun hc2 => ?_) (fun hc2 => ?_)
   ·have hN0 : 0 < N := by
     have := of_decide_eq_true hc2
     ((try clear hh_il); omega)
    refine vs_draw2 [0, 0, 0, 0, 0, 0, 0, 0, 0, 0, 0, 0, 0, 0, 0] [] [0, 1, 2, 3, 4, 5, 6, 7, 8, 9, 10, 11, 12, 13, 14] (by decide +kernel) ?_
    simp only [vsAll, binA, binLitA, intA, loadA, loadRow, partA, partOk, fieldAddrA, indexAddrA, lenA, cellA, cellsA, okParts, buildSliceA, partIdx, elemsA, lensA, convA, partsA, partsOk, opA, appendA, dstOk, nilSliceOp, Nat.reduceMul, Nat.reduceLT, Nat.reduceLeDiff, Nat.reduceEqDiff, Nat.reduceBEq, Int.reduceNeg, ↓reduceIte, eq_self, ne_eq, wtAll, byF_at]
    have hm0 : 0 ≤ (i : Int).tmod N := Int.tmod_nonneg _ (by ((try clear hh_il); omega))
    have hm1 : (i : Int).tmod N < N := Int.tmod_lt_of_pos _ (by ((try clear hh_il); omega))
    generalize (i : Int).tmod N = r at hm0 hm1 ⊢
    have hbr := hb r.toNat (by ((try clear hh_il); omega))
    generalize b r.toNat = br at hbr ⊢
    have hq0 : 0 ≤ br.tmod ((p.ws.length : Int) + 1) := Int.tmod_nonneg _ (by ((try clear hh_il); omega))
    have hq1 : br.tmod ((p.ws.length : Int) + 1) < (p.ws.length : Int) + 1 := Int.tmod_lt_of_pos _ (by ((try clear hh_il); omega))
    generalize br.tmod ((p.ws.length : Int) + 1) = q at hq0 hq1 ⊢
    refine ⟨by ((try clear hh_il); omega), ⟨hm0, hm1⟩, by ((try clear hh_il); omega), by simp only [InR_i64]; ((try clear hh_il); omega), by simp only [InR_i64]; ((try clear hh_il); omega), by ((try clear hh_il); omega), by simp only [InR_i64]; ((try clear hh_il); omega), fun q hq => by (have : q = 0 := by ((try clear hh_il); omega)); subst this; exact ⟨rfl, trivial⟩, by ((try clear hh_il); omega), by ((try clear hh_il); omega), by simp only [InR_i64]; ((try clear hh_il); omega), loop_next (i + 1, l ++ [q - 1]) ⟨by simp only []; ((try clear hh_il); omega), by simp [hll], fun w hw => ?_⟩ (by simp only []; ((try clear hh_il); omega)) ?_ ?_⟩
    ·rcases List.mem_append.1 hw with h | h
     ·exact hl w h
     ·rw [List.mem_singleton] at h
      subst h
      ((try clear hh_il); omega)
    ·simp only [vsAll, Nat.reduceEqDiff, Int.reduceNeg, ↓reduceIte, eq_self, Int.natCast_add, Int.natCast_one]
    ·rw [happ]
     (repeat (first | exact HSub_rfl | refine HSub_put_eq (by simp only [vsAll, ↓reduceIte, eq_self]) ?_ | refine HSub_drop2 (by simp only [eq_self, hh_il]) ?_ | refine HSub_keep_eq (by simp only [vsAll, binA, binLitA, intA, aggA, aggV, boolA, nilA2, isConst, unA, loadA, loadRow, partA, partOk, fieldAddrA, indexAddrA, indexA, fieldA, extractA, lenA, nilCheckA, boxA, boxZ, cellA, cellsA, fillA, okParts, buildSliceA, buildMutA, makeSliceA, partIdx, elemsA, lensA, ifaceA, convA, mmA, pickA, okAll, stAll, opsA, partsA, partsOk, opA, allocA, boxMutA, newCells, okCells, storeObj, appendA, guardV, taA, nM, mapUpA, lookA, sliceA, sliceS, boundsA, opO, okO, copyA, dstOk, nilA, quietOk, nilSliceOp, deferV, panA, resA, argFr, retA.eq_1, retA.eq_2, Nat.reduceAdd, Nat.reduceSub, Nat.reduceMul, Nat.reduceLT, Nat.reduceLeDiff, Nat.reduceEqDiff, Nat.reduceBEq, Int.reduceAdd, Int.reduceSub, Int.reduceMul, Int.reduceNeg, Int.reduceLE, Int.reduceLT, Int.reduceEq, Int.reduceNe, Int.reduceToNat, ↓reduceIte, reduceCtorEq, implies_true, forall_const, eq_self, ne_eq, wtAll, Try.ntmps25, Try.results25, hh_il]) ?_))
   ·simp only [vsAll, binA, binLitA, intA, cellA, cellsA, okParts, buildSliceA, partIdx, elemsA, lensA, partsA, partsOk, opA, appendA, dstOk, nilSliceOp, Nat.reduceMul, Nat.reduceLT, Nat.reduceLeDiff, Nat.reduceEqDiff, Nat.reduceBEq, Int.reduceNeg, ↓reduceIte, eq_self, wtAll]
    refine ⟨fun q hq => by (have : q = 0 := by ((try clear hh_il); omega)); subst this; exact ⟨rfl, trivial⟩, by ((try clear hh_il); omega), by ((try clear hh_il); omega), by simp only [InR_i64]; ((try clear hh_il); omega), loop_next (i + 1, l ++ [-1]) ⟨by simp only []; ((try clear hh_il); omega), by simp [hll], fun w hw => ?_⟩ (by simp only []; ((try clear hh_il); omega)) ?_ ?_⟩
    ·rcases List.mem_append.1 hw with h | h
     ·exact hl w h
     ·rw [List.mem_singleton] at h
      subst h
      ((try clear hh_il); omega)
    ·simp only [vsAll, Nat.reduceEqDiff, Int.reduceNeg, ↓reduceIte, eq_self, Int.natCast_add, Int.natCast_one]
    ·rw [happ]
     (repeat (first | exact HSub_rfl | refine HSub_put_eq (by simp only [vsAll, Int.reduceNeg, ↓reduceIte, eq_self]) ?_ | refine HSub_drop2 (by simp only [eq_self, hh_il]) ?_ | refine HSub_keep_eq (by simp only [vsAll, binA, binLitA, intA, aggA, aggV, boolA, nilA2, isConst, unA, loadA, loadRow, partA, partOk, fieldAddrA, indexAddrA, indexA, fieldA, extractA, lenA, nilCheckA, boxA, boxZ, cellA, cellsA, fillA, okParts, buildSliceA, buildMutA, makeSliceA, partIdx, elemsA, lensA, ifaceA, convA, mmA, pickA, okAll, stAll, opsA, partsA, partsOk, opA, allocA, boxMutA, newCells, okCells, storeObj, appendA, guardV, taA, nM, mapUpA, lookA, sliceA, sliceS, boundsA, opO, okO, copyA, dstOk, nilA, quietOk, nilSliceOp, deferV, panA, resA, argFr, retA.eq_1, retA.eq_2, Nat.reduceAdd, Nat.reduceSub, Nat.reduceMul, Nat.reduceLT, Nat.reduceLeDiff, Nat.reduceEqDiff, Nat.reduceBEq, Int.reduceAdd, Int.reduceSub, Int.reduceMul, Int.reduceNeg, Int.reduceLE, Int.reduceLT, Int.reduceEq, Int.reduceNe, Int.reduceToNat, ↓reduceIte, reduceCtorEq, implies_true, forall_const, eq_self, ne_eq, wtAll, Try.ntmps25, Try.results25, hh_il]) ?_))
  ·have ei : i = p.fl.length := by ((try clear hh_il); omega)
   subst ei
   simp only [vsAll, opA, dstOk, nilSliceOp, Nat.reduceLT, Nat.reduceEqDiff, Nat.reduceBEq, Int.reduceNeg, ↓reduceIte, eq_self]
   rw [← hll]
   refine ret_freeze (by rw [Try.results25]) rfl (Hp.set_same _ _ _) ?_
   rw [set_del hh_il]
   exact ⟨H, HSub_rfl, rfl, l, plan_okw.2 ⟨hll, hl⟩, rfl⟩
def wnF (p : Pu) (l : List Int) (i q : Nat) : Nat → List AV := fun w => [i64 ((doneW (p.wt w).re l w (if w < q then i + 1 else i)).1 : Nat)]
def idF (p : Pu) (l : List Int) (i q : Nat) : Nat → List AV := fun w => [i64 ((doneW (p.wt w).re l w (if w < q then i + 1 else i)).2 : Nat)]
structure TruI (p : Pu) (H : Hp) (ids : Nat × Nat × Nat) : Prop where
 a : H ids.1 = none
 b : H ids.2.1 = none
 c : H ids.2.2 = none
 ab : ¬ ids.1 = ids.2.1
 ac : ¬ ids.1 = ids.2.2
 bc : ¬ ids.2.1 = ids.2.2
end Go.Proofs.Ytkcgocmjaggdiaa
end
section
set_option linter.unusedVariables false
set_option linter.unusedSimpArgs false
namespace Go.Proofs.Ytkcgocmjaggdiaa
open Go.V Wl
def firP (p : Pu) (n : Nat) : Pu := { p with fl := p.fl.take n }
theorem bool_ext {a b : Bool} (h : a = true ↔ b = true) : a = b := by
 cases a <;> cases b <;> simp_all
theorem goes_sub {p : Pu} {S T : Nat} {l x : List Int} (h : ∀ w, w < p.ws.length → S.testBit w = true → T.testBit w = true) (g : Goes p S l x) : Goes p T l x :=
 ⟨fun w hw => ⟨(g.at_ w hw).1, (g.at_ w hw).2.1, fun h0 => h _ (by have := (g.at_ w hw).2.1; omega) ((g.at_ w hw).2.2 h0)⟩, g.dry⟩
theorem can_sub {p : Pu} {u S T : Nat} (h : ∀ w, w < p.ws.length → S.testBit w = true → T.testBit w = true) (g : canB p u S = true) : canB p u T = true := by
 obtain ⟨x, h1, h2⟩ := can_iff.1 g
 exact can_iff.2 ⟨x, h1, goes_sub h h2⟩
def onlW (S : Nat) (i : Nat) (w : Wt) : Wt := if S.testBit i = true then w else { w with lo := 0, hi := 0 }
def onlP (p : Pu) (S : Nat) : Pu := { p with ws := (List.range p.ws.length).map fun i => onlW S i (p.wt i) }
/-- The same list with those watches alone that are in the set. -/
def inS (S : Nat) (w : Int) : Int := if 0 ≤ w ∧ S.testBit w.toNat = true then w else -1
theorem bit_le {S n : Nat} (hn : n ≤ 3) (h : S < 2 ^ n) : bitN S ≤ n := by
 have : n = 0 ∨ n = 1 ∨ n = 2 ∨ n = 3 := by omega
 unfold bitN
 rcases this with rfl | rfl | rfl | rfl <;> simp at h <;> omega
theorem findSome_first {α : Type} {f : Nat → Option α} {n : Nat} {a : α} (h : (List.range n).findSome? f = some a) : ∃ m, m < n ∧ f m = some a ∧ ∀ i, i < m → f i = none := by
 induction n with
 | zero => simp at h
 | succ n ih =>
   rw [List.range_succ, List.findSome?_append] at h
   cases h1 : (List.range n).findSome? f with
   | some b =>
     rw [h1] at h
     have hb : b = a := by simpa using h
     subst hb
     obtain ⟨m, g1, g2, g3⟩ := ih h1
     exact ⟨m, by omega, g2, g3⟩
   | none =>
     rw [h1] at h
     simp only [List.findSome?_cons, List.findSome?_nil, Option.none_or] at h
     refine ⟨n, by omega, ?_, fun i hi => List.findSome?_eq_none_iff.1 h1 i (List.mem_range.2 hi)⟩
     cases hf : f n with
     | none => rw [hf] at h; cases h
     | some b => rw [hf] at h; simpa using h
theorem wchO_some {p : Pu} {S : Nat} (k : Ok p) (h : wchO p = some S) : S < 2 ^ p.ws.length ∧ canB p p.fl.length S = true ∧ ∀ T, T < 2 ^ p.ws.length → canB p p.fl.length T = true → bitN S < bitN T ∨ bitN S = bitN T ∧ S ≤ T := by
 obtain ⟨m, h1, h2, h3⟩ := findSome_first h
 unfold setsO at h2
 rw [List.find?_range_eq_some] at h2
 obtain ⟨g1, g2, g3⟩ := h2
 unfold setB at g1
 rw [Bool.and_eq_true, decide_eq_true_eq] at g1
 refine ⟨List.mem_range.1 g2, g1.2, fun T hT hc => ?_⟩
 by_cases e1 : bitN T < m
 ·have := h3 _ e1
  unfold setsO at this
  rw [List.find?_eq_none] at this
  refine absurd ?_ (this T (List.mem_range.2 hT))
  unfold setB
  rw [hc]; simp
 ·by_cases e2 : bitN T = m
  ·right
   refine ⟨by omega, ?_⟩
   apply Classical.byContradiction
   intro hlt
   have := g3 T (by omega)
   unfold setB at this
   rw [hc, e2] at this
   simp at this
  ·left; omega
theorem wchO_none {p : Pu} (k : Ok p) (h : wchO p = none) {T : Nat} (hT : T < 2 ^ p.ws.length) : canB p p.fl.length T = false := by
 unfold wchO at h
 rw [List.findSome?_eq_none_iff] at h
 have := h (bitN T) (List.mem_range.2 (by have := bit_le k.nW hT; omega))
 unfold setsO at this
 rw [List.find?_eq_none] at this
 have := this T (List.mem_range.2 hT)
 unfold setB at this
 simpa using this
theorem every_in (p : Pu) : everyN p < 2 ^ p.ws.length := by
 have : 0 < 2 ^ p.ws.length := Nat.pow_pos (by decide)
 unfold everyN; omega
/-- The watches that are told. -/
theorem wch_spec {p : Pu} (k : Ok p) : wchE p = fewE p ∧ (wchE p = 0 → ∃ S : Nat, wchV p = (S : Int) ∧ S < 2 ^ p.ws.length ∧ canB p p.fl.length S = true ∧ ∀ T, T < 2 ^ p.ws.length → canB p p.fl.length T = true → bitN S < bitN T ∨ bitN S = bitN T ∧ S ≤ T) := by
 by_cases h0 : errE p true = 0
 ·cases hO : wchO p with
  | none =>
    have e1 : wchE p = 4 := by rw [wchE, if_pos h0, hO]; rfl
    have e2 : fewE p = 4 := few_none h0 fun hz => by
     have := (few_zero.1 hz).2
     rw [wchO_none k hO (every_in p)] at this
     cases this
    rw [e1, e2]
    exact ⟨rfl, fun h => by cases h⟩
  | some S =>
    have e1 : wchE p = 0 := by rw [wchE, if_pos h0, hO]; rfl
    obtain ⟨g1, g2, g3⟩ := wchO_some k hO
    have e2 : fewE p = 0 := few_zero.2 ⟨h0, can_sub (fun w hw _ => every_bit hw) g2⟩
    rw [e1, e2]
    exact ⟨rfl, fun _ => ⟨S, by rw [wchV, if_pos e1, hO]; rfl, g1, g2, g3⟩⟩
 ·have e1 : wchE p = errE p true := if_neg h0
  have e2 : fewE p = errE p true := if_neg h0
  rw [e1, e2]
  exact ⟨rfl, fun h => absurd h h0⟩
end Go.Proofs.Ytkcgocmjaggdiaa
end
section
set_option linter.unusedVariables false
set_option linter.unusedSimpArgs false
set_option maxHeartbeats 4000000
set_option maxRecDepth 100000
namespace Go.Proofs.Ytkcgocmjaggdiaa
open Go.V Wl
def endV (p : Pu) (b : Bool) : Int := if errE p true = 0 then startV p b else 0
def safF (p : Pu) (l : List Int) : Bool := decide (playE p l = 0) && decide (floV p l = 2)
end Go.Proofs.Ytkcgocmjaggdiaa
end
section
set_option linter.unusedVariables false
set_option linter.unusedSimpArgs false
set_option maxHeartbeats 4000000
set_option maxRecDepth 100000
namespace Go.Proofs.Ytkcgocmjaggdiaa
open Go.V Wl
theorem playE_of {p : Pu} {l : List Int} (h : planB p l = true) : playE p l = errE p true := by unfold playE; rw [h]
end Go.Proofs.Ytkcgocmjaggdiaa
end
section
set_option linter.unusedVariables false
set_option linter.unusedSimpArgs false
set_option maxHeartbeats 4000000
set_option maxRecDepth 100000
namespace Go.Proofs.Ytkcgocmjaggdiaa
open Go.V Wl
theorem take_snoc {l : List Int} {i : Nat} (h : i < l.length) : l.take (i + 1) = l.take i ++ [l.getD i 0] := by
 rw [List.take_succ_eq_append_getElem h]
 simp [List.getD_eq_getElem?_getD, h]
end Go.Proofs.Ytkcgocmjaggdiaa
end
section
set_option linter.unusedVariables false
set_option linter.unusedSimpArgs false
set_option maxHeartbeats 4000000
set_option maxRecDepth 100000
namespace Go.Proofs.Ytkcgocmjaggdiaa
open Go.V Wl
theorem rsize_tri (S : Nat) (H : Hp) (hS : S < 8) : PTri Try.prog (fnA 40) [i64 S] H (i64 (bitN S : Nat)) := by
 refine tri_v0 (fun _ => false) Try.func40 (by kernel_rfl) rfl (by simp only [List.length_append, List.length_cons, List.length_nil, Try.ntmps40]; decide) ?_
 simp only [vsAll, opA, dstOk, nilSliceOp, Nat.reduceLT, eq_self, Try.ntmps40]
 refine vs_loop (σ := Nat × Nat) (fun y => y.1 < 8 ∧ bitN y.1 + y.2 = bitN S) (fun y => [(0, i64 y.1), (3, i64 y.2)]) (fun _ => H) (fun y => y.1) (S, 0) ⟨hS, rfl⟩ ?_ HSub_rfl fun y hy => ?_
 ·simp only [vsAll, argFr, ↓reduceIte, reduceCtorEq, eq_self, Int.natCast_zero]
 ·obtain ⟨a, c⟩ := y
  obtain ⟨h1, h2⟩ := hy
  simp only [] at h1 h2
  have hb : bitN S ≤ 3 := by unfold bitN; omega
  simp only [vsAll, binA, binLitA, intA, opA, dstOk, Nat.reduceLT, ↓reduceIte, eq_self]
  refine condD (fun hd => ?_) (fun hd => ?_)
  ·have e1 : (a : Int).tmod 2 = ((a % 2 : Nat) : Int) := by rw [Int.tmod_eq_emod_of_nonneg (by omega)]; omega
   have e2 : (a : Int).tdiv 2 = ((a / 2 : Nat) : Int) := by rw [Int.tdiv_eq_ediv_of_nonneg (by omega)]; omega
   have e3 : bitN (a / 2) + (c + a % 2) = bitN S := by rw [← h2]; unfold bitN; omega
   simp only [vsAll, binA, binLitA, intA, opA, dstOk, nilSliceOp, Nat.reduceLT, Nat.reduceEqDiff, Int.reduceEq, ↓reduceIte, reduceCtorEq, eq_self, ne_eq, e1, e2]
   refine ⟨by simp only [InR_i64]; omega, by simp only [InR_i64]; omega, loop_next (a / 2, c + a % 2) ⟨by simp only []; omega, e3⟩ (by simp only []; omega) ?_ HSub_rfl⟩
   simp only [vsAll, ↓reduceIte, reduceCtorEq, eq_self, Int.natCast_add]
  ·have ea : a = 0 := by omega
   subst ea
   have : c = bitN S := by rw [← h2]; simp [bitN]
   subst this
   simp only [vsAll, opA, dstOk, nilSliceOp, resA, retA.eq_1, Nat.reduceLT, Nat.reduceEqDiff, ↓reduceIte, reduceCtorEq, eq_self, Try.results40]
def owF (p : Pu) (S i : Nat) : Nat → List AV := fun j => (if j < i then onlW S j (p.wt j) else p.wt j).cs
abbrev onC (p : Pu) (iw : Nat) : List AV := [spansAV p.fl, i64 p.ca, .sl iw 4 p.ws.length, flAV p.ho.n p.ho.fl, sdAV p.ho.m p.ho.sd]
end Go.Proofs.Ytkcgocmjaggdiaa
end
section
set_option linter.unusedVariables false
set_option linter.unusedSimpArgs false
set_option maxHeartbeats 4000000
set_option maxRecDepth 100000
namespace Go.Proofs.Ytkcgocmjaggdiaa
open Go.V Wl
/-- The first of these numbers that is too much, as the laws look for it. -/
def lstI (ca : Int) (g : Nat → Int) : Nat → Int
 | 0 => -1
 | n + 1 => if lstI ca g n < 0 ∧ ca < g n then (n : Int) else lstI ca g n
def drawR (H : Hp) (ia : Nat) (a : Nat) (lo hi : Int) : Res → Hp → Prop := fun r H' => H' = H.set ia (.box 1 1 fun _ => [i64 ((a + 1 : Nat) : Int)]) ∧ ∃ n, lo ≤ n ∧ n ≤ hi ∧ r = .ret (i64 n)
abbrev drF (N : Nat) (b : Nat → Int) (ia : Nat) : AV := .func (.func 27) [] [.ref ia 0 1 0 0, .rptr 1 1 (fun _ => [.rsl N 1 (wyF b)]) 0 0]
end Go.Proofs.Ytkcgocmjaggdiaa
end
section
set_option linter.unusedVariables false
set_option linter.unusedSimpArgs false
set_option maxHeartbeats 4000000
set_option maxRecDepth 100000
namespace Go.Proofs.Ytkcgocmjaggdiaa
open Go.V Wl
def anyI (ca : Int) (g : Nat → Int) (n : Nat) : Bool := (List.range n).any fun i => decide (ca < g i)
theorem any_iff (ca : Int) (g : Nat → Int) (n : Nat) : anyI ca g n = true ↔ ∃ i, i < n ∧ ca < g i := by simp [anyI]
def floL (l : List (Int × Int)) (b : Bool) : List Int := l.map fun x => if b = true then x.1 else x.2
def strL (l : List Wt) (b : Bool) : List Int := l.map fun x => if b = true then x.hi else x.lo
end Go.Proofs.Ytkcgocmjaggdiaa
end
section
set_option linter.unusedVariables false
set_option linter.unusedSimpArgs false
namespace Go.Proofs.Ytkcgocmjaggdiaa
open Go.V Wl
/-- Less comes in, in one hour. -/
def mfP (p : Pu) (i : Nat) (x : Int × Int) : Pu := { p with fl := p.fl.set i x }
/-- She can carry more. -/
def mcP (p : Pu) (c : Int) : Pu := { p with ca := c }
/-- One watch is better. -/
def mwP (p : Pu) (i : Nat) (w : Wt) : Pu := { p with ws := p.ws.set i w }
end Go.Proofs.Ytkcgocmjaggdiaa
end
section
set_option linter.unusedVariables false
set_option linter.unusedSimpArgs false
set_option maxHeartbeats 4000000
set_option maxRecDepth 100000
namespace Go.Proofs.Ytkcgocmjaggdiaa
open Go.V Wl
structure MoreA (H : Hp) (y : Nat × Nat × Nat) : Prop where
 h1 : H y.1 = none
 h2 : H y.2.1 = none
 h3 : H y.2.2 = none
 n12 : ¬ y.1 = y.2.1
 n13 : ¬ y.1 = y.2.2
 n23 : ¬ y.2.1 = y.2.2
abbrev mxC (x : Pu) (a b : Nat) : List AV := [.sl a 2 x.fl.length, i64 x.ca, .sl b 4 x.ws.length, flAV x.ho.n x.ho.fl, sdAV x.ho.m x.ho.sd]
/-- What is known of the plan and of what is told of it. -/
structure MoreB (p : Pu) (l : List Int) : Prop where
 k : Ok p
 he : errE p true = 0
 hl : planB p l = true
end Go.Proofs.Ytkcgocmjaggdiaa
end
section
set_option linter.unusedVariables false
set_option linter.unusedSimpArgs false
namespace Go.Proofs.Ytkcgocmjaggdiaa
open Go.V Wl
def revP (p : Pu) : Pu := { p with ws := p.ws.reverse }
def revW (n : Nat) (w : Int) : Int := if 0 ≤ w then (n : Int) - 1 - w else w
theorem rev_len (p : Pu) : (revP p).ws.length = p.ws.length := by simp [revP]
theorem rev_rev (p : Pu) : revP (revP p) = p := by simp [revP]
theorem rev_wt (p : Pu) {i : Nat} (h : i < p.ws.length) : (revP p).wt i = p.wt (p.ws.length - 1 - i) := by
 show p.ws.reverse.getD i wt0 = p.ws.getD (p.ws.length - 1 - i) wt0
 rw [List.getD_eq_getElem?_getD, List.getD_eq_getElem?_getD, List.getElem?_reverse h]
theorem rev_ok {p : Pu} (k : Ok p) : Ok (revP p) :=
 ⟨k.ho, k.nF, k.ca, by rw [rev_len]; exact k.nW, k.f, fun i hi => by
  rw [rev_len] at hi
  have e : (revP p).ws.getD i wt0 = p.wt (p.ws.length - 1 - i) := rev_wt p hi
  rw [e]
  exact k.w (p.ws.length - 1 - i) (by omega)⟩
theorem rev_at (n : Nat) (x : List Int) (i : Nat) : (x.map (revW n)).getD i (-1) = revW n (x.getD i (-1)) := by
 rw [List.getD_eq_getElem?_getD, List.getD_eq_getElem?_getD, List.getElem?_map]
 cases x[i]? <;> rfl
theorem rev_done (re : Int) (n : Nat) (x : List Int) {v : Nat} (hv : v < n) : ∀ i, (∀ j, j < i → -1 ≤ x.getD j (-1)) → doneW re (x.map (revW n)) ((n - 1 - v : Nat) : Int) i = doneW re x v i
 | 0, _ => rfl
 | i + 1, h => by
   have hx := h i (Nat.lt_succ_self i)
   simp only [doneW]
   rw [rev_done re n x hv i (fun j hj => h j (by omega)), rev_at]
   have : decide (revW n (x.getD i (-1)) = ((n - 1 - v : Nat) : Int)) = decide (x.getD i (-1) = (v : Int)) := by
    refine decide_eq_decide.2 ?_
    unfold revW
    split <;> omega
   rw [this]
theorem rev_str {p : Pu} (x : List Int) {i : Nat} (b : Bool) (hx : ∀ j, j ≤ i → -1 ≤ x.getD j (-1) ∧ x.getD j (-1) < p.ws.length) : strV (revP p) (x.map (revW p.ws.length)) i b = strV p x i b := by
 have hi := hx i (Nat.le_refl i)
 have e1 := rev_at p.ws.length x i
 unfold strV
 rw [e1]
 by_cases h0 : x.getD i (-1) < 0
 ·have e : revW p.ws.length (x.getD i (-1)) = x.getD i (-1) := if_neg (by omega)
  rw [e, if_pos h0, if_pos h0]
 ·obtain ⟨v, hv⟩ : ∃ v : Nat, x.getD i (-1) = (v : Int) := ⟨(x.getD i (-1)).toNat, by omega⟩
  have hvl : v < p.ws.length := by omega
  have e : revW p.ws.length (x.getD i (-1)) = ((p.ws.length - 1 - v : Nat) : Int) := by rw [hv]; unfold revW; rw [if_pos (by omega)]; omega
  rw [e, hv, if_neg (by omega), if_neg (by omega), Int.toNat_natCast, Int.toNat_natCast]
  have ew : (revP p).wt (p.ws.length - 1 - v) = p.wt v := by rw [rev_wt p (by omega)]; congr 1; omega
  have ef : freshV (revP p) (p.ws.length - 1 - v) b = freshV p v b := by unfold freshV; rw [ew]
  have en : wornV (revP p) (x.map (revW p.ws.length)) (p.ws.length - 1 - v) i = wornV p x v i := by
   unfold wornV
   rw [ew, rev_done _ _ _ hvl i fun j hj => (hx j (by omega)).1]
  rw [ew, ef, en]
theorem rev_wat {p : Pu} (x : List Int) (b : Bool) {n : Nat} (hx : ∀ j, j < n → -1 ≤ x.getD j (-1) ∧ x.getD j (-1) < p.ws.length) : ∀ i, i ≤ n → watV (revP p) (x.map (revW p.ws.length)) b i = watV p x b i
 | 0, _ => rfl
 | i + 1, h => by
   simp only [watV]
   rw [rev_wat x b hx i (by omega), rev_str x b fun j hj => hx j (by omega)]
   rfl
theorem rev_okw {p : Pu} {S T : Nat} (hT : ∀ i, i < p.ws.length → S.testBit i = true → T.testBit (p.ws.length - 1 - i) = true) {w : Int} (h : okw p S w) : okw (revP p) T (revW p.ws.length w) := by
 obtain ⟨h1, h2, h3⟩ := h
 unfold revW
 by_cases h0 : 0 ≤ w
 ·rw [if_pos h0]
  refine ⟨by omega, by rw [rev_len]; omega, fun _ => ?_⟩
  have := hT w.toNat (by omega) (h3 h0)
  rwa [show ((p.ws.length : Int) - 1 - w).toNat = p.ws.length - 1 - w.toNat by omega]
 ·rw [if_neg h0]
  exact ⟨h1, by rw [rev_len]; exact h2, fun h => absurd h h0⟩
theorem rev_goes {p : Pu} {S T : Nat} (hT : ∀ i, i < p.ws.length → S.testBit i = true → T.testBit (p.ws.length - 1 - i) = true) {x : List Int} (g : Goes p S [] x) : Goes (revP p) T [] (x.map (revW p.ws.length)) := by
 refine ⟨fun w hw => ?_, fun i hi hj => ?_⟩
 ·obtain ⟨v, hv, rfl⟩ := List.mem_map.1 hw
  exact rev_okw hT (g.at_ v hv)
 ·have := g.dry i hi (by simpa using hj)
  rw [List.nil_append] at this ⊢
  rw [rev_wat x false (fun j hj => goes_rng g hj) i (by simpa using hj)]
  exact this
theorem rev_can1 {p : Pu} {S T u : Nat} (hT : ∀ i, i < p.ws.length → S.testBit i = true → T.testBit (p.ws.length - 1 - i) = true) (h : canB p u S = true) : canB (revP p) u T = true := by
 obtain ⟨x, h1, h2⟩ := can_iff.1 h
 exact can_iff.2 ⟨x.map (revW p.ws.length), by simp [h1], rev_goes hT h2⟩
theorem rev_every (p : Pu) : everyN (revP p) = everyN p := by unfold everyN; rw [rev_len]
theorem every_rev {p : Pu} : ∀ i, i < p.ws.length → (everyN p).testBit i = true → (everyN p).testBit (p.ws.length - 1 - i) = true := fun i hi _ => every_bit (by omega)
theorem rev_can (p : Pu) (u : Nat) : canB (revP p) u (everyN (revP p)) = canB p u (everyN p) := by
 refine bool_ext ⟨fun h => ?_, fun h => ?_⟩
 ·have := rev_can1 (p := revP p) (S := everyN (revP p)) (T := everyN (revP p)) every_rev h
  rwa [rev_rev, rev_every] at this
 ·rw [rev_every]; exact rev_can1 every_rev h
theorem rev_err {p : Pu} (k : Ok p) (v : Bool) : errE (revP p) v = errE p v := by
 unfold errE
 rw [if_pos (rev_ok k), if_pos k]
 rfl
theorem rev_cost {n : Nat} {w : Int} (hw : w < n) (a : Int) : costW (revW n w) a = costW w a := by
 unfold costW revW
 by_cases h : 0 ≤ w
 ·rw [if_pos h, if_pos h, if_pos (by omega)]
 ·rw [if_neg h, if_neg h]
theorem rev_pum {n : Nat} : ∀ x : List Int, (∀ w ∈ x, w < n) → pumN (x.map (revW n)) = pumN x
 | [], _ => rfl
 | w :: x, h => by
   rw [List.map_cons, pumN, pumN, rev_cost (h w List.mem_cons_self), rev_pum x fun v hv => h v (List.mem_cons_of_mem _ hv)]
theorem rev_unt {p : Pu} (k : Ok p) : untE (revP p) = untE p ∧ untV (revP p) = untV p := by
 have he : untE (revP p) = untE p := rev_err k true
 refine ⟨he, ?_⟩
 by_cases h0 : untE p = 0
 ·obtain ⟨n, h1, h2, h3⟩ := unt_eq h0
  obtain ⟨m, g1, g2, g3⟩ := unt_eq (p := revP p) (by rw [he]; exact h0)
  have g2 : m ≤ p.fl.length := g2
  have g3 : ∀ u, u ≤ p.fl.length → (canB (revP p) u (everyN (revP p)) = true ↔ u ≤ m) := g3
  have a := (g3 n h2).1 (by rw [rev_can]; exact (h3 n h2).2 (Nat.le_refl _))
  have b := (h3 m g2).1 (by rw [← rev_can]; exact (g3 m g2).2 (Nat.le_refl _))
  rw [h1, g1]
  omega
 ·have a : untV p = 0 := if_neg h0
  have b : untV (revP p) = 0 := if_neg (by rw [he]; exact h0)
  rw [a, b]
theorem rev_few {p : Pu} (k : Ok p) : fewE (revP p) = fewE p ∧ fewN (revP p) = fewN p := by
 have hc : canB (revP p) (revP p).fl.length (everyN (revP p)) = canB p p.fl.length (everyN p) := rev_can p p.fl.length
 have he : fewE (revP p) = fewE p := by
  unfold fewE
  rw [rev_err k]
  unfold canB at hc
  rw [hc]
 refine ⟨he, ?_⟩
 by_cases h0 : fewE p = 0
 ·obtain ⟨a1, a2, a3, a4⟩ := few_spec h0
  obtain ⟨b1, b2, b3, b4⟩ := few_spec (p := revP p) (by rw [he]; exact h0)
  have b1 : (fewP (revP p)).length = p.fl.length := b1
  have c1 := (a4 ((fewP (revP p)).map (revW p.ws.length)) (by simp [b1]) (by
   have := rev_goes (p := revP p) (S := everyN (revP p)) (T := everyN (revP p)) every_rev b2
   rwa [rev_rev, rev_every, rev_len] at this)).1
  have c2 := (b4 ((fewP p).map (revW p.ws.length)) (by simp [a1]; rfl) (by rw [rev_every]; exact rev_goes every_rev a2)).1
  rw [rev_pum _ fun w hw => by have := (b2.at_ w hw).2.1; rwa [rev_len] at this, b3] at c1
  rw [rev_pum _ fun w hw => (a2.at_ w hw).2.1, a3] at c2
  omega
 ·have a : fewN p = 0 := if_neg h0
  have b : fewN (revP p) = 0 := if_neg (by rw [he]; exact h0)
  rw [a, b]
/-- The same set with its numbers turned round. -/
def revS (n S : Nat) : Nat := ((List.range n).map fun i => if S.testBit i = true then 2 ^ (n - 1 - i) else 0).sum
theorem revS_ok : ∀ n, n < 4 → ∀ S, S < 2 ^ n → revS n S < 2 ^ n ∧ bitN (revS n S) = bitN S := by decide +kernel
theorem revS_bit : ∀ n, n < 4 → ∀ S, S < 2 ^ n → ∀ i, i < n → S.testBit i = true → (revS n S).testBit (n - 1 - i) = true := by decide +kernel
theorem rev_wch {p : Pu} (k : Ok p) : wchE (revP p) = wchE p ∧ ∃ S T : Nat, wchV p = (S : Int) ∧ wchV (revP p) = (T : Int) ∧ S < 8 ∧ T < 8 ∧ bitN S = bitN T := by
 obtain ⟨s1, s2⟩ := wch_spec k
 obtain ⟨t1, t2⟩ := wch_spec (rev_ok k)
 have he : wchE (revP p) = wchE p := by rw [t1, s1, (rev_few k).1]
 refine ⟨he, ?_⟩
 have nW := k.nW
 by_cases h0 : wchE p = 0
 ·obtain ⟨S, a1, a2, a3, a4⟩ := s2 h0
  obtain ⟨T, b1, b2, b3, b4⟩ := t2 (by rw [he]; exact h0)
  rw [rev_len] at b2 b4
  have b3 : canB (revP p) p.fl.length T = true := b3
  have hp : 2 ^ p.ws.length ≤ 2 ^ 3 := Nat.pow_le_pow_right (by decide) nW
  obtain ⟨c1, c2⟩ := revS_ok p.ws.length (by omega) S a2
  obtain ⟨d1, d2⟩ := revS_ok p.ws.length (by omega) T b2
  have e1 := b4 _ c1 (rev_can1 (revS_bit p.ws.length (by omega) S a2) a3)
  have e2 := a4 _ d1 (by
   have := rev_can1 (p := revP p) (S := T) (T := revS p.ws.length T) (by rw [rev_len]; exact revS_bit p.ws.length (by omega) T b2) b3
   rwa [rev_rev] at this)
  exact ⟨S, T, a1, b1, by omega, by omega, by omega⟩
 ·exact ⟨0, 0, if_neg h0, if_neg (by rw [he]; exact h0), by omega, by omega, rfl⟩
theorem rev_play {p : Pu} (k : Ok p) {l : List Int} (hl : planB p l = true) : planB (revP p) (l.map (revW p.ws.length)) = true ∧ playE (revP p) (l.map (revW p.ws.length)) = playE p l ∧ playV (revP p) (l.map (revW p.ws.length)) = playV p l := by
 obtain ⟨ell, hlr⟩ := plan_rng hl
 have h1 : planB (revP p) (l.map (revW p.ws.length)) = true := by
  refine plan_okw.2 ⟨by simp [ell]; rfl, fun w hw => ?_⟩
  obtain ⟨v, hv, rfl⟩ := List.mem_map.1 hw
  have := (plan_okw.1 hl).2 v hv
  rw [rev_len]
  unfold revW
  split <;> omega
 have h2 : playE (revP p) (l.map (revW p.ws.length)) = playE p l := by rw [playE_of h1, playE_of hl, rev_err k]
 refine ⟨h1, h2, ?_⟩
 unfold playV
 rw [h2, List.length_map]
 split
 ·refine List.map_congr_left fun i hi => ?_
  rw [List.mem_range] at hi
  rw [rev_wat l true hlr (i + 1) (by omega), rev_wat l false hlr (i + 1) (by omega)]
 ·rfl
theorem bad_long {p : Pu} (k : Ok p) {l : List Int} (hl : planB p l = true) : playE p (-1 :: l) = 2 := by
 have : planB p (-1 :: l) = false := by
  rw [← Bool.not_eq_true, plan_okw]
  rintro ⟨h, _⟩
  have := (plan_rng hl).1
  simp at h
  omega
 unfold playE
 rw [this]
 exact errE_bad k
theorem bad_last {p : Pu} (k : Ok p) (l : List Int) {w : Int} (hw : w < -1 ∨ (p.ws.length : Int) ≤ w) : playE p (l ++ [w]) = 2 := by
 have : planB p (l ++ [w]) = false := by
  rw [← Bool.not_eq_true, plan_okw]
  rintro ⟨_, h⟩
  have := h w (by simp)
  omega
 unfold playE
 rw [this]
 exact errE_bad k
theorem out_bad {p : Pu} (k : Ok p) (l : List Int) {h : Int} (hh : h < 0 ∨ (p.fl.length : Int) ≤ h) : outE p l h = 2 := by
 have : (planB p l && (decide (0 ≤ h) && decide (h ≤ (p.fl.length : Int) - 1))) = false := by
  rw [Bool.and_eq_false_iff, Bool.and_eq_false_iff, decide_eq_false_iff_not, decide_eq_false_iff_not]
  right
  omega
 unfold outE
 rw [this]
 exact errE_bad k
end Go.Proofs.Ytkcgocmjaggdiaa
end
section
set_option linter.unusedVariables false
set_option linter.unusedSimpArgs false
namespace Go.V
set_option linter.unusedSectionVars false
variable [Inhabited GivT]
theorem eqT_nest {P : Program} {T n0 : Nat} (f0 : Field) (fs : List Field) (hm : P.eqGuardType P.depth T = false) (ht : P.underlying T = some (.struct (P.fieldsOf T))) (hp : P.stoodInHeld T = false)
 (hfs : (P.fieldsOf T).toList = f0 :: fs) (h1 : (f0.name != "_") = true) (h3 : szT P f0.type = some (n0, true)) (h4 : f0.offset = 0) (hu : P.underlying f0.type = some (.struct (P.fieldsOf f0.type)))
 (hp0 : P.stoodInHeld f0.type = false) (hf0 : fldsOk P 0 (P.fieldsOf f0.type).toList = true) (hn0 : (P.fieldsOf f0.type).toList.length = n0) (hr : fldsOk P n0 fs = true) : eqT P T (n0 + fs.length) := by
 refine ⟨hm, fun l l' w h h' => ?_⟩
 rw [run_equalIn_struct w 9999 T _ _ ht hp, hfs]
 have h1 : f0.name ≠ "_" := by simpa using h1
 have pt : ∀ l : List Int, l.length = n0 + fs.length → (part f0.type (l.map (Value.int .i64)).toArray f0.offset).run P w = .ok (.agg ((l.take n0).map (Value.int .i64)).toArray) w := fun l h => by
  rw [run_part (w := w) h3 (show partOk true n0 _ f0.offset from by simp [partOk]; omega), h4]
  simp [partV, List.map_take]
 simp only [Op.eqFields, if_pos h1, Sem.run_bind, pt l h, pt l' h', Result.andThen_ok]
 rw [run_equalIn_struct w 9998 f0.type _ _ hu hp0, eqFields_ints w 9997 (l.take n0) (l'.take n0) _ 0 hf0 (by rw [List.length_take, hn0]; omega) (by rw [List.length_take, hn0]; omega)]
 simp only [List.drop_zero, Result.andThen_ok]
 have hrest := eqFields_ints w 9998 l l' fs n0 hr (by omega) (by omega)
 by_cases e : l.take n0 = l'.take n0
 ·simp only [decide_eq_true e, Bool.not_true, Bool.false_eq_true, if_false]
  rw [hrest]
  congr 1
  refine decide_eq_decide.2 ⟨fun g => ?_, fun g => by rw [g]⟩
  rw [← List.take_append_drop n0 l, ← List.take_append_drop n0 l', e, g]
 ·simp only [decide_eq_false e, Bool.not_false, if_true, Sem.run_pure, Result.ok.injEq, and_true]
  exact (decide_eq_false fun g => e (by rw [g])).symm
end Go.V
end
