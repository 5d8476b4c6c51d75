/- Helper lemmas of this claim, part 4. -/
import Derived.ChangeSame
import Derived.JoinedOf
import Derived.ProofKit
import Derived.Handed
import Derived.Test.YtdeollnepclhaaaRows
import Derived.Test.YtdeollnepclhaaaSr3
section
set_option linter.unusedVariables false
set_option linter.unusedSimpArgs false
set_option maxHeartbeats 4000000
namespace Go.Proofs.Ytdeollnepclhaaa
open Go.V
theorem dry1_tri (t : Int) (x : AV) (H : Hp) : PTri Try.prog (.func (.func 73) [] [bx t]) [x] H (boo (tiltB t)) := by
  refine tri_v0 (fun _ => false) Try.func73 (by kernel_rfl) rfl (by simp only [List.length_append, List.length_cons, List.length_nil, Try.ntmps73]; decide) ?_
  simp only [vsAll, loadA, loadRow, partA, partOk, okAll, stAll, opsA, opA, dstOk, nilSliceOp, argFr, Nat.reduceLT, Nat.reduceEqDiff, ↓reduceIte, eq_self, wtAll, Try.ntmps73]
  refine callK_pure (isList_tri t H) ?_
  simp only [vsAll, opA, dstOk, nilSliceOp, resA, retA.eq_1, Nat.reduceLT, ↓reduceIte, eq_self, Try.results73]

def dk (h : Hd) (t p : Int) (i : Nat) : Bool := ((allA h).take i).any fun w : Nat => decide (dz h w t p = 0)
def wk (h : Hd) (t p : Int) (i : Nat) : Bool := ((allA h).take i).any fun w : Nat => decide (0 < dz h w t p)
theorem dk_succ (h : Hd) (t p : Int) (k : Nat) (hk : k < (allA h).length) : dk h t p (k + 1) = (dk h t p k || decide (dz h ((allA h).getD k 0 : Nat) t p = 0)) := by
  simp only [dk, take_snoc (allA h) k 0 hk, List.any_append, List.any_cons, List.any_nil, Bool.or_false]
theorem wk_succ (h : Hd) (t p : Int) (k : Nat) (hk : k < (allA h).length) : wk h t p (k + 1) = (wk h t p k || decide (0 < dz h ((allA h).getD k 0 : Nat) t p)) := by
  simp only [wk, take_snoc (allA h) k 0 hk, List.any_append, List.any_cons, List.any_nil, Bool.or_false]
theorem dk_all (h : Hd) (t p : Int) : dk h t p (allA h).length = decide (0 < dryC h t p (allA h).length) := by
  rw [Bool.eq_iff_iff]
  simp only [dk, dryC, List.take_length, decide_eq_true_eq, List.any_eq_true, List.countP_pos_iff]
theorem wk_all (h : Hd) (t p : Int) (k : HOk h) (ht : -2 ≤ t ∧ t ≤ 2) (hp : 0 ≤ p ∧ p < h.n) : (!wk h t p (allA h).length) = decide (dryC h t p (allA h).length = (allA h).length) := by
  rw [Bool.eq_iff_iff]
  simp only [wk, dryC, List.take_length, decide_eq_true_eq, Bool.not_eq_true', List.any_eq_false, List.countP_eq_length]
  constructor
  · intro q w hw
    have := q w hw
    have := dz_range h w t p k (by have := amts_le hw; omega) ht hp
    omega
  · intro q w hw
    have := q w hw
    omega
theorem or_bit (a n : Nat) (h : a < 2 ^ n) : a ||| 2 ^ n = a + 2 ^ n := by
  have := Nat.two_pow_add_eq_or_of_lt h 1
  rw [Nat.mul_one] at this
  rw [Nat.or_comm, ← this]; omega

theorem wdry_tri (h : Hd) (t : Int) (H : Hp) (k : Near h) : PTri Try.prog (fnA 26) [h.av, i64 t] H (.tuple [i64 (dryV h t).1, i64 (dryV h t).2, i64 (dryE h t)]) := by
  refine Tri.drop ?_
  refine tri_am (m := fun _ => false) ans51 Try.func26 (by kernel_rfl) rfl (by simp only [List.length_append, List.length_cons, List.length_nil, Try.ntmps26]; decide) ?_
  simp only [vsAll, loadA, loadRow, partA, partOk, boxA, cellA, okAll, stAll, opsA, opA, allocA, dstOk, nilSliceOp, argFr, Nat.reduceAdd, Nat.reduceLT, Nat.reduceEqDiff, ↓reduceIte, eq_self, wtAll, Try.ntmps26]
  intro i6 hh_i6; (try simp only [Hp.set_none, ite_none] at hh_i6)
  refine open_call (open_tri h _ (tiltB t) _ k trivial rfl (fun hk H' id ho => dry1_tri t _ H')) (fun hno => ?_) (fun hk hv => ?_) (fun hk hv => ?_)
  · have e : dryE h t = 1 := errE_no hno _ _
    simp only [vsAll, loadA, loadRow, partA, partOk, resA, retA.eq_2, Nat.reduceEqDiff, ↓reduceIte, eq_self, wtAll, Try.results26]
    refine ⟨1, i6, fun _ => [i64 0], rfl, rfl, by simp only [↓reduceIte, eq_self], ?_⟩
    simp only [vsAll, Nat.reduceLT, ↓reduceIte, eq_self]
    refine dropR_pure ?_ (by (repeat (first | exact HSub_rfl | refine HSub_put_eq (by simp only [vsAll, binA, binLitA, intA, aggA, boolA, nilA2, isConst, unA, loadA, loadRow, partA, partOk, fieldAddrA, indexAddrA, indexA, fieldA, extractA, lenA, nilCheckA, boxA, cellA, cellsA, fillA, okParts, buildSliceA, partIdx, elemsA, lensA, ifaceA, convA, mmA, pickA, okAll, stAll, opsA, partsA, partsOk, opA, allocA, boxMutA, newCells, okCells, storeObj, appendA, guardV, taA, nM, mapUpA, lookA, sliceA, boundsA, opO, okO, copyA, dstOk, nilA, quietOk, nilSliceOp, panA, resA, argFr, retA.eq_1, retA.eq_2, Nat.reduceAdd, Nat.reduceSub, Nat.reduceMul, Nat.reduceLT, Nat.reduceLeDiff, Nat.reduceEqDiff, Nat.reduceBEq, Int.reduceAdd, Int.reduceSub, Int.reduceMul, Int.reduceNeg, Int.reduceLE, Int.reduceLT, Int.reduceEq, Int.reduceNe, Int.reduceToNat, ↓reduceIte, reduceCtorEq, implies_true, forall_const, eq_self, ne_eq, wtAll, Try.ntmps26, Try.results26, hh_i6]) ?_ | refine HSub_drop2 (by simp only [eq_self, hh_i6]) ?_ | refine HSub_keep_eq (by simp only [vsAll, binA, binLitA, intA, aggA, boolA, nilA2, isConst, unA, loadA, loadRow, partA, partOk, fieldAddrA, indexAddrA, indexA, fieldA, extractA, lenA, nilCheckA, boxA, cellA, cellsA, fillA, okParts, buildSliceA, partIdx, elemsA, lensA, ifaceA, convA, mmA, pickA, okAll, stAll, opsA, partsA, partsOk, opA, allocA, boxMutA, newCells, okCells, storeObj, appendA, guardV, taA, nM, mapUpA, lookA, sliceA, boundsA, opO, okO, copyA, dstOk, nilA, quietOk, nilSliceOp, panA, resA, argFr, retA.eq_1, retA.eq_2, Nat.reduceAdd, Nat.reduceSub, Nat.reduceMul, Nat.reduceLT, Nat.reduceLeDiff, Nat.reduceEqDiff, Nat.reduceBEq, Int.reduceAdd, Int.reduceSub, Int.reduceMul, Int.reduceNeg, Int.reduceLE, Int.reduceLT, Int.reduceEq, Int.reduceNe, Int.reduceToNat, ↓reduceIte, reduceCtorEq, implies_true, forall_const, eq_self, ne_eq, wtAll, Try.ntmps26, Try.results26, hh_i6]) ?_)))
    simp only [Int.reduceEq, ↓reduceIte, eq_self, dryV, e, Int.natCast_zero]
  · have e : dryE h t = 2 := by unfold dryE; rw [hv]; exact errE_bad hk _
    simp only [vsAll, loadA, loadRow, partA, partOk, resA, retA.eq_2, Nat.reduceEqDiff, ↓reduceIte, eq_self, wtAll, Try.results26]
    refine ⟨2, i6, fun _ => [i64 0], rfl, rfl, by simp only [↓reduceIte, eq_self], ?_⟩
    simp only [vsAll, Nat.reduceLT, ↓reduceIte, eq_self]
    refine dropR_pure ?_ (by (repeat (first | exact HSub_rfl | refine HSub_put_eq (by simp only [vsAll, binA, binLitA, intA, aggA, boolA, nilA2, isConst, unA, loadA, loadRow, partA, partOk, fieldAddrA, indexAddrA, indexA, fieldA, extractA, lenA, nilCheckA, boxA, cellA, cellsA, fillA, okParts, buildSliceA, partIdx, elemsA, lensA, ifaceA, convA, mmA, pickA, okAll, stAll, opsA, partsA, partsOk, opA, allocA, boxMutA, newCells, okCells, storeObj, appendA, guardV, taA, nM, mapUpA, lookA, sliceA, boundsA, opO, okO, copyA, dstOk, nilA, quietOk, nilSliceOp, panA, resA, argFr, retA.eq_1, retA.eq_2, Nat.reduceAdd, Nat.reduceSub, Nat.reduceMul, Nat.reduceLT, Nat.reduceLeDiff, Nat.reduceEqDiff, Nat.reduceBEq, Int.reduceAdd, Int.reduceSub, Int.reduceMul, Int.reduceNeg, Int.reduceLE, Int.reduceLT, Int.reduceEq, Int.reduceNe, Int.reduceToNat, ↓reduceIte, reduceCtorEq, implies_true, forall_const, eq_self, ne_eq, wtAll, Try.ntmps26, Try.results26, hh_i6]) ?_ | refine HSub_drop2 (by simp only [eq_self, hh_i6]) ?_ | refine HSub_keep_eq (by simp only [vsAll, binA, binLitA, intA, aggA, boolA, nilA2, isConst, unA, loadA, loadRow, partA, partOk, fieldAddrA, indexAddrA, indexA, fieldA, extractA, lenA, nilCheckA, boxA, cellA, cellsA, fillA, okParts, buildSliceA, partIdx, elemsA, lensA, ifaceA, convA, mmA, pickA, okAll, stAll, opsA, partsA, partsOk, opA, allocA, boxMutA, newCells, okCells, storeObj, appendA, guardV, taA, nM, mapUpA, lookA, sliceA, boundsA, opO, okO, copyA, dstOk, nilA, quietOk, nilSliceOp, panA, resA, argFr, retA.eq_1, retA.eq_2, Nat.reduceAdd, Nat.reduceSub, Nat.reduceMul, Nat.reduceLT, Nat.reduceLeDiff, Nat.reduceEqDiff, Nat.reduceBEq, Int.reduceAdd, Int.reduceSub, Int.reduceMul, Int.reduceNeg, Int.reduceLE, Int.reduceLT, Int.reduceEq, Int.reduceNe, Int.reduceToNat, ↓reduceIte, reduceCtorEq, implies_true, forall_const, eq_self, ne_eq, wtAll, Try.ntmps26, Try.results26, hh_i6]) ?_)))
    simp only [Int.reduceEq, ↓reduceIte, eq_self, dryV, e, Int.natCast_zero]
  · intro id hh_id; (try simp only [Hp.set_none] at hh_id)
    simp only [vsAll, okAll, stAll, opsA, opA, dstOk, nilSliceOp, Nat.reduceLT, ↓reduceIte, eq_self]
    refine told_call hk (by simp only [vsAll, ↓reduceIte, eq_self]) (fun hs => ?_) (fun hs => ?_)
    · have e : dryE h t = 0 := by unfold dryE; rw [hv]; exact errE_told hk hs
      have hl := (told_some h).1 hs
      have hn := hk.n
      simp only [tiltB_iff] at hv
      simp only [vsAll, loadA, loadRow, partA, partOk, fieldAddrA, lenA, nilCheckA, opA, allocA, storeObj, dstOk, nilSliceOp, Nat.reduceMul, Nat.reduceLT, Nat.reduceEqDiff, ↓reduceIte, eq_self, wtAll]
      intro i8 hh_i8; (try simp only [ite_none] at hh_i8)
      refine ⟨fun j hj => by simp [amF, okCells, cellA], ?_⟩
      refine vs_loopD (σ := Nat × Hp × List Nat) (fun x => x.1 ≤ h.n ∧ Mk H x.2.2 x.2.1 ∧ x.2.1 i6 = none ∧ x.2.1 id = none ∧ x.2.1 i8 = none)
        (fun x => [(3, bx t), (6, .ref i6 0 1 0 0), (7, hdP h id), (8, .ref i8 0 1 0 0), (9, i64 (dryN h t x.1).1), (10, i64 (dryN h t x.1).2), (26, i64 h.n), (27, i64 x.1)])
        (fun x => x.2.2.map AD.mark ++ [.call 51 [.ref i6 0 1 0 0]]) (fun x => (((x.2.1.set i6 (.box 1 1 fun _ => [i64 0])).set id (.memo (memoF h))).set i8 (.box 1 101 (amF (toldB h))))) (fun x => h.n - x.1)
        (0, H, []) ⟨by simp only []; ((try clear hh_i6); (try clear hh_id); (try clear hh_i8); omega), Mk.nil H, hh_i6, hh_id.2, hh_i8.2.2⟩ ?_ rfl ?_ fun x hx => ?_
      · simp only [vsAll, Nat.reduceEqDiff, ↓reduceIte, eq_self, dryN, Int.natCast_zero]
      · simp only []; (repeat (first | exact HSub_rfl | refine HSub_put_eq (by simp only [vsAll, ↓reduceIte, eq_self, hh_id, hh_i8]) ?_ | refine HSub_drop2 (by simp only [eq_self, hh_i6, hh_id, hh_i8]) ?_ | refine HSub_keep_eq (by simp only [vsAll, binA, binLitA, intA, aggA, boolA, nilA2, isConst, unA, loadA, loadRow, partA, partOk, fieldAddrA, indexAddrA, indexA, fieldA, extractA, lenA, nilCheckA, boxA, cellA, cellsA, fillA, okParts, buildSliceA, partIdx, elemsA, lensA, ifaceA, convA, mmA, pickA, okAll, stAll, opsA, partsA, partsOk, opA, allocA, boxMutA, newCells, okCells, storeObj, appendA, guardV, taA, nM, mapUpA, lookA, sliceA, boundsA, opO, okO, copyA, dstOk, nilA, quietOk, nilSliceOp, panA, resA, argFr, retA.eq_1, retA.eq_2, Nat.reduceAdd, Nat.reduceSub, Nat.reduceMul, Nat.reduceLT, Nat.reduceLeDiff, Nat.reduceEqDiff, Nat.reduceBEq, Int.reduceAdd, Int.reduceSub, Int.reduceMul, Int.reduceNeg, Int.reduceLE, Int.reduceLT, Int.reduceEq, Int.reduceNe, Int.reduceToNat, ↓reduceIte, reduceCtorEq, implies_true, forall_const, eq_self, ne_eq, wtAll, Try.ntmps26, Try.results26, hh_i6, hh_id, hh_i8]) ?_))
      · obtain ⟨p, G, l⟩ := x
        obtain ⟨hp, hG, hg6, hgi, hg8⟩ := hx
        simp only [] at hp hG hg6 hgi hg8
        skip
        simp only [vsAll, binA, binLitA, intA, opA, dstOk, Nat.reduceLT, Nat.reduceEqDiff, ↓reduceIte, eq_self]
        refine condD (fun hd => ?_) (fun hd => ?_)
        · simp only [vsAll, loadA, loadRow, partA, partOk, cellA, cellsA, okAll, stAll, opsA, opA, allocA, newCells, okCells, storeObj, dstOk, nilSliceOp, Nat.reduceLT, Nat.reduceEqDiff, ↓reduceIte, eq_self, wtAll]
          intro i12 hh_i12; (try simp only [ite_none] at hh_i12); intro i13 hh_i13; (try simp only [ite_none] at hh_i13)
          simp only [vsAll, Nat.reduceLT, ↓reduceIte, eq_self, hh_i12, hh_i13]
          refine callK_pure (each_tri h id (toldB h) t p _) ?_
          simp only [vsAll]
          refine vs_range (eachL h (toldB h) t p) (fun i => ((((((G.set i6 (.box 1 1 fun _ => [i64 0])).set id (.memo (memoF h))).set i8 (.box 1 101 (amF (toldB h)))).set i12 (.box 1 1 fun _ => [boo (dk h t p i)])).set i13 (.box 1 1 fun _ => [boo (wk h t p i)]))))
            (fun H => H id = some (.memo (memoF h))) Try.func98 (by kernel_rfl) rfl (by simp only [vsAll, opA, ↓reduceIte, eq_self]) (by simp only [vsAll, opA, ↓reduceIte, eq_self]) (by decide) (by rw [each_all]; simp) (each1_tri h id (toldB h) t p hk hv (by ((try clear hh_i6); (try clear hh_id); (try clear hh_i8); (try clear hg6); (try clear hgi); (try clear hg8); (try clear hh_i12); (try clear hh_i13); omega))) ?_ ?_ ?_ ?_ ?_
          · have e1 : dk h t p 0 = false := by simp [dk]
            have e2 : wk h t p 0 = false := by simp [wk]
            simp only [e1, e2]
            funext j
            simp only [Hp.set_at]
            by_cases q1 : j = i13 <;> by_cases q2 : j = i12 <;> simp only [q1, q2, if_true, if_false]
          · intro i x hx; simp only [Hp.set_none] at hx ⊢
            exact hx.2.2
          · intro i lid did o1 o2 h1 h2
            simp only [Hp.set_none] at h1 h2
            simp only [vsAll, ↓reduceIte, eq_self, hh_i8, hh_i12, hh_i13, h1, h2]
          · intro i x hx lid did l lo h1 h2 h3
            simp only [Hp.set_none] at h1 h2
            have h4 : ¬ did = lid := fun e => h3 e.symm
            skip
            obtain ⟨hi, rfl⟩ := each_get hx
            have hxa := allA_le hi
            have hr := dz_150 h ((allA h).getD i 0 : Nat) t p hk (by ((try clear hh_i6); (try clear hh_id); (try clear hh_i8); (try clear hg6); (try clear hgi); (try clear hg8); (try clear hh_i12); (try clear hh_i13); (try clear h1); (try clear h2); (try clear h3); (try clear h4); omega)) hv (by ((try clear hh_i6); (try clear hh_id); (try clear hh_i8); (try clear hg6); (try clear hgi); (try clear hg8); (try clear hh_i12); (try clear hh_i13); (try clear h1); (try clear h2); (try clear h3); (try clear h4); omega))
            simp only [vsAll, binA, binLitA, intA, loadA, loadRow, partA, partOk, cellA, cellsA, pickA, opA, newCells, okCells, storeObj, guardV, dstOk, quietOk, nilSliceOp, Nat.reduceLT, Nat.reduceEqDiff, ↓reduceIte, implies_true, eq_self, wtAll, hh_i13, h1, h2]
            refine ⟨⟨_, _, rfl⟩, ?_⟩
            simp only [dk_succ h t p i hi, wk_succ h t p i hi]; (repeat (first | exact HSub_rfl | refine HSub_put_eq (by simp only [vsAll, ↓reduceIte, eq_self, hh_id, hh_i8, hh_i12, hh_i13, h1, h2, h4]) ?_ | refine HSub_drop2 (by simp only [eq_self, hg6, hgi, hg8, hh_i12, hh_i13, h1, h2]) ?_ | refine HSub_keep_eq (by simp only [vsAll, binA, binLitA, intA, aggA, boolA, nilA2, isConst, unA, loadA, loadRow, partA, partOk, fieldAddrA, indexAddrA, indexA, fieldA, extractA, lenA, nilCheckA, boxA, cellA, cellsA, fillA, okParts, buildSliceA, partIdx, elemsA, lensA, ifaceA, convA, mmA, pickA, okAll, stAll, opsA, partsA, partsOk, opA, allocA, boxMutA, newCells, okCells, storeObj, appendA, guardV, taA, nM, mapUpA, lookA, sliceA, boundsA, opO, okO, copyA, dstOk, nilA, quietOk, nilSliceOp, panA, resA, argFr, retA.eq_1, retA.eq_2, Nat.reduceAdd, Nat.reduceSub, Nat.reduceMul, Nat.reduceLT, Nat.reduceLeDiff, Nat.reduceEqDiff, Nat.reduceBEq, Int.reduceAdd, Int.reduceSub, Int.reduceMul, Int.reduceNeg, Int.reduceLE, Int.reduceLT, Int.reduceEq, Int.reduceNe, Int.reduceToNat, ↓reduceIte, reduceCtorEq, implies_true, forall_const, eq_self, ne_eq, wtAll, Try.ntmps26, Try.results26, hh_i6, hh_id, hh_i8, hg6, hgi, hg8, hh_i12, hh_i13, h1, h2, h3, h4]) ?_))
          · intro lid did lo h1 h2 h3
            simp only [Hp.set_none] at h1 h2
            have h4 : ¬ did = lid := fun e => h3 e.symm
            skip
            have el : (eachL h (toldB h) t p).length = (allA h).length := by rw [each_all]; simp
            rw [el, dk_all]
            have hb := dryN_lt h t p
            have hpw : 2 ^ p ≤ 2 ^ 7 := Nat.pow_le_pow_right (by ((try clear hh_i6); (try clear hh_id); (try clear hh_i8); (try clear hg6); (try clear hgi); (try clear hg8); (try clear hh_i12); (try clear hh_i13); (try clear h1); (try clear h2); (try clear h3); (try clear h4); omega)) (by ((try clear hh_i6); (try clear hh_id); (try clear hh_i8); (try clear hg6); (try clear hgi); (try clear hg8); (try clear hh_i12); (try clear hh_i13); (try clear h1); (try clear h2); (try clear h3); (try clear h4); omega))
            have hww := wk_all h t p hk hv (by ((try clear hh_i6); (try clear hh_id); (try clear hh_i8); (try clear hg6); (try clear hgi); (try clear hg8); (try clear hh_i12); (try clear hh_i13); (try clear h1); (try clear h2); (try clear h3); (try clear h4); omega))
            have hle := dryC_le h t p (allA h).length
            have hinv : p + 1 ≤ h.n ∧ Mk H (did :: l) (G.set did dfO) ∧ (G.set did dfO) i6 = none ∧ (G.set did dfO) id = none ∧ (G.set did dfO) i8 = none :=
              ⟨by ((try clear hh_i6); (try clear hh_id); (try clear hh_i8); (try clear hg6); (try clear hgi); (try clear hg8); (try clear hh_i12); (try clear hh_i13); (try clear h1); (try clear h2); (try clear h3); (try clear h4); omega), hG.cons (by simp only [h2]), by simp only [vsAll, ↓reduceIte, eq_self, hg6, h2], by simp only [vsAll, ↓reduceIte, eq_self, hgi, h2], by simp only [vsAll, ↓reduceIte, eq_self, hg8, h2]⟩
            simp only [vsAll, loadA, loadRow, partA, partOk, opA, dstOk, Nat.reduceLT, Nat.reduceEqDiff, ↓reduceIte, eq_self, wtAll, hh_i13, h1, h2]
            have hpc : ((2 ^ p : Nat) : Int) = 2 ^ p := by simp
            have hpd : (1 * 2 ^ p : Int).toNat = 2 ^ p := by rw [← hpc]; ((try clear hh_i6); (try clear hh_id); (try clear hh_i8); (try clear hg6); (try clear hgi); (try clear hg8); (try clear hh_i12); (try clear hh_i13); (try clear h1); (try clear h2); (try clear h3); (try clear h4); omega)
            have ho1 : (dryN h t p).1 ||| (1 * 2 ^ p : Int).toNat = (dryN h t p).1 + 2 ^ p := by rw [hpd]; exact or_bit _ _ hb.1
            have ho2 : (dryN h t p).2 ||| (1 * 2 ^ p : Int).toNat = (dryN h t p).2 + 2 ^ p := by rw [hpd]; exact or_bit _ _ hb.2
            refine condD (fun hz => ?_) (fun hz => ?_)
            · simp only [vsAll, binA, binLitA, intA, unA, loadA, loadRow, partA, partOk, opA, dstOk, nilSliceOp, Nat.reduceLT, Nat.reduceEqDiff, ↓reduceIte, eq_self, wtAll, h1, h2]
              refine ⟨⟨by ((try clear hh_i6); (try clear hh_id); (try clear hh_i8); (try clear hg6); (try clear hgi); (try clear hg8); (try clear hh_i12); (try clear hh_i13); (try clear h1); (try clear h2); (try clear h3); (try clear h4); omega), by ((try clear hh_i6); (try clear hh_id); (try clear hh_i8); (try clear hg6); (try clear hgi); (try clear hg8); (try clear hh_i12); (try clear hh_i13); (try clear h1); (try clear h2); (try clear h3); (try clear h4); omega), by simp only [InR_i64, ← hpc]; ((try clear hh_i6); (try clear hh_id); (try clear hh_i8); (try clear hg6); (try clear hgi); (try clear hg8); (try clear hh_i12); (try clear hh_i13); (try clear h1); (try clear h2); (try clear h3); (try clear h4); omega)⟩, ⟨by ((try clear hh_i6); (try clear hh_id); (try clear hh_i8); (try clear hg6); (try clear hgi); (try clear hg8); (try clear hh_i12); (try clear hh_i13); (try clear h1); (try clear h2); (try clear h3); (try clear h4); omega), by simp only [← hpc]; ((try clear hh_i6); (try clear hh_id); (try clear hh_i8); (try clear hg6); (try clear hgi); (try clear hg8); (try clear hh_i12); (try clear hh_i13); (try clear h1); (try clear h2); (try clear h3); (try clear h4); omega), by simp only [InR_i64]; ((try clear hh_i6); (try clear hh_id); (try clear hh_i8); (try clear hg6); (try clear hgi); (try clear hg8); (try clear hh_i12); (try clear hh_i13); (try clear h1); (try clear h2); (try clear h3); (try clear h4); omega), by simp only [InR_i64, ← hpc]; ((try clear hh_i6); (try clear hh_id); (try clear hh_i8); (try clear hg6); (try clear hgi); (try clear hg8); (try clear hh_i12); (try clear hh_i13); (try clear h1); (try clear h2); (try clear h3); (try clear h4); omega)⟩, ?_⟩
              rw [hww]
              refine condD (fun hq => ?_) (fun hq => ?_)
              · simp only [vsAll, binA, binLitA, intA, opA, dstOk, nilSliceOp, Nat.reduceLT, Nat.reduceEqDiff, ↓reduceIte, eq_self]
                refine ⟨⟨by ((try clear hh_i6); (try clear hh_id); (try clear hh_i8); (try clear hg6); (try clear hgi); (try clear hg8); (try clear hh_i12); (try clear hh_i13); (try clear h1); (try clear h2); (try clear h3); (try clear h4); omega), by ((try clear hh_i6); (try clear hh_id); (try clear hh_i8); (try clear hg6); (try clear hgi); (try clear hg8); (try clear hh_i12); (try clear hh_i13); (try clear h1); (try clear h2); (try clear h3); (try clear h4); omega), by simp only [InR_i64, ← hpc]; ((try clear hh_i6); (try clear hh_id); (try clear hh_i8); (try clear hg6); (try clear hgi); (try clear hg8); (try clear hh_i12); (try clear hh_i13); (try clear h1); (try clear h2); (try clear h3); (try clear h4); omega)⟩, ⟨by ((try clear hh_i6); (try clear hh_id); (try clear hh_i8); (try clear hg6); (try clear hgi); (try clear hg8); (try clear hh_i12); (try clear hh_i13); (try clear h1); (try clear h2); (try clear h3); (try clear h4); omega), by simp only [← hpc]; ((try clear hh_i6); (try clear hh_id); (try clear hh_i8); (try clear hg6); (try clear hgi); (try clear hg8); (try clear hh_i12); (try clear hh_i13); (try clear h1); (try clear h2); (try clear h3); (try clear h4); omega), by simp only [InR_i64]; ((try clear hh_i6); (try clear hh_id); (try clear hh_i8); (try clear hg6); (try clear hgi); (try clear hg8); (try clear hh_i12); (try clear hh_i13); (try clear h1); (try clear h2); (try clear h3); (try clear h4); omega), by simp only [InR_i64, ← hpc]; ((try clear hh_i6); (try clear hh_id); (try clear hh_i8); (try clear hg6); (try clear hgi); (try clear hg8); (try clear hh_i12); (try clear hh_i13); (try clear h1); (try clear h2); (try clear h3); (try clear h4); omega)⟩, by simp only [InR_i64]; ((try clear hh_i6); (try clear hh_id); (try clear hh_i8); (try clear hg6); (try clear hgi); (try clear hg8); (try clear hh_i12); (try clear hh_i13); (try clear h1); (try clear h2); (try clear h3); (try clear h4); omega), loopD_next (p + 1, G.set did dfO, did :: l) hinv (by simp only []; ((try clear hh_i6); (try clear hh_id); (try clear hh_i8); (try clear hg6); (try clear hgi); (try clear hg8); (try clear hh_i12); (try clear hh_i13); (try clear h1); (try clear h2); (try clear h3); (try clear h4); omega)) ?_ rfl ?_⟩
                · simp only [vsAll, Nat.reduceEqDiff, ↓reduceIte, eq_self, dryN, if_pos hz, if_pos hq, ho1, ho2, Int.natCast_add, Int.natCast_one]
                · simp only []; (repeat (first | exact HSub_rfl | refine HSub_put_eq (by simp only [vsAll, ↓reduceIte, eq_self, hh_id, hh_i8, hh_i12, hh_i13, h1, h2, h4]) ?_ | refine HSub_drop2 (by simp only [eq_self, hg6, hgi, hg8, hh_i12, hh_i13, h1, h2]) ?_ | refine HSub_keep_eq (by simp only [vsAll, binA, binLitA, intA, aggA, boolA, nilA2, isConst, unA, loadA, loadRow, partA, partOk, fieldAddrA, indexAddrA, indexA, fieldA, extractA, lenA, nilCheckA, boxA, cellA, cellsA, fillA, okParts, buildSliceA, partIdx, elemsA, lensA, ifaceA, convA, mmA, pickA, okAll, stAll, opsA, partsA, partsOk, opA, allocA, boxMutA, newCells, okCells, storeObj, appendA, guardV, taA, nM, mapUpA, lookA, sliceA, boundsA, opO, okO, copyA, dstOk, nilA, quietOk, nilSliceOp, panA, resA, argFr, retA.eq_1, retA.eq_2, Nat.reduceAdd, Nat.reduceSub, Nat.reduceMul, Nat.reduceLT, Nat.reduceLeDiff, Nat.reduceEqDiff, Nat.reduceBEq, Int.reduceAdd, Int.reduceSub, Int.reduceMul, Int.reduceNeg, Int.reduceLE, Int.reduceLT, Int.reduceEq, Int.reduceNe, Int.reduceToNat, ↓reduceIte, reduceCtorEq, implies_true, forall_const, eq_self, ne_eq, wtAll, Try.ntmps26, Try.results26, hh_i6, hh_id, hh_i8, hg6, hgi, hg8, hh_i12, hh_i13, h1, h2, h3, h4]) ?_))
              · simp only [vsAll, binA, binLitA, intA, opA, dstOk, Nat.reduceLT, Nat.reduceEqDiff, ↓reduceIte, eq_self]
                refine ⟨by simp only [InR_i64]; ((try clear hh_i6); (try clear hh_id); (try clear hh_i8); (try clear hg6); (try clear hgi); (try clear hg8); (try clear hh_i12); (try clear hh_i13); (try clear h1); (try clear h2); (try clear h3); (try clear h4); omega), loopD_next (p + 1, G.set did dfO, did :: l) hinv (by simp only []; ((try clear hh_i6); (try clear hh_id); (try clear hh_i8); (try clear hg6); (try clear hgi); (try clear hg8); (try clear hh_i12); (try clear hh_i13); (try clear h1); (try clear h2); (try clear h3); (try clear h4); omega)) ?_ rfl ?_⟩
                · simp only [vsAll, Nat.reduceEqDiff, ↓reduceIte, eq_self, dryN, if_pos hz, if_neg hq, ho2, Int.natCast_add, Int.natCast_one]
                · simp only []; (repeat (first | exact HSub_rfl | refine HSub_put_eq (by simp only [vsAll, ↓reduceIte, eq_self, hh_id, hh_i8, hh_i12, hh_i13, h1, h2, h4]) ?_ | refine HSub_drop2 (by simp only [eq_self, hg6, hgi, hg8, hh_i12, hh_i13, h1, h2]) ?_ | refine HSub_keep_eq (by simp only [vsAll, binA, binLitA, intA, aggA, boolA, nilA2, isConst, unA, loadA, loadRow, partA, partOk, fieldAddrA, indexAddrA, indexA, fieldA, extractA, lenA, nilCheckA, boxA, cellA, cellsA, fillA, okParts, buildSliceA, partIdx, elemsA, lensA, ifaceA, convA, mmA, pickA, okAll, stAll, opsA, partsA, partsOk, opA, allocA, boxMutA, newCells, okCells, storeObj, appendA, guardV, taA, nM, mapUpA, lookA, sliceA, boundsA, opO, okO, copyA, dstOk, nilA, quietOk, nilSliceOp, panA, resA, argFr, retA.eq_1, retA.eq_2, Nat.reduceAdd, Nat.reduceSub, Nat.reduceMul, Nat.reduceLT, Nat.reduceLeDiff, Nat.reduceEqDiff, Nat.reduceBEq, Int.reduceAdd, Int.reduceSub, Int.reduceMul, Int.reduceNeg, Int.reduceLE, Int.reduceLT, Int.reduceEq, Int.reduceNe, Int.reduceToNat, ↓reduceIte, reduceCtorEq, implies_true, forall_const, eq_self, ne_eq, wtAll, Try.ntmps26, Try.results26, hh_i6, hh_id, hh_i8, hg6, hgi, hg8, hh_i12, hh_i13, h1, h2, h3, h4]) ?_))
            · have hq : ¬ dryC h t p (allA h).length = (allA h).length := by ((try clear hh_i6); (try clear hh_id); (try clear hh_i8); (try clear hg6); (try clear hgi); (try clear hg8); (try clear hh_i12); (try clear hh_i13); (try clear h1); (try clear h2); (try clear h3); (try clear h4); omega)
              simp only [vsAll, unA, loadA, loadRow, partA, partOk, opA, dstOk, Nat.reduceLT, Nat.reduceEqDiff, ↓reduceIte, eq_self, wtAll, h1, h2]
              rw [hww]
              refine condD (fun hq2 => absurd hq2 hq) (fun _ => ?_)
              simp only [vsAll, binA, binLitA, intA, opA, dstOk, Nat.reduceLT, Nat.reduceEqDiff, ↓reduceIte, eq_self]
              refine ⟨by simp only [InR_i64]; ((try clear hh_i6); (try clear hh_id); (try clear hh_i8); (try clear hg6); (try clear hgi); (try clear hg8); (try clear hh_i12); (try clear hh_i13); (try clear h1); (try clear h2); (try clear h3); (try clear h4); omega), loopD_next (p + 1, G.set did dfO, did :: l) hinv (by simp only []; ((try clear hh_i6); (try clear hh_id); (try clear hh_i8); (try clear hg6); (try clear hgi); (try clear hg8); (try clear hh_i12); (try clear hh_i13); (try clear h1); (try clear h2); (try clear h3); (try clear h4); omega)) ?_ rfl ?_⟩
              · simp only [vsAll, Nat.reduceEqDiff, ↓reduceIte, eq_self, dryN, if_neg hz, if_neg hq, Int.natCast_add, Int.natCast_one]
              · simp only []; (repeat (first | exact HSub_rfl | refine HSub_put_eq (by simp only [vsAll, ↓reduceIte, eq_self, hh_id, hh_i8, hh_i12, hh_i13, h1, h2, h4]) ?_ | refine HSub_drop2 (by simp only [eq_self, hg6, hgi, hg8, hh_i12, hh_i13, h1, h2]) ?_ | refine HSub_keep_eq (by simp only [vsAll, binA, binLitA, intA, aggA, boolA, nilA2, isConst, unA, loadA, loadRow, partA, partOk, fieldAddrA, indexAddrA, indexA, fieldA, extractA, lenA, nilCheckA, boxA, cellA, cellsA, fillA, okParts, buildSliceA, partIdx, elemsA, lensA, ifaceA, convA, mmA, pickA, okAll, stAll, opsA, partsA, partsOk, opA, allocA, boxMutA, newCells, okCells, storeObj, appendA, guardV, taA, nM, mapUpA, lookA, sliceA, boundsA, opO, okO, copyA, dstOk, nilA, quietOk, nilSliceOp, panA, resA, argFr, retA.eq_1, retA.eq_2, Nat.reduceAdd, Nat.reduceSub, Nat.reduceMul, Nat.reduceLT, Nat.reduceLeDiff, Nat.reduceEqDiff, Nat.reduceBEq, Int.reduceAdd, Int.reduceSub, Int.reduceMul, Int.reduceNeg, Int.reduceLE, Int.reduceLT, Int.reduceEq, Int.reduceNe, Int.reduceToNat, ↓reduceIte, reduceCtorEq, implies_true, forall_const, eq_self, ne_eq, wtAll, Try.ntmps26, Try.results26, hh_i6, hh_id, hh_i8, hg6, hgi, hg8, hh_i12, hh_i13, h1, h2, h3, h4]) ?_))
        · have ep : p = h.n := by ((try clear hh_i6); (try clear hh_id); (try clear hh_i8); (try clear hg6); (try clear hgi); (try clear hg8); omega)
          subst ep
          simp only [vsAll, cellA, cellsA, opA, newCells, okCells, storeObj, dstOk, nilSliceOp, Nat.reduceLT, Nat.reduceEqDiff, ↓reduceIte, eq_self, wtAll, hh_id, hh_i8]
          refine popM_many (H := H) hG.nodup (fun d hd => ?_) hG.base ?_ (fun B K' => rfl) (fun B hB hs => ?_)
          · have q1 : ¬ d = i6 := fun e => by rw [e] at hd; rw [hG.at' i6 hd] at hg6; cases hg6
            have q2 : ¬ d = id := fun e => by rw [e] at hd; rw [hG.at' id hd] at hgi; cases hgi
            have q3 : ¬ d = i8 := fun e => by rw [e] at hd; rw [hG.at' i8 hd] at hg8; cases hg8
            have q4 := hG.at' d hd
            simp only [vsAll, ↓reduceIte, eq_self, q1, q2, q3, q4]
          · (repeat (first | exact HSub_rfl | refine HSub_put_eq (by simp only [vsAll, binA, binLitA, intA, aggA, boolA, nilA2, isConst, unA, loadA, loadRow, partA, partOk, fieldAddrA, indexAddrA, indexA, fieldA, extractA, lenA, nilCheckA, boxA, cellA, cellsA, fillA, okParts, buildSliceA, partIdx, elemsA, lensA, ifaceA, convA, mmA, pickA, okAll, stAll, opsA, partsA, partsOk, opA, allocA, boxMutA, newCells, okCells, storeObj, appendA, guardV, taA, nM, mapUpA, lookA, sliceA, boundsA, opO, okO, copyA, dstOk, nilA, quietOk, nilSliceOp, panA, resA, argFr, retA.eq_1, retA.eq_2, Nat.reduceAdd, Nat.reduceSub, Nat.reduceMul, Nat.reduceLT, Nat.reduceLeDiff, Nat.reduceEqDiff, Nat.reduceBEq, Int.reduceAdd, Int.reduceSub, Int.reduceMul, Int.reduceNeg, Int.reduceLE, Int.reduceLT, Int.reduceEq, Int.reduceNe, Int.reduceToNat, ↓reduceIte, reduceCtorEq, implies_true, forall_const, eq_self, ne_eq, wtAll, Try.ntmps26, Try.results26, hh_i6, hh_id, hh_i8, hg6, hgi, hg8]) ?_ | refine HSub_drop2 (by simp only [eq_self, hh_i6, hh_id, hh_i8]) ?_ | refine HSub_keep_eq (by simp only [vsAll, binA, binLitA, intA, aggA, boolA, nilA2, isConst, unA, loadA, loadRow, partA, partOk, fieldAddrA, indexAddrA, indexA, fieldA, extractA, lenA, nilCheckA, boxA, cellA, cellsA, fillA, okParts, buildSliceA, partIdx, elemsA, lensA, ifaceA, convA, mmA, pickA, okAll, stAll, opsA, partsA, partsOk, opA, allocA, boxMutA, newCells, okCells, storeObj, appendA, guardV, taA, nM, mapUpA, lookA, sliceA, boundsA, opO, okO, copyA, dstOk, nilA, quietOk, nilSliceOp, panA, resA, argFr, retA.eq_1, retA.eq_2, Nat.reduceAdd, Nat.reduceSub, Nat.reduceMul, Nat.reduceLT, Nat.reduceLeDiff, Nat.reduceEqDiff, Nat.reduceBEq, Int.reduceAdd, Int.reduceSub, Int.reduceMul, Int.reduceNeg, Int.reduceLE, Int.reduceLT, Int.reduceEq, Int.reduceNe, Int.reduceToNat, ↓reduceIte, reduceCtorEq, implies_true, forall_const, eq_self, ne_eq, wtAll, Try.ntmps26, Try.results26, hh_i6, hh_id, hh_i8, hg6, hgi, hg8]) ?_))
            exact hG.sub
          · have b6 := hB i6 (.box 1 1 fun _ => [i64 0]) (by simp only [vsAll, ↓reduceIte, eq_self]) (by simp)
            simp only [vsAll, loadA, loadRow, partA, partOk, resA, retA.eq_2, Nat.reduceLT, Nat.reduceEqDiff, ↓reduceIte, eq_self, wtAll, Try.results26, b6]
            refine ⟨i6, fun _ => [i64 0], rfl, by simp only [eq_self, b6], ?_⟩
            refine dropR_pure ?_ hs
            have : dryV h t = dryN h t h.n := by simp only [dryV, e, if_true]
            simp only [eq_self, this, e]
    · have e : dryE h t = 10 := by unfold dryE; rw [hv]; exact errE_clash hk hs
      simp only [vsAll, loadA, loadRow, partA, partOk, resA, retA.eq_2, Nat.reduceEqDiff, ↓reduceIte, eq_self, wtAll, Try.results26, hh_id]
      refine ⟨10, i6, fun _ => [i64 0], rfl, rfl, by simp only [↓reduceIte, eq_self, hh_id], ?_⟩
      simp only [vsAll, Nat.reduceLT, ↓reduceIte, eq_self]
      refine dropR_pure ?_ (by (repeat (first | exact HSub_rfl | refine HSub_put_eq (by simp only [vsAll, binA, binLitA, intA, aggA, boolA, nilA2, isConst, unA, loadA, loadRow, partA, partOk, fieldAddrA, indexAddrA, indexA, fieldA, extractA, lenA, nilCheckA, boxA, cellA, cellsA, fillA, okParts, buildSliceA, partIdx, elemsA, lensA, ifaceA, convA, mmA, pickA, okAll, stAll, opsA, partsA, partsOk, opA, allocA, boxMutA, newCells, okCells, storeObj, appendA, guardV, taA, nM, mapUpA, lookA, sliceA, boundsA, opO, okO, copyA, dstOk, nilA, quietOk, nilSliceOp, panA, resA, argFr, retA.eq_1, retA.eq_2, Nat.reduceAdd, Nat.reduceSub, Nat.reduceMul, Nat.reduceLT, Nat.reduceLeDiff, Nat.reduceEqDiff, Nat.reduceBEq, Int.reduceAdd, Int.reduceSub, Int.reduceMul, Int.reduceNeg, Int.reduceLE, Int.reduceLT, Int.reduceEq, Int.reduceNe, Int.reduceToNat, ↓reduceIte, reduceCtorEq, implies_true, forall_const, eq_self, ne_eq, wtAll, Try.ntmps26, Try.results26, hh_i6, hh_id]) ?_ | refine HSub_drop2 (by simp only [eq_self, hh_i6, hh_id]) ?_ | refine HSub_keep_eq (by simp only [vsAll, binA, binLitA, intA, aggA, boolA, nilA2, isConst, unA, loadA, loadRow, partA, partOk, fieldAddrA, indexAddrA, indexA, fieldA, extractA, lenA, nilCheckA, boxA, cellA, cellsA, fillA, okParts, buildSliceA, partIdx, elemsA, lensA, ifaceA, convA, mmA, pickA, okAll, stAll, opsA, partsA, partsOk, opA, allocA, boxMutA, newCells, okCells, storeObj, appendA, guardV, taA, nM, mapUpA, lookA, sliceA, boundsA, opO, okO, copyA, dstOk, nilA, quietOk, nilSliceOp, panA, resA, argFr, retA.eq_1, retA.eq_2, Nat.reduceAdd, Nat.reduceSub, Nat.reduceMul, Nat.reduceLT, Nat.reduceLeDiff, Nat.reduceEqDiff, Nat.reduceBEq, Int.reduceAdd, Int.reduceSub, Int.reduceMul, Int.reduceNeg, Int.reduceLE, Int.reduceLT, Int.reduceEq, Int.reduceNe, Int.reduceToNat, ↓reduceIte, reduceCtorEq, implies_true, forall_const, eq_self, ne_eq, wtAll, Try.ntmps26, Try.results26, hh_i6, hh_id]) ?_)))
      simp only [Int.reduceEq, ↓reduceIte, eq_self, dryV, e, Int.natCast_zero]

end Go.Proofs.Ytdeollnepclhaaa
end
section
set_option linter.unusedVariables false
set_option linter.unusedSimpArgs false
set_option maxHeartbeats 4000000
namespace Go.Proofs.Ytdeollnepclhaaa
open Go.V
/-- The ones of a number, counted as the library does. -/
def ones1 (s : Nat) : Nat := ((s >>> 1) &&& 6148914691236517205) + (s &&& 6148914691236517205)
def ones2 (s : Nat) : Nat := ((s >>> 2) &&& 3689348814741910323) + (s &&& 3689348814741910323)
def ones3 (s : Nat) : Nat := ((s >>> 4) + s) &&& 1085102592571150095
def ones4 (s : Nat) : Nat := s + (s >>> 8)
def ones5 (s : Nat) : Nat := s + (s >>> 16)
def ones6 (s : Nat) : Nat := s + (s >>> 32)
def ones (s : Nat) : Nat := ones6 (ones5 (ones4 (ones3 (ones2 (ones1 s))))) &&& 127

theorem shr_int (s k : Nat) : ((s : Int) / 2 ^ k) = ((s >>> k : Nat) : Int) := by
  rw [Nat.shiftRight_eq_div_pow]; simp
theorem bits64 : (IntKind.u64.bits = 64) = True := eq_true rfl
theorem ones1_le (s : Nat) : ones1 s ≤ 12297829382473034410 := by
  have h1 := @Nat.and_le_right (s >>> 1) 6148914691236517205
  have h2 := @Nat.and_le_right s 6148914691236517205
  unfold ones1; omega
theorem ones2_le (s : Nat) : ones2 s ≤ 7378697629483820646 := by
  have h1 := @Nat.and_le_right (s >>> 2) 3689348814741910323
  have h2 := @Nat.and_le_right s 3689348814741910323
  unfold ones2; omega
theorem ones3_le (s : Nat) : ones3 s ≤ 1085102592571150095 := Nat.and_le_right
theorem shr_le (s k : Nat) : s >>> k ≤ s := by rw [Nat.shiftRight_eq_div_pow]; exact Nat.div_le_self _ _

theorem ones64_tri (s : Nat) (H : Hp) (hs : s < 2 ^ 64) : PTri Try.prog (fnA 101) [u64 s] H (i64 (ones s)) := by
  refine tri_w0 Try.func101 (by kernel_rfl) rfl (by simp only [List.length_append, List.length_cons, List.length_nil, Try.ntmps101]; decide) ?_
  refine wps_cut (m := fun _ => false) [(0, u64 s)] H [] (by simp only [vsAll, opA, dstOk, nilSliceOp, argFr, Nat.reduceLT, ↓reduceIte, reduceCtorEq, eq_self, Try.ntmps101]) ?_
  refine wps_cut (m := fun _ => false) [(0, u64 (ones1 s))] H [] ?_ ?_
  · have h1 := ones1_le s
    have h2 := shr_le s 1
    have e : ((s >>> 1 &&& 6148914691236517205 : Nat) : Int) + ((s &&& 6148914691236517205 : Nat) : Int) = (ones1 s : Int) := by simp only [ones1]; omega
    simp only [vsAll, binA, binLitA, intA, opA, dstOk, nilSliceOp, Nat.reduceLT, Nat.reduceEqDiff, Int.reduceLE, Int.reduceLT, Int.reduceToNat, ↓reduceIte, reduceCtorEq, eq_self, Try.ntmps101, shr_int, bits64, InR_u64, e]
    omega
  have hs1 := ones1_le s
  generalize es1 : ones1 s = s1 at *
  refine wps_cut (m := fun _ => false) [(0, u64 (ones2 s1))] H [] ?_ ?_
  · have h1 := ones2_le s1
    have h2 := shr_le s1 2
    have e : ((s1 >>> 2 &&& 3689348814741910323 : Nat) : Int) + ((s1 &&& 3689348814741910323 : Nat) : Int) = (ones2 s1 : Int) := by simp only [ones2]; omega
    simp only [vsAll, binA, binLitA, intA, opA, dstOk, nilSliceOp, Nat.reduceLT, Nat.reduceEqDiff, Int.reduceLE, Int.reduceLT, Int.reduceToNat, ↓reduceIte, reduceCtorEq, eq_self, Try.ntmps101, shr_int, bits64, InR_u64, e]
    omega
  have hs2 := ones2_le s1
  generalize es2 : ones2 s1 = s2 at *
  refine wps_cut (m := fun _ => false) [(0, u64 (ones3 s2))] H [] ?_ ?_
  · have h1 := ones3_le s2
    have h2 := shr_le s2 4
    have e0 : ((s2 >>> 4 : Nat) : Int) + (s2 : Int) = ((s2 >>> 4 + s2 : Nat) : Int) := by omega
    have e : (((s2 >>> 4 + s2) &&& 1085102592571150095 : Nat) : Int) = (ones3 s2 : Int) := rfl
    simp only [vsAll, binA, binLitA, intA, opA, dstOk, nilSliceOp, Nat.reduceLT, Nat.reduceEqDiff, Int.reduceLE, Int.reduceLT, Int.reduceToNat, ↓reduceIte, reduceCtorEq, eq_self, Try.ntmps101, shr_int, bits64, InR_u64, e0, e]
    omega
  have hs3 := ones3_le s2
  generalize es3 : ones3 s2 = s3 at *
  refine wps_cut (m := fun _ => false) [(0, u64 (ones4 s3))] H [] ?_ ?_
  · have h2 := shr_le s3 8
    have e0 : (s3 : Int) + ((s3 >>> 8 : Nat) : Int) = (ones4 s3 : Int) := by simp only [ones4]; omega
    simp only [vsAll, binA, binLitA, intA, opA, dstOk, nilSliceOp, Nat.reduceLT, Nat.reduceEqDiff, Int.reduceLE, Int.reduceLT, Int.reduceToNat, ↓reduceIte, reduceCtorEq, eq_self, Try.ntmps101, shr_int, bits64, InR_u64, e0]
    simp only [ones4]; omega
  have hs4 : ones4 s3 ≤ 2 * 1085102592571150095 := by have := shr_le s3 8; simp only [ones4]; omega
  generalize es4 : ones4 s3 = s4 at *
  refine wps_cut (m := fun _ => false) [(0, u64 (ones5 s4))] H [] ?_ ?_
  · have h2 := shr_le s4 16
    have e0 : (s4 : Int) + ((s4 >>> 16 : Nat) : Int) = (ones5 s4 : Int) := by simp only [ones5]; omega
    simp only [vsAll, binA, binLitA, intA, opA, dstOk, nilSliceOp, Nat.reduceLT, Nat.reduceEqDiff, Int.reduceLE, Int.reduceLT, Int.reduceToNat, ↓reduceIte, reduceCtorEq, eq_self, Try.ntmps101, shr_int, bits64, InR_u64, e0]
    simp only [ones5]; omega
  have hs5 : ones5 s4 ≤ 4 * 1085102592571150095 := by have := shr_le s4 16; simp only [ones5]; omega
  generalize es5 : ones5 s4 = s5 at *
  refine wps_cut (m := fun _ => false) [(0, u64 (ones6 s5))] H [] ?_ ?_
  · have h2 := shr_le s5 32
    have e0 : (s5 : Int) + ((s5 >>> 32 : Nat) : Int) = (ones6 s5 : Int) := by simp only [ones6]; omega
    simp only [vsAll, binA, binLitA, intA, opA, dstOk, nilSliceOp, Nat.reduceLT, Nat.reduceEqDiff, Int.reduceLE, Int.reduceLT, Int.reduceToNat, ↓reduceIte, reduceCtorEq, eq_self, Try.ntmps101, shr_int, bits64, InR_u64, e0]
    simp only [ones6]; omega
  have hs6 : ones6 s5 ≤ 8 * 1085102592571150095 := by have := shr_le s5 32; simp only [ones6]; omega
  generalize es6 : ones6 s5 = s6 at *
  refine wps_vs (m := fun _ => false) ?_
  simp only [vsAll, binA, binLitA, intA, convA, opA, dstOk, nilSliceOp, resA, retA.eq_1, Nat.reduceLT, Int.reduceLE, Int.reduceToNat, ↓reduceIte, eq_self, wtAll, Try.ntmps101, Try.results101]
  refine ⟨by simp only [InR_i64]; omega, by simp only [InR_i64]; omega, ?_⟩
  simp only [ones, es1, es2, es3, es4, es5, es6]

theorem ones_pop (s : Nat) (hs : s < 4096) : ones s = pop s := by
  have : ∀ a, a < 64 → ∀ b, b < 64 → ones (64 * a + b) = pop (64 * a + b) := by decide +kernel
  have h := this (s / 64) (by omega) (s % 64) (by omega)
  rwa [show 64 * (s / 64) + s % 64 = s by omega] at h
theorem count_tri (s : Nat) (H : Hp) (hs : s < 4096) : PTri Try.prog (fnA 91) [u64 s] H (i64 (pop s)) := by
  refine tri_v0 (fun _ => false) Try.func91 (by kernel_rfl) rfl (by simp only [List.length_append, List.length_cons, List.length_nil, Try.ntmps91]; decide) ?_
  simp only [vsAll, okAll, stAll, opsA, opA, dstOk, nilSliceOp, argFr, Nat.reduceLT, ↓reduceIte, reduceCtorEq, eq_self, Try.ntmps91]
  refine callK_pure (ones64_tri s H (by omega)) ?_
  simp only [vsAll, opA, dstOk, nilSliceOp, resA, retA.eq_1, Nat.reduceLT, ↓reduceIte, eq_self, Try.results91, ones_pop s hs]

def lstN (key : Nat → Nat) (l : List Nat) : Nat → Nat × Nat
  | 0 => (0, 0)
  | i + 1 => if i = 0 ∨ key (l.getD i 0) < (lstN key l i).2 then (l.getD i 0, key (l.getD i 0)) else lstN key l i
theorem lstN_le (key : Nat → Nat) (l : List Nat) (b : Nat) (hk : ∀ x ∈ l, key x ≤ b) (i : Nat) (hi : i ≤ l.length) : (lstN key l i).2 ≤ b := by
  induction i with
  | zero => simp [lstN]
  | succ i ih =>
    simp only [lstN]
    split
    · exact hk _ (mem_getD l i 0 (by omega))
    · exact ih (by omega)

def uF (l : List Nat) : Nat → List AV := fun i => [u64 ((l.getD i 0 : Nat) : Int)]
abbrev usAV (l : List Nat) : AV := .rsl l.length 1 (uF l)
theorem uF_at (l : List Nat) (i : Nat) : uF l i = [u64 ((l.getD i 0 : Nat) : Int)] := rfl
theorem app_us (l : List Nat) (w : Nat) (g : Nat → List AV) (hg : g 0 = [u64 w]) : appF l.length 1 (uF l) g = uF (l ++ [w]) := by
  funext k
  simp only [appF, uF, hg, getD_snoc]
  split <;> rfl

theorem leastU_tri (key : Nat → Nat) (l : List Nat) (g : FuncId) (caps : List AV) (H : Hp) (hl : l.length ≤ 1000) (hk : ∀ x ∈ l, key x ≤ 1000) (hx : ∀ x ∈ l, x < 2 ^ 60)
    (hf : ∀ x ∈ l, PTri Try.prog (.func (.func g) [] caps) [u64 x] H (i64 (key x))) :
    PTri Try.prog (fnA 89) [usAV l, .agg [.func (.func g) [] caps]] H (.tuple [u64 (lstN key l l.length).1, i64 (lstN key l l.length).2]) := by
  refine tri_v0 (fun _ => false) Try.func89 (by kernel_rfl) rfl (by simp only [List.length_append, List.length_cons, List.length_nil, Try.ntmps89]; decide) ?_
  simp only [vsAll, lenA, boxA, opA, dstOk, nilSliceOp, argFr, Nat.reduceLT, ↓reduceIte, reduceCtorEq, eq_self, wtAll, Try.ntmps89]
  refine vs_loop (σ := Nat) (fun i => i ≤ l.length) (fun i => [(3, .rptr 1 1 (fun _ => [.func (.func g) [] caps]) 0 0), (4, u64 (lstN key l i).1), (5, i64 (lstN key l i).2), (9, usAV l), (10, i64 l.length), (11, i64 i)])
    (fun _ => H) (fun i => l.length - i) 0 (by omega) ?_ (HSub.refl _) fun i hi => ?_
  · simp only [vsAll, Nat.reduceEqDiff, ↓reduceIte, eq_self, lstN, Int.natCast_zero]
  · have hle := lstN_le key l 1000 hk i hi
    simp only [vsAll, binA, binLitA, intA, opA, dstOk, Nat.reduceLT, Nat.reduceEqDiff, ↓reduceIte, eq_self]
    refine condD (fun hd => ?_) (fun hd => ?_)
    · have hm := mem_getD l i 0 (show i < l.length by omega)
      have hkm := hk _ hm
      simp only [vsAll, loadA, loadRow, partA, partOk, fieldAddrA, indexAddrA, okAll, stAll, opsA, opA, dstOk, nilSliceOp, Nat.reduceLT, Nat.reduceEqDiff, ↓reduceIte, eq_self, wtAll, uF_at]
      refine ⟨by omega, by omega, callK_pure (hf _ hm) ?_⟩
      simp only [vsAll, binA, binLitA, intA, pickA, opA, guardV, dstOk, nilSliceOp, Nat.reduceLT, Nat.reduceEqDiff, ↓reduceIte, implies_true, eq_self]
      refine condV (fun hc => ?_) (fun hc => ?_)
      · simp only [Bool.or_eq_true, decide_eq_true_eq] at hc
        have e : lstN key l (i + 1) = (l.getD i 0, key (l.getD i 0)) := by simp only [lstN]; rw [if_pos (by omega)]
        simp only [vsAll, binA, binLitA, intA, opA, dstOk, nilSliceOp, Nat.reduceLT, Nat.reduceEqDiff, ↓reduceIte, eq_self]
        refine ⟨by simp only [InR_i64]; omega, loop_next (i + 1) (by omega) (by omega) ?_ (HSub.refl _)⟩
        simp only [vsAll, Nat.reduceEqDiff, ↓reduceIte, eq_self, e, Int.natCast_add, Int.natCast_one]
      · simp only [Bool.or_eq_false_iff, decide_eq_false_iff_not] at hc
        have e : lstN key l (i + 1) = lstN key l i := by simp only [lstN]; rw [if_neg (by omega)]
        simp only [vsAll, binA, binLitA, intA, opA, dstOk, Nat.reduceLT, Nat.reduceEqDiff, ↓reduceIte, eq_self]
        refine ⟨by simp only [InR_i64]; omega, loop_next (i + 1) (by omega) (by omega) ?_ (HSub.refl _)⟩
        simp only [vsAll, Nat.reduceEqDiff, ↓reduceIte, eq_self, e, Int.natCast_add, Int.natCast_one]
    · have ei : i = l.length := by omega
      subst ei
      simp only [vsAll, opA, dstOk, nilSliceOp, resA, retA.eq_2, Nat.reduceLT, Nat.reduceEqDiff, ↓reduceIte, eq_self, Try.results89]

theorem leastI_tri (key : Nat → Nat) (l : List Nat) (g : FuncId) (caps : List AV) (H : Hp) (hl : l.length ≤ 1000) (hk : ∀ x ∈ l, key x ≤ 1000)
    (hf : ∀ x ∈ l, PTri Try.prog (.func (.func g) [] caps) [i64 x] H (i64 (key x))) :
    PTri Try.prog (fnA 81) [natsAV l, .agg [.func (.func g) [] caps]] H (.tuple [i64 (lstN key l l.length).1, i64 (lstN key l l.length).2]) := by
  refine tri_v0 (fun _ => false) Try.func81 (by kernel_rfl) rfl (by simp only [List.length_append, List.length_cons, List.length_nil, Try.ntmps81]; decide) ?_
  simp only [vsAll, lenA, boxA, opA, dstOk, nilSliceOp, argFr, Nat.reduceLT, ↓reduceIte, reduceCtorEq, eq_self, wtAll, Try.ntmps81]
  refine vs_loop (σ := Nat) (fun i => i ≤ l.length) (fun i => [(3, .rptr 1 1 (fun _ => [.func (.func g) [] caps]) 0 0), (4, i64 (lstN key l i).1), (5, i64 (lstN key l i).2), (9, natsAV l), (10, i64 l.length), (11, i64 i)])
    (fun _ => H) (fun i => l.length - i) 0 (by omega) ?_ (HSub.refl _) fun i hi => ?_
  · simp only [vsAll, Nat.reduceEqDiff, ↓reduceIte, eq_self, lstN, Int.natCast_zero]
  · have hle := lstN_le key l 1000 hk i hi
    simp only [vsAll, binA, binLitA, intA, opA, dstOk, Nat.reduceLT, Nat.reduceEqDiff, ↓reduceIte, eq_self]
    refine condD (fun hd => ?_) (fun hd => ?_)
    · have hm := mem_getD l i 0 (show i < l.length by omega)
      have hkm := hk _ hm
      simp only [vsAll, loadA, loadRow, partA, partOk, fieldAddrA, indexAddrA, okAll, stAll, opsA, opA, dstOk, nilSliceOp, Nat.reduceLT, Nat.reduceEqDiff, ↓reduceIte, eq_self, wtAll, natF_at]
      refine ⟨by omega, by omega, callK_pure (hf _ hm) ?_⟩
      simp only [vsAll, binA, binLitA, intA, pickA, opA, guardV, dstOk, nilSliceOp, Nat.reduceLT, Nat.reduceEqDiff, ↓reduceIte, implies_true, eq_self]
      refine condV (fun hc => ?_) (fun hc => ?_)
      · simp only [Bool.or_eq_true, decide_eq_true_eq] at hc
        have e : lstN key l (i + 1) = (l.getD i 0, key (l.getD i 0)) := by simp only [lstN]; rw [if_pos (by omega)]
        simp only [vsAll, binA, binLitA, intA, opA, dstOk, nilSliceOp, Nat.reduceLT, Nat.reduceEqDiff, ↓reduceIte, eq_self]
        refine ⟨by simp only [InR_i64]; omega, loop_next (i + 1) (by omega) (by omega) ?_ (HSub.refl _)⟩
        simp only [vsAll, Nat.reduceEqDiff, ↓reduceIte, eq_self, e, Int.natCast_add, Int.natCast_one]
      · simp only [Bool.or_eq_false_iff, decide_eq_false_iff_not] at hc
        have e : lstN key l (i + 1) = lstN key l i := by simp only [lstN]; rw [if_neg (by omega)]
        simp only [vsAll, binA, binLitA, intA, opA, dstOk, Nat.reduceLT, Nat.reduceEqDiff, ↓reduceIte, eq_self]
        refine ⟨by simp only [InR_i64]; omega, loop_next (i + 1) (by omega) (by omega) ?_ (HSub.refl _)⟩
        simp only [vsAll, Nat.reduceEqDiff, ↓reduceIte, eq_self, e, Int.natCast_add, Int.natCast_one]
    · have ei : i = l.length := by omega
      subst ei
      simp only [vsAll, opA, dstOk, nilSliceOp, resA, retA.eq_2, Nat.reduceLT, Nat.reduceEqDiff, ↓reduceIte, eq_self, Try.results81]

end Go.Proofs.Ytdeollnepclhaaa
end
section
set_option linter.unusedVariables false
set_option linter.unusedSimpArgs false
set_option maxHeartbeats 4000000
namespace Go.Proofs.Ytdeollnepclhaaa
open Go.V
theorem by_some (h : Hd) (S : Nat) : someB (byN h S h.m) = decide (0 < (amts h S).length) := by
  rw [Bool.eq_iff_iff]
  simp only [someB, List.any_eq_true, List.mem_range, decide_eq_true_eq, amts, amtsN, List.length_filter_pos_iff, byN_can]
def clB (h : Hd) (s : Nat) : Bool := decide ((amts h s).length = 0)
theorem not_some (h : Hd) (S : Nat) : (!someB (byN h S h.m)) = clB h S := by
  rw [by_some, Bool.eq_iff_iff]
  simp only [clB, Bool.not_eq_true', decide_eq_true_eq, decide_eq_false_iff_not]
  omega

theorem clash1_tri (h : Hd) (id i4 S : Nat) (H : Hp) (k : HOk h) (h4 : H i4 = some (.box 1 1 fun _ => [hdP h id])) (ho : H id = some (.memo (memoF h))) (hS : S < 2 ^ 60) :
    PTri Try.prog (.func (.func 85) [] [.ref i4 0 1 0 0]) [u64 S] H (boo (clB h S)) := by
  refine tri_v0 (fun _ => false) Try.func85 (by kernel_rfl) rfl (by simp only [List.length_append, List.length_cons, List.length_nil, Try.ntmps85]; decide) ?_
  simp only [vsAll, loadA, loadRow, partA, partOk, okAll, stAll, opsA, opA, dstOk, nilSliceOp, argFr, Nat.reduceLT, Nat.reduceEqDiff, ↓reduceIte, reduceCtorEq, eq_self, wtAll, Try.ntmps85, h4]
  refine callK_pure (by_tri h id S H k ho hS) ?_
  simp only [vsAll, okAll, stAll, opsA, opA, dstOk, Nat.reduceLT, ↓reduceIte, eq_self]
  refine callK_pure (some_tri _ _) ?_
  simp only [vsAll, unA, opA, dstOk, nilSliceOp, resA, retA.eq_1, Nat.reduceLT, ↓reduceIte, eq_self, Try.results85, not_some]

theorem clash2_tri (S : Nat) (H : Hp) (hS : S < 4096) : PTri Try.prog (.func (.func 90) [] []) [u64 S] H (i64 (pop S)) := by
  refine tri_v0 (fun _ => false) Try.func90 (by kernel_rfl) rfl (by simp only [List.length_append, List.length_cons, List.length_nil, Try.ntmps90]; decide) ?_
  simp only [vsAll, okAll, stAll, opsA, opA, dstOk, nilSliceOp, argFr, Nat.reduceLT, ↓reduceIte, reduceCtorEq, eq_self, Try.ntmps90]
  refine callK_pure (count_tri S H hS) ?_
  simp only [vsAll, opA, dstOk, nilSliceOp, resA, retA.eq_1, Nat.reduceLT, ↓reduceIte, eq_self, Try.results90]

def csN (h : Hd) (k : Nat) : List Nat := (List.range k).filter (clB h)
theorem csN_yes {h : Hd} {k : Nat} (hc : clB h k = true) : csN h (k + 1) = csN h k ++ [k] := by simp [csN, List.range_succ, List.filter_append, hc]
theorem csN_no {h : Hd} {k : Nat} (hc : clB h k = false) : csN h (k + 1) = csN h k := by simp [csN, List.range_succ, List.filter_append, hc]
theorem csN_len (h : Hd) (k : Nat) : (csN h k).length ≤ k := by
  have := List.length_filter_le (clB h) (List.range k)
  simpa [csN] using this
theorem csN_lt {h : Hd} {k x : Nat} (hx : x ∈ csN h k) : x < k := by simp [csN] at hx; exact hx.1

theorem lstN_append (key : Nat → Nat) (l : List Nat) (x : Nat) (i : Nat) (hi : i ≤ l.length) : lstN key (l ++ [x]) i = lstN key l i := by
  induction i with
  | zero => rfl
  | succ i ih =>
    have e : (l ++ [x]).getD i 0 = l.getD i 0 := by rw [getD_snoc, if_neg (by omega)]
    simp only [lstN, e, ih (by omega)]
theorem lstN_snoc (key : Nat → Nat) (l : List Nat) (x : Nat) : lstN key (l ++ [x]) (l ++ [x]).length = if l.length = 0 ∨ key x < (lstN key l l.length).2 then (x, key x) else lstN key l l.length := by
  have e : (l ++ [x]).getD l.length 0 = x := by rw [getD_snoc, if_pos rfl]
  rw [List.length_append, List.length_cons, List.length_nil, Nat.zero_add, lstN, e, lstN_append key l x l.length (Nat.le_refl _)]
theorem pop_every (m s : Nat) (hm : m ≤ 6) (hs : s < 2 ^ m - 1) : pop s < pop (2 ^ m - 1) := by
  have : ∀ m, m < 7 → ∀ s, s < 2 ^ m - 1 → pop s < pop (2 ^ m - 1) := by decide +kernel
  exact this m (by omega) s hs

theorem cl_least (h : Hd) (hm : h.m ≤ 6) (k : Nat) (hk : k ≤ 2 ^ h.m - 1) :
    ((csN h k).length = 0 ∧ clN h (2 ^ h.m - 1) k = 2 ^ h.m - 1) ∨
    (0 < (csN h k).length ∧ lstN pop (csN h k) (csN h k).length = (clN h (2 ^ h.m - 1) k, pop (clN h (2 ^ h.m - 1) k)) ∧ pop (clN h (2 ^ h.m - 1) k) < pop (2 ^ h.m - 1)) := by
  induction k with
  | zero => left; exact ⟨rfl, rfl⟩
  | succ k ih =>
    have hp := pop_every h.m k hm (by omega)
    cases hc : clB h k with
    | false =>
      have : ¬ (amts h k).length = 0 := by simpa [clB] using hc
      have e : clN h (2 ^ h.m - 1) (k + 1) = clN h (2 ^ h.m - 1) k := by simp only [clN]; rw [if_neg (fun q => this q.2)]
      rw [csN_no hc, e]
      exact ih (by omega)
    | true =>
      have hz : (amts h k).length = 0 := by simpa [clB] using hc
      rw [csN_yes hc]
      right
      refine ⟨by simp, ?_⟩
      rw [lstN_snoc]
      rcases ih (by omega) with ⟨h1, h2⟩ | ⟨h1, h2, h3⟩
      · have e : clN h (2 ^ h.m - 1) (k + 1) = k := by simp only [clN]; rw [h2, if_pos ⟨hp, hz⟩]
        rw [e, if_pos (.inl h1)]
        exact ⟨rfl, hp⟩
      · by_cases hlt : pop k < pop (clN h (2 ^ h.m - 1) k)
        · have e : clN h (2 ^ h.m - 1) (k + 1) = k := by simp only [clN]; rw [if_pos ⟨hlt, hz⟩]
          rw [e, h2, if_pos (.inr hlt)]
          exact ⟨rfl, hp⟩
        · have e : clN h (2 ^ h.m - 1) (k + 1) = clN h (2 ^ h.m - 1) k := by simp only [clN]; rw [if_neg (fun q => hlt q.1)]
          rw [e, h2, if_neg (by intro q; rcases q with q | q <;> omega)]
          exact ⟨rfl, h3⟩
theorem cl_all (h : Hd) (hm : h.m ≤ 6) (hc : clB h (2 ^ h.m - 1) = true) : (lstN pop (csN h (2 ^ h.m)) (csN h (2 ^ h.m)).length).1 = clN h (2 ^ h.m - 1) (2 ^ h.m) := by
  have h0 : 0 < 2 ^ h.m := Nat.pos_of_ne_zero (by simp)
  obtain ⟨q, hq⟩ : ∃ q, 2 ^ h.m = q + 1 := ⟨2 ^ h.m - 1, by omega⟩
  have hq2 : 2 ^ h.m - 1 = q := by omega
  have := cl_least h hm (2 ^ h.m - 1) (Nat.le_refl _)
  rw [hq2] at this hc ⊢
  rw [hq, csN_yes hc, lstN_snoc]
  rcases this with ⟨h1, h2⟩ | ⟨h1, h2, h3⟩
  · rw [if_pos (.inl h1)]
    simp only [clN]; rw [h2, if_neg (by omega)]
  · rw [h2, if_neg (fun w => by rcases w with w | w; (· omega); (· have w' : pop q < pop (clN h q q) := w; omega))]
    simp only [clN]; rw [if_neg (by omega)]

theorem wclash_tri (h : Hd) (H : Hp) (k : Near h) : PTri Try.prog (fnA 34) [h.av] H (.tuple [i64 (clashV h), i64 (clashE h)]) := by
  refine Tri.drop ?_
  refine tri_a (m := mset [6]) ans51 Try.func34 (by kernel_rfl) rfl (by simp only [List.length_append, List.length_cons, List.length_nil, Try.ntmps34]; decide) ?_
  simp only [vsAll, loadA, loadRow, partA, partOk, boxA, okAll, stAll, opsA, opA, allocA, dstOk, nilSliceOp, argFr, Nat.reduceAdd, Nat.reduceLT, Nat.reduceEqDiff, Nat.reduceBEq, ↓reduceIte, eq_self, wtAll, Try.ntmps34]
  intro i3 hh_i3; (try simp only [Hp.set_none, ite_none] at hh_i3)
  refine open_call (open_tri h _ true _ k trivial rfl (fun hk H' id ho => always_tri _ H')) (fun hno => ?_) (fun hk hv => by cases hv) (fun hk hv => ?_)
  · have e : errE h true false = 1 := errE_no hno _ _
    have e1 : clashE h = 1 := by simp [clashE, e]
    have e2 : clashV h = 0 := by simp [clashV, e1]
    simp only [vsAll]
    refine ⟨1, i3, _, rfl, rfl, Hp.set_same _ _ _, ?_⟩
    simp only [vsAll, loadA, loadRow, partA, partOk, resA, retA.eq_2, Nat.reduceLT, Nat.reduceEqDiff, ↓reduceIte, eq_self, wtAll, Try.results34]
    refine dropR_pure ?_ (by (repeat (first | exact HSub_rfl | refine HSub_put_eq (by simp only [vsAll, binA, binLitA, intA, aggA, boolA, nilA2, isConst, unA, loadA, loadRow, partA, partOk, fieldAddrA, indexAddrA, indexA, fieldA, extractA, lenA, nilCheckA, boxA, cellA, cellsA, fillA, okParts, buildSliceA, partIdx, elemsA, lensA, ifaceA, convA, mmA, pickA, okAll, stAll, opsA, partsA, partsOk, opA, allocA, boxMutA, newCells, okCells, storeObj, appendA, guardV, taA, nM, mapUpA, lookA, sliceA, boundsA, opO, okO, copyA, dstOk, nilA, quietOk, nilSliceOp, panA, resA, argFr, retA.eq_1, retA.eq_2, Nat.reduceAdd, Nat.reduceSub, Nat.reduceMul, Nat.reduceLT, Nat.reduceLeDiff, Nat.reduceEqDiff, Nat.reduceBEq, Int.reduceAdd, Int.reduceSub, Int.reduceMul, Int.reduceNeg, Int.reduceLE, Int.reduceLT, Int.reduceEq, Int.reduceNe, Int.reduceToNat, ↓reduceIte, reduceCtorEq, implies_true, forall_const, eq_self, ne_eq, wtAll, Try.ntmps34, Try.results34, hh_i3]) ?_ | refine HSub_drop2 (by simp only [eq_self, hh_i3]) ?_ | refine HSub_keep_eq (by simp only [vsAll, binA, binLitA, intA, aggA, boolA, nilA2, isConst, unA, loadA, loadRow, partA, partOk, fieldAddrA, indexAddrA, indexA, fieldA, extractA, lenA, nilCheckA, boxA, cellA, cellsA, fillA, okParts, buildSliceA, partIdx, elemsA, lensA, ifaceA, convA, mmA, pickA, okAll, stAll, opsA, partsA, partsOk, opA, allocA, boxMutA, newCells, okCells, storeObj, appendA, guardV, taA, nM, mapUpA, lookA, sliceA, boundsA, opO, okO, copyA, dstOk, nilA, quietOk, nilSliceOp, panA, resA, argFr, retA.eq_1, retA.eq_2, Nat.reduceAdd, Nat.reduceSub, Nat.reduceMul, Nat.reduceLT, Nat.reduceLeDiff, Nat.reduceEqDiff, Nat.reduceBEq, Int.reduceAdd, Int.reduceSub, Int.reduceMul, Int.reduceNeg, Int.reduceLE, Int.reduceLT, Int.reduceEq, Int.reduceNe, Int.reduceToNat, ↓reduceIte, reduceCtorEq, implies_true, forall_const, eq_self, ne_eq, wtAll, Try.ntmps34, Try.results34, hh_i3]) ?_)))
    simp only [eq_self, e1, e2, Int.natCast_zero]
  · intro id hh_id; (try simp only [Hp.set_none] at hh_id)
    have hm := hk.m
    have h1 : 2 ^ h.m ≤ 2 ^ 6 := Nat.pow_le_pow_right (by ((try clear hh_i3); (try clear hh_id); omega)) hm
    have h0 : 0 < 2 ^ h.m := Nat.pos_of_ne_zero (by simp)
    have e : errE h true false = 0 := errE_ok hk
    simp only [vsAll, loadA, loadRow, partA, partOk, cellA, cellsA, okAll, stAll, opsA, opA, allocA, newCells, okCells, storeObj, dstOk, nilSliceOp, Nat.reduceLT, Nat.reduceEqDiff, Nat.reduceBEq, ↓reduceIte, eq_self, wtAll]
    intro i4 hh_i4; (try simp only [ite_none] at hh_i4)
    refine callK_pure (every_tri h id _ hk) ?_
    simp only [vsAll, okAll, stAll, opsA, opA, dstOk, Nat.reduceLT, Nat.reduceEqDiff, ↓reduceIte, eq_self]
    refine callK_pure (clash1_tri h id i4 (2 ^ h.m - 1) _ hk (by simp only [vsAll, ↓reduceIte, eq_self]) (by simp only [vsAll, ↓reduceIte, eq_self, hh_i4]) (by ((try clear hh_i3); (try clear hh_id); (try clear hh_i4); omega))) ?_
    simp only [vsAll, okAll, stAll, opsA, opA, dstOk, Nat.reduceLT, ↓reduceIte, eq_self]
    refine callK (ask_tri _ _ _) ?_
    rintro r H' ⟨rfl, rfl⟩
    cases hc : clB h (2 ^ h.m - 1) with
    | false =>
      have : ¬ (amts h (2 ^ h.m - 1)).length = 0 := by simpa [clB] using hc
      have e1 : clashE h = 4 := by simp only [clashE, e, if_true]; rw [if_pos (by ((try clear hh_i3); (try clear hh_id); (try clear hh_i4); omega))]
      have e2 : clashV h = 0 := by simp [clashV, e1]
      simp only [vsAll, ↓reduceIte]
      refine ⟨4, i3, fun _ => [i64 0], rfl, rfl, by simp only [vsAll, ↓reduceIte, eq_self, hh_id, hh_i4], ?_⟩
      simp only [vsAll, loadA, loadRow, partA, partOk, resA, retA.eq_2, Nat.reduceLT, Nat.reduceEqDiff, ↓reduceIte, eq_self, wtAll, Try.results34]
      refine dropR_pure ?_ (by (repeat (first | exact HSub_rfl | refine HSub_put_eq (by simp only [vsAll, binA, binLitA, intA, aggA, boolA, nilA2, isConst, unA, loadA, loadRow, partA, partOk, fieldAddrA, indexAddrA, indexA, fieldA, extractA, lenA, nilCheckA, boxA, cellA, cellsA, fillA, okParts, buildSliceA, partIdx, elemsA, lensA, ifaceA, convA, mmA, pickA, okAll, stAll, opsA, partsA, partsOk, opA, allocA, boxMutA, newCells, okCells, storeObj, appendA, guardV, taA, nM, mapUpA, lookA, sliceA, boundsA, opO, okO, copyA, dstOk, nilA, quietOk, nilSliceOp, panA, resA, argFr, retA.eq_1, retA.eq_2, Nat.reduceAdd, Nat.reduceSub, Nat.reduceMul, Nat.reduceLT, Nat.reduceLeDiff, Nat.reduceEqDiff, Nat.reduceBEq, Int.reduceAdd, Int.reduceSub, Int.reduceMul, Int.reduceNeg, Int.reduceLE, Int.reduceLT, Int.reduceEq, Int.reduceNe, Int.reduceToNat, ↓reduceIte, reduceCtorEq, implies_true, forall_const, eq_self, ne_eq, wtAll, Try.ntmps34, Try.results34, hh_i3, hh_id, hh_i4]) ?_ | refine HSub_drop2 (by simp only [eq_self, hh_i3, hh_id, hh_i4]) ?_ | refine HSub_keep_eq (by simp only [vsAll, binA, binLitA, intA, aggA, boolA, nilA2, isConst, unA, loadA, loadRow, partA, partOk, fieldAddrA, indexAddrA, indexA, fieldA, extractA, lenA, nilCheckA, boxA, cellA, cellsA, fillA, okParts, buildSliceA, partIdx, elemsA, lensA, ifaceA, convA, mmA, pickA, okAll, stAll, opsA, partsA, partsOk, opA, allocA, boxMutA, newCells, okCells, storeObj, appendA, guardV, taA, nM, mapUpA, lookA, sliceA, boundsA, opO, okO, copyA, dstOk, nilA, quietOk, nilSliceOp, panA, resA, argFr, retA.eq_1, retA.eq_2, Nat.reduceAdd, Nat.reduceSub, Nat.reduceMul, Nat.reduceLT, Nat.reduceLeDiff, Nat.reduceEqDiff, Nat.reduceBEq, Int.reduceAdd, Int.reduceSub, Int.reduceMul, Int.reduceNeg, Int.reduceLE, Int.reduceLT, Int.reduceEq, Int.reduceNe, Int.reduceToNat, ↓reduceIte, reduceCtorEq, implies_true, forall_const, eq_self, ne_eq, wtAll, Try.ntmps34, Try.results34, hh_i3, hh_id, hh_i4]) ?_)))
      simp only [eq_self, e1, e2, Int.natCast_zero]
    | true =>
      have hz : (amts h (2 ^ h.m - 1)).length = 0 := by simpa [clB] using hc
      have e1 : clashE h = 0 := by simp only [clashE, e, if_true]; rw [if_neg (by ((try clear hh_i3); (try clear hh_id); (try clear hh_i4); omega))]
      have e2 : clashV h = (lstN pop (csN h (2 ^ h.m)) (csN h (2 ^ h.m)).length).1 := by rw [cl_all h hm hc]; simp [clashV, e1]
      simp only [vsAll, loadA, loadRow, partA, partOk, okAll, stAll, opsA, opA, dstOk, nilA, Nat.reduceLT, Nat.reduceEqDiff, Nat.reduceBEq, ↓reduceIte, eq_self, wtAll]
      intro i6 hh_i6; (try simp only [ite_none] at hh_i6)
      simp only [vsAll, Nat.reduceLT, ↓reduceIte, eq_self, hh_i6]
      refine callK_pure (every_tri h id _ hk) ?_
      simp only [vsAll, binA, binLitA, intA, opA, dstOk, Nat.reduceLT, ↓reduceIte, eq_self]
      have ew : ((2 ^ h.m - 1 : Nat) : Int) + 1 = ((2 ^ h.m : Nat) : Int) := by ((try clear hh_i3); (try clear hh_id); (try clear hh_i4); (try clear hh_i6); omega)
      rw [ew]
      refine ⟨by simp only [InR_u64]; ((try clear hh_i3); (try clear hh_id); (try clear hh_i4); (try clear hh_i6); omega), ?_⟩
      have c0 : csN h 0 = [] := rfl
      refine vs_loop (σ := Nat) (fun s => s ≤ 2 ^ h.m) (fun s => [(3, .ref i3 0 1 0 0), (4, .ref i4 0 1 0 0), (5, .func (.func 85) [] [.ref i4 0 1 0 0]), (6, .sl i6 1 (csN h s).length), (20, u64 ((2 ^ h.m : Nat) : Int)), (21, u64 s)])
        (fun s => ((((H.set i3 (.box 1 1 fun _ => [i64 0])).set id (.memo (memoF h))).set i4 (.box 1 1 fun _ => [hdP h id])).set i6 (.row 1 (csN h s).length (uF (csN h s))))) (fun s => 2 ^ h.m - s) 0 (by ((try clear hh_i3); (try clear hh_id); (try clear hh_i4); (try clear hh_i6); omega)) ?_ ?_ fun s hs => ?_
      · simp only [vsAll, Nat.reduceEqDiff, ↓reduceIte, eq_self, c0, Int.natCast_zero]
      · simp only [c0]
        refine HSub_put (o' := .row 1 0 fun _ => []) (by simp only [vsAll, ↓reduceIte, eq_self]) (row0_le _ _ _) ?_
        (repeat (first | exact HSub_rfl | refine HSub_put_eq (by simp only [vsAll, ↓reduceIte, eq_self, hh_id, hh_i4, hh_i6]) ?_ | refine HSub_drop2 (by simp only [eq_self, hh_i3, hh_id, hh_i4, hh_i6]) ?_ | refine HSub_keep_eq (by simp only [vsAll, binA, binLitA, intA, aggA, boolA, nilA2, isConst, unA, loadA, loadRow, partA, partOk, fieldAddrA, indexAddrA, indexA, fieldA, extractA, lenA, nilCheckA, boxA, cellA, cellsA, fillA, okParts, buildSliceA, partIdx, elemsA, lensA, ifaceA, convA, mmA, pickA, okAll, stAll, opsA, partsA, partsOk, opA, allocA, boxMutA, newCells, okCells, storeObj, appendA, guardV, taA, nM, mapUpA, lookA, sliceA, boundsA, opO, okO, copyA, dstOk, nilA, quietOk, nilSliceOp, panA, resA, argFr, retA.eq_1, retA.eq_2, Nat.reduceAdd, Nat.reduceSub, Nat.reduceMul, Nat.reduceLT, Nat.reduceLeDiff, Nat.reduceEqDiff, Nat.reduceBEq, Int.reduceAdd, Int.reduceSub, Int.reduceMul, Int.reduceNeg, Int.reduceLE, Int.reduceLT, Int.reduceEq, Int.reduceNe, Int.reduceToNat, ↓reduceIte, reduceCtorEq, implies_true, forall_const, eq_self, ne_eq, wtAll, Try.ntmps34, Try.results34, hh_i3, hh_id, hh_i4, hh_i6]) ?_))
      · have al := csN_len h s
        simp only [vsAll, binA, binLitA, intA, opA, dstOk, Nat.reduceLT, Nat.reduceEqDiff, ↓reduceIte, eq_self]
        refine condD (fun hd => ?_) (fun hd => ?_)
        · simp only [vsAll, okAll, stAll, opsA, opA, dstOk, nilSliceOp, Nat.reduceLT, Nat.reduceEqDiff, Nat.reduceBEq, ↓reduceIte, eq_self]
          refine callK_pure (clash1_tri h id i4 s _ hk (by simp only [vsAll, ↓reduceIte, eq_self, hh_i6]) (by simp only [vsAll, ↓reduceIte, eq_self, hh_i4, hh_i6]) (by ((try clear hh_i3); (try clear hh_id); (try clear hh_i4); (try clear hh_i6); omega))) ?_
          simp only [vsAll, opA, ↓reduceIte, eq_self]
          refine condV (fun hq => ?_) (fun hq => ?_)
          · simp only [vsAll, binA, binLitA, intA, cellA, cellsA, okParts, buildSliceA, partIdx, elemsA, lensA, partsA, partsOk, opA, appendA, dstOk, nilSliceOp, Nat.reduceMul, Nat.reduceLT, Nat.reduceLeDiff, Nat.reduceEqDiff, Nat.reduceBEq, ↓reduceIte, eq_self, wtAll]
            rw [app_us _ s _ rfl]
            refine ⟨fun q hq => by (have : q = 0 := by ((try clear hh_i3); (try clear hh_id); (try clear hh_i4); (try clear hh_i6); omega)); subst this; simp only [vsAll, cellA, okCells, eq_self], by ((try clear hh_i3); (try clear hh_id); (try clear hh_i4); (try clear hh_i6); omega), by ((try clear hh_i3); (try clear hh_id); (try clear hh_i4); (try clear hh_i6); omega), by simp only [InR_u64]; ((try clear hh_i3); (try clear hh_id); (try clear hh_i4); (try clear hh_i6); omega), loop_next (s + 1) (by ((try clear hh_i3); (try clear hh_id); (try clear hh_i4); (try clear hh_i6); omega)) (by ((try clear hh_i3); (try clear hh_id); (try clear hh_i4); (try clear hh_i6); omega)) ?_ ?_⟩
            · simp only [vsAll, Nat.reduceEqDiff, ↓reduceIte, eq_self, csN_yes hq, List.length_append, Int.natCast_add, Int.natCast_one]
            · simp only [vsAll, csN_yes hq, List.length_append, Hp.set_set]
          · simp only [vsAll, binA, binLitA, intA, opA, dstOk, Nat.reduceLT, Nat.reduceEqDiff, ↓reduceIte, eq_self]
            refine ⟨by simp only [InR_u64]; ((try clear hh_i3); (try clear hh_id); (try clear hh_i4); (try clear hh_i6); omega), loop_next (s + 1) (by ((try clear hh_i3); (try clear hh_id); (try clear hh_i4); (try clear hh_i6); omega)) (by ((try clear hh_i3); (try clear hh_id); (try clear hh_i4); (try clear hh_i6); omega)) ?_ ?_⟩
            · simp only [vsAll, Nat.reduceEqDiff, ↓reduceIte, eq_self, csN_no hq, Int.natCast_add, Int.natCast_one]
            · simp only [vsAll, csN_no hq]
        · have es : s = 2 ^ h.m := by ((try clear hh_i3); (try clear hh_id); (try clear hh_i4); (try clear hh_i6); omega)
          subst es
          simp only [vsAll, cellA, cellsA, fillA, okParts, okAll, stAll, opsA, partsA, partsOk, opA, dstOk, Nat.reduceLT, Nat.reduceEqDiff, ↓reduceIte, eq_self, wtAll]
          have hfz : ∀ X : Hp, X i6 = none → Tri Try.prog (fnA 89) [.sl i6 1 (csN h (2 ^ h.m)).length, .agg [.func (.func 90) [] []]] (X.set i6 (.row 1 (csN h (2 ^ h.m)).length (uF (csN h (2 ^ h.m)))))
              fun r H' => r = .ret (.tuple [u64 (lstN pop (csN h (2 ^ h.m)) (csN h (2 ^ h.m)).length).1, i64 (lstN pop (csN h (2 ^ h.m)) (csN h (2 ^ h.m)).length).2]) ∧ H' = X := by
            intro X hX
            refine tri_freeze (args' := [usAV (csN h (2 ^ h.m)), .agg [.func (.func 90) [] []]]) (Hp.set_same _ _ _) rfl (fun q => by rcases q with _ | q; (· exact .inr ⟨rfl, rfl⟩); (· exact .inl rfl)) ?_
            rw [set_del hX]
            exact leastU_tri pop _ 90 [] X (by ((try clear hh_i3); (try clear hh_id); (try clear hh_i4); (try clear hh_i6); omega)) (fun x hx => by have := pop_le x; have := csN_lt hx; ((try clear hh_i3); (try clear hh_id); (try clear hh_i4); (try clear hh_i6); omega)) (fun x hx => by have := csN_lt hx; ((try clear hh_i3); (try clear hh_id); (try clear hh_i4); (try clear hh_i6); omega)) (fun x hx => clash2_tri x X (by have := csN_lt hx; ((try clear hh_i3); (try clear hh_id); (try clear hh_i4); (try clear hh_i6); omega)))
          refine callK (hfz _ (by simp only [vsAll, ↓reduceIte, eq_self, hh_i6])) ?_
          rintro r H' ⟨rfl, rfl⟩
          simp only [vsAll, extractA, cellA, cellsA, convA, opA, newCells, okCells, storeObj, dstOk, nilSliceOp, Nat.reduceAdd, Nat.reduceLT, Nat.reduceEqDiff, Nat.reduceBEq, ↓reduceIte, eq_self, wtAll, hh_id, hh_i4]
          have hb : (lstN pop (csN h (2 ^ h.m)) (csN h (2 ^ h.m)).length).1 ≤ 2 ^ h.m - 1 := by rw [cl_all h hm hc]; exact clN_le h _ _ (by ((try clear hh_i3); (try clear hh_id); (try clear hh_i4); (try clear hh_i6); omega))
          refine ⟨by simp only [InR_i64]; ((try clear hh_i3); (try clear hh_id); (try clear hh_i4); (try clear hh_i6); omega), Ent.ret ⟨i3, fun _ => [i64 0], rfl, by simp only [vsAll, ↓reduceIte, eq_self], ?_⟩⟩
          simp only [vsAll, loadA, loadRow, partA, partOk, resA, retA.eq_2, Nat.reduceLT, Nat.reduceEqDiff, ↓reduceIte, eq_self, wtAll, Try.results34]
          refine dropR_pure ?_ (by (repeat (first | exact HSub_rfl | refine HSub_put_eq (by simp only [vsAll, binA, binLitA, intA, aggA, boolA, nilA2, isConst, unA, loadA, loadRow, partA, partOk, fieldAddrA, indexAddrA, indexA, fieldA, extractA, lenA, nilCheckA, boxA, cellA, cellsA, fillA, okParts, buildSliceA, partIdx, elemsA, lensA, ifaceA, convA, mmA, pickA, okAll, stAll, opsA, partsA, partsOk, opA, allocA, boxMutA, newCells, okCells, storeObj, appendA, guardV, taA, nM, mapUpA, lookA, sliceA, boundsA, opO, okO, copyA, dstOk, nilA, quietOk, nilSliceOp, panA, resA, argFr, retA.eq_1, retA.eq_2, Nat.reduceAdd, Nat.reduceSub, Nat.reduceMul, Nat.reduceLT, Nat.reduceLeDiff, Nat.reduceEqDiff, Nat.reduceBEq, Int.reduceAdd, Int.reduceSub, Int.reduceMul, Int.reduceNeg, Int.reduceLE, Int.reduceLT, Int.reduceEq, Int.reduceNe, Int.reduceToNat, ↓reduceIte, reduceCtorEq, implies_true, forall_const, eq_self, ne_eq, wtAll, Try.ntmps34, Try.results34, hh_i3, hh_id, hh_i4, hh_i6]) ?_ | refine HSub_drop2 (by simp only [eq_self, hh_i3, hh_id, hh_i4]) ?_ | refine HSub_keep_eq (by simp only [vsAll, binA, binLitA, intA, aggA, boolA, nilA2, isConst, unA, loadA, loadRow, partA, partOk, fieldAddrA, indexAddrA, indexA, fieldA, extractA, lenA, nilCheckA, boxA, cellA, cellsA, fillA, okParts, buildSliceA, partIdx, elemsA, lensA, ifaceA, convA, mmA, pickA, okAll, stAll, opsA, partsA, partsOk, opA, allocA, boxMutA, newCells, okCells, storeObj, appendA, guardV, taA, nM, mapUpA, lookA, sliceA, boundsA, opO, okO, copyA, dstOk, nilA, quietOk, nilSliceOp, panA, resA, argFr, retA.eq_1, retA.eq_2, Nat.reduceAdd, Nat.reduceSub, Nat.reduceMul, Nat.reduceLT, Nat.reduceLeDiff, Nat.reduceEqDiff, Nat.reduceBEq, Int.reduceAdd, Int.reduceSub, Int.reduceMul, Int.reduceNeg, Int.reduceLE, Int.reduceLT, Int.reduceEq, Int.reduceNe, Int.reduceToNat, ↓reduceIte, reduceCtorEq, implies_true, forall_const, eq_self, ne_eq, wtAll, Try.ntmps34, Try.results34, hh_i3, hh_id, hh_i4, hh_i6]) ?_)))
          simp only [eq_self, e1, e2]

end Go.Proofs.Ytdeollnepclhaaa
end
section
set_option linter.unusedVariables false
set_option linter.unusedSimpArgs false
set_option maxHeartbeats 4000000
namespace Go.Proofs.Ytdeollnepclhaaa
open Go.V
def cP (h : Hd) (t p : Int) (i : Nat) (d : Int) : Nat := ((allA h).take i).countP fun w : Nat => decide (dz h w t p = d)
def mN (h : Hd) (t p : Int) : Nat → Nat
  | 0 => 0
  | i + 1 => max (mN h t p i) (cP h t p (i + 1) (dz h ((allA h).getD i 0 : Nat) t p))
theorem cP_succ (h : Hd) (t p : Int) (k : Nat) (d : Int) (hk : k < (allA h).length) : cP h t p (k + 1) d = cP h t p k d + (if dz h ((allA h).getD k 0 : Nat) t p = d then 1 else 0) := by
  simp only [cP, take_snoc (allA h) k 0 hk, List.countP_append, List.countP_cons, List.countP_nil, decide_eq_true_eq, Nat.zero_add]
theorem cP_le (h : Hd) (t p : Int) (k : Nat) (d : Int) : cP h t p k d ≤ k := by
  have := List.countP_le_length (p := fun w : Nat => decide (dz h w t p = d)) (l := (allA h).take k)
  rw [List.length_take] at this
  simp only [cP]; omega
theorem cP_mono (h : Hd) (t p : Int) (k j : Nat) (d : Int) (hj : k + j ≤ (allA h).length) : cP h t p k d ≤ cP h t p (k + j) d := by
  induction j with
  | zero => exact Nat.le_refl _
  | succ j ih =>
    have := ih (by omega)
    rw [show k + (j + 1) = (k + j) + 1 from rfl, cP_succ h t p (k + j) d (by omega)]
    omega
theorem mN_le (h : Hd) (t p : Int) (k : Nat) : mN h t p k ≤ k := by
  induction k with
  | zero => exact Nat.le_refl _
  | succ k ih => have := cP_le h t p (k + 1) (dz h ((allA h).getD k 0 : Nat) t p); simp only [mN]; omega
theorem cP_mN (h : Hd) (t p : Int) (k : Nat) (d : Int) (hk : k ≤ (allA h).length) : cP h t p k d ≤ mN h t p k := by
  induction k with
  | zero => simp [cP, mN]
  | succ k ih =>
    by_cases e : dz h ((allA h).getD k 0 : Nat) t p = d
    · subst e; simp only [mN]; omega
    · rw [cP_succ h t p k d (by omega), if_neg e]
      have := ih (by omega)
      simp only [mN]; omega
theorem cntP_cP (h : Hd) (t p : Int) (w k : Nat) : cntP h t p (allA h) w k = cP h t p k (dz h w t p) := by
  simp only [cntP, cP]
  congr 1
  funext y
  exact decide_eq_decide.2 ⟨fun e => e.symm, fun e => e.symm⟩
theorem mN_left (h : Hd) (t p : Int) : mN h t p (allA h).length = leftV h t p (allA h) := by
  apply Nat.le_antisymm
  · have : ∀ k, k ≤ (allA h).length → mN h t p k ≤ leftN h t p (allA h) k := by
      intro k hk
      induction k with
      | zero => exact Nat.le_refl _
      | succ k ih =>
        have h1 := ih (by omega)
        have h2 := cP_mono h t p (k + 1) ((allA h).length - (k + 1)) (dz h ((allA h).getD k 0 : Nat) t p) (by omega)
        rw [show k + 1 + ((allA h).length - (k + 1)) = (allA h).length by omega] at h2
        simp only [mN, leftN, cntP_cP]; omega
    exact this _ (Nat.le_refl _)
  · have : ∀ k, k ≤ (allA h).length → leftN h t p (allA h) k ≤ mN h t p (allA h).length := by
      intro k hk
      induction k with
      | zero => exact Nat.zero_le _
      | succ k ih =>
        have h1 := ih (by omega)
        have h2 := cP_mN h t p (allA h).length (dz h ((allA h).getD k 0 : Nat) t p) (Nat.le_refl _)
        simp only [leftN, cntP_cP]; omega
    exact this _ (Nat.le_refl _)

/-- The map of them. -/
def cntF (h : Hd) (t p : Int) (i : Nat) : Value → Option Value
  | .int .i64 d => if 0 < cP h t p i d then some (.int .i64 (cP h t p i d)) else none
  | _ => none
theorem cntF_zero (h : Hd) (t p : Int) : cntF h t p 0 = fun _ => none := by
  funext k
  unfold cntF
  split
  · simp [cP]
  · rfl
theorem cntF_get (h : Hd) (t p : Int) (i : Nat) (d : Int) : (cntF h t p i (.int .i64 d)).getD (.int .i64 0) = .int .i64 (cP h t p i d) := by
  simp only [cntF]
  split
  · rfl
  · have : cP h t p i d = 0 := by omega
    rw [this]; rfl
theorem cntF_succ (h : Hd) (t p : Int) (i : Nat) (hi : i < (allA h).length) (v : Int) (hv : v = (cP h t p i (dz h ((allA h).getD i 0 : Nat) t p) : Int) + 1) :
    updV (cntF h t p i) (.int .i64 (dz h ((allA h).getD i 0 : Nat) t p)) (.int .i64 v) = cntF h t p (i + 1) := by
  funext k
  by_cases ek : k = .int .i64 (dz h ((allA h).getD i 0 : Nat) t p)
  · subst ek
    rw [updV_same]
    simp only [cntF]
    rw [cP_succ h t p i _ hi, if_pos rfl, if_pos (by omega), hv]
    simp
  · rw [updV_ne _ _ ek]
    unfold cntF
    split
    · rename_i d
      rw [cP_succ h t p i d hi]
      have : ¬ dz h ((allA h).getD i 0 : Nat) t p = d := fun e => ek (by rw [e])
      simp only [if_neg this, Nat.add_zero]
    · rfl

theorem mapZ64 : mapZ Try.prog 64 = some (.int .i64 0) := by kernel_rfl
theorem und64 : Program.underlying Try.prog 64 = some (.map 3 3) := by kernel_rfl
theorem key3 : Maps.Keyed Try.prog 3 := Maps.int_keyed (q := .i64) (by kernel_rfl)
theorem azT64 : azT Try.prog 64 = some (1, 1, [.map none]) := by kernel_rfl
theorem und3 : Program.underlying Try.prog 3 = some (.int .i64) := by kernel_rfl
theorem key_int {d : Int} (hd : InR .i64 d) : ∃ l, keyOf Try.prog 3 (.int .i64 d) = some l := by
  refine ⟨.int .i64 d, ?_⟩
  simp only [keyOf, mapKey, und3]
  rw [if_pos ⟨trivial, wf_i64 hd⟩]
theorem cntF_key {h : Hd} {t p : Int} {i : Nat} {k v : Value} (hk : HOk h) (ht : -2 ≤ t ∧ t ≤ 2) (hp : 0 ≤ p ∧ p < h.n) (hkv : cntF h t p i k = some v) : ∃ l, keyOf Try.prog 3 k = some l := by
  unfold cntF at hkv
  split at hkv
  · rename_i d
    by_cases hc : 0 < cP h t p i d
    · obtain ⟨w, hw, hd⟩ := List.countP_pos_iff.1 hc
      have hw2 := amts_le (List.mem_of_mem_take hw)
      simp only [decide_eq_true_eq] at hd
      have := dz_range h w t p hk (by omega) ht hp
      exact key_int (by simp only [InR_i64]; omega)
    · rw [if_neg hc] at hkv; cases hkv
  · cases hkv
theorem next1_tri (t : Int) (x : AV) (H : Hp) : PTri Try.prog (.func (.func 80) [] [bx t]) [x] H (boo (tiltB t)) := by
  refine tri_v0 (fun _ => false) Try.func80 (by kernel_rfl) rfl (by simp only [List.length_append, List.length_cons, List.length_nil, Try.ntmps80]; decide) ?_
  simp only [vsAll, loadA, loadRow, partA, partOk, okAll, stAll, opsA, opA, dstOk, nilSliceOp, argFr, Nat.reduceLT, Nat.reduceEqDiff, ↓reduceIte, eq_self, wtAll, Try.ntmps80]
  refine callK_pure (isList_tri t H) ?_
  simp only [vsAll, opA, dstOk, nilSliceOp, resA, retA.eq_1, Nat.reduceLT, ↓reduceIte, eq_self, Try.results80]

theorem next2_tri (h : Hd) (id i7 i8 : Nat) (t p : Int) (H : Hp) (k : HOk h) (ht : -2 ≤ t ∧ t ≤ 2) (hp : 0 ≤ p ∧ p < h.n) (h7 : H i7 = some (.box 1 1 fun _ => [hdP h id])) (h8 : H i8 = some (.box 1 101 (amF (toldB h)))) (ho : H id = some (.memo (memoF h))) :
    PTri Try.prog (.func (.func 82) [] [.ref i7 0 1 0 0, .ref i8 0 1 0 0, bx t]) [i64 p] H (i64 (leftV h t p (allA h))) := by
  refine Tri.drop ?_
  refine tri_m (m := fun _ => false) Try.func82 (by kernel_rfl) rfl (by simp only [List.length_append, List.length_cons, List.length_nil, Try.ntmps82]; decide) ?_
  simp only [vsAll, loadA, loadRow, partA, partOk, cellA, cellsA, okAll, stAll, opsA, opA, allocA, newCells, okCells, storeObj, nM, dstOk, nilSliceOp, argFr, Nat.reduceLT, Nat.reduceEqDiff, ↓reduceIte, reduceCtorEq, eq_self, wtAll, Try.ntmps82, azT64]
  intro im hh_im; (try simp only [Hp.set_none, ite_none] at hh_im); intro i6 hh_i6; (try simp only [ite_none] at hh_i6); intro i9 hh_i9; (try simp only [ite_none] at hh_i9)
  have a1 := ne_some hh_im h7
  have a2 := ne_some hh_im h8
  have a3 := ne_some hh_im ho
  have a4 := ne_some hh_i6.2 h7
  have a5 := ne_some hh_i6.2 h8
  have a6 := ne_some hh_i6.2 ho
  have a7 := ne_some hh_i9.2.2 h7
  have a8 := ne_some hh_i9.2.2 h8
  have a9 := ne_some hh_i9.2.2 ho
  skip
  simp only [vsAll, Nat.reduceLT, ↓reduceIte, eq_self, hh_i9, a1, a2, a4, a5, a7, a8, h7, h8]
  refine callK_pure (each_tri h id (toldB h) t p _) ?_
  simp only [vsAll]
  refine vs_rangeS (σ := Array MapEntry × Nat) (eachL h (toldB h) t p) (fun i x => MapIs (cntF h t p i) x.1)
    (fun i x => (((H.set im (.raw (.map x.1 x.2))).set i6 (.box 1 1 fun _ => [i64 (mN h t p i)])).set i9 (.box 1 1 fun _ => [.map im]))) (#[], 0)
    (fun H => H id = some (.memo (memoF h))) Try.func98 (by kernel_rfl) rfl (by simp only [vsAll, opA, ↓reduceIte, eq_self]) (by simp only [vsAll, opA, ↓reduceIte, eq_self]) (by decide) (by rw [each_all]; simp) (each1_tri h id (toldB h) t p k ht hp) (by rw [cntF_zero]; exact MapIs.empty) ?_ ?_ ?_ ?_ ?_
  · simp only [mN, Int.natCast_zero]
    (repeat (first | exact HSub_rfl | refine HSub_put_eq (by simp only [vsAll, ↓reduceIte, eq_self, hh_i6, hh_i9]) ?_ | refine HSub_drop2 (by simp only [eq_self, hh_im, hh_i6, hh_i9]) ?_ | refine HSub_keep_eq (by simp only [vsAll, binA, binLitA, intA, aggA, boolA, nilA2, isConst, unA, loadA, loadRow, partA, partOk, fieldAddrA, indexAddrA, indexA, fieldA, extractA, lenA, nilCheckA, boxA, cellA, cellsA, fillA, okParts, buildSliceA, partIdx, elemsA, lensA, ifaceA, convA, mmA, pickA, okAll, stAll, opsA, partsA, partsOk, opA, allocA, boxMutA, newCells, okCells, storeObj, appendA, guardV, taA, nM, mapUpA, lookA, sliceA, boundsA, opO, okO, copyA, dstOk, nilA, quietOk, nilSliceOp, panA, resA, argFr, retA.eq_1, retA.eq_2, Nat.reduceAdd, Nat.reduceSub, Nat.reduceMul, Nat.reduceLT, Nat.reduceLeDiff, Nat.reduceEqDiff, Nat.reduceBEq, Int.reduceAdd, Int.reduceSub, Int.reduceMul, Int.reduceNeg, Int.reduceLE, Int.reduceLT, Int.reduceEq, Int.reduceNe, Int.reduceToNat, ↓reduceIte, reduceCtorEq, implies_true, forall_const, eq_self, ne_eq, wtAll, Try.ntmps82, Try.results82, hh_im, hh_i6, hh_i9, a1, a2, a3, a4, a5, a6, a7, a8, a9, h7, h8, ho]) ?_))
  · intro i x hi q hq; simp only [Hp.set_none] at hq ⊢; exact hq
  · intro i x hi lid did o1 o2 h1 h2
    simp only [Hp.set_none] at h1 h2
    have b1 := ne_some h1.2.2.2 ho
    have b2 := ne_some h2.2.2.2 ho
    simp only [vsAll, ↓reduceIte, eq_self, a3, a6, a9, ho, b1, b2]
  · rintro i v ⟨es, ck⟩ hv hi lid did l lo h1 h2 h3
    simp only [] at hi
    simp only [Hp.set_none] at h1 h2
    have h4 : ¬ did = lid := fun e => h3 e.symm
    skip
    obtain ⟨hi2, rfl⟩ := each_get hv
    have hxa := allA_le hi2
    have hr := dz_150 h ((allA h).getD i 0 : Nat) t p k (by ((try clear hh_im); (try clear hh_i6); (try clear hh_i9); (try clear a1); (try clear a2); (try clear a3); (try clear a4); (try clear a5); (try clear a6); (try clear a7); (try clear a8); (try clear a9); (try clear h7); (try clear h8); (try clear ho); (try clear h1); (try clear h2); (try clear h3); (try clear h4); omega)) ht hp
    have hes : ∀ i k v, cntF h t p i k = some v → ∃ l, keyOf Try.prog 3 k = some l := fun i q v hkv => cntF_key k ht hp hkv
    have hkd : ∃ l, keyOf Try.prog 3 (.int .i64 (dz h ((allA h).getD i 0 : Nat) t p)) = some l := key_int (by simp only [InR_i64]; ((try clear hh_im); (try clear hh_i6); (try clear hh_i9); (try clear a1); (try clear a2); (try clear a3); (try clear a4); (try clear a5); (try clear a6); (try clear a7); (try clear a8); (try clear a9); (try clear h7); (try clear h8); (try clear ho); (try clear h1); (try clear h2); (try clear h3); (try clear h4); omega))
    have hcl := cP_le h t p i (dz h ((allA h).getD i 0 : Nat) t p)
    have hml := mN_le h t p i
    have hal := allA_len h
    obtain ⟨o, f1, f2, f3, f4, f5⟩ := hi.find und64 key3 hkd (hes i)
    simp only [vsAll, binA, binLitA, intA, boolA, nilA2, loadA, loadRow, partA, partOk, cellA, cellsA, mmA, okAll, stAll, opsA, opA, newCells, okCells, storeObj, mapUpA, lookA, dstOk, quietOk, nilSliceOp, Nat.reduceLT, Nat.reduceEqDiff, ↓reduceIte, eq_self, wtAll, hh_i6, hh_i9, h1, h2, mapZ64]
    refine ⟨o, f1 _, ?_⟩
    rw [f3, cntF_get]
    simp only [vsAll, eq_self]
    refine ⟨by simp only [InR_i64]; ((try clear hh_im); (try clear hh_i6); (try clear hh_i9); (try clear a1); (try clear a2); (try clear a3); (try clear a4); (try clear a5); (try clear a6); (try clear a7); (try clear a8); (try clear a9); (try clear h7); (try clear h8); (try clear ho); (try clear h1); (try clear h2); (try clear h3); (try clear h4); omega), o, f2, ?_⟩
    have hi' := f5 (.int .i64 ((cP h t p i (dz h ((allA h).getD i 0 : Nat) t p) : Int) + 1)) ck
    rw [cntF_succ h t p i hi2 _ rfl] at hi'
    obtain ⟨o2, g1, g2, g3, g4, g5⟩ := hi'.find und64 key3 hkd (hes (i + 1))
    refine ⟨o2, g1 _, ?_⟩
    rw [g3, cntF_get]
    simp only [vsAll, eq_self]
    refine ⟨⟨_, _, rfl⟩, _, ⟨(updM es (.int .i64 (dz h ((allA h).getD i 0 : Nat) t p)) (.int .i64 ((cP h t p i (dz h ((allA h).getD i 0 : Nat) t p) : Int) + 1)) ck o, updC ck o), hi', rfl⟩, ?_⟩
    have em : max (mN h t p i : Int) (cP h t p (i + 1) (dz h ((allA h).getD i 0 : Nat) t p) : Int) = (mN h t p (i + 1) : Int) := by simp only [mN]; ((try clear hh_im); (try clear hh_i6); (try clear hh_i9); (try clear a1); (try clear a2); (try clear a3); (try clear a4); (try clear a5); (try clear a6); (try clear a7); (try clear a8); (try clear a9); (try clear h7); (try clear h8); (try clear ho); (try clear h1); (try clear h2); (try clear h3); (try clear h4); omega)
    rw [em]
    (repeat (first | exact HSub_rfl | refine HSub_put_eq (by simp only [vsAll, ↓reduceIte, eq_self, hh_i6, hh_i9, h1, h2, h4]) ?_ | refine HSub_drop2 (by simp only [eq_self, hh_im, hh_i6, hh_i9, h1, h2]) ?_ | refine HSub_keep_eq (by simp only [vsAll, binA, binLitA, intA, aggA, boolA, nilA2, isConst, unA, loadA, loadRow, partA, partOk, fieldAddrA, indexAddrA, indexA, fieldA, extractA, lenA, nilCheckA, boxA, cellA, cellsA, fillA, okParts, buildSliceA, partIdx, elemsA, lensA, ifaceA, convA, mmA, pickA, okAll, stAll, opsA, partsA, partsOk, opA, allocA, boxMutA, newCells, okCells, storeObj, appendA, guardV, taA, nM, mapUpA, lookA, sliceA, boundsA, opO, okO, copyA, dstOk, nilA, quietOk, nilSliceOp, panA, resA, argFr, retA.eq_1, retA.eq_2, Nat.reduceAdd, Nat.reduceSub, Nat.reduceMul, Nat.reduceLT, Nat.reduceLeDiff, Nat.reduceEqDiff, Nat.reduceBEq, Int.reduceAdd, Int.reduceSub, Int.reduceMul, Int.reduceNeg, Int.reduceLE, Int.reduceLT, Int.reduceEq, Int.reduceNe, Int.reduceToNat, ↓reduceIte, reduceCtorEq, implies_true, forall_const, eq_self, ne_eq, wtAll, Try.ntmps82, Try.results82, hh_im, hh_i6, hh_i9, a1, a2, a3, a4, a5, a6, a7, a8, a9, h7, h8, ho, h1, h2, h3, h4]) ?_))
  · rintro ⟨es, ck⟩ hi lid did lo h1 h2 h3
    simp only [Hp.set_none] at h1 h2
    have h4 : ¬ did = lid := fun e => h3 e.symm
    skip
    have el : (eachL h (toldB h) t p).length = (allA h).length := by rw [each_all]; simp
    rw [el, mN_left]
    simp only [vsAll, loadA, loadRow, partA, partOk, opA, dstOk, nilSliceOp, resA, retA.eq_1, Nat.reduceLT, Nat.reduceEqDiff, ↓reduceIte, eq_self, wtAll, Try.results82, hh_i9, h1, h2, h4]
    refine dropR_pure rfl (by (repeat (first | exact HSub_rfl | refine HSub_put_eq (by simp only [vsAll, binA, binLitA, intA, aggA, boolA, nilA2, isConst, unA, loadA, loadRow, partA, partOk, fieldAddrA, indexAddrA, indexA, fieldA, extractA, lenA, nilCheckA, boxA, cellA, cellsA, fillA, okParts, buildSliceA, partIdx, elemsA, lensA, ifaceA, convA, mmA, pickA, okAll, stAll, opsA, partsA, partsOk, opA, allocA, boxMutA, newCells, okCells, storeObj, appendA, guardV, taA, nM, mapUpA, lookA, sliceA, boundsA, opO, okO, copyA, dstOk, nilA, quietOk, nilSliceOp, panA, resA, argFr, retA.eq_1, retA.eq_2, Nat.reduceAdd, Nat.reduceSub, Nat.reduceMul, Nat.reduceLT, Nat.reduceLeDiff, Nat.reduceEqDiff, Nat.reduceBEq, Int.reduceAdd, Int.reduceSub, Int.reduceMul, Int.reduceNeg, Int.reduceLE, Int.reduceLT, Int.reduceEq, Int.reduceNe, Int.reduceToNat, ↓reduceIte, reduceCtorEq, implies_true, forall_const, eq_self, ne_eq, wtAll, Try.ntmps82, Try.results82, hh_im, hh_i6, hh_i9, a1, a2, a3, a4, a5, a6, a7, a8, a9, h7, h8, ho, h1, h2, h3, h4]) ?_ | refine HSub_drop2 (by simp only [eq_self, hh_im, hh_i6, hh_i9, h1, h2]) ?_ | refine HSub_keep_eq (by simp only [vsAll, binA, binLitA, intA, aggA, boolA, nilA2, isConst, unA, loadA, loadRow, partA, partOk, fieldAddrA, indexAddrA, indexA, fieldA, extractA, lenA, nilCheckA, boxA, cellA, cellsA, fillA, okParts, buildSliceA, partIdx, elemsA, lensA, ifaceA, convA, mmA, pickA, okAll, stAll, opsA, partsA, partsOk, opA, allocA, boxMutA, newCells, okCells, storeObj, appendA, guardV, taA, nM, mapUpA, lookA, sliceA, boundsA, opO, okO, copyA, dstOk, nilA, quietOk, nilSliceOp, panA, resA, argFr, retA.eq_1, retA.eq_2, Nat.reduceAdd, Nat.reduceSub, Nat.reduceMul, Nat.reduceLT, Nat.reduceLeDiff, Nat.reduceEqDiff, Nat.reduceBEq, Int.reduceAdd, Int.reduceSub, Int.reduceMul, Int.reduceNeg, Int.reduceLE, Int.reduceLT, Int.reduceEq, Int.reduceNe, Int.reduceToNat, ↓reduceIte, reduceCtorEq, implies_true, forall_const, eq_self, ne_eq, wtAll, Try.ntmps82, Try.results82, hh_im, hh_i6, hh_i9, a1, a2, a3, a4, a5, a6, a7, a8, a9, h7, h8, ho, h1, h2, h3, h4]) ?_)))

theorem range_getD (n i : Nat) (hi : i < n) : (List.range n).getD i 0 = i := by
  rw [List.getD_eq_getElem?_getD, List.getElem?_eq_getElem (by simpa using hi)]; simp
theorem lst_next (h : Hd) (t : Int) (n i : Nat) (hi : i < n) : lstN (fun p : Nat => leftV h t (p : Int) (allA h)) (List.range n) (i + 1) = nextN h t i := by
  induction i with
  | zero => simp only [lstN, true_or, if_true, range_getD n 0 hi, nextN]
  | succ i ih =>
    rw [lstN, ih (by omega), range_getD n (i + 1) hi, nextN]
    by_cases hc : leftV h t ((i + 1 : Nat) : Int) (allA h) < (nextN h t i).2
    · rw [if_pos (.inr hc), if_pos hc]
    · rw [if_neg (fun q => by rcases q with q | q; (· omega); (· exact hc q)), if_neg hc]
theorem range_snoc (k : Nat) : List.range (k + 1) = List.range k ++ [k] := List.range_succ

theorem wnext_tri (h : Hd) (t : Int) (H : Hp) (k : Near h) : PTri Try.prog (fnA 30) [h.av, i64 t] H (.tuple [i64 (nextV h t).1, i64 (nextV h t).2, i64 (nextE h t)]) := by
  refine Tri.drop ?_
  refine tri_a (m := mset [9]) ans51 Try.func30 (by kernel_rfl) rfl (by simp only [List.length_append, List.length_cons, List.length_nil, Try.ntmps30]; decide) ?_
  simp only [vsAll, loadA, loadRow, partA, partOk, boxA, cellA, okAll, stAll, opsA, opA, allocA, dstOk, nilSliceOp, argFr, Nat.reduceAdd, Nat.reduceLT, Nat.reduceEqDiff, Nat.reduceBEq, ↓reduceIte, eq_self, wtAll, Try.ntmps30]
  intro i6 hh_i6; (try simp only [Hp.set_none, ite_none] at hh_i6)
  refine open_call (open_tri h _ (tiltB t) _ k trivial rfl (fun hk H' id ho => next1_tri t _ H')) (fun hno => ?_) (fun hk hv => ?_) (fun hk hv => ?_)
  · have e : nextE h t = 1 := errE_no hno _ _
    simp only [vsAll]
    refine ⟨1, i6, fun _ => [i64 0], rfl, rfl, by simp only [vsAll, ↓reduceIte, eq_self], ?_⟩
    simp only [vsAll, loadA, loadRow, partA, partOk, resA, retA.eq_2, Nat.reduceLT, Nat.reduceEqDiff, ↓reduceIte, eq_self, wtAll, Try.results30]
    refine dropR_pure ?_ (by (repeat (first | exact HSub_rfl | refine HSub_put_eq (by simp only [vsAll, binA, binLitA, intA, aggA, boolA, nilA2, isConst, unA, loadA, loadRow, partA, partOk, fieldAddrA, indexAddrA, indexA, fieldA, extractA, lenA, nilCheckA, boxA, cellA, cellsA, fillA, okParts, buildSliceA, partIdx, elemsA, lensA, ifaceA, convA, mmA, pickA, okAll, stAll, opsA, partsA, partsOk, opA, allocA, boxMutA, newCells, okCells, storeObj, appendA, guardV, taA, nM, mapUpA, lookA, sliceA, boundsA, opO, okO, copyA, dstOk, nilA, quietOk, nilSliceOp, panA, resA, argFr, retA.eq_1, retA.eq_2, Nat.reduceAdd, Nat.reduceSub, Nat.reduceMul, Nat.reduceLT, Nat.reduceLeDiff, Nat.reduceEqDiff, Nat.reduceBEq, Int.reduceAdd, Int.reduceSub, Int.reduceMul, Int.reduceNeg, Int.reduceLE, Int.reduceLT, Int.reduceEq, Int.reduceNe, Int.reduceToNat, ↓reduceIte, reduceCtorEq, implies_true, forall_const, eq_self, ne_eq, wtAll, Try.ntmps30, Try.results30, hh_i6]) ?_ | refine HSub_drop2 (by simp only [eq_self, hh_i6]) ?_ | refine HSub_keep_eq (by simp only [vsAll, binA, binLitA, intA, aggA, boolA, nilA2, isConst, unA, loadA, loadRow, partA, partOk, fieldAddrA, indexAddrA, indexA, fieldA, extractA, lenA, nilCheckA, boxA, cellA, cellsA, fillA, okParts, buildSliceA, partIdx, elemsA, lensA, ifaceA, convA, mmA, pickA, okAll, stAll, opsA, partsA, partsOk, opA, allocA, boxMutA, newCells, okCells, storeObj, appendA, guardV, taA, nM, mapUpA, lookA, sliceA, boundsA, opO, okO, copyA, dstOk, nilA, quietOk, nilSliceOp, panA, resA, argFr, retA.eq_1, retA.eq_2, Nat.reduceAdd, Nat.reduceSub, Nat.reduceMul, Nat.reduceLT, Nat.reduceLeDiff, Nat.reduceEqDiff, Nat.reduceBEq, Int.reduceAdd, Int.reduceSub, Int.reduceMul, Int.reduceNeg, Int.reduceLE, Int.reduceLT, Int.reduceEq, Int.reduceNe, Int.reduceToNat, ↓reduceIte, reduceCtorEq, implies_true, forall_const, eq_self, ne_eq, wtAll, Try.ntmps30, Try.results30, hh_i6]) ?_)))
    simp only [Int.reduceEq, ↓reduceIte, eq_self, nextV, e, Int.natCast_zero]
  · have e : nextE h t = 2 := by unfold nextE; rw [hv]; exact errE_bad hk _
    simp only [vsAll]
    refine ⟨2, i6, fun _ => [i64 0], rfl, rfl, by simp only [vsAll, ↓reduceIte, eq_self], ?_⟩
    simp only [vsAll, loadA, loadRow, partA, partOk, resA, retA.eq_2, Nat.reduceLT, Nat.reduceEqDiff, ↓reduceIte, eq_self, wtAll, Try.results30]
    refine dropR_pure ?_ (by (repeat (first | exact HSub_rfl | refine HSub_put_eq (by simp only [vsAll, binA, binLitA, intA, aggA, boolA, nilA2, isConst, unA, loadA, loadRow, partA, partOk, fieldAddrA, indexAddrA, indexA, fieldA, extractA, lenA, nilCheckA, boxA, cellA, cellsA, fillA, okParts, buildSliceA, partIdx, elemsA, lensA, ifaceA, convA, mmA, pickA, okAll, stAll, opsA, partsA, partsOk, opA, allocA, boxMutA, newCells, okCells, storeObj, appendA, guardV, taA, nM, mapUpA, lookA, sliceA, boundsA, opO, okO, copyA, dstOk, nilA, quietOk, nilSliceOp, panA, resA, argFr, retA.eq_1, retA.eq_2, Nat.reduceAdd, Nat.reduceSub, Nat.reduceMul, Nat.reduceLT, Nat.reduceLeDiff, Nat.reduceEqDiff, Nat.reduceBEq, Int.reduceAdd, Int.reduceSub, Int.reduceMul, Int.reduceNeg, Int.reduceLE, Int.reduceLT, Int.reduceEq, Int.reduceNe, Int.reduceToNat, ↓reduceIte, reduceCtorEq, implies_true, forall_const, eq_self, ne_eq, wtAll, Try.ntmps30, Try.results30, hh_i6]) ?_ | refine HSub_drop2 (by simp only [eq_self, hh_i6]) ?_ | refine HSub_keep_eq (by simp only [vsAll, binA, binLitA, intA, aggA, boolA, nilA2, isConst, unA, loadA, loadRow, partA, partOk, fieldAddrA, indexAddrA, indexA, fieldA, extractA, lenA, nilCheckA, boxA, cellA, cellsA, fillA, okParts, buildSliceA, partIdx, elemsA, lensA, ifaceA, convA, mmA, pickA, okAll, stAll, opsA, partsA, partsOk, opA, allocA, boxMutA, newCells, okCells, storeObj, appendA, guardV, taA, nM, mapUpA, lookA, sliceA, boundsA, opO, okO, copyA, dstOk, nilA, quietOk, nilSliceOp, panA, resA, argFr, retA.eq_1, retA.eq_2, Nat.reduceAdd, Nat.reduceSub, Nat.reduceMul, Nat.reduceLT, Nat.reduceLeDiff, Nat.reduceEqDiff, Nat.reduceBEq, Int.reduceAdd, Int.reduceSub, Int.reduceMul, Int.reduceNeg, Int.reduceLE, Int.reduceLT, Int.reduceEq, Int.reduceNe, Int.reduceToNat, ↓reduceIte, reduceCtorEq, implies_true, forall_const, eq_self, ne_eq, wtAll, Try.ntmps30, Try.results30, hh_i6]) ?_)))
    simp only [Int.reduceEq, ↓reduceIte, eq_self, nextV, e, Int.natCast_zero]
  · intro id hh_id; (try simp only [Hp.set_none] at hh_id)
    simp only [vsAll, loadA, loadRow, partA, partOk, cellA, cellsA, okAll, stAll, opsA, opA, allocA, newCells, okCells, storeObj, dstOk, Nat.reduceLT, Nat.reduceEqDiff, ↓reduceIte, eq_self, wtAll]
    intro i7 hh_i7; (try simp only [ite_none] at hh_i7)
    refine told_call hk (by simp only [vsAll, ↓reduceIte, eq_self, hh_i7]) (fun hs => ?_) (fun hs => ?_)
    · have e : nextE h t = 0 := by unfold nextE; rw [hv]; exact errE_told hk hs
      have hl := (told_some h).1 hs
      have hn := hk.n
      have hlen := allA_len h
      simp only [tiltB_iff] at hv
      simp only [vsAll, loadA, loadRow, partA, partOk, fieldAddrA, lenA, nilCheckA, opA, allocA, storeObj, dstOk, nilA, Nat.reduceMul, Nat.reduceLT, Nat.reduceEqDiff, Nat.reduceBEq, ↓reduceIte, eq_self, wtAll]
      intro i8 hh_i8; (try simp only [ite_none] at hh_i8)
      refine ⟨fun j hj => by simp [amF, okCells, cellA], ?_⟩
      intro i9 hh_i9; (try simp only [ite_none] at hh_i9)
      simp only [vsAll, Nat.reduceLT, ↓reduceIte, eq_self, hh_i8, hh_i9]
      refine vs_loop (σ := Nat) (fun p => p ≤ h.n) (fun p => [(3, bx t), (6, .ref i6 0 1 0 0), (7, .ref i7 0 1 0 0), (8, .ref i8 0 1 0 0), (9, .sl i9 1 p), (23, i64 h.n), (24, i64 p)])
        (fun p => (((((H.set i6 (.box 1 1 fun _ => [i64 0])).set id (.memo (memoF h))).set i7 (.box 1 1 fun _ => [hdP h id])).set i8 (.box 1 101 (amF (toldB h)))).set i9 (.row 1 p (natF (List.range p))))) (fun p => h.n - p) 0 (by ((try clear hh_i6); (try clear hh_id); (try clear hh_i7); (try clear hh_i8); (try clear hh_i9); omega)) ?_ ?_ fun p hp => ?_
      · simp only [vsAll, Nat.reduceEqDiff, ↓reduceIte, eq_self, Int.natCast_zero]
      · refine HSub_put (o' := .row 1 0 fun _ => []) (by simp only [vsAll, ↓reduceIte, eq_self]) (row0_le _ _ _) ?_
        (repeat (first | exact HSub_rfl | refine HSub_put_eq (by simp only [vsAll, ↓reduceIte, eq_self, hh_id, hh_i7, hh_i8, hh_i9]) ?_ | refine HSub_drop2 (by simp only [eq_self, hh_i6, hh_id, hh_i7, hh_i8, hh_i9]) ?_ | refine HSub_keep_eq (by simp only [vsAll, binA, binLitA, intA, aggA, boolA, nilA2, isConst, unA, loadA, loadRow, partA, partOk, fieldAddrA, indexAddrA, indexA, fieldA, extractA, lenA, nilCheckA, boxA, cellA, cellsA, fillA, okParts, buildSliceA, partIdx, elemsA, lensA, ifaceA, convA, mmA, pickA, okAll, stAll, opsA, partsA, partsOk, opA, allocA, boxMutA, newCells, okCells, storeObj, appendA, guardV, taA, nM, mapUpA, lookA, sliceA, boundsA, opO, okO, copyA, dstOk, nilA, quietOk, nilSliceOp, panA, resA, argFr, retA.eq_1, retA.eq_2, Nat.reduceAdd, Nat.reduceSub, Nat.reduceMul, Nat.reduceLT, Nat.reduceLeDiff, Nat.reduceEqDiff, Nat.reduceBEq, Int.reduceAdd, Int.reduceSub, Int.reduceMul, Int.reduceNeg, Int.reduceLE, Int.reduceLT, Int.reduceEq, Int.reduceNe, Int.reduceToNat, ↓reduceIte, reduceCtorEq, implies_true, forall_const, eq_self, ne_eq, wtAll, Try.ntmps30, Try.results30, hh_i6, hh_id, hh_i7, hh_i8, hh_i9]) ?_))
      · simp only [vsAll, binA, binLitA, intA, opA, dstOk, Nat.reduceLT, Nat.reduceEqDiff, ↓reduceIte, eq_self]
        refine condD (fun hd => ?_) (fun hd => ?_)
        · simp only [vsAll, binA, binLitA, intA, cellA, cellsA, okParts, buildSliceA, partIdx, elemsA, lensA, partsA, partsOk, opA, appendA, dstOk, nilSliceOp, Nat.reduceMul, Nat.reduceLT, Nat.reduceLeDiff, Nat.reduceEqDiff, Nat.reduceBEq, ↓reduceIte, eq_self, wtAll]
          have ea := app_nats (List.range p) p (fun i => [[i64 (p : Int)]].getD i []) rfl
          rw [List.length_range] at ea
          rw [show (appF p 1 (natF (List.range p)) fun i => [[AV.lit (Value.int IntKind.i64 (p : Int))]].getD i []) = natF (List.range (p + 1)) from by rw [range_snoc]; exact ea]
          refine ⟨fun q hq => by (have : q = 0 := by ((try clear hh_i6); (try clear hh_id); (try clear hh_i7); (try clear hh_i8); (try clear hh_i9); omega)); subst this; simp only [vsAll, cellA, okCells, eq_self], by ((try clear hh_i6); (try clear hh_id); (try clear hh_i7); (try clear hh_i8); (try clear hh_i9); omega), by ((try clear hh_i6); (try clear hh_id); (try clear hh_i7); (try clear hh_i8); (try clear hh_i9); omega), by simp only [InR_i64]; ((try clear hh_i6); (try clear hh_id); (try clear hh_i7); (try clear hh_i8); (try clear hh_i9); omega), loop_next (p + 1) (by ((try clear hh_i6); (try clear hh_id); (try clear hh_i7); (try clear hh_i8); (try clear hh_i9); omega)) (by ((try clear hh_i6); (try clear hh_id); (try clear hh_i7); (try clear hh_i8); (try clear hh_i9); omega)) ?_ ?_⟩
          · simp only [vsAll, Nat.reduceEqDiff, ↓reduceIte, eq_self, Int.natCast_add, Int.natCast_one]
          · simp only [vsAll, Hp.set_set]
        · have ep : p = h.n := by ((try clear hh_i6); (try clear hh_id); (try clear hh_i7); (try clear hh_i8); (try clear hh_i9); omega)
          subst ep
          simp only [vsAll, cellA, cellsA, fillA, okParts, okAll, stAll, opsA, partsA, partsOk, opA, dstOk, Nat.reduceLT, Nat.reduceEqDiff, ↓reduceIte, eq_self, wtAll]
          have hfz : ∀ X : Hp, X i9 = none → X i7 = some (.box 1 1 fun _ => [hdP h id]) → X i8 = some (.box 1 101 (amF (toldB h))) → X id = some (.memo (memoF h)) →
              Tri Try.prog (fnA 81) [.sl i9 1 h.n, .agg [.func (.func 82) [] [.ref i7 0 1 0 0, .ref i8 0 1 0 0, bx t]]] (X.set i9 (.row 1 h.n (natF (List.range h.n))))
              fun r H' => r = .ret (.tuple [i64 (nextN h t (h.n - 1)).1, i64 (nextN h t (h.n - 1)).2]) ∧ H' = X := by
            intro X hX q7 q8 qi
            refine tri_freeze (args' := [natsAV (List.range h.n), .agg [.func (.func 82) [] [.ref i7 0 1 0 0, .ref i8 0 1 0 0, bx t]]]) (Hp.set_same _ _ _) rfl
              (fun q => by rcases q with _ | q; (· exact .inr ⟨rfl, by simp only [argFr, List.getD_cons_zero, natsAV, List.length_range]⟩); (· exact .inl rfl)) ?_
            rw [set_del hX]
            have := leastI_tri (fun p : Nat => leftV h t (p : Int) (allA h)) (List.range h.n) 82 [.ref i7 0 1 0 0, .ref i8 0 1 0 0, bx t] X (by rw [List.length_range]; ((try clear hh_i6); (try clear hh_id); (try clear hh_i7); (try clear hh_i8); (try clear hh_i9); omega)) (fun x hx => by have := leftV_le h t (x : Int) (allA h); show leftV h t (x : Int) (allA h) ≤ 1000; ((try clear hh_i6); (try clear hh_id); (try clear hh_i7); (try clear hh_i8); (try clear hh_i9); omega))
              (fun x hx => next2_tri h id i7 i8 t (x : Int) X hk hv (by have := List.mem_range.1 hx; ((try clear hh_i6); (try clear hh_id); (try clear hh_i7); (try clear hh_i8); (try clear hh_i9); omega)) q7 q8 qi)
            rw [List.length_range] at this
            obtain ⟨q, hq⟩ : ∃ q, h.n = q + 1 := ⟨h.n - 1, by ((try clear hh_i6); (try clear hh_id); (try clear hh_i7); (try clear hh_i8); (try clear hh_i9); omega)⟩
            rw [hq, lst_next h t (q + 1) q (by ((try clear hh_i6); (try clear hh_id); (try clear hh_i7); (try clear hh_i8); (try clear hh_i9); omega))] at this
            rw [hq]
            exact this
          refine callK (hfz _ (by simp only [vsAll, ↓reduceIte, eq_self, hh_i9]) (by simp only [vsAll, ↓reduceIte, eq_self, hh_i8]) (by simp only [vsAll, ↓reduceIte, eq_self]) (by simp only [vsAll, ↓reduceIte, eq_self, hh_i7, hh_i8])) ?_
          rintro r H' ⟨rfl, rfl⟩
          simp only [vsAll, extractA, cellA, cellsA, opA, newCells, okCells, storeObj, dstOk, nilSliceOp, Nat.reduceAdd, Nat.reduceLT, Nat.reduceEqDiff, Nat.reduceBEq, ↓reduceIte, eq_self, wtAll, hh_id, hh_i7, hh_i8]
          refine Ent.ret ⟨i6, fun _ => [i64 0], rfl, by simp only [vsAll, ↓reduceIte, eq_self], ?_⟩
          simp only [vsAll, loadA, loadRow, partA, partOk, resA, retA.eq_2, Nat.reduceLT, Nat.reduceEqDiff, ↓reduceIte, eq_self, wtAll, Try.results30]
          refine dropR_pure ?_ (by (repeat (first | exact HSub_rfl | refine HSub_put_eq (by simp only [vsAll, binA, binLitA, intA, aggA, boolA, nilA2, isConst, unA, loadA, loadRow, partA, partOk, fieldAddrA, indexAddrA, indexA, fieldA, extractA, lenA, nilCheckA, boxA, cellA, cellsA, fillA, okParts, buildSliceA, partIdx, elemsA, lensA, ifaceA, convA, mmA, pickA, okAll, stAll, opsA, partsA, partsOk, opA, allocA, boxMutA, newCells, okCells, storeObj, appendA, guardV, taA, nM, mapUpA, lookA, sliceA, boundsA, opO, okO, copyA, dstOk, nilA, quietOk, nilSliceOp, panA, resA, argFr, retA.eq_1, retA.eq_2, Nat.reduceAdd, Nat.reduceSub, Nat.reduceMul, Nat.reduceLT, Nat.reduceLeDiff, Nat.reduceEqDiff, Nat.reduceBEq, Int.reduceAdd, Int.reduceSub, Int.reduceMul, Int.reduceNeg, Int.reduceLE, Int.reduceLT, Int.reduceEq, Int.reduceNe, Int.reduceToNat, ↓reduceIte, reduceCtorEq, implies_true, forall_const, eq_self, ne_eq, wtAll, Try.ntmps30, Try.results30, hh_i6, hh_id, hh_i7, hh_i8, hh_i9]) ?_ | refine HSub_drop2 (by simp only [eq_self, hh_i6, hh_id, hh_i7, hh_i8]) ?_ | refine HSub_keep_eq (by simp only [vsAll, binA, binLitA, intA, aggA, boolA, nilA2, isConst, unA, loadA, loadRow, partA, partOk, fieldAddrA, indexAddrA, indexA, fieldA, extractA, lenA, nilCheckA, boxA, cellA, cellsA, fillA, okParts, buildSliceA, partIdx, elemsA, lensA, ifaceA, convA, mmA, pickA, okAll, stAll, opsA, partsA, partsOk, opA, allocA, boxMutA, newCells, okCells, storeObj, appendA, guardV, taA, nM, mapUpA, lookA, sliceA, boundsA, opO, okO, copyA, dstOk, nilA, quietOk, nilSliceOp, panA, resA, argFr, retA.eq_1, retA.eq_2, Nat.reduceAdd, Nat.reduceSub, Nat.reduceMul, Nat.reduceLT, Nat.reduceLeDiff, Nat.reduceEqDiff, Nat.reduceBEq, Int.reduceAdd, Int.reduceSub, Int.reduceMul, Int.reduceNeg, Int.reduceLE, Int.reduceLT, Int.reduceEq, Int.reduceNe, Int.reduceToNat, ↓reduceIte, reduceCtorEq, implies_true, forall_const, eq_self, ne_eq, wtAll, Try.ntmps30, Try.results30, hh_i6, hh_id, hh_i7, hh_i8, hh_i9]) ?_)))
          have : nextV h t = nextN h t (h.n - 1) := by simp only [nextV, e, if_true]
          simp only [eq_self, this, e]
    · have e : nextE h t = 10 := by unfold nextE; rw [hv]; exact errE_clash hk hs
      simp only [vsAll]
      refine ⟨10, i6, fun _ => [i64 0], rfl, rfl, by simp only [vsAll, ↓reduceIte, eq_self, hh_id, hh_i7], ?_⟩
      simp only [vsAll, loadA, loadRow, partA, partOk, resA, retA.eq_2, Nat.reduceLT, Nat.reduceEqDiff, ↓reduceIte, eq_self, wtAll, Try.results30]
      refine dropR_pure ?_ (by (repeat (first | exact HSub_rfl | refine HSub_put_eq (by simp only [vsAll, binA, binLitA, intA, aggA, boolA, nilA2, isConst, unA, loadA, loadRow, partA, partOk, fieldAddrA, indexAddrA, indexA, fieldA, extractA, lenA, nilCheckA, boxA, cellA, cellsA, fillA, okParts, buildSliceA, partIdx, elemsA, lensA, ifaceA, convA, mmA, pickA, okAll, stAll, opsA, partsA, partsOk, opA, allocA, boxMutA, newCells, okCells, storeObj, appendA, guardV, taA, nM, mapUpA, lookA, sliceA, boundsA, opO, okO, copyA, dstOk, nilA, quietOk, nilSliceOp, panA, resA, argFr, retA.eq_1, retA.eq_2, Nat.reduceAdd, Nat.reduceSub, Nat.reduceMul, Nat.reduceLT, Nat.reduceLeDiff, Nat.reduceEqDiff, Nat.reduceBEq, Int.reduceAdd, Int.reduceSub, Int.reduceMul, Int.reduceNeg, Int.reduceLE, Int.reduceLT, Int.reduceEq, Int.reduceNe, Int.reduceToNat, ↓reduceIte, reduceCtorEq, implies_true, forall_const, eq_self, ne_eq, wtAll, Try.ntmps30, Try.results30, hh_i6, hh_id, hh_i7]) ?_ | refine HSub_drop2 (by simp only [eq_self, hh_i6, hh_id, hh_i7]) ?_ | refine HSub_keep_eq (by simp only [vsAll, binA, binLitA, intA, aggA, boolA, nilA2, isConst, unA, loadA, loadRow, partA, partOk, fieldAddrA, indexAddrA, indexA, fieldA, extractA, lenA, nilCheckA, boxA, cellA, cellsA, fillA, okParts, buildSliceA, partIdx, elemsA, lensA, ifaceA, convA, mmA, pickA, okAll, stAll, opsA, partsA, partsOk, opA, allocA, boxMutA, newCells, okCells, storeObj, appendA, guardV, taA, nM, mapUpA, lookA, sliceA, boundsA, opO, okO, copyA, dstOk, nilA, quietOk, nilSliceOp, panA, resA, argFr, retA.eq_1, retA.eq_2, Nat.reduceAdd, Nat.reduceSub, Nat.reduceMul, Nat.reduceLT, Nat.reduceLeDiff, Nat.reduceEqDiff, Nat.reduceBEq, Int.reduceAdd, Int.reduceSub, Int.reduceMul, Int.reduceNeg, Int.reduceLE, Int.reduceLT, Int.reduceEq, Int.reduceNe, Int.reduceToNat, ↓reduceIte, reduceCtorEq, implies_true, forall_const, eq_self, ne_eq, wtAll, Try.ntmps30, Try.results30, hh_i6, hh_id, hh_i7]) ?_)))
      simp only [Int.reduceEq, ↓reduceIte, eq_self, nextV, e, Int.natCast_zero]

end Go.Proofs.Ytdeollnepclhaaa
end
section
set_option linter.unusedVariables false
set_option linter.unusedSimpArgs false
set_option maxHeartbeats 4000000
namespace Go.Proofs.Ytdeollnepclhaaa
open Go.V
/-- A result of which less is said. -/
theorem ret_le {P : Program} {fv : AV} {args : List AV} {H : Hp} {v v' : AV} (h : PTri P fv args H v) (hle : AV.Le v v') : PTri P fv args H v' := by
  intro S vf vs hH hvf ha
  obtain ⟨nx, h1, h2⟩ := h S vf vs hH hvf ha
  have ho : ∀ e w, Out S (fun r H' => r = .ret v ∧ H' = H) e w → Out S (fun r H' => r = .ret v' ∧ H' = H) e w := by
    rintro e w ⟨S', r, H', hw, hl, hH', hrr, rfl, rfl⟩
    refine ⟨S', .ret v', H', hw, hl, hH', ?_, rfl, rfl⟩
    cases e with
    | returned cv => exact hle S' cv hrr
    | panicked ch => exact hrr.elim
    | outgrown => exact hrr.elim
  refine ⟨nx, h1, ?_⟩
  cases nx <;> simp only [NextOk] at h2 ⊢
  · exact Calls.mono h2 ho
  · exact h2.mono ho

theorem AVLe_agg2 {a b a' b' : AV} (h1 : AV.Le a a') (h2 : AV.Le b b') : AV.Le (.agg [a, b]) (.agg [a', b']) := by
  intro S v hv
  cases hv with
  | agg hn h =>
    refine .agg (by simpa using hn) fun k hk => ?_
    have := h k (by simpa using hk)
    match k, this with
    | 0, this => exact h1 S _ this
    | 1, this => exact h2 S _ this
    | k + 2, _ => exact absurd hk (by simp)

theorem lspan_tri (a b : Int) (H : Hp) : PTri Try.prog (fnA 42) [i64 a, i64 b] H (.agg [i64 a, i64 b]) := by
  refine tri_vs (m := fun _ => false) Try.func42 (by kernel_rfl) rfl (by simp only [List.length_append, List.length_cons, List.length_nil, Try.ntmps42]; decide) ?_
  simp only [vsAll, cellA, cellsA, fillA, okParts, partsA, partsOk, opA, allocA, newCells, okCells, storeObj, dstOk, argFr, Nat.reduceAdd, Nat.reduceLT, Nat.reduceLeDiff, Nat.reduceEqDiff, ↓reduceIte, reduceCtorEq, eq_self, wtAll, Try.ntmps42]
  intro i4 hh_i4; (try simp only [Hp.set_none, ite_none] at hh_i4)
  refine ret0 ?_
  simp only [vsAll, loadA, loadRow, partA, partOk, resA, retA.eq_1, Nat.reduceLT, Nat.reduceEqDiff, ↓reduceIte, eq_self, wtAll, Try.results42]
  exact dropR_pure rfl (by (repeat (first | exact HSub_rfl | refine HSub_put_eq (by simp only [vsAll, binA, binLitA, intA, aggA, boolA, nilA2, isConst, unA, loadA, loadRow, partA, partOk, fieldAddrA, indexAddrA, indexA, fieldA, extractA, lenA, nilCheckA, boxA, cellA, cellsA, fillA, okParts, buildSliceA, partIdx, elemsA, lensA, ifaceA, convA, mmA, pickA, okAll, stAll, opsA, partsA, partsOk, opA, allocA, boxMutA, newCells, okCells, storeObj, appendA, guardV, taA, nM, mapUpA, lookA, sliceA, boundsA, opO, okO, copyA, dstOk, nilA, quietOk, nilSliceOp, panA, resA, argFr, retA.eq_1, retA.eq_2, Nat.reduceAdd, Nat.reduceSub, Nat.reduceMul, Nat.reduceLT, Nat.reduceLeDiff, Nat.reduceEqDiff, Nat.reduceBEq, Int.reduceAdd, Int.reduceSub, Int.reduceMul, Int.reduceNeg, Int.reduceLE, Int.reduceLT, Int.reduceEq, Int.reduceNe, Int.reduceToNat, ↓reduceIte, reduceCtorEq, implies_true, forall_const, eq_self, ne_eq, wtAll, Try.ntmps42, Try.results42, hh_i4]) ?_ | refine HSub_drop2 (by simp only [eq_self, hh_i4]) ?_ | refine HSub_keep_eq (by simp only [vsAll, binA, binLitA, intA, aggA, boolA, nilA2, isConst, unA, loadA, loadRow, partA, partOk, fieldAddrA, indexAddrA, indexA, fieldA, extractA, lenA, nilCheckA, boxA, cellA, cellsA, fillA, okParts, buildSliceA, partIdx, elemsA, lensA, ifaceA, convA, mmA, pickA, okAll, stAll, opsA, partsA, partsOk, opA, allocA, boxMutA, newCells, okCells, storeObj, appendA, guardV, taA, nM, mapUpA, lookA, sliceA, boundsA, opO, okO, copyA, dstOk, nilA, quietOk, nilSliceOp, panA, resA, argFr, retA.eq_1, retA.eq_2, Nat.reduceAdd, Nat.reduceSub, Nat.reduceMul, Nat.reduceLT, Nat.reduceLeDiff, Nat.reduceEqDiff, Nat.reduceBEq, Int.reduceAdd, Int.reduceSub, Int.reduceMul, Int.reduceNeg, Int.reduceLE, Int.reduceLT, Int.reduceEq, Int.reduceNe, Int.reduceToNat, ↓reduceIte, reduceCtorEq, implies_true, forall_const, eq_self, ne_eq, wtAll, Try.ntmps42, Try.results42, hh_i4]) ?_)))

theorem lsounding_tri (w a b c d : Int) (H : Hp) : PTri Try.prog (fnA 41) [i64 w, .agg [i64 a, i64 b], .agg [i64 c, i64 d]] H (.agg (Sd.cs ⟨w, a, b, c, d⟩)) := by
  refine tri_vs (m := fun _ => false) Try.func41 (by kernel_rfl) rfl (by simp only [List.length_append, List.length_cons, List.length_nil, Try.ntmps41]; decide) ?_
  simp only [vsAll, loadA, loadRow, partA, partOk, boxA, cellA, cellsA, fillA, okParts, partsA, partsOk, opA, allocA, newCells, okCells, storeObj, dstOk, argFr, Nat.reduceAdd, Nat.reduceLT, Nat.reduceLeDiff, Nat.reduceEqDiff, ↓reduceIte, reduceCtorEq, eq_self, wtAll, Try.ntmps41]
  intro i6 hh_i6; (try simp only [Hp.set_none, ite_none] at hh_i6)
  refine ret0 ?_
  simp only [vsAll, loadA, loadRow, partA, partOk, resA, retA.eq_1, Nat.reduceLT, Nat.reduceEqDiff, ↓reduceIte, eq_self, wtAll, Try.results41]
  exact dropR_pure rfl (by (repeat (first | exact HSub_rfl | refine HSub_put_eq (by simp only [vsAll, binA, binLitA, intA, aggA, boolA, nilA2, isConst, unA, loadA, loadRow, partA, partOk, fieldAddrA, indexAddrA, indexA, fieldA, extractA, lenA, nilCheckA, boxA, cellA, cellsA, fillA, okParts, buildSliceA, partIdx, elemsA, lensA, ifaceA, convA, mmA, pickA, okAll, stAll, opsA, partsA, partsOk, opA, allocA, boxMutA, newCells, okCells, storeObj, appendA, guardV, taA, nM, mapUpA, lookA, sliceA, boundsA, opO, okO, copyA, dstOk, nilA, quietOk, nilSliceOp, panA, resA, argFr, retA.eq_1, retA.eq_2, Nat.reduceAdd, Nat.reduceSub, Nat.reduceMul, Nat.reduceLT, Nat.reduceLeDiff, Nat.reduceEqDiff, Nat.reduceBEq, Int.reduceAdd, Int.reduceSub, Int.reduceMul, Int.reduceNeg, Int.reduceLE, Int.reduceLT, Int.reduceEq, Int.reduceNe, Int.reduceToNat, ↓reduceIte, reduceCtorEq, implies_true, forall_const, eq_self, ne_eq, wtAll, Try.ntmps41, Try.results41, hh_i6]) ?_ | refine HSub_drop2 (by simp only [eq_self, hh_i6]) ?_ | refine HSub_keep_eq (by simp only [vsAll, binA, binLitA, intA, aggA, boolA, nilA2, isConst, unA, loadA, loadRow, partA, partOk, fieldAddrA, indexAddrA, indexA, fieldA, extractA, lenA, nilCheckA, boxA, cellA, cellsA, fillA, okParts, buildSliceA, partIdx, elemsA, lensA, ifaceA, convA, mmA, pickA, okAll, stAll, opsA, partsA, partsOk, opA, allocA, boxMutA, newCells, okCells, storeObj, appendA, guardV, taA, nM, mapUpA, lookA, sliceA, boundsA, opO, okO, copyA, dstOk, nilA, quietOk, nilSliceOp, panA, resA, argFr, retA.eq_1, retA.eq_2, Nat.reduceAdd, Nat.reduceSub, Nat.reduceMul, Nat.reduceLT, Nat.reduceLeDiff, Nat.reduceEqDiff, Nat.reduceBEq, Int.reduceAdd, Int.reduceSub, Int.reduceMul, Int.reduceNeg, Int.reduceLE, Int.reduceLT, Int.reduceEq, Int.reduceNe, Int.reduceToNat, ↓reduceIte, reduceCtorEq, implies_true, forall_const, eq_self, ne_eq, wtAll, Try.ntmps41, Try.results41, hh_i6]) ?_)))

def sA : Sd := ⟨1, 0, 0, 3, 3⟩
def sB : Sd := ⟨0, 1, 1, 0, 0⟩
def sC : Sd := ⟨1, 0, 0, 5, 6⟩
def sD : Sd := ⟨0, -1, 1, 1, 2⟩
theorem la_tri (H : Hp) : PTri Try.prog (fnA 47) [] H (.agg sA.cs) := by
  refine tri_vs (m := fun _ => false) Try.func47 (by kernel_rfl) rfl (by simp only [List.length_append, List.length_nil, Try.ntmps47]; decide) ?_
  simp only [vsAll, okAll, stAll, opsA, opA, allocA, dstOk, Nat.reduceAdd, Nat.reduceLT, eq_self, wtAll, Try.ntmps47]
  intro i0 hh_i0; (try simp only [Hp.set_none, ite_none] at hh_i0)
  refine callK_pure (lspan_tri 0 0 _) ?_
  simp only [vsAll, okAll, stAll, opsA, opA, dstOk, Nat.reduceLT]
  refine callK_pure (lspan_tri 3 3 _) ?_
  simp only [vsAll, okAll, stAll, opsA, opA, dstOk, Nat.reduceLT, Nat.reduceEqDiff, ↓reduceIte, eq_self]
  refine callK_pure (lsounding_tri 1 0 0 3 3 _) ?_
  simp only [vsAll, cellA, cellsA, opA, newCells, okCells, storeObj, dstOk, Nat.reduceAdd, Nat.reduceLT, ↓reduceIte, reduceCtorEq, eq_self, wtAll]
  refine ret0 ?_
  simp only [vsAll, loadA, loadRow, partA, partOk, resA, retA.eq_1, Nat.reduceLT, ↓reduceIte, reduceCtorEq, eq_self, wtAll, Try.results47]
  exact dropR_pure rfl (by (repeat (first | exact HSub_rfl | refine HSub_put_eq (by simp only [vsAll, binA, binLitA, intA, aggA, boolA, nilA2, isConst, unA, loadA, loadRow, partA, partOk, fieldAddrA, indexAddrA, indexA, fieldA, extractA, lenA, nilCheckA, boxA, cellA, cellsA, fillA, okParts, buildSliceA, partIdx, elemsA, lensA, ifaceA, convA, mmA, pickA, okAll, stAll, opsA, partsA, partsOk, opA, allocA, boxMutA, newCells, okCells, storeObj, appendA, guardV, taA, nM, mapUpA, lookA, sliceA, boundsA, opO, okO, copyA, dstOk, nilA, quietOk, nilSliceOp, panA, resA, argFr, retA.eq_1, retA.eq_2, Nat.reduceAdd, Nat.reduceSub, Nat.reduceMul, Nat.reduceLT, Nat.reduceLeDiff, Nat.reduceEqDiff, Nat.reduceBEq, Int.reduceAdd, Int.reduceSub, Int.reduceMul, Int.reduceNeg, Int.reduceLE, Int.reduceLT, Int.reduceEq, Int.reduceNe, Int.reduceToNat, ↓reduceIte, reduceCtorEq, implies_true, forall_const, eq_self, ne_eq, wtAll, Try.ntmps47, Try.results47, hh_i0]) ?_ | refine HSub_drop2 (by simp only [eq_self, hh_i0]) ?_ | refine HSub_keep_eq (by simp only [vsAll, binA, binLitA, intA, aggA, boolA, nilA2, isConst, unA, loadA, loadRow, partA, partOk, fieldAddrA, indexAddrA, indexA, fieldA, extractA, lenA, nilCheckA, boxA, cellA, cellsA, fillA, okParts, buildSliceA, partIdx, elemsA, lensA, ifaceA, convA, mmA, pickA, okAll, stAll, opsA, partsA, partsOk, opA, allocA, boxMutA, newCells, okCells, storeObj, appendA, guardV, taA, nM, mapUpA, lookA, sliceA, boundsA, opO, okO, copyA, dstOk, nilA, quietOk, nilSliceOp, panA, resA, argFr, retA.eq_1, retA.eq_2, Nat.reduceAdd, Nat.reduceSub, Nat.reduceMul, Nat.reduceLT, Nat.reduceLeDiff, Nat.reduceEqDiff, Nat.reduceBEq, Int.reduceAdd, Int.reduceSub, Int.reduceMul, Int.reduceNeg, Int.reduceLE, Int.reduceLT, Int.reduceEq, Int.reduceNe, Int.reduceToNat, ↓reduceIte, reduceCtorEq, implies_true, forall_const, eq_self, ne_eq, wtAll, Try.ntmps47, Try.results47, hh_i0]) ?_)))
theorem lb_tri (H : Hp) : PTri Try.prog (fnA 48) [] H (.agg sB.cs) := by
  refine tri_vs (m := fun _ => false) Try.func48 (by kernel_rfl) rfl (by simp only [List.length_append, List.length_nil, Try.ntmps48]; decide) ?_
  simp only [vsAll, okAll, stAll, opsA, opA, allocA, dstOk, Nat.reduceAdd, Nat.reduceLT, eq_self, wtAll, Try.ntmps48]
  intro i0 hh_i0; (try simp only [Hp.set_none, ite_none] at hh_i0)
  refine callK_pure (lspan_tri 1 1 _) ?_
  simp only [vsAll, okAll, stAll, opsA, opA, dstOk, Nat.reduceLT]
  refine callK_pure (lspan_tri 0 0 _) ?_
  simp only [vsAll, okAll, stAll, opsA, opA, dstOk, Nat.reduceLT, Nat.reduceEqDiff, ↓reduceIte, eq_self]
  refine callK_pure (lsounding_tri 0 1 1 0 0 _) ?_
  simp only [vsAll, cellA, cellsA, opA, newCells, okCells, storeObj, dstOk, Nat.reduceAdd, Nat.reduceLT, ↓reduceIte, reduceCtorEq, eq_self, wtAll]
  refine ret0 ?_
  simp only [vsAll, loadA, loadRow, partA, partOk, resA, retA.eq_1, Nat.reduceLT, ↓reduceIte, reduceCtorEq, eq_self, wtAll, Try.results48]
  exact dropR_pure rfl (by (repeat (first | exact HSub_rfl | refine HSub_put_eq (by simp only [vsAll, binA, binLitA, intA, aggA, boolA, nilA2, isConst, unA, loadA, loadRow, partA, partOk, fieldAddrA, indexAddrA, indexA, fieldA, extractA, lenA, nilCheckA, boxA, cellA, cellsA, fillA, okParts, buildSliceA, partIdx, elemsA, lensA, ifaceA, convA, mmA, pickA, okAll, stAll, opsA, partsA, partsOk, opA, allocA, boxMutA, newCells, okCells, storeObj, appendA, guardV, taA, nM, mapUpA, lookA, sliceA, boundsA, opO, okO, copyA, dstOk, nilA, quietOk, nilSliceOp, panA, resA, argFr, retA.eq_1, retA.eq_2, Nat.reduceAdd, Nat.reduceSub, Nat.reduceMul, Nat.reduceLT, Nat.reduceLeDiff, Nat.reduceEqDiff, Nat.reduceBEq, Int.reduceAdd, Int.reduceSub, Int.reduceMul, Int.reduceNeg, Int.reduceLE, Int.reduceLT, Int.reduceEq, Int.reduceNe, Int.reduceToNat, ↓reduceIte, reduceCtorEq, implies_true, forall_const, eq_self, ne_eq, wtAll, Try.ntmps48, Try.results48, hh_i0]) ?_ | refine HSub_drop2 (by simp only [eq_self, hh_i0]) ?_ | refine HSub_keep_eq (by simp only [vsAll, binA, binLitA, intA, aggA, boolA, nilA2, isConst, unA, loadA, loadRow, partA, partOk, fieldAddrA, indexAddrA, indexA, fieldA, extractA, lenA, nilCheckA, boxA, cellA, cellsA, fillA, okParts, buildSliceA, partIdx, elemsA, lensA, ifaceA, convA, mmA, pickA, okAll, stAll, opsA, partsA, partsOk, opA, allocA, boxMutA, newCells, okCells, storeObj, appendA, guardV, taA, nM, mapUpA, lookA, sliceA, boundsA, opO, okO, copyA, dstOk, nilA, quietOk, nilSliceOp, panA, resA, argFr, retA.eq_1, retA.eq_2, Nat.reduceAdd, Nat.reduceSub, Nat.reduceMul, Nat.reduceLT, Nat.reduceLeDiff, Nat.reduceEqDiff, Nat.reduceBEq, Int.reduceAdd, Int.reduceSub, Int.reduceMul, Int.reduceNeg, Int.reduceLE, Int.reduceLT, Int.reduceEq, Int.reduceNe, Int.reduceToNat, ↓reduceIte, reduceCtorEq, implies_true, forall_const, eq_self, ne_eq, wtAll, Try.ntmps48, Try.results48, hh_i0]) ?_)))
theorem lc_tri (H : Hp) : PTri Try.prog (fnA 50) [] H (.agg sC.cs) := by
  refine tri_vs (m := fun _ => false) Try.func50 (by kernel_rfl) rfl (by simp only [List.length_append, List.length_nil, Try.ntmps50]; decide) ?_
  simp only [vsAll, okAll, stAll, opsA, opA, allocA, dstOk, Nat.reduceAdd, Nat.reduceLT, eq_self, wtAll, Try.ntmps50]
  intro i0 hh_i0; (try simp only [Hp.set_none, ite_none] at hh_i0)
  refine callK_pure (lspan_tri 0 0 _) ?_
  simp only [vsAll, okAll, stAll, opsA, opA, dstOk, Nat.reduceLT]
  refine callK_pure (lspan_tri 5 6 _) ?_
  simp only [vsAll, okAll, stAll, opsA, opA, dstOk, Nat.reduceLT, Nat.reduceEqDiff, ↓reduceIte, eq_self]
  refine callK_pure (lsounding_tri 1 0 0 5 6 _) ?_
  simp only [vsAll, cellA, cellsA, opA, newCells, okCells, storeObj, dstOk, Nat.reduceAdd, Nat.reduceLT, ↓reduceIte, reduceCtorEq, eq_self, wtAll]
  refine ret0 ?_
  simp only [vsAll, loadA, loadRow, partA, partOk, resA, retA.eq_1, Nat.reduceLT, ↓reduceIte, reduceCtorEq, eq_self, wtAll, Try.results50]
  exact dropR_pure rfl (by (repeat (first | exact HSub_rfl | refine HSub_put_eq (by simp only [vsAll, binA, binLitA, intA, aggA, boolA, nilA2, isConst, unA, loadA, loadRow, partA, partOk, fieldAddrA, indexAddrA, indexA, fieldA, extractA, lenA, nilCheckA, boxA, cellA, cellsA, fillA, okParts, buildSliceA, partIdx, elemsA, lensA, ifaceA, convA, mmA, pickA, okAll, stAll, opsA, partsA, partsOk, opA, allocA, boxMutA, newCells, okCells, storeObj, appendA, guardV, taA, nM, mapUpA, lookA, sliceA, boundsA, opO, okO, copyA, dstOk, nilA, quietOk, nilSliceOp, panA, resA, argFr, retA.eq_1, retA.eq_2, Nat.reduceAdd, Nat.reduceSub, Nat.reduceMul, Nat.reduceLT, Nat.reduceLeDiff, Nat.reduceEqDiff, Nat.reduceBEq, Int.reduceAdd, Int.reduceSub, Int.reduceMul, Int.reduceNeg, Int.reduceLE, Int.reduceLT, Int.reduceEq, Int.reduceNe, Int.reduceToNat, ↓reduceIte, reduceCtorEq, implies_true, forall_const, eq_self, ne_eq, wtAll, Try.ntmps50, Try.results50, hh_i0]) ?_ | refine HSub_drop2 (by simp only [eq_self, hh_i0]) ?_ | refine HSub_keep_eq (by simp only [vsAll, binA, binLitA, intA, aggA, boolA, nilA2, isConst, unA, loadA, loadRow, partA, partOk, fieldAddrA, indexAddrA, indexA, fieldA, extractA, lenA, nilCheckA, boxA, cellA, cellsA, fillA, okParts, buildSliceA, partIdx, elemsA, lensA, ifaceA, convA, mmA, pickA, okAll, stAll, opsA, partsA, partsOk, opA, allocA, boxMutA, newCells, okCells, storeObj, appendA, guardV, taA, nM, mapUpA, lookA, sliceA, boundsA, opO, okO, copyA, dstOk, nilA, quietOk, nilSliceOp, panA, resA, argFr, retA.eq_1, retA.eq_2, Nat.reduceAdd, Nat.reduceSub, Nat.reduceMul, Nat.reduceLT, Nat.reduceLeDiff, Nat.reduceEqDiff, Nat.reduceBEq, Int.reduceAdd, Int.reduceSub, Int.reduceMul, Int.reduceNeg, Int.reduceLE, Int.reduceLT, Int.reduceEq, Int.reduceNe, Int.reduceToNat, ↓reduceIte, reduceCtorEq, implies_true, forall_const, eq_self, ne_eq, wtAll, Try.ntmps50, Try.results50, hh_i0]) ?_)))
theorem ld_tri (H : Hp) : PTri Try.prog (fnA 49) [] H (.agg sD.cs) := by
  refine tri_vs (m := fun _ => false) Try.func49 (by kernel_rfl) rfl (by simp only [List.length_append, List.length_nil, Try.ntmps49]; decide) ?_
  simp only [vsAll, okAll, stAll, opsA, opA, allocA, dstOk, Nat.reduceAdd, Nat.reduceLT, Int.reduceNeg, eq_self, wtAll, Try.ntmps49]
  intro i0 hh_i0; (try simp only [Hp.set_none, ite_none] at hh_i0)
  refine callK_pure (lspan_tri (-1) 1 _) ?_
  simp only [vsAll, okAll, stAll, opsA, opA, dstOk, Nat.reduceLT, Int.reduceNeg]
  refine callK_pure (lspan_tri 1 2 _) ?_
  simp only [vsAll, okAll, stAll, opsA, opA, dstOk, Nat.reduceLT, Nat.reduceEqDiff, Int.reduceNeg, ↓reduceIte, eq_self]
  refine callK_pure (lsounding_tri 0 (-1) 1 1 2 _) ?_
  simp only [vsAll, cellA, cellsA, opA, newCells, okCells, storeObj, dstOk, Nat.reduceAdd, Nat.reduceLT, Int.reduceNeg, ↓reduceIte, reduceCtorEq, eq_self, wtAll]
  refine ret0 ?_
  simp only [vsAll, loadA, loadRow, partA, partOk, resA, retA.eq_1, Nat.reduceLT, Int.reduceNeg, ↓reduceIte, reduceCtorEq, eq_self, wtAll, Try.results49]
  exact dropR_pure rfl (by (repeat (first | exact HSub_rfl | refine HSub_put_eq (by simp only [vsAll, binA, binLitA, intA, aggA, boolA, nilA2, isConst, unA, loadA, loadRow, partA, partOk, fieldAddrA, indexAddrA, indexA, fieldA, extractA, lenA, nilCheckA, boxA, cellA, cellsA, fillA, okParts, buildSliceA, partIdx, elemsA, lensA, ifaceA, convA, mmA, pickA, okAll, stAll, opsA, partsA, partsOk, opA, allocA, boxMutA, newCells, okCells, storeObj, appendA, guardV, taA, nM, mapUpA, lookA, sliceA, boundsA, opO, okO, copyA, dstOk, nilA, quietOk, nilSliceOp, panA, resA, argFr, retA.eq_1, retA.eq_2, Nat.reduceAdd, Nat.reduceSub, Nat.reduceMul, Nat.reduceLT, Nat.reduceLeDiff, Nat.reduceEqDiff, Nat.reduceBEq, Int.reduceAdd, Int.reduceSub, Int.reduceMul, Int.reduceNeg, Int.reduceLE, Int.reduceLT, Int.reduceEq, Int.reduceNe, Int.reduceToNat, ↓reduceIte, reduceCtorEq, implies_true, forall_const, eq_self, ne_eq, wtAll, Try.ntmps49, Try.results49, hh_i0]) ?_ | refine HSub_drop2 (by simp only [eq_self, hh_i0]) ?_ | refine HSub_keep_eq (by simp only [vsAll, binA, binLitA, intA, aggA, boolA, nilA2, isConst, unA, loadA, loadRow, partA, partOk, fieldAddrA, indexAddrA, indexA, fieldA, extractA, lenA, nilCheckA, boxA, cellA, cellsA, fillA, okParts, buildSliceA, partIdx, elemsA, lensA, ifaceA, convA, mmA, pickA, okAll, stAll, opsA, partsA, partsOk, opA, allocA, boxMutA, newCells, okCells, storeObj, appendA, guardV, taA, nM, mapUpA, lookA, sliceA, boundsA, opO, okO, copyA, dstOk, nilA, quietOk, nilSliceOp, panA, resA, argFr, retA.eq_1, retA.eq_2, Nat.reduceAdd, Nat.reduceSub, Nat.reduceMul, Nat.reduceLT, Nat.reduceLeDiff, Nat.reduceEqDiff, Nat.reduceBEq, Int.reduceAdd, Int.reduceSub, Int.reduceMul, Int.reduceNeg, Int.reduceLE, Int.reduceLT, Int.reduceEq, Int.reduceNe, Int.reduceToNat, ↓reduceIte, reduceCtorEq, implies_true, forall_const, eq_self, ne_eq, wtAll, Try.ntmps49, Try.results49, hh_i0]) ?_)))

def flS : Nat → Int := fun i => [2, 0, 2].getD i 0
abbrev hdS (l : List Sd) : Hd := ⟨3, flS, l.length, fun i => l.getD i sA⟩
theorem lsample_tri (l : List Sd) (g : Nat → List AV) (hg : ∀ i, i < l.length → g i = (l.getD i sA).cs) (H : Hp) : PTri Try.prog (fnA 46) [.rsl l.length 5 g] H (hdS l).av := by
  refine ret_le (v := .agg [.rsl 3 1 fun i => [[i64 2], [i64 0], [i64 2]].getD i [], .rsl l.length 5 g]) ?_ (AVLe_agg2 (.rsl fun i hi => ?_) (.rsl fun i hi => hg i hi))
  · refine tri_vs (m := fun _ => false) Try.func46 (by kernel_rfl) rfl (by simp only [List.length_append, List.length_cons, List.length_nil, Try.ntmps46]; decide) ?_
    simp only [vsAll, cellA, cellsA, fillA, okParts, buildSliceA, partIdx, elemsA, lensA, partsA, partsOk, opA, allocA, newCells, okCells, storeObj, dstOk, argFr, Nat.reduceAdd, Nat.reduceMul, Nat.reduceLT, Nat.reduceLeDiff, Nat.reduceEqDiff, ↓reduceIte, reduceCtorEq, eq_self, wtAll, Try.ntmps46]
    intro i2 hh_i2; (try simp only [Hp.set_none, ite_none] at hh_i2)
    refine ret0 ?_
    simp only [vsAll, loadA, loadRow, partA, partOk, resA, retA.eq_1, Nat.reduceLT, Nat.reduceEqDiff, ↓reduceIte, eq_self, wtAll, Try.results46]
    exact dropR_pure rfl (by (repeat (first | exact HSub_rfl | refine HSub_put_eq (by simp only [vsAll, binA, binLitA, intA, aggA, boolA, nilA2, isConst, unA, loadA, loadRow, partA, partOk, fieldAddrA, indexAddrA, indexA, fieldA, extractA, lenA, nilCheckA, boxA, cellA, cellsA, fillA, okParts, buildSliceA, partIdx, elemsA, lensA, ifaceA, convA, mmA, pickA, okAll, stAll, opsA, partsA, partsOk, opA, allocA, boxMutA, newCells, okCells, storeObj, appendA, guardV, taA, nM, mapUpA, lookA, sliceA, boundsA, opO, okO, copyA, dstOk, nilA, quietOk, nilSliceOp, panA, resA, argFr, retA.eq_1, retA.eq_2, Nat.reduceAdd, Nat.reduceSub, Nat.reduceMul, Nat.reduceLT, Nat.reduceLeDiff, Nat.reduceEqDiff, Nat.reduceBEq, Int.reduceAdd, Int.reduceSub, Int.reduceMul, Int.reduceNeg, Int.reduceLE, Int.reduceLT, Int.reduceEq, Int.reduceNe, Int.reduceToNat, ↓reduceIte, reduceCtorEq, implies_true, forall_const, eq_self, ne_eq, wtAll, Try.ntmps46, Try.results46, hh_i2]) ?_ | refine HSub_drop2 (by simp only [eq_self, hh_i2]) ?_ | refine HSub_keep_eq (by simp only [vsAll, binA, binLitA, intA, aggA, boolA, nilA2, isConst, unA, loadA, loadRow, partA, partOk, fieldAddrA, indexAddrA, indexA, fieldA, extractA, lenA, nilCheckA, boxA, cellA, cellsA, fillA, okParts, buildSliceA, partIdx, elemsA, lensA, ifaceA, convA, mmA, pickA, okAll, stAll, opsA, partsA, partsOk, opA, allocA, boxMutA, newCells, okCells, storeObj, appendA, guardV, taA, nM, mapUpA, lookA, sliceA, boundsA, opO, okO, copyA, dstOk, nilA, quietOk, nilSliceOp, panA, resA, argFr, retA.eq_1, retA.eq_2, Nat.reduceAdd, Nat.reduceSub, Nat.reduceMul, Nat.reduceLT, Nat.reduceLeDiff, Nat.reduceEqDiff, Nat.reduceBEq, Int.reduceAdd, Int.reduceSub, Int.reduceMul, Int.reduceNeg, Int.reduceLE, Int.reduceLT, Int.reduceEq, Int.reduceNe, Int.reduceToNat, ↓reduceIte, reduceCtorEq, implies_true, forall_const, eq_self, ne_eq, wtAll, Try.ntmps46, Try.results46, hh_i2]) ?_)))
  · match i, hi with
    | 0, _ => rfl
    | 1, _ => rfl
    | 2, _ => rfl

end Go.Proofs.Ytdeollnepclhaaa
end
section
set_option linter.unusedVariables false
set_option linter.unusedSimpArgs false
set_option maxHeartbeats 4000000
set_option maxRecDepth 100000
namespace Go.Proofs.Ytdeollnepclhaaa
open Go.V
/-- Arguments of which more is known than is asked. -/
theorem args_le {P : Program} {fv : AV} {args args' : List AV} {H : Hp} {R : Res → Hp → Prop} (h : Tri P fv args' H R) (hl : args.length = args'.length) (hle : ∀ k, k < args.length → AV.Le (args.getD k .any) (args'.getD k .any)) : Tri P fv args H R := by
  intro S vf vs hH hvf ha
  exact h S vf vs hH hvf ⟨by rw [ha.1, hl], fun k hk => hle k (by omega) S _ (ha.2 k (by omega))⟩
theorem args_le2 {P : Program} {fv a b a' b' : AV} {H : Hp} {R : Res → Hp → Prop} (h : Tri P fv [a', b'] H R) (h1 : AV.Le a a') (h2 : AV.Le b b') : Tri P fv [a, b] H R := by
  refine args_le h rfl fun k hk => ?_
  match k, hk with
  | 0, _ => exact h1
  | 1, _ => exact h2

theorem ok_of (l : List Sd) (hl : l.length ≤ 6) (hs : ∀ s ∈ l, (0 ≤ s.w ∧ s.w < 3) ∧ (-2 ≤ s.a ∧ s.a ≤ s.b ∧ s.b ≤ 2) ∧ (0 ≤ s.c ∧ s.c ≤ s.d ∧ s.d ≤ 40)) : HOk (hdS l) := by
  have hm : ∀ i, i < l.length → l.getD i sA ∈ l := fun i hi => mem_getD l i sA hi
  refine ⟨.inl rfl, hl, fun i hi => ?_, fun i hi => (hs _ (hm i hi)).1, fun i hi => (hs _ (hm i hi)).2.1, fun i hi => (hs _ (hm i hi)).2.2⟩
  have hi' : i < 3 := hi
  match i, hi' with
  | 0, _ => exact (by decide : 0 ≤ flS 0 ∧ flS 0 ≤ 9)
  | 1, _ => exact (by decide : 0 ≤ flS 1 ∧ flS 1 ≤ 9)
  | 2, _ => exact (by decide : 0 ≤ flS 2 ∧ flS 2 ≤ 9)

theorem okA : HOk (hdS [sA]) := ok_of _ (by decide) (by decide)
theorem okB : HOk (hdS [sB]) := ok_of _ (by decide) (by decide)
theorem okAD : HOk (hdS [sA, sD]) := ok_of _ (by decide) (by decide)
theorem okAC : HOk (hdS [sA, sC]) := ok_of _ (by decide) (by decide)
theorem allA_A : allA (hdS [sA]) = [5, 6, 7] := by decide +kernel
theorem allA_B : allA (hdS [sB]) = [0, 1, 2, 3, 4, 5, 6, 7] := by decide +kernel
theorem allA_AD : (allA (hdS [sA, sD])).length ≠ 0 := by decide +kernel
theorem errE_t {h : Hd} (hk : HOk h) (hl : (allA h).length ≠ 0) : errE h true true = 0 := by unfold errE; rw [if_pos hk, if_pos rfl, if_neg (fun q => hl q.2)]

theorem w1e : standE (hdS [sA]) 3 1 = 0 := errE_ok okA
theorem w1 : standV (hdS [sA]) 3 1 = 2 := by simp only [standV, w1e, if_true]; decide +kernel
theorem w2e : depthE (hdS [sA]) 5 0 0 = 0 := errE_ok okA
theorem w2 : depthV (hdS [sA]) 5 0 0 = 1 := by simp only [depthV, w2e, if_true]; decide +kernel
theorem w3e : waterE (hdS [sB]) = 0 := errE_t okB (by rw [allA_B]; decide)
theorem w3 : waterV (hdS [sB]) = [(0, 7)] := by simp only [waterV, w3e, if_true, allA_B]; decide
theorem w4e : overE (hdS [sA]) 4 = 0 := errE_t okA (by rw [allA_A]; decide)
theorem w4 : overV (hdS [sA]) 4 = 2 := by simp only [overV, w4e, if_true, allA_A]; decide
theorem w5e : rodE (hdS [sB]) 0 1 = 0 := errE_t okB (by rw [allA_B]; decide)
theorem w5 : rodV (hdS [sB]) 0 1 = (0, 3) := by simp only [rodV, w5e, if_true, allA_B]; decide +kernel
theorem w6e : listsE (hdS [sA, sD]) 1 = 0 := errE_t okAD allA_AD
theorem w6 : listsV (hdS [sA, sD]) 1 = [-1, 0] := by simp only [listsV, w6e, if_true]; decide +kernel
theorem w7e : dryE (hdS [sA]) 2 = 0 := errE_t okA (by rw [allA_A]; decide)
theorem w7 : dryV (hdS [sA]) 2 = (1, 1) := by simp only [dryV, w7e, if_true]; decide +kernel
theorem w8e : nextE (hdS [sA]) 2 = 0 := errE_t okA (by rw [allA_A]; decide)
theorem w8 : nextV (hdS [sA]) 2 = (1, 2) := by simp only [nextV, w8e, if_true]; decide +kernel
theorem w9e : clashE (hdS [sA, sC]) = 0 := by
  have e : errE (hdS [sA, sC]) true false = 0 := errE_ok okAC
  simp only [clashE, e, if_true]; decide +kernel
theorem w9 : clashV (hdS [sA, sC]) = 3 := by simp only [clashV, w9e, if_true]; decide +kernel

theorem c1 : ((1 : Nat) : Int) = 1 := rfl
theorem c2 : ((2 : Nat) : Int) = 2 := rfl
theorem c3 : ((3 : Nat) : Int) = 3 := rfl
theorem awake_tri (H : Hp) : PTri Try.prog (fnA 14) [] H (boo true) := by
  have nA := okA.near
  have nB := okB.near
  have nAD := okAD.near
  have nAC := okAC.near
  refine tri_vs (m := fun _ => false) Try.func14 (by kernel_rfl) rfl (by simp only [List.length_append, List.length_nil, Try.ntmps14]; decide) ?_
  simp only [vsAll, okAll, stAll, opsA, opA, dstOk, nilSliceOp, Nat.reduceLT, Int.reduceNeg, eq_self, Try.ntmps14]
  refine callK_pure (la_tri _) ?_
  simp only [vsAll, cellsA, okParts, buildSliceA, partIdx, elemsA, lensA, okAll, stAll, opsA, partsA, partsOk, opA, dstOk, Nat.reduceAdd, Nat.reduceMul, Nat.reduceLT, Nat.reduceLeDiff, Int.reduceNeg, ↓reduceIte, eq_self, wtAll]
  refine callK_pure (lsample_tri [sA] _ (fun i hi => ?_) _) ?_
  · have : i = 0 := by simp at hi; omega
    subst this; rfl
  simp only [vsAll, okAll, stAll, opsA, opA, dstOk, Nat.reduceLT, Int.reduceNeg, ↓reduceIte, eq_self]
  refine callK_pure (wstand_tri (hdS [sA]) 3 1 _ nA) ?_
  simp only [vsAll, extractA, okAll, stAll, opsA, opA, dstOk, nilSliceOp, Nat.reduceAdd, Nat.reduceLT, Nat.reduceEqDiff, Int.reduceNeg, ↓reduceIte, eq_self, w1, w1e]
  refine callK_pure (la_tri _) ?_
  simp only [vsAll, cellsA, okParts, buildSliceA, partIdx, elemsA, lensA, okAll, stAll, opsA, partsA, partsOk, opA, dstOk, Nat.reduceAdd, Nat.reduceMul, Nat.reduceLT, Nat.reduceLeDiff, Int.reduceNeg, ↓reduceIte, eq_self, wtAll]
  refine callK_pure (lsample_tri [sA] _ (fun i hi => ?_) _) ?_
  · have : i = 0 := by simp at hi; omega
    subst this; rfl
  simp only [vsAll, okAll, stAll, opsA, opA, dstOk, Nat.reduceLT, Int.reduceNeg, ↓reduceIte, eq_self]
  refine callK_pure (wdepth_tri (hdS [sA]) 5 0 0 _ nA) ?_
  simp only [vsAll, extractA, okAll, stAll, opsA, opA, dstOk, nilSliceOp, Nat.reduceAdd, Nat.reduceLT, Nat.reduceEqDiff, Int.reduceNeg, ↓reduceIte, eq_self, w2, w2e]
  refine callK_pure (lb_tri _) ?_
  simp only [vsAll, cellsA, okParts, buildSliceA, partIdx, elemsA, lensA, okAll, stAll, opsA, partsA, partsOk, opA, dstOk, Nat.reduceAdd, Nat.reduceMul, Nat.reduceLT, Nat.reduceLeDiff, Int.reduceNeg, ↓reduceIte, eq_self, wtAll]
  refine callK_pure (lsample_tri [sB] _ (fun i hi => ?_) _) ?_
  · have : i = 0 := by simp at hi; omega
    subst this; rfl
  simp only [vsAll, okAll, stAll, opsA, opA, dstOk, Nat.reduceLT, Int.reduceNeg, ↓reduceIte, eq_self]
  refine callK_pure (wwater_tri (hdS [sB]) _ nB) ?_
  simp only [vsAll, extractA, okAll, stAll, opsA, opA, dstOk, nilSliceOp, Nat.reduceAdd, Nat.reduceLT, Nat.reduceEqDiff, Int.reduceNeg, ↓reduceIte, eq_self, w3, w3e]
  refine callK_pure (la_tri _) ?_
  simp only [vsAll, cellsA, okParts, buildSliceA, partIdx, elemsA, lensA, okAll, stAll, opsA, partsA, partsOk, opA, dstOk, Nat.reduceAdd, Nat.reduceMul, Nat.reduceLT, Nat.reduceLeDiff, Int.reduceNeg, ↓reduceIte, eq_self, wtAll]
  refine callK_pure (lsample_tri [sA] _ (fun i hi => ?_) _) ?_
  · have : i = 0 := by simp at hi; omega
    subst this; rfl
  simp only [vsAll, okAll, stAll, opsA, opA, dstOk, Nat.reduceLT, Int.reduceNeg, ↓reduceIte, eq_self]
  refine callK_pure (wover_tri (hdS [sA]) 4 _ nA) ?_
  simp only [vsAll, extractA, okAll, stAll, opsA, opA, dstOk, nilSliceOp, Nat.reduceAdd, Nat.reduceLT, Nat.reduceEqDiff, Int.reduceNeg, ↓reduceIte, eq_self, w4, w4e]
  refine callK_pure (lb_tri _) ?_
  simp only [vsAll, cellsA, okParts, buildSliceA, partIdx, elemsA, lensA, okAll, stAll, opsA, partsA, partsOk, opA, dstOk, Nat.reduceAdd, Nat.reduceMul, Nat.reduceLT, Nat.reduceLeDiff, Int.reduceNeg, ↓reduceIte, eq_self, wtAll]
  refine callK_pure (lsample_tri [sB] _ (fun i hi => ?_) _) ?_
  · have : i = 0 := by simp at hi; omega
    subst this; rfl
  simp only [vsAll, okAll, stAll, opsA, opA, dstOk, Nat.reduceLT, Int.reduceNeg, ↓reduceIte, eq_self]
  refine callK_pure (wrod_tri (hdS [sB]) 0 1 _ nB) ?_
  simp only [vsAll, extractA, cellA, cellsA, okAll, stAll, opsA, opA, allocA, newCells, okCells, storeObj, dstOk, nilSliceOp, Nat.reduceAdd, Nat.reduceLT, Nat.reduceEqDiff, Int.reduceNeg, ↓reduceIte, eq_self, wtAll, w5, w5e]
  intro i9 hh_i9; (try simp only [Hp.set_none, ite_none] at hh_i9)
  refine callK_pure (la_tri _) ?_
  simp only [vsAll, okAll, stAll, opsA, opA, dstOk, Nat.reduceLT, Int.reduceNeg]
  refine callK_pure (ld_tri _) ?_
  simp only [vsAll, cellsA, okParts, buildSliceA, partIdx, elemsA, lensA, okAll, stAll, opsA, partsA, partsOk, opA, dstOk, Nat.reduceAdd, Nat.reduceMul, Nat.reduceLT, Nat.reduceLeDiff, Nat.reduceEqDiff, Int.reduceNeg, ↓reduceIte, eq_self, wtAll]
  refine callK_pure (lsample_tri [sA, sD] _ (fun i hi => ?_) _) ?_
  · have : i = 0 ∨ i = 1 := by simp at hi; ((try clear hh_i9); omega)
    rcases this with rfl | rfl <;> rfl
  simp only [vsAll, okAll, stAll, opsA, opA, dstOk, Nat.reduceLT, Int.reduceNeg, ↓reduceIte, eq_self]
  refine callK_pure (wlists_tri (hdS [sA, sD]) 1 _ nAD) ?_
  simp only [vsAll, extractA, okAll, stAll, opsA, opA, dstOk, nilSliceOp, Nat.reduceAdd, Nat.reduceLT, Nat.reduceEqDiff, Int.reduceNeg, ↓reduceIte, eq_self, w6, w6e]
  refine callK_pure (la_tri _) ?_
  simp only [vsAll, cellsA, okParts, buildSliceA, partIdx, elemsA, lensA, okAll, stAll, opsA, partsA, partsOk, opA, dstOk, Nat.reduceAdd, Nat.reduceMul, Nat.reduceLT, Nat.reduceLeDiff, Int.reduceNeg, ↓reduceIte, eq_self, wtAll]
  refine callK_pure (lsample_tri [sA] _ (fun i hi => ?_) _) ?_
  · have : i = 0 := by simp at hi; ((try clear hh_i9); omega)
    subst this; rfl
  simp only [vsAll, okAll, stAll, opsA, opA, dstOk, Nat.reduceLT, Int.reduceNeg, ↓reduceIte, eq_self]
  refine callK_pure (wdry_tri (hdS [sA]) 2 _ nA) ?_
  simp only [vsAll, extractA, okAll, stAll, opsA, opA, dstOk, nilSliceOp, Nat.reduceAdd, Nat.reduceLT, Nat.reduceEqDiff, Int.reduceNeg, ↓reduceIte, eq_self, w7, w7e, c1]
  refine callK_pure (la_tri _) ?_
  simp only [vsAll, cellsA, okParts, buildSliceA, partIdx, elemsA, lensA, okAll, stAll, opsA, partsA, partsOk, opA, dstOk, Nat.reduceAdd, Nat.reduceMul, Nat.reduceLT, Nat.reduceLeDiff, Int.reduceNeg, ↓reduceIte, eq_self, wtAll]
  refine callK_pure (lsample_tri [sA] _ (fun i hi => ?_) _) ?_
  · have : i = 0 := by simp at hi; ((try clear hh_i9); omega)
    subst this; rfl
  simp only [vsAll, okAll, stAll, opsA, opA, dstOk, Nat.reduceLT, Int.reduceNeg, ↓reduceIte, eq_self]
  refine callK_pure (wnext_tri (hdS [sA]) 2 _ nA) ?_
  simp only [vsAll, extractA, okAll, stAll, opsA, opA, dstOk, nilSliceOp, Nat.reduceAdd, Nat.reduceLT, Nat.reduceEqDiff, Int.reduceNeg, ↓reduceIte, eq_self, w8, w8e, c1, c2]
  refine callK_pure (la_tri _) ?_
  simp only [vsAll, okAll, stAll, opsA, opA, dstOk, Nat.reduceLT, Int.reduceNeg]
  refine callK_pure (lc_tri _) ?_
  simp only [vsAll, cellsA, okParts, buildSliceA, partIdx, elemsA, lensA, okAll, stAll, opsA, partsA, partsOk, opA, dstOk, Nat.reduceAdd, Nat.reduceMul, Nat.reduceLT, Nat.reduceLeDiff, Nat.reduceEqDiff, Int.reduceNeg, ↓reduceIte, eq_self, wtAll]
  refine callK_pure (lsample_tri [sA, sC] _ (fun i hi => ?_) _) ?_
  · have : i = 0 ∨ i = 1 := by simp at hi; ((try clear hh_i9); omega)
    rcases this with rfl | rfl <;> rfl
  simp only [vsAll, okAll, stAll, opsA, opA, dstOk, Nat.reduceLT, Int.reduceNeg, ↓reduceIte, eq_self]
  refine callK_pure (wclash_tri (hdS [sA, sC]) _ nAC) ?_
  simp only [vsAll, extractA, opA, dstOk, nilSliceOp, Nat.reduceAdd, Nat.reduceLT, Nat.reduceEqDiff, Int.reduceNeg, ↓reduceIte, eq_self, w9, w9e, c3]
  refine vs_draw 42 (by decide +kernel) ?_
  simp only [vsAll, binA, binLitA, intA, pickA, opA, guardV, dstOk, Nat.reduceLT, Nat.reduceEqDiff, Int.reduceNeg, ↓reduceIte, implies_true, eq_self]
  refine qgcall _ (fun hg => ⟨trivial, by simp only [vsAll, okAll, opsA, opA], lspan_tri 0 7 _⟩) ?_
  simp only [vsAll, cellsA, okParts, buildSliceA, partIdx, elemsA, lensA, partsA, partsOk, opA, guardV, dstOk, Nat.reduceAdd, Nat.reduceMul, Nat.reduceLT, Nat.reduceLeDiff, Nat.reduceEqDiff, Int.reduceNeg, ↓reduceIte, eq_self, wtAll]
  refine qgcall (boo (decide ([((0 : Int), (7 : Int))] = [(0, 7)]))) (fun hg => ⟨trivial, by simp only [vsAll, okAll, opsA, opA, Nat.reduceEqDiff, Int.reduceNeg, ↓reduceIte, eq_self], args_le2 (spans_tri [(0, 7)] [(0, 7)] _ (by decide) (by decide)) (.refl _) (.rsl fun i hi => ?_)⟩) ?_
  · have : i = 0 := by ((try clear hh_i9); omega)
    subst this; rfl
  simp only [vsAll, binA, binLitA, intA, unA, loadA, loadRow, partA, partOk, pickA, opA, guardV, dstOk, Nat.reduceLT, Nat.reduceEqDiff, Int.reduceNeg, ↓reduceIte, implies_true, eq_self, wtAll]
  refine qgcall _ (fun hg => ⟨trivial, by simp only [vsAll, okAll, opsA, opA], lspan_tri 0 3 _⟩) ?_
  simp only [vsAll, binA, binLitA, intA, aggA, cellA, cellsA, okParts, buildSliceA, partIdx, elemsA, lensA, pickA, okAll, stAll, opsA, partsA, partsOk, opA, guardV, dstOk, Nat.reduceAdd, Nat.reduceMul, Nat.reduceLT, Nat.reduceLeDiff, Nat.reduceEqDiff, Int.reduceNeg, ↓reduceIte, implies_true, eq_self, wtAll]
  refine callK_pure (v := boo (decide ([(-1 : Int), 0] = [-1, 0]))) (args_le2 (ints_tri [-1, 0] [-1, 0] _ (by decide) (by decide)) (.refl _) (.rsl fun i hi => ?_)) ?_
  · have : i = 0 ∨ i = 1 := by ((try clear hh_i9); omega)
    rcases this with rfl | rfl <;> rfl
  simp only [vsAll, binA, binLitA, intA, pickA, opA, guardV, dstOk, nilSliceOp, Nat.reduceLT, Nat.reduceEqDiff, Int.reduceNeg, ↓reduceIte, implies_true, eq_self]
  refine ret0 ?_
  simp only [vsAll, resA, retA.eq_1, Int.reduceNeg, ↓reduceIte, eq_self, Try.results14]
  exact dropR_pure rfl (by (repeat (first | exact HSub_rfl | refine HSub_put_eq (by simp only [vsAll, binA, binLitA, intA, aggA, boolA, nilA2, isConst, unA, loadA, loadRow, partA, partOk, fieldAddrA, indexAddrA, indexA, fieldA, extractA, lenA, nilCheckA, boxA, cellA, cellsA, fillA, okParts, buildSliceA, partIdx, elemsA, lensA, ifaceA, convA, mmA, pickA, okAll, stAll, opsA, partsA, partsOk, opA, allocA, boxMutA, newCells, okCells, storeObj, appendA, guardV, taA, nM, mapUpA, lookA, sliceA, boundsA, opO, okO, copyA, dstOk, nilA, quietOk, nilSliceOp, panA, resA, argFr, retA.eq_1, retA.eq_2, Nat.reduceAdd, Nat.reduceSub, Nat.reduceMul, Nat.reduceLT, Nat.reduceLeDiff, Nat.reduceEqDiff, Nat.reduceBEq, Int.reduceAdd, Int.reduceSub, Int.reduceMul, Int.reduceNeg, Int.reduceLE, Int.reduceLT, Int.reduceEq, Int.reduceNe, Int.reduceToNat, ↓reduceIte, reduceCtorEq, implies_true, forall_const, eq_self, ne_eq, wtAll, Try.ntmps14, Try.results14, hh_i9]) ?_ | refine HSub_drop2 (by simp only [eq_self, hh_i9]) ?_ | refine HSub_keep_eq (by simp only [vsAll, binA, binLitA, intA, aggA, boolA, nilA2, isConst, unA, loadA, loadRow, partA, partOk, fieldAddrA, indexAddrA, indexA, fieldA, extractA, lenA, nilCheckA, boxA, cellA, cellsA, fillA, okParts, buildSliceA, partIdx, elemsA, lensA, ifaceA, convA, mmA, pickA, okAll, stAll, opsA, partsA, partsOk, opA, allocA, boxMutA, newCells, okCells, storeObj, appendA, guardV, taA, nM, mapUpA, lookA, sliceA, boundsA, opO, okO, copyA, dstOk, nilA, quietOk, nilSliceOp, panA, resA, argFr, retA.eq_1, retA.eq_2, Nat.reduceAdd, Nat.reduceSub, Nat.reduceMul, Nat.reduceLT, Nat.reduceLeDiff, Nat.reduceEqDiff, Nat.reduceBEq, Int.reduceAdd, Int.reduceSub, Int.reduceMul, Int.reduceNeg, Int.reduceLE, Int.reduceLT, Int.reduceEq, Int.reduceNe, Int.reduceToNat, ↓reduceIte, reduceCtorEq, implies_true, forall_const, eq_self, ne_eq, wtAll, Try.ntmps14, Try.results14, hh_i9]) ?_)))

end Go.Proofs.Ytdeollnepclhaaa
end
section
set_option linter.unusedVariables false
set_option linter.unusedSimpArgs false
namespace Go.V
theorem mapM_move {α β : Type} {f g : α → Option β} {Q : β → Prop} : ∀ (l : List α) (ys : List β), (∀ x ∈ l, ∀ y, f x = some y → Q y → g x = some y) → l.mapM f = some ys → (∀ y ∈ ys, Q y) → l.mapM g = some ys
  | [], ys, _, h, _ => by simpa using h
  | x :: l, ys, hfg, h, hq => by
    rw [List.mapM_cons] at h ⊢
    simp only [Option.bind_eq_bind, Option.bind_eq_some_iff, Option.pure_def, Option.some.injEq] at h ⊢
    obtain ⟨y, hy, zs, hz, rfl⟩ := h
    exact ⟨y, hfg x (by simp) y hy (hq y (by simp)), zs, mapM_move l zs (fun a ha => hfg a (by simp [ha])) hz (fun a ha => hq a (by simp [ha])), rfl⟩

theorem mapM_get {α β : Type} {f : α → Option β} : ∀ (l : List α) (ys : List β), l.mapM f = some ys → ys.length = l.length ∧ ∀ (i : Nat) (x : α), l[i]? = some x → ∃ y, ys[i]? = some y ∧ f x = some y
  | [], ys, h => by
    simp at h; subst h; simp
  | x :: l, ys, h => by
    rw [List.mapM_cons] at h
    simp only [Option.bind_eq_bind, Option.bind_eq_some_iff, Option.pure_def, Option.some.injEq] at h
    obtain ⟨y, hy, zs, hz, rfl⟩ := h
    obtain ⟨h1, h2⟩ := mapM_get l zs hz
    refine ⟨by simp [h1], fun i a ha => ?_⟩
    cases i with
    | zero => simp at ha; subst ha; exact ⟨y, by simp, hy⟩
    | succ i => simpa using h2 i a (by simpa using ha)

/-- Types of numbers, truths, structs and slices of such. -/
def goodT (P : Program) : Nat → TypeId → Bool
  | 0, _ => false
  | d + 1, t => match P.underlying t with
    | some .bool => true
    | some (.int _) => true
    | some (.struct fs) => fs.toList.all fun f => goodT P d f.type
    | some (.slice e) => decide (0 < P.cellsOf e) && goodT P d e
    | _ => false

theorem cell_move {W W' : World} (hh : ∀ b, b < W.heap.size → W'.heap[b]? = W.heap[b]?) {a : Addr} {v : Value} (h : W.cell? a = some v) : W'.cell? a = some v := by
  unfold World.cell? at h ⊢
  split at h
  · rename_i c e fz hb
    rw [hh _ (Array.getElem?_eq_some_iff.1 hb).1, hb]
    exact h
  · cases h

theorem cells_move {W W' : World} (hh : ∀ b, b < W.heap.size → W'.heap[b]? = W.heap[b]?) {base : Nat} {a : Addr} {n : Nat} {vs : List Value} (h : W.cells? base a n = some vs) : W'.cells? base a n = some vs := by
  unfold World.cells? at h ⊢
  split at h
  · rename_i hb
    rw [if_pos hb]
    exact mapM_move (Q := fun _ => True) _ _ (fun i _ y hy _ => cell_move hh hy) h (fun _ _ => trivial)
  · cases h

theorem trod_move {H : Type} {enc : TypeId × Value → H} {P : Program} {W W' : World} {held : Bool} (hh : ∀ b, b < W.heap.size → W'.heap[b]? = W.heap[b]?) {sp : Nat → Bool} :
    ∀ (d fuel : Nat) (t : TypeId) (cs : List Value) (x : DataW H × List MemPlace), goodT P d t = true → DataW.trod enc P W 0 (fun _ => true) held fuel t cs = some x → (∀ p ∈ x.2, sp p.block = true) →
      DataW.trod enc P W' 0 sp held fuel t cs = some x := by
  intro d
  induction d with
  | zero => intro fuel t cs x hg; cases hg
  | succ d ih =>
    intro fuel t cs x hg h hs
    cases fuel with
    | zero => cases h
    | succ fuel =>
      unfold goodT at hg
      unfold DataW.trod at h ⊢
      cases hu : P.underlying t with
      | none => rw [hu] at hg; cases hg
      | some td =>
        rw [hu] at hg h
        cases td <;> simp only at hg <;> try (exact absurd hg Bool.false_ne_true)
        case bool =>
          split at h <;> simp_all
        case int k =>
          split at h <;> simp_all
        case struct fs =>
          split at h <;> try (simp_all; done)
          case _ fs' heq =>
            simp only [Option.some.injEq, TypeDesc.struct.injEq] at heq
            subst heq
            split at h
            case isTrue hl =>
              rw [if_pos hl]
              rw [Option.map_eq_some_iff] at h ⊢
              obtain ⟨ys, hy, rfl⟩ := h
              refine ⟨ys, ?_, rfl⟩
              refine mapM_move (Q := fun y => ∀ p ∈ y.2, sp p.block = true) _ _ (fun f hf y hy hq => ?_) hy (fun y hy p hp => hs p (List.mem_flatMap.2 ⟨y, hy, hp⟩))
              exact ih fuel f.type _ y (List.all_eq_true.1 hg f hf) hy hq
            case isFalse hl => cases h
        case slice e =>
          simp only [Bool.and_eq_true, decide_eq_true_eq] at hg
          obtain ⟨hpos, hg⟩ := hg
          split at h <;> try (simp_all; done)
          case _ e' a len cap heq =>
            simp only [Option.some.injEq, TypeDesc.slice.injEq] at heq
            subst heq
            have hel : ∀ i y, (W.cells? 0 (a.add (i * P.cellsOf e)) (P.cellsOf e)).bind (DataW.trod enc P W 0 (fun _ => true) held fuel e) = some y → (∀ p ∈ y.2, sp p.block = true) →
                (W'.cells? 0 (a.add (i * P.cellsOf e)) (P.cellsOf e)).bind (DataW.trod enc P W' 0 sp held fuel e) = some y := by
              intro i y hy hq
              rw [Option.bind_eq_some_iff] at hy ⊢
              obtain ⟨c, h1, h2⟩ := hy
              exact ⟨c, cells_move hh h1, ih fuel e c y hg h2 hq⟩
            simp only at h ⊢
            split at h
            case isFalse hl => cases h
            case isTrue hl =>
              rw [if_pos hl]
              rw [Option.bind_eq_some_iff] at h ⊢
              obtain ⟨es, he, h⟩ := h
              rw [if_pos trivial, Option.map_eq_some_iff] at h
              obtain ⟨rs, hr, rfl⟩ := h
              have hs2 : ∀ y ∈ es ++ rs, ∀ p ∈ y.2, sp p.block = true := fun y hy p hp => hs p (List.mem_append.2 (.inr (List.mem_flatMap.2 ⟨y, hy, hp⟩)))
              refine ⟨es, mapM_move (Q := fun y => ∀ p ∈ y.2, sp p.block = true) _ _ (fun i _ y hy hq => hel i y hy hq) he (fun y hy => hs2 y (by simp [hy])), ?_⟩
              rw [Option.map_eq_some_iff]
              refine ⟨rs, ?_, rfl⟩
              have hrl := (mapM_get _ _ hr).1
              by_cases hz : es.length + rs.length = 0
              · have : rs = [] := List.eq_nil_of_length_eq_zero (by omega)
                subst this
                have hc : cap - len = 0 := by simpa using hrl.symm
                split
                · rw [hc]; rfl
                · rfl
              · have hsp : sp a.block = true := by
                  refine hs (.cell a.block (a.off + 0)) (List.mem_append.2 (.inl ?_))
                  unfold MemPlace.row
                  refine List.mem_map.2 ⟨0, List.mem_range.2 ?_, rfl⟩
                  exact Nat.mul_pos (by omega) hpos
                rw [if_pos hsp]
                exact mapM_move (Q := fun y => ∀ p ∈ y.2, sp p.block = true) _ _ (fun j _ y hy hq => hel _ y hy hq) hr (fun y hy => hs2 y (by simp [hy]))

theorem trodAll_move {H : Type} {enc : TypeId × Value → H} {P : Program} {W W' : World} {held : Bool} (hh : ∀ b, b < W.heap.size → W'.heap[b]? = W.heap[b]?) {sp : Nat → Bool} (d : Nat) :
    ∀ (ts : List TypeId) (vs : List Value) (ds : List (DataW H)) (ps : List MemPlace), (∀ t ∈ ts, goodT P d t = true) → DataW.TrodAll enc P W 0 (fun _ => true) held ts vs ds ps → (∀ p ∈ ps, sp p.block = true) →
      DataW.TrodAll enc P W' 0 sp held ts vs ds ps
  | [], [], [], ps, _, h, _ => h
  | t :: ts, v :: vs, x :: ds, ps, hg, h, hs => by
    obtain ⟨p, q, ⟨fuel, h1⟩, h2, rfl⟩ := h
    exact ⟨p, q, ⟨fuel, trod_move hh d fuel t _ (x, p) (hg t (by simp)) h1 (fun z hz => hs z (by simp [hz]))⟩, trodAll_move hh d ts vs ds q (fun u hu => hg u (by simp [hu])) h2 (fun z hz => hs z (by simp [hz])), rfl⟩
  | [], _ :: _, _, _, _, h, _ => h.elim
  | [], [], _ :: _, _, _, h, _ => h.elim
  | _ :: _, [], _, _, _, h, _ => h.elim
  | _ :: _, _ :: _, [], _, _, h, _ => h.elim

/-- The state in which a call begins: all memory that is there is never written. -/
def st0 (W : World) : St := { w := W, imm := fun b => b < W.heap.size, loc := fun _ _ => .unk, next := 0 }
def H0 : Hp := fun _ => none
theorem st0_rel (W : World) : HRel (st0 W) H0 := ⟨fun i _ => ⟨rfl, fun _ => rfl⟩, fun b h => h, fun i o h => (by cases h), fun i j o o' b h => (by cases h)⟩

inductive LitK where
  | int (k : IntKind)
  | bool
  deriving DecidableEq

def LitK.ok : LitK → Value → Prop
  | .int k, v => ∃ n, v = .int k n ∧ (Lit.int k n).wf = true
  | .bool, v => ∃ b, v = .bool b

/-- A type whose values are so many numbers and truths. -/
def litsT (P : Program) : Nat → TypeId → Option (List LitK)
  | 0, _ => none
  | d + 1, t => match P.underlying t with
    | some .bool => some [.bool]
    | some (.int k) => some [.int k]
    | some (.struct fs) => match fs.toList.foldl (fun acc f => match acc with
        | some ks => match litsT P d f.type with
          | some l => if f.offset = ks.length ∧ P.cellsOf f.type = l.length then some (ks ++ l) else none
          | none => none
        | none => none) (some []) with
      | some ks => if P.cellsOf t = ks.length then some ks else none
      | none => none
    | _ => none

def LitsOk (ks : List LitK) (cs : List Value) : Prop := cs.length = ks.length ∧ ∀ (i : Nat) (k : LitK) (v : Value), ks[i]? = some k → cs[i]? = some v → k.ok v

theorem LitsOk.append {ks ls : List LitK} {cs ds : List Value} (h : LitsOk ks cs) (h' : LitsOk ls ds) : LitsOk (ks ++ ls) (cs ++ ds) := by
  refine ⟨by simp [h.1, h'.1], fun i k v hk hv => ?_⟩
  by_cases hi : i < ks.length
  · rw [List.getElem?_append_left hi] at hk
    rw [List.getElem?_append_left (by rw [h.1]; exact hi)] at hv
    exact h.2 i k v hk hv
  · rw [List.getElem?_append_right (by omega)] at hk
    rw [List.getElem?_append_right (by rw [h.1]; omega), h.1] at hv
    exact h'.2 _ k v hk hv

theorem trod_lits {H : Type} {enc : TypeId × Value → H} {P : Program} {W : World} {held : Bool} {sp : Nat → Bool} :
    ∀ (d fuel : Nat) (t : TypeId) (cs : List Value) (x : DataW H × List MemPlace) (ks : List LitK), litsT P d t = some ks → DataW.trod enc P W 0 sp held fuel t cs = some x → LitsOk ks cs := by
  intro d
  induction d with
  | zero => intro fuel t cs x ks hg; cases hg
  | succ d ih =>
    intro fuel t cs x ks hg h
    cases fuel with
    | zero => cases h
    | succ fuel =>
      unfold litsT at hg
      unfold DataW.trod at h
      cases hu : P.underlying t with
      | none => rw [hu] at hg; cases hg
      | some td =>
        rw [hu] at hg h
        cases td <;> simp only at hg <;> try (cases hg; done)
        case bool =>
          cases hg
          split at h <;> simp_all
          rename_i b
          exact ⟨rfl, fun i k v hk hv => by cases i <;> simp at hk hv; subst hk hv; exact ⟨_, rfl⟩⟩
        case int k =>
          cases hg
          split at h <;> simp_all
          rename_i n hh
          exact ⟨rfl, fun i k v hk hv => by cases i <;> simp at hk hv; subst hk hv; exact ⟨_, rfl, h.1.2⟩⟩
        case struct fs =>
          split at h <;> try (simp_all; done)
          case _ fs' heq =>
            simp only [Option.some.injEq, TypeDesc.struct.injEq] at heq
            subst heq
            split at h
            case isFalse hl => cases h
            case isTrue hl =>
              rw [Option.map_eq_some_iff] at h
              obtain ⟨ys, hy, rfl⟩ := h
              have key : ∀ (c : List Value) (l : List Field) (acc ks : List LitK), (∀ f ∈ l, ∃ y, DataW.trod enc P W 0 sp held fuel f.type ((c.drop f.offset).take (P.cellsOf f.type)) = some y) → LitsOk acc (c.take acc.length) →
                  l.foldl (fun acc f => match acc with
                    | some ks => match litsT P d f.type with
                      | some l => if f.offset = ks.length ∧ P.cellsOf f.type = l.length then some (ks ++ l) else none
                      | none => none
                    | none => none) (some acc) = some ks → LitsOk ks (c.take ks.length) := by
                intro c l
                induction l with
                | nil => intro acc ks _ ha he; simp at he; subst he; exact ha
                | cons f l ih2 =>
                  intro acc ks hf ha he
                  simp only [List.foldl_cons] at he
                  have hnone : ∀ l : List Field, l.foldl (fun acc f => match acc with
                    | some ks => match litsT P d f.type with
                      | some l => if f.offset = ks.length ∧ P.cellsOf f.type = l.length then some (ks ++ l) else none
                      | none => none
                    | none => none) none = (none : Option (List LitK)) := by
                    intro l; induction l with
                    | nil => rfl
                    | cons a l ih => simpa using ih
                  cases hl2 : litsT P d f.type with
                  | none => rw [hl2] at he; simp only at he; rw [hnone] at he; cases he
                  | some lk =>
                    rw [hl2] at he
                    simp only at he
                    by_cases hc : f.offset = acc.length ∧ P.cellsOf f.type = lk.length
                    · rw [if_pos hc] at he
                      obtain ⟨y, hy⟩ := hf f (by simp)
                      have := ih fuel f.type _ y lk hl2 hy
                      rw [hc.1, hc.2] at this
                      have hap := ha.append this
                      refine ih2 (acc ++ lk) ks (fun g hg => hf g (by simp [hg])) ?_ he
                      rw [List.length_append, List.take_add]
                      exact hap
                    · rw [if_neg hc, hnone] at he; cases he
              split at hg
              case h_2 => cases hg
              case h_1 ks' he =>
                split at hg
                case isFalse => cases hg
                case isTrue hc =>
                  cases hg
                  have := key _ fs.toList [] ks (fun f hf => by
                    obtain ⟨i, hi⟩ := List.getElem?_of_mem hf
                    obtain ⟨y, _, h2⟩ := (mapM_get _ _ hy).2 i f hi
                    exact ⟨y, h2⟩) ⟨by simp, fun i k v hk => by simp at hk⟩ he
                  rw [List.take_of_length_le (by rw [hl, hc]; exact Nat.le_refl _)] at this
                  exact this

end Go.V
end
section
set_option linter.unusedVariables false
set_option linter.unusedSimpArgs false
namespace Go.V
theorem trod_slice_rel {H : Type} {enc : TypeId × Value → H} {P : Program} {W : World} {held : Bool} {sp : Nat → Bool} {d fuel : Nat} {t e : TypeId} {v : Value} {x : DataW H × List MemPlace} {ks : List LitK}
    (ht : P.underlying t = some (.slice e)) (hk : litsT P d e = some ks) (hsz : P.cellsOf e = ks.length) (hpos : 0 < ks.length) (h : DataW.trod enc P W 0 sp held fuel t [v] = some x) :
    ∃ (n : Nat) (g : Nat → List Value), n ≤ maxLen ∧ (∀ i, i < n → LitsOk ks (g i)) ∧ VRel (st0 W) (.rsl n ks.length (fun i => (g i).map AV.lit)) v := by
  cases fuel with
  | zero => cases h
  | succ fuel =>
    unfold DataW.trod at h
    rw [ht] at h
    split at h <;> try (simp_all; done)
    · rename_i heq heq2
      simp only [List.cons.injEq, and_true] at heq2
      subst heq2
      exact ⟨0, fun _ => [], Nat.zero_le _, fun i hi => by omega, .rsl0⟩
    · rename_i e' a len cap heq heq2
      simp only [Option.some.injEq, TypeDesc.slice.injEq] at heq
      simp only [List.cons.injEq, and_true] at heq2
      subst heq heq2
      simp only at h
      split at h
      case isFalse hl => cases h
      case isTrue hl =>
        rw [Option.bind_eq_some_iff] at h
        obtain ⟨es, he, -⟩ := h
        let g : Nat → List Value := fun i => match W.cells? 0 (a.add (i * P.cellsOf e)) (P.cellsOf e) with
          | some c => c
          | none => []
        have hel : ∀ i, i < len → W.cells? 0 (a.add (i * P.cellsOf e)) (P.cellsOf e) = some (g i) ∧ LitsOk ks (g i) := by
          intro i hi
          obtain ⟨y, _, hy⟩ := (mapM_get _ _ he).2 i i (by simp [hi])
          rw [Option.bind_eq_some_iff] at hy
          obtain ⟨c, h1, h2⟩ := hy
          have : g i = c := by simp only [g, h1]
          rw [this]
          exact ⟨h1, trod_lits d fuel _ c y ks hk h2⟩
        refine ⟨len, g, Nat.le_trans hl.2.1 hl.2.2, fun i hi => (hel i hi).2, ?_⟩
        by_cases h0 : len = 0
        · subst h0; exact .rsl0
        have hcell : ∀ i j, i < len → j < ks.length → ∃ u, (g i)[j]? = some u ∧ W.cell? ((a.add (i * P.cellsOf e)).add j) = some u := by
          intro i j hi hj
          have h1 := (hel i hi).1
          unfold World.cells? at h1
          rw [if_pos (Nat.zero_le _)] at h1
          exact (mapM_get _ _ h1).2 j j (by simp [hsz, hj])
        obtain ⟨b, off, spot⟩ := a
        obtain ⟨u0, _, hc0⟩ := hcell 0 0 (by omega) hpos
        rw [show ((⟨b, off, spot⟩ : Addr).add (0 * P.cellsOf e)).add 0 = ⟨b, off, spot⟩ from by simp [Addr.add]] at hc0
        unfold World.cell? at hc0
        split at hc0
        case h_2 => cases hc0
        case h_1 c ct fz hb =>
          have hspot : spot = none := by
            cases spot with
            | none => rfl
            | some s => simp at hc0
          subst hspot
          have hadd : ∀ i j, (((⟨b, off, none⟩ : Addr).add (i * P.cellsOf e)).add j) = ⟨b, off + i * P.cellsOf e + j, none⟩ := fun i j => by rw [addr_add, addr_add]
          have hall : ∀ i j, i < len → j < ks.length → ∃ u, (g i)[j]? = some u ∧ c[off + i * ks.length + j]? = some u := by
            intro i j hi hj
            obtain ⟨u, h1, h2⟩ := hcell i j hi hj
            rw [hadd] at h2
            unfold World.cell? at h2
            simp only at hb
            rw [show W.heap[(⟨b, off + i * P.cellsOf e + j, none⟩ : Addr).block]? = some (.cells c ct fz) from hb] at h2
            simp only [Option.isSome_none, Bool.false_eq_true, if_false, hsz] at h2
            exact ⟨u, h1, h2⟩
          refine .rsl (c := c) (e := ct) (fz := fz) ?_ hb ?_ (fun i hi => by simpa using (hel i hi).2.1) fun i j hi hj => ?_
          · exact (Array.getElem?_eq_some_iff.1 hb).1
          · obtain ⟨u, _, h2⟩ := hall (len - 1) (ks.length - 1) (by omega) (by omega)
            have := (Array.getElem?_eq_some_iff.1 h2).1
            have e1 : len * ks.length = (len - 1) * ks.length + ks.length := by
              obtain ⟨q, rfl⟩ : ∃ q, len = q + 1 := ⟨len - 1, by omega⟩
              rw [Nat.add_sub_cancel, Nat.succ_mul]
            omega
          · obtain ⟨u, h1, h2⟩ := hall i j hi hj
            rw [List.getD_eq_getElem?_getD, List.getElem?_map, h1, Array.getD_eq_getD_getElem?, h2]
            exact .lit _

end Go.V
end
section
set_option linter.unusedVariables false
set_option linter.unusedSimpArgs false
namespace Go.V
open Go.ChangeShapes Go.WideShapes
theorem law_post {H : Type} {enc : TypeId × Value → H} {P : Program} {f : Func} {s : ChangeSpec} {apart fresh handsOn again : Bool} {W W' : World} {args : Array Value} {ds gs : List (DataW H)} {before : List MemPlace} {tb : TypeId} {d : Nat}
    (hv0 : s.vars = []) (hrt : f.resultTypes = #[tb]) (hb : P.underlying tb = some .bool) (hgood : ∀ t ∈ f.params.toList, goodT P d t = true)
    (hW : DataW.Whole enc P f.params.toList s.vars apart W args.toList ds gs before)
    (hfn : s.fn H (ds ++ gs) = { results := [.lit (.bool true)], args := ds })
    (hh : ∀ b, b < W.heap.size → W'.heap[b]? = W.heap[b]?) (hos : W'.os = W.os) (hout : W'.output = W.output) : s.post enc P f apart fresh handsOn again W args (.bool true) W' := by
  have hW' := hW
  obtain ⟨p, q, hA, hV, rfl, hz, hn⟩ := hW
  rw [hv0] at hV
  have hgq : gs = [] ∧ q = [] := by
    cases gs with
    | nil => exact ⟨rfl, hV⟩
    | cons _ _ => exact hV.elim
  obtain ⟨rfl, rfl⟩ := hgq
  have hlt : ∀ z ∈ p ++ [], z.block < W.heap.size := fun z hz => hW'.lt z hz
  have hold : ∀ z ∈ p, (fun b => decide (b < W.heap.size)) z.block = true := fun z hz => by simpa using hlt z (by simpa using hz)
  have hres : ∀ (b : Nat) (sp : Nat → Bool) (hd : Bool), DataW.TrodAll enc P W' b sp hd f.resultTypes.toList ((Value.bool true).resultList f.resultTypes.size) (s.fn H (ds ++ [])).results [] := by
    intro b sp hd
    rw [hfn, hrt]
    exact ⟨[], [], ⟨1, by simp [DataW.trod, hb, Value.cells]⟩, rfl, rfl⟩
  have hargs : ∀ sp : Nat → Bool, (∀ z ∈ p, sp z.block = true) → DataW.TrodAll enc P W' 0 sp true f.params.toList args.toList (s.fn H (ds ++ [])).args p := by
    intro sp hs
    rw [hfn]
    exact trodAll_move hh d _ _ _ _ hgood hA hs
  refine ⟨ds, [], p ++ [], [], p, [], hW', hres _ _ _, hargs _ hold, ?_, ⟨hos, hout, fun i hi => ?_⟩, fun _ => ?_⟩
  · rw [hv0, hfn]; exact rfl
  · rw [hh i hi]
    cases W.heap[i]? with
    | none => rfl
    | some o => cases o <;> first | exact ⟨rfl, rfl, rfl, fun _ _ => rfl⟩ | exact .inr ⟨rfl, rfl⟩ | rfl
  · refine ⟨fun j t r h1 h2 => ?_, _, [], ([] ++ p) ++ [], ⟨[] ++ p, [], trodAll_append (hargs _ (fun _ _ => rfl)) (hres _ _ _), ?_, rfl, ?_, ?_⟩, ?_⟩
    · rw [hrt] at h1 h2
      have hj : j = 0 := by
        have := (Array.getElem?_eq_some_iff.1 h1).1
        simp at this; omega
      subst hj
      simp [Value.resultList] at h1 h2
      subst h1 h2
      simp [Value.okWide, hb, Cell.okWide, Cell.ok]
    · rw [hv0]; exact rfl
    · intro b off hm
      have hm' : MemPlace.cell b off ∈ p ++ [] := by simpa using hm
      have := hz b off hm'
      have hb' : b < W.heap.size := hlt _ hm'
      unfold World.frozen? at this ⊢
      simp only [hh b hb']
      exact this
    · intro ha
      have := hn ha
      simpa using this
    · intro z hz _
      simpa using hz

end Go.V
end
section
set_option linter.unusedVariables false
set_option linter.unusedSimpArgs false
namespace Go.V
theorem law_calls {P : Program} {f : FuncId} {fn : Func} {c : Code} {W : World} {args : Array Value} {avs : List AV} (hf : P.funcs[f]? = some fn) (hname : (fn.name == "runtime.NumGoroutine") = false) (hb : fn.body = some c)
    (hT : Tri P (.func (.func f) [] []) avs H0 fun r _ => r = .ret (.lit (.bool true))) (ha : VRels (st0 W) avs args.toList) :
    Calls P f args W fun e W' => e = .returned (.bool true) ∧ (∀ b, b < W.heap.size → W'.heap[b]? = W.heap[b]?) ∧ W'.os = W.os ∧ W'.output = W.output := by
  obtain ⟨nx, h1, h2⟩ := hT (st0 W) (.func (.func f) #[] #[]) args.toList (st0_rel W) (.func rfl rfl (fun k hk => absurd hk (by simp)) (fun k hk => absurd hk (by simp))) ha
  have hcf : (callFunc f args).run P W = .ok (.enter f args) W := by
    simp only [callFunc, Sem.run_bind, run_program, Result.andThen_ok, hf, hname, hb]
    simp
  simp only [Deferred.ofValue, Sem.run_bind, Sem.run_pure, Result.andThen_ok, invoke] at h1
  have e : (#[] : Array Value) ++ args.toList.toArray ++ #[] = args := by simp
  rw [e] at h1
  have h1' : (callFunc f args).run P W = .ok nx W := h1
  rw [hcf] at h1'
  injection h1' with h1' _
  subst h1'
  refine Calls.mono h2 ?_
  rintro e w ⟨S', r, H', rfl, hle, hH', hrr, hr⟩
  subst hr
  refine ⟨?_, fun b hb => hle.keep b hb, hle.os, hle.output⟩
  cases e with
  | returned v => rw [VRel.lit_inv hrr]
  | panicked ch => exact hrr.elim
  | outgrown => exact hrr.elim

end Go.V
end
section
set_option linter.unusedVariables false
set_option linter.unusedSimpArgs false
namespace Go.V
open Go.ChangeShapes
def st2 (P : Program) (t a oa b ob : Nat) : Bool := match P.underlying t with
  | some (.struct fs) => (match fs.toList with
    | [f0, f1] => f0.type == a && f0.offset == oa && f1.type == b && f1.offset == ob
    | _ => false)
  | _ => false
end Go.V
end
section
set_option linter.unusedVariables false
set_option linter.unusedSimpArgs false
set_option maxRecDepth 100000
namespace Go.Proofs.Ytdeollnepclhaaa
open Go.V Go.ChangeShapes Go.WideShapes Go.ChangeAt Go.RowKit
def iz : Value → Int
  | .int _ z => z
  | _ => 0

theorem Try.own : ownKnob Try.prog.godebug = none := by kernel_rfl
theorem u4 : Try.prog.underlying 4 = some .bool := by kernel_rfl

end Go.Proofs.Ytdeollnepclhaaa
end
section
set_option linter.unusedVariables false
set_option linter.unusedSimpArgs false
set_option maxHeartbeats 4000000
set_option maxRecDepth 100000
namespace Go.Proofs.Ytdeollnepclhaaa
open Go.V
def uzsN (h : Hd) (s t : Int) (n : Nat) : List Int := (List.range n).map fun p : Nat => uz h s t p
theorem uzsN_succ (h : Hd) (s t : Int) (n : Nat) : uzsN h s t (n + 1) = uzsN h s t n ++ [uz h s t n] := by simp [uzsN, List.range_succ]
theorem uzsN_len (h : Hd) (s t : Int) (n : Nat) : (uzsN h s t n).length = n := by simp [uzsN]

end Go.Proofs.Ytdeollnepclhaaa
end
section
set_option linter.unusedVariables false
set_option linter.unusedSimpArgs false
set_option maxHeartbeats 4000000
set_option maxRecDepth 100000
namespace Go.Proofs.Ytdeollnepclhaaa
open Go.V
/-- Is a number in one of some spans? -/
def inS (l : List (Int × Int)) (n : Int) : Bool := l.any fun p => decide (p.1 ≤ n) && decide (n ≤ p.2)
theorem inS_take (l : List (Int × Int)) (n : Int) (i : Nat) (hi : i < l.length) : inS (l.take (i + 1)) n = (inS (l.take i) n || (decide ((l.getD i (0, 0)).1 ≤ n) && decide (n ≤ (l.getD i (0, 0)).2))) := by
  rw [take_snoc l i (0, 0) hi]
  simp [inS]
theorem inS_of (l : List (Int × Int)) (n : Int) (i : Nat) (hi : i < l.length) (h : (decide ((l.getD i (0, 0)).1 ≤ n) && decide (n ≤ (l.getD i (0, 0)).2)) = true) : inS l n = true := by
  simp only [inS, List.any_eq_true]
  exact ⟨_, mem_getD l i (0, 0) hi, h⟩

theorem lwithin_tri (l : List (Int × Int)) (n : Int) (H : Hp) (hl : l.length < 2 ^ 60) : PTri Try.prog (fnA 39) [spansAV l, i64 n] H (boo (inS l n)) := by
  refine tri_vs (m := fun _ => false) Try.func39 (by kernel_rfl) rfl (by simp only [List.length_append, List.length_cons, List.length_nil, Try.ntmps39]; decide) ?_
  simp only [vsAll, lenA, opA, dstOk, nilSliceOp, argFr, Nat.reduceLT, ↓reduceIte, reduceCtorEq, eq_self, wtAll, Try.ntmps39]
  refine vs_loop (σ := Nat) (fun i => i ≤ l.length ∧ inS (l.take i) n = false) (fun i => [(1, i64 n), (7, spansAV l), (8, i64 l.length), (9, i64 i)]) (fun _ => H) (fun i => l.length - i) 0 ⟨Nat.zero_le _, rfl⟩ ?_ ?_ fun i hi => ?_
  · simp only [vsAll, argFr, Nat.reduceEqDiff, ↓reduceIte, eq_self, Int.natCast_zero]
  · simp only [HSub_refl]
  · obtain ⟨hi, hno⟩ := hi
    simp only [vsAll, binA, binLitA, intA, opA, dstOk, Nat.reduceLT, Nat.reduceEqDiff, ↓reduceIte, eq_self]
    refine condD (fun hd => ?_) (fun hd => ?_)
    · have ht := inS_take l n i (by omega)
      simp only [vsAll, binA, binLitA, intA, loadA, loadRow, partA, partOk, fieldAddrA, indexAddrA, cellA, cellsA, pickA, opA, allocA, newCells, okCells, storeObj, guardV, dstOk, Nat.reduceAdd, Nat.reduceLT, Nat.reduceEqDiff, ↓reduceIte, implies_true, eq_self, wtAll, spanF_at]
      refine ⟨by omega, by omega, ?_⟩
      intro id hid
      refine condV (fun hc => ?_) (fun hc => ?_)
      · have e2 := inS_of l n i (by omega) hc
        simp only [vsAll, opA, dstOk, nilSliceOp, Nat.reduceLT, eq_self]
        refine ret0 ?_
        simp only [vsAll, resA, retA.eq_1, ↓reduceIte, eq_self, Try.results39, e2]
        exact dropR_pure rfl (by rw [Hp.set_set]; exact HSub_drop hid)
      · rw [hno, hc] at ht
        simp only [vsAll, binA, binLitA, intA, opA, dstOk, Nat.reduceLT, Nat.reduceEqDiff, ↓reduceIte, eq_self]
        refine ⟨by simp only [InR_i64]; omega, loop_next (i + 1) ⟨by omega, ht⟩ (by omega) ?_ ?_⟩
        · simp only [vsAll, Nat.reduceEqDiff, ↓reduceIte, eq_self, Int.natCast_add, Int.natCast_one]
        · rw [Hp.set_set]; exact HSub_drop hid
    · have e : i = l.length := by omega
      have e2 : inS l n = false := by rw [← hno, e, List.take_length]
      simp only [vsAll, opA, dstOk, nilSliceOp, Nat.reduceLT, ↓reduceIte, eq_self, e2]
      refine ret0 ?_
      simp only [vsAll, resA, retA.eq_1, ↓reduceIte, eq_self, Try.results39]
      exact dropR_pure rfl (by (repeat (first | exact HSub_rfl | refine HSub_put_eq (by simp only [vsAll, binA, binLitA, intA, aggA, boolA, nilA2, isConst, unA, loadA, loadRow, partA, partOk, fieldAddrA, indexAddrA, indexA, fieldA, extractA, lenA, nilCheckA, boxA, cellA, cellsA, fillA, okParts, buildSliceA, partIdx, elemsA, lensA, ifaceA, convA, mmA, pickA, okAll, stAll, opsA, partsA, partsOk, opA, allocA, boxMutA, newCells, okCells, storeObj, appendA, guardV, taA, nM, mapUpA, lookA, sliceA, boundsA, opO, okO, copyA, dstOk, nilA, quietOk, nilSliceOp, panA, resA, argFr, retA.eq_1, retA.eq_2, Nat.reduceAdd, Nat.reduceSub, Nat.reduceMul, Nat.reduceLT, Nat.reduceLeDiff, Nat.reduceEqDiff, Nat.reduceBEq, Int.reduceAdd, Int.reduceSub, Int.reduceMul, Int.reduceNeg, Int.reduceLE, Int.reduceLT, Int.reduceEq, Int.reduceNe, Int.reduceToNat, ↓reduceIte, reduceCtorEq, implies_true, forall_const, eq_self, ne_eq, wtAll, Try.ntmps39, Try.results39]) ?_ | refine HSub_drop2 (by simp only [vsAll, binA, binLitA, intA, aggA, boolA, nilA2, isConst, unA, loadA, loadRow, partA, partOk, fieldAddrA, indexAddrA, indexA, fieldA, extractA, lenA, nilCheckA, boxA, cellA, cellsA, fillA, okParts, buildSliceA, partIdx, elemsA, lensA, ifaceA, convA, mmA, pickA, okAll, stAll, opsA, partsA, partsOk, opA, allocA, boxMutA, newCells, okCells, storeObj, appendA, guardV, taA, nM, mapUpA, lookA, sliceA, boundsA, opO, okO, copyA, dstOk, nilA, quietOk, nilSliceOp, panA, resA, argFr, retA.eq_1, retA.eq_2, Nat.reduceAdd, Nat.reduceSub, Nat.reduceMul, Nat.reduceLT, Nat.reduceLeDiff, Nat.reduceEqDiff, Nat.reduceBEq, Int.reduceAdd, Int.reduceSub, Int.reduceMul, Int.reduceNeg, Int.reduceLE, Int.reduceLT, Int.reduceEq, Int.reduceNe, Int.reduceToNat, ↓reduceIte, reduceCtorEq, implies_true, forall_const, eq_self, ne_eq, wtAll, Try.ntmps39, Try.results39]) ?_ | refine HSub_keep_eq (by simp only [vsAll, binA, binLitA, intA, aggA, boolA, nilA2, isConst, unA, loadA, loadRow, partA, partOk, fieldAddrA, indexAddrA, indexA, fieldA, extractA, lenA, nilCheckA, boxA, cellA, cellsA, fillA, okParts, buildSliceA, partIdx, elemsA, lensA, ifaceA, convA, mmA, pickA, okAll, stAll, opsA, partsA, partsOk, opA, allocA, boxMutA, newCells, okCells, storeObj, appendA, guardV, taA, nM, mapUpA, lookA, sliceA, boundsA, opO, okO, copyA, dstOk, nilA, quietOk, nilSliceOp, panA, resA, argFr, retA.eq_1, retA.eq_2, Nat.reduceAdd, Nat.reduceSub, Nat.reduceMul, Nat.reduceLT, Nat.reduceLeDiff, Nat.reduceEqDiff, Nat.reduceBEq, Int.reduceAdd, Int.reduceSub, Int.reduceMul, Int.reduceNeg, Int.reduceLE, Int.reduceLT, Int.reduceEq, Int.reduceNe, Int.reduceToNat, ↓reduceIte, reduceCtorEq, implies_true, forall_const, eq_self, ne_eq, wtAll, Try.ntmps39, Try.results39]) ?_)))

end Go.Proofs.Ytdeollnepclhaaa
end
section
set_option linter.unusedVariables false
namespace Go.V
theorem frz_step {S : St} {H : Hp} {id st n : Nat} {f : Nat → List AV} (hH : HRel S H) (ho : H id = some (.row st n f)) :
    ∃ S2, S2.w = S.w ∧ Le S S2 ∧ HRel S2 (H.del id) ∧ ∀ v, VRel S (.sl id st n) v → VRel S2 (.rsl n st f) v := by
  obtain ⟨hg, hcase⟩ := hH.obj id _ ho
  rcases hcase with ⟨rfl, hnil⟩ | ⟨b, c, e, hl, hb, hni, hc⟩
  · refine ⟨S, rfl, Le.refl S, hH.sub ?_, ?_⟩
    · intro j o' hj
      by_cases ej : j = id
      · simp [Hp.del, ej] at hj
      · exact ⟨o', by rw [Hp.del_ne _ ej] at hj; exact hj, .refl _⟩
    · intro v this
      cases this with
      | sl hl => rw [hnil] at hl; cases hl
      | slnil _ => exact .rsl0
  · have hle := S.frz_le b
    refine ⟨S.frz b, rfl, hle, ?_, ?_⟩
    · refine ⟨fun i hi => ⟨?_, (hH.fresh i hi).2⟩, ?_, ?_, ?_⟩
      · simp only [Hp.del]; split
        · rfl
        · exact (hH.fresh i hi).1
      · rintro x (hx | rfl)
        · exact hH.immlt x hx
        · exact (Array.getElem?_eq_some_iff.1 hb).1
      · intro i o hi
        have ne : i ≠ id := by intro e; simp [Hp.del, e] at hi
        rw [Hp.del_ne _ ne] at hi
        have old := hH.obj i o hi
        have hne : ∀ x, S.loc i o.gen = .blk x → x ≠ b := fun x hx e => ne (hH.inj i id o _ x hi ho hx (by subst e; exact hl))
        cases o with
        | box st' n' f' =>
          obtain ⟨b', c', e', h1, h2, h3, h4⟩ := old
          exact ⟨b', c', e', h1, h2, fun hx => hx.elim h3 (hne b' h1), h4.1, h4.2.1, fun i j hi hj => (h4.2.2 i j hi hj).mono hle⟩
        | row st' n' f' =>
          obtain ⟨g1, old⟩ := old
          refine ⟨g1, old.imp (fun x => x) ?_⟩
          rintro ⟨b', c', e', h1, h2, h3, h4⟩
          exact ⟨b', c', e', h1, h2, fun hx => hx.elim h3 (hne b' h1), h4.1, h4.2.1, fun i j hi hj => (h4.2.2 i j hi hj).mono hle⟩
        | memo F =>
          obtain ⟨b', es, k, h1, h2, h3, h4⟩ := old
          exact ⟨b', es, k, h1, h2, fun hx => hx.elim h3 (hne b' h1), h4⟩
        | raw o =>
          obtain ⟨b', h1, h2, h3, h4⟩ := old
          exact ⟨b', h1, h2, h3, fun hx => hx.elim h4 (hne b' h1)⟩
        | loop l n s ps assign body st pend did =>
          obtain ⟨h1, h2, fn, tmps, D, h3, h4, h5, h6⟩ := old
          exact ⟨h1, fun hx => hx.elim h2 (hne l h1), fn, tmps, D, h3, h4, h5.mono hle, h6⟩
      · intro i j o o' x hi hj
        have ne : i ≠ id := by intro e; simp [Hp.del, e] at hi
        have ne' : j ≠ id := by intro e; simp [Hp.del, e] at hj
        rw [Hp.del_ne _ ne] at hi
        rw [Hp.del_ne _ ne'] at hj
        exact hH.inj i j o o' x hi hj
    · intro v this
      cases this with
      | sl hl' hb' _ _ =>
        rw [hl] at hl'; cases hl'
        exact .rsl (off := 0) (.inr rfl) hb (by rw [Nat.zero_add]; exact hc.1) hc.2.1 (fun i j hi hj => by rw [Nat.zero_add]; exact (hc.2.2 i j hi hj).mono hle)
      | slnil hl' => rw [hl] at hl'; cases hl'

/-- What is frozen: the row's slices become its data. -/
def Frz (id st n : Nat) (f : Nat → List AV) (x y : AV) : Prop := y = x ∨ (x = .sl id st n ∧ y = .rsl n st f)
theorem Frz.rfl {id st n : Nat} {f : Nat → List AV} {x : AV} : Frz id st n f x x := .inl (Eq.refl x)
theorem Frz.hit {id st n : Nat} {f : Nat → List AV} : Frz id st n f (.sl id st n) (.rsl n st f) := .inr ⟨Eq.refl _, Eq.refl _⟩

/-- A row that is written no more, of which a box tells. -/
theorem Ent.freezeBox {s s' : Fr} {ds : List AD} {H : Hp} {K : Fr → List AD → Hp → Prop} {id st n j st' n' : Nat} {f g g' : Nat → List AV} (ho : H id = some (.row st n f)) (hj : H j = some (.box st' n' g))
    (hs : ∀ t, Frz id st n f (s t) (s' t)) (hl : ∀ k, k < n' → (g' k).length = st') (hg : ∀ k c, k < n' → c < st' → Frz id st n f ((g k).getD c .any) ((g' k).getD c .any))
    (h : K s' ds ((H.del id).set j (.box st' n' g'))) : Ent s ds H K := by
  intro S a hH hF hD
  obtain ⟨S2, hw, hle, h2, hc⟩ := frz_step hH ho
  have hne : j ≠ id := fun e => by rw [e, ho] at hj; cases hj
  have conv : ∀ x y v, Frz id st n f x y → VRel S x v → VRel S2 y v := fun x y v hxy hv => by
    rcases hxy with rfl | ⟨rfl, rfl⟩
    · exact hv.mono hle
    · exact hc v hv
  have hj2 : (H.del id) j = some (.box st' n' g) := by rw [Hp.del_ne _ hne]; exact hj
  refine ⟨S2, s', ds, _, hw, hle, ?_, fun t => conv _ _ _ (hs t) (hF t), hD.mono hle, h⟩
  obtain ⟨b, c, e, a1, a2, a3, a4⟩ := hH.obj j _ hj
  obtain ⟨b2, c2, e2, q1, q2, q3, q4⟩ := h2.obj j _ hj2
  have eb : b2 = b := by
    have := hle.locBlk a1
    rw [this] at q1
    cases q1; rfl
  subst eb
  rw [hw, a2] at q2
  cases q2
  refine ⟨fun i hi => ⟨?_, (h2.fresh i hi).2⟩, h2.immlt, ?_, ?_⟩
  · have hi' := (h2.fresh i hi).1
    by_cases ei : i = j
    · subst ei; rw [hj2] at hi'; cases hi'
    · rw [Hp.set_ne _ _ ei]; exact hi'
  · intro i o hi
    by_cases ei : i = j
    · subst ei
      rw [Hp.set_same] at hi
      cases hi
      exact ⟨b2, c, e, q1, by rw [hw]; exact a2, q3, a4.1, hl, fun k d hk hd => conv _ _ _ (hg k d hk hd) (a4.2.2 k d hk hd)⟩
    · rw [Hp.set_ne _ _ ei] at hi
      exact h2.obj i o hi
  · intro i i' o o' x hi hi' hx hx'
    have back : ∀ k o, ((H.del id).set j (.box st' n' g')) k = some o → ∃ p, (H.del id) k = some p ∧ p.gen = o.gen := fun k o hk => by
      by_cases ek : k = j
      · subst ek
        rw [Hp.set_same] at hk
        cases hk
        exact ⟨_, hj2, Eq.refl _⟩
      · rw [Hp.set_ne _ _ ek] at hk
        exact ⟨o, hk, Eq.refl _⟩
    obtain ⟨p, p1, p2⟩ := back i o hi
    obtain ⟨p', p1', p2'⟩ := back i' o' hi'
    exact h2.inj i i' p p' x p1 p1' (by rw [p2]; exact hx) (by rw [p2']; exact hx')

end Go.V
end
section
set_option linter.unusedVariables false
namespace Go.V
theorem HRel.boxUpd {S : St} {H : Hp} {j st n : Nat} {g g' : Nat → List AV} (hH : HRel S H) (hj : H j = some (.box st n g)) (hl : ∀ k, k < n → (g' k).length = st)
    (hg : ∀ k d v, k < n → d < st → VRel S ((g k).getD d .any) v → VRel S ((g' k).getD d .any) v) : HRel S (H.set j (.box st n g')) := by
  obtain ⟨b, c, e, q1, q2, q3, q4⟩ := hH.obj j _ hj
  refine ⟨fun i hi => ⟨?_, (hH.fresh i hi).2⟩, hH.immlt, ?_, ?_⟩
  · have hi' := (hH.fresh i hi).1
    by_cases ei : i = j
    · subst ei; rw [hj] at hi'; cases hi'
    · rw [Hp.set_ne _ _ ei]; exact hi'
  · intro i o hi
    by_cases ei : i = j
    · subst ei
      rw [Hp.set_same] at hi
      cases hi
      exact ⟨b, c, e, q1, q2, q3, q4.1, hl, fun k d hk hd => hg k d _ hk hd (q4.2.2 k d hk hd)⟩
    · rw [Hp.set_ne _ _ ei] at hi
      exact hH.obj i o hi
  · intro i i' o o' x hi hi' hx hx'
    have back : ∀ k o, (H.set j (.box st n g')) k = some o → ∃ p, H k = some p ∧ p.gen = o.gen := fun k o hk => by
      by_cases ek : k = j
      · subst ek
        rw [Hp.set_same] at hk
        cases hk
        exact ⟨_, hj, Eq.refl _⟩
      · rw [Hp.set_ne _ _ ek] at hk
        exact ⟨o, hk, Eq.refl _⟩
    obtain ⟨p, p1, p2⟩ := back i o hi
    obtain ⟨p', p1', p2'⟩ := back i' o' hi'
    exact hH.inj i i' p p' x p1 p1' (by rw [p2]; exact hx) (by rw [p2']; exact hx')

/-- Nil becomes a row of none. -/
def Nld (id st : Nat) (x y : AV) : Prop := y = x ∨ (x = .lit (.slice none 0 0) ∧ y = .sl id st 0)
theorem Nld.rfl {id st : Nat} {x : AV} : Nld id st x x := .inl (Eq.refl x)
theorem Nld.hit {id st : Nat} : Nld id st (.lit (.slice none 0 0)) (.sl id st 0) := .inr ⟨Eq.refl _, Eq.refl _⟩

theorem Ent.nilBox {s : Fr} {ds : List AD} {H : Hp} {K : Fr → List AD → Hp → Prop} {j st' n' : Nat} {g : Nat → List AV} (st : Nat) (f : Nat → List AV) (g' : Nat → Nat → List AV) (hj : H j = some (.box st' n' g))
    (hl : ∀ id k, k < n' → (g' id k).length = st') (hg : ∀ id k c, k < n' → c < st' → Nld id st ((g k).getD c .any) ((g' id k).getD c .any))
    (h : ∀ id, H id = none → K s ds ((H.set id (.row st 0 f)).set j (.box st' n' (g' id)))) : Ent s ds H K := by
  intro S a hH hF hD
  have hnone := St.next_none hH
  have hle := S.layNil_le hH
  have hne : j ≠ S.next := fun e => by rw [← e, hj] at hnone; cases hnone
  have h2 := hH.layNil st f
  have hj2 : (H.set S.next (.row st 0 f)) j = some (.box st' n' g) := by rw [Hp.set_ne _ _ hne]; exact hj
  refine ⟨S.layNil, s, ds, _, rfl, hle, h2.boxUpd hj2 (hl S.next) (fun k d v hk hd hv => ?_), fun t => (hF t).mono hle, hD.mono hle, h S.next hnone⟩
  rcases hg S.next k d hk hd with e | ⟨e1, e2⟩
  · rw [e]; exact hv
  · rw [e2]
    rw [e1] at hv
    have := hv.lit_inv
    subst this
    exact .slnil (by simp [St.layNil])

end Go.V
end
section
set_option linter.unusedVariables false
set_option linter.unusedSimpArgs false
set_option maxHeartbeats 4000000
set_option maxRecDepth 100000
namespace Go.Proofs.Ytdeollnepclhaaa
open Go.V
def sd0 : Sd := ⟨0, 0, 0, 0, 0⟩
def sdsF (l : List Sd) : Nat → List AV := fun i => (l.getD i sd0).cs
/-- The soundings of a set. -/
def subL (h : Hd) (S k : Nat) : List Sd := ((List.range k).filter fun i => S.testBit i).map h.sd
def subH (h : Hd) (S : Nat) : Hd := ⟨h.n, h.fl, (subL h S h.m).length, fun i => (subL h S h.m).getD i sd0⟩
theorem subL_len (h : Hd) (S k : Nat) : (subL h S k).length ≤ k := by
  have := List.length_filter_le (fun i : Nat => S.testBit i) (List.range k)
  simpa [subL] using this

end Go.Proofs.Ytdeollnepclhaaa
end
section
set_option linter.unusedVariables false
set_option linter.unusedSimpArgs false
namespace Go.Proofs.Ytdeollnepclhaaa
open Go.V
theorem subL_mem {h : Hd} {S k : Nat} {x : Sd} : x ∈ subL h S k ↔ ∃ j, j < k ∧ S.testBit j = true ∧ h.sd j = x := by
  simp [subL, and_assoc]
theorem HOk.sub {h : Hd} (k : HOk h) (S : Nat) : HOk (subH h S) := by
  have hl := subL_len h S h.m
  have hx : ∀ i : Nat, i < (subH h S).m → ∃ j, j < h.m ∧ (subH h S).sd i = h.sd j := fun i hi => by
    obtain ⟨j, h1, _, h3⟩ := subL_mem.1 (mem_getD (subL h S h.m) i sd0 hi)
    exact ⟨j, h1, h3.symm⟩
  refine ⟨k.n, ?_, k.f, fun i hi => ?_, fun i hi => ?_, fun i hi => ?_⟩
  · have := k.m; show (subL h S h.m).length ≤ 6; omega
  all_goals (obtain ⟨j, h1, h2⟩ := hx i hi; rw [h2])
  · exact k.w j h1
  · exact k.l j h1
  · exact k.r j h1
theorem canB_iff (h : Hd) (w S : Nat) : canB h w S = true ↔ ∀ j, j < h.m → S.testBit j = true → anyN h (h.sd j) w 5 = true := by
  simp only [canB, okc, decide_eq_true_eq, Bool.or_eq_true, Bool.not_eq_true']
  constructor
  · intro q j hj hb
    rcases q j hj with e | e
    · rw [hb] at e; cases e
    · exact e
  · intro q j hj
    cases hb : S.testBit j with
    | false => exact .inl rfl
    | true => exact .inr (q j hj hb)
theorem full_bit (m j : Nat) (hj : j < m) : (2 ^ m - 1).testBit j = true := by
  rw [Nat.testBit_two_pow_sub_one]; simpa using hj
end Go.Proofs.Ytdeollnepclhaaa
end
section
set_option linter.unusedVariables false
set_option linter.unusedSimpArgs false
set_option maxHeartbeats 4000000
set_option maxRecDepth 100000
namespace Go.Proofs.Ytdeollnepclhaaa
open Go.V
theorem depthE_ok {h : Hd} (k : HOk h) {n t p : Int} (hn : 0 ≤ n ∧ n ≤ 100) (ht : -2 ≤ t ∧ t ≤ 2) (hp : 0 ≤ p ∧ p < h.n) : depthE h n t p = 0 := by
  have e : (amtB n && tiltB t && partB h p) = true := by simp only [amtB, tiltB, partB, Bool.and_eq_true, decide_eq_true_eq]; omega
  rw [depthE, e]; exact errE_ok k
theorem depthV_ok {h : Hd} (k : HOk h) {n t p : Int} (hn : 0 ≤ n ∧ n ≤ 100) (ht : -2 ≤ t ∧ t ≤ 2) (hp : 0 ≤ p ∧ p < h.n) : depthV h n t p = uz h (hz h n t) t p := by
  rw [depthV, if_pos (depthE_ok k hn ht hp)]; rfl
theorem uzsN_at {h : Hd} {s t : Int} {n i : Nat} (hi : i < n) : (uzsN h s t n).getD i 0 = uz h s t i := by
  rw [List.getD_eq_getElem?_getD]; simp [uzsN, hi]
/-- What is no amount, list or part. -/
def badW (h : Hd) : Nat → Int × Int × Int
  | 0 => (-1, 0, 0)
  | 1 => (101, 0, 0)
  | 2 => (0, 3, 0)
  | 3 => (0, -3, 0)
  | 4 => (0, 0, -1)
  | _ => (0, 0, h.n)
def badF (h : Hd) : Nat → List AV := fun i => [i64 (badW h i).1, i64 (badW h i).2.1, i64 (badW h i).2.2]
abbrev u8 (n : Int) : AV := .lit (.int .u8 n)
end Go.Proofs.Ytdeollnepclhaaa
end
section
set_option linter.unusedVariables false
set_option linter.unusedSimpArgs false
namespace Go.Proofs.Ytdeollnepclhaaa
open Go.V
def oneS (p : Int × Int) : List Int := (List.range (p.2 - p.1 + 1).toNat).map fun j : Nat => p.1 + (j : Int)
def flatS (sp : List (Int × Int)) : List Int := sp.flatMap oneS
theorem oneS_len (p : Int × Int) : (oneS p).length = (p.2 - p.1 + 1).toNat := by simp [oneS]
theorem oneS_mem (p : Int × Int) (n : Int) : n ∈ oneS p ↔ p.1 ≤ n ∧ n ≤ p.2 := by
  simp only [oneS, List.mem_map, List.mem_range]
  constructor
  · rintro ⟨j, h1, h2⟩; omega
  · rintro ⟨h1, h2⟩; exact ⟨(n - p.1).toNat, by omega, by omega⟩
theorem flatS_snoc (sp : List (Int × Int)) (p : Int × Int) : flatS (sp ++ [p]) = flatS sp ++ oneS p := by simp [flatS]
theorem oneS_snoc (a b : Int) (h : a ≤ b) : oneS (a, b) = oneS (a, b - 1) ++ [b] := by
  simp only [oneS]
  rw [show (b - a + 1).toNat = (b - 1 - a + 1).toNat + 1 by omega, List.range_succ, List.map_append]
  simp only [List.map_cons, List.map_nil]
  congr 2
  omega
theorem split_last {α : Type} (l : List α) (x : α) (h : l.getLast? = some x) : l = l.dropLast ++ [x] := by
  have hne : l ≠ [] := fun e => by rw [e] at h; cases h
  rw [List.getLast?_eq_some_getLast hne] at h
  have := List.dropLast_concat_getLast hne
  injection h with h
  rw [h] at this
  exact this.symm

structure SpI (l : List Int) (sp : List (Int × Int)) (n : Nat) : Prop where
  flat : flatS sp = l
  rng : ∀ p ∈ sp, 0 ≤ p.1 ∧ p.1 ≤ p.2 ∧ p.2 < n
  gap : sp.Pairwise fun p q => p.2 + 1 < q.1

theorem SpI.up {l : List Int} {sp : List (Int × Int)} {n : Nat} (h : SpI l sp n) : SpI l sp (n + 1) :=
  ⟨h.flat, fun p hp => by have := h.rng p hp; omega, h.gap⟩
theorem SpI.add {l : List Int} {sp : List (Int × Int)} {n : Nat} (h : SpI l sp n) : SpI (l ++ [(n : Int)]) (addS sp n) (n + 1) := by
  unfold addS
  cases hg : sp.getLast? with
  | none =>
    have : sp = [] := List.getLast?_eq_none_iff.1 hg
    subst this
    have hf := h.flat
    simp only [flatS, List.flatMap_nil] at hf
    subst hf
    refine ⟨?_, fun p hp => ?_, ?_⟩
    · simp [flatS, oneS]
    · simp at hp; subst hp; simp only []; omega
    · simp
  | some q =>
    have hs := split_last sp q hg
    have hq : q ∈ sp := by rw [hs]; simp
    have hr := h.rng q hq
    have hgp := h.gap
    have hf := h.flat
    rw [hs, flatS_snoc] at hf
    rw [hs, List.pairwise_append] at hgp
    obtain ⟨g1, _, g3⟩ := hgp
    simp only []
    by_cases hc : q.2 = (n : Int) - 1
    · rw [if_pos hc]
      refine ⟨?_, fun p hp => ?_, ?_⟩
      · rw [flatS_snoc, oneS_snoc _ _ (by omega), ← List.append_assoc, ← hc, hf]
      · rcases List.mem_append.1 hp with e | e
        · have := h.rng p (by rw [hs]; exact List.mem_append_left _ e); omega
        · simp at e; subst e; simp only []; omega
      · rw [List.pairwise_append]
        refine ⟨g1, by simp, fun a ha b hb => ?_⟩
        simp at hb; subst hb
        exact g3 a ha q (by simp)
    · rw [if_neg hc]
      refine ⟨?_, fun p hp => ?_, ?_⟩
      · rw [flatS_snoc, h.flat]
        simp [oneS]
      · rcases List.mem_append.1 hp with e | e
        · have := h.rng p e; omega
        · simp at e; subst e; simp only []; omega
      · rw [List.pairwise_append]
        refine ⟨h.gap, by simp, fun a ha b hb => ?_⟩
        simp at hb; subst hb
        simp only []
        rw [hs] at ha
        rcases List.mem_append.1 ha with e | e
        · have := g3 a e q (by simp); omega
        · simp at e; subst e; omega

theorem spI (h : Hd) (S n : Nat) : SpI ((amtsN h S n).map fun w : Nat => (w : Int)) (spansL (amtsN h S n)) n := by
  induction n with
  | zero => exact ⟨rfl, fun p hp => by simp [amtsN, spansL] at hp, by simp [amtsN, spansL]⟩
  | succ n ih =>
    rw [amtsN_succ]
    split
    · rw [spansL_snoc, List.map_append]
      exact ih.add
    · exact ih.up

/-- How many numbers the first spans have. -/
def soff (sp : List (Int × Int)) (i : Nat) : Nat := (flatS (sp.take i)).length
theorem soff_zero (sp : List (Int × Int)) : soff sp 0 = 0 := rfl
theorem soff_succ (sp : List (Int × Int)) (i : Nat) (hi : i < sp.length) : soff sp (i + 1) = soff sp i + ((sp.getD i (0, 0)).2 - (sp.getD i (0, 0)).1 + 1).toNat := by
  rw [soff, take_snoc sp i (0, 0) hi, flatS_snoc, List.length_append, oneS_len]; rfl
theorem flat_at (sp : List (Int × Int)) (i j : Nat) (hi : i < sp.length) (hj : j < ((sp.getD i (0, 0)).2 - (sp.getD i (0, 0)).1 + 1).toNat) :
    (flatS sp)[soff sp i + j]? = some ((sp.getD i (0, 0)).1 + j) := by
  have e : sp = sp.take (i + 1) ++ sp.drop (i + 1) := (List.take_append_drop _ _).symm
  have e2 : flatS sp = flatS (sp.take i) ++ (oneS (sp.getD i (0, 0)) ++ flatS (sp.drop (i + 1))) := by
    conv => lhs; rw [e]
    rw [take_snoc sp i (0, 0) hi]
    simp [flatS]
  rw [e2, soff, List.getElem?_append_right (by omega), Nat.add_sub_cancel_left, List.getElem?_append_left (by rw [oneS_len]; exact hj)]
  simp only [oneS, List.getElem?_map]
  rw [List.getElem?_range hj]
  rfl

section
variable {h : Hd} {S : Nat}
abbrev spA (h : Hd) : List (Int × Int) := spansL (allA h)
theorem spA_I (h : Hd) : SpI ((allA h).map fun w : Nat => (w : Int)) (spA h) 101 := spI h _ 101
theorem spA_at (h : Hd) {i j : Nat} (hi : i < (spA h).length) (hj : (j : Int) < ((spA h).getD i (0, 0)).2 - ((spA h).getD i (0, 0)).1 + 1) :
    soff (spA h) i + j < (allA h).length ∧ (((allA h).getD (soff (spA h) i + j) 0 : Nat) : Int) = ((spA h).getD i (0, 0)).1 + j := by
  have := flat_at (spA h) i j hi (by omega)
  rw [(spA_I h).flat, List.getElem?_map, Option.map_eq_some_iff] at this
  obtain ⟨w, h1, h2⟩ := this
  refine ⟨(List.getElem?_eq_some_iff.1 h1).1, ?_⟩
  rw [List.getD_eq_getElem?_getD, h1]; exact h2
theorem spA_all (h : Hd) : soff (spA h) (spA h).length = (allA h).length := by
  rw [soff, List.take_length, (spA_I h).flat, List.length_map]
theorem spA_rng (h : Hd) {i : Nat} (hi : i < (spA h).length) : 0 ≤ ((spA h).getD i (0, 0)).1 ∧ ((spA h).getD i (0, 0)).1 ≤ ((spA h).getD i (0, 0)).2 ∧ ((spA h).getD i (0, 0)).2 ≤ 100 := by
  have := (spA_I h).rng _ (mem_getD (spA h) i (0, 0) hi)
  omega
theorem spA_gap (h : Hd) {i j : Nat} (hij : i < j) (hj : j < (spA h).length) : ((spA h).getD i (0, 0)).2 + 1 < ((spA h).getD j (0, 0)).1 := by
  have := List.pairwise_iff_getElem.1 (spA_I h).gap i j (by omega) hj hij
  rw [List.getD_eq_getElem?_getD, List.getD_eq_getElem?_getD, List.getElem?_eq_getElem (by omega), List.getElem?_eq_getElem hj]
  exact this
theorem inS_flat (sp : List (Int × Int)) (n : Int) : inS sp n = true ↔ n ∈ flatS sp := by
  simp only [inS, List.any_eq_true, flatS, List.mem_flatMap, oneS_mem, Bool.and_eq_true, decide_eq_true_eq]
theorem inS_spA (h : Hd) (n : Int) : inS (spA h) n = true ↔ ∃ w, w ∈ allA h ∧ (w : Int) = n := by
  rw [inS_flat, (spA_I h).flat, List.mem_map]
end
end Go.Proofs.Ytdeollnepclhaaa
end
section
set_option linter.unusedVariables false
set_option linter.unusedSimpArgs false
set_option maxHeartbeats 4000000
set_option maxRecDepth 100000
namespace Go.Proofs.Ytdeollnepclhaaa
open Go.V
/-- A hold with a sounding more. -/
def addH (h : Hd) (s : Sd) : Hd := ⟨h.n, h.fl, h.m + 1, fun i => if i = h.m then s else h.sd i⟩

end Go.Proofs.Ytdeollnepclhaaa
end
section
set_option linter.unusedVariables false
set_option linter.unusedSimpArgs false
set_option maxHeartbeats 4000000
set_option maxRecDepth 100000
namespace Go.Proofs.Ytdeollnepclhaaa
open Go.V
theorem errE_full {h : Hd} (k : HOk h) {v : Bool} (hv : v = true) : errE h v true = if (allA h).length = 0 then 10 else 0 := by
  simp only [errE, if_pos k, hv, if_true, true_and]
theorem waterE_full2 {h : Hd} (k : HOk h) : waterE h = if (allA h).length = 0 then 10 else 0 := errE_full k rfl

end Go.Proofs.Ytdeollnepclhaaa
end
section
set_option linter.unusedVariables false
set_option linter.unusedSimpArgs false
namespace Go.Proofs.Ytdeollnepclhaaa
open Go.V
theorem canB_full (h : Hd) (w : Nat) : canB h w (2 ^ h.m - 1) = true ↔ ∀ j, j < h.m → anyN h (h.sd j) w 5 = true := by
  rw [canB_iff]
  exact ⟨fun q j hj => q j hj (full_bit _ j hj), fun q j hj _ => q j hj⟩
theorem anyN_iff {h : Hd} {s : Sd} {w : Int} : anyN h s w 5 = true ↔ ∃ t : Int, (-2 ≤ t ∧ t ≤ 2) ∧ rightB h s w t = true := by
  simp only [anyN, List.any_eq_true, List.mem_range]
  constructor
  · rintro ⟨j, h1, h2⟩; exact ⟨_, by omega, h2⟩
  · rintro ⟨t, h1, h2⟩
    refine ⟨(t + 2).toNat, by omega, ?_⟩
    rw [show (((t + 2).toNat : Nat) : Int) - 2 = t by omega]; exact h2
theorem rightB_iff {h : Hd} {s : Sd} {w t : Int} : rightB h s w t = true ↔ (s.a ≤ t ∧ t ≤ s.b) ∧ s.c ≤ dz h w t s.w ∧ dz h w t s.w ≤ s.d := by
  simp only [rightB, Bool.and_eq_true, decide_eq_true_eq]
theorem dz_le {h : Hd} (k : HOk h) {w t p : Int} (hw : 0 ≤ w ∧ w ≤ 100) (ht : -2 ≤ t ∧ t ≤ 2) (hp : 0 ≤ p ∧ p < h.n) : 0 ≤ dz h w t p ∧ dz h w t p ≤ w := by
  obtain ⟨_, _, h3, _⟩ := hz_spec h w t k ht hw
  have := volN_part h (hz h w t) t k ht p.toNat h.n (by omega) (Nat.le_refl _)
  rw [show ((p.toNat : Nat) : Int) = p by omega] at this
  have h5 : 0 ≤ dz h w t p := by simp only [dz, uz]; omega
  have h6 : dz h w t p = uz h (hz h w t) t p := rfl
  unfold vol at h3
  omega

/-- The sounding that tells nothing. -/
def bareS (p : Int) : Sd := ⟨p, -2, 2, 0, 40⟩
theorem allA_sorted (h : Hd) : (allA h).Pairwise (· < ·) := List.Pairwise.filter _ List.pairwise_lt_range
theorem allA_idx {h : Hd} {w : Nat} (hw : w ∈ allA h) : ∃ i, i < (allA h).length ∧ (allA h).getD i 0 = w := by
  obtain ⟨i, hi, e⟩ := List.getElem_of_mem hw
  exact ⟨i, hi, by rw [List.getD_eq_getElem?_getD, List.getElem?_eq_getElem hi]; exact e⟩
theorem allA_lt {h : Hd} {i j : Nat} (hij : i < j) (hj : j < (allA h).length) : (allA h).getD i 0 < (allA h).getD j 0 := by
  have := List.pairwise_iff_getElem.1 (allA_sorted h) i j (by omega) hj hij
  rw [List.getD_eq_getElem?_getD, List.getD_eq_getElem?_getD, List.getElem?_eq_getElem (by omega), List.getElem?_eq_getElem hj]
  exact this
theorem allA_first {h : Hd} {w : Nat} (hw : w ∈ allA h) : (allA h).getD 0 0 ≤ w := by
  obtain ⟨i, hi, rfl⟩ := allA_idx hw
  rcases Nat.eq_zero_or_pos i with rfl | e
  · exact Nat.le_refl _
  · exact Nat.le_of_lt (allA_lt e hi)
theorem allA_last {h : Hd} {w : Nat} (hw : w ∈ allA h) : w ≤ (allA h).getD ((allA h).length - 1) 0 := by
  obtain ⟨i, hi, rfl⟩ := allA_idx hw
  by_cases e : i = (allA h).length - 1
  · subst e; exact Nat.le_refl _
  · exact Nat.le_of_lt (allA_lt (by omega) (by omega))
theorem allA_at {h : Hd} {i : Nat} (hi : i < (allA h).length) : (allA h).getD i 0 ∈ allA h := mem_getD _ _ _ hi
theorem allA_100 {h : Hd} {w : Nat} (hw : w ∈ allA h) : w ≤ 100 := amts_le hw
theorem spA_last {h : Hd} (hne : 0 < (allA h).length) : 0 < (spA h).length ∧ ((spA h).getD ((spA h).length - 1) (0, 0)).2 = (((allA h).getD ((allA h).length - 1) 0 : Nat) : Int) := by
  have h1 := spA_all h
  have h2 : 0 < (spA h).length := by
    apply Classical.byContradiction; intro hc
    have e : (spA h).length = 0 := by omega
    rw [e, soff_zero] at h1; omega
  refine ⟨h2, ?_⟩
  have hr := spA_rng h (i := (spA h).length - 1) (by omega)
  have hs := soff_succ (spA h) ((spA h).length - 1) (by omega)
  rw [show (spA h).length - 1 + 1 = (spA h).length by omega, h1] at hs
  obtain ⟨q1, q2⟩ := spA_at h (i := (spA h).length - 1) (j := (((spA h).getD ((spA h).length - 1) (0, 0)).2 - ((spA h).getD ((spA h).length - 1) (0, 0)).1).toNat) (by omega) (by omega)
  rw [show soff (spA h) ((spA h).length - 1) + (((spA h).getD ((spA h).length - 1) (0, 0)).2 - ((spA h).getD ((spA h).length - 1) (0, 0)).1).toNat = (allA h).length - 1 by omega] at q2
  rw [q2]; omega
theorem spA_first {h : Hd} (hne : 0 < (allA h).length) : ((spA h).getD 0 (0, 0)).1 = (((allA h).getD 0 0 : Nat) : Int) := by
  have hr := spA_rng h (spA_last hne).1
  have := (spA_at h (i := 0) (j := 0) (spA_last hne).1 (by omega)).2
  rw [soff_zero] at this
  simp only [Nat.add_zero, Int.natCast_zero, Int.add_zero] at this
  exact this.symm

theorem rodN_spec {h : Hd} (k : HOk h) {t p : Int} (ht : -2 ≤ t ∧ t ≤ 2) (hp : 0 ≤ p ∧ p < h.n) (n : Nat) (hn : n < (allA h).length) :
    (∀ i, i < n + 1 → (rodN h t p (n + 1)).1 ≤ dz h ((allA h).getD i 0 : Nat) t p ∧ dz h ((allA h).getD i 0 : Nat) t p ≤ (rodN h t p (n + 1)).2) ∧
    (∃ i, i < n + 1 ∧ dz h ((allA h).getD i 0 : Nat) t p = (rodN h t p (n + 1)).1) ∧ ∃ i, i < n + 1 ∧ dz h ((allA h).getD i 0 : Nat) t p = (rodN h t p (n + 1)).2 := by
  induction n with
  | zero =>
    have := allA_100 (allA_at (h := h) hn)
    have := dz_le k (w := ((allA h).getD 0 0 : Nat)) (by omega) ht hp
    simp only [rodN]
    refine ⟨fun i hi => ?_, ⟨0, by omega, by omega⟩, ⟨0, by omega, by omega⟩⟩
    have : i = 0 := by omega
    subst this
    omega
  | succ n ih =>
    obtain ⟨h1, ⟨i1, a1, a2⟩, i2, b1, b2⟩ := ih (by omega)
    rw [rodN]
    generalize rodN h t p (n + 1) = R at *
    simp only []
    refine ⟨fun i hi => ?_, ?_, ?_⟩
    · by_cases e : i = n + 1
      · subst e; omega
      · have := h1 i (by omega); omega
    · by_cases e : R.1 ≤ dz h ((allA h).getD (n + 1) 0 : Nat) t p
      · exact ⟨i1, by omega, by omega⟩
      · exact ⟨n + 1, by omega, by omega⟩
    · by_cases e : dz h ((allA h).getD (n + 1) 0 : Nat) t p ≤ R.2
      · exact ⟨i2, by omega, by omega⟩
      · exact ⟨n + 1, by omega, by omega⟩
theorem rodE_full {h : Hd} (k : HOk h) {t p : Int} (ht : -2 ≤ t ∧ t ≤ 2) (hp : 0 ≤ p ∧ p < h.n) : rodE h t p = if (allA h).length = 0 then 10 else 0 :=
  errE_full k (by rw [Bool.and_eq_true]; exact ⟨(tiltB_iff t).2 ht, (partB_iff h p).2 hp⟩)
theorem overE_full {h : Hd} (k : HOk h) {n : Int} (hn : 0 ≤ n ∧ n ≤ 100) : overE h n = if (allA h).length = 0 then 10 else 0 := errE_full k ((amtB_iff n).2 hn)
theorem rod_spec {h : Hd} (k : HOk h) {t p : Int} (ht : -2 ≤ t ∧ t ≤ 2) (hp : 0 ≤ p ∧ p < h.n) (hne : 0 < (allA h).length) :
    (∀ w : Nat, w ∈ allA h → (rodV h t p).1 ≤ dz h w t p ∧ dz h w t p ≤ (rodV h t p).2) ∧ (∃ w : Nat, w ∈ allA h ∧ dz h w t p = (rodV h t p).1) ∧ ∃ w : Nat, w ∈ allA h ∧ dz h w t p = (rodV h t p).2 := by
  have e : rodV h t p = rodN h t p ((allA h).length - 1 + 1) := by
    rw [rodV, if_pos (by rw [rodE_full k ht hp, if_neg (by omega)]), show (allA h).length - 1 + 1 = (allA h).length by omega]
  obtain ⟨h1, ⟨i, a1, a2⟩, j, b1, b2⟩ := rodN_spec k ht hp ((allA h).length - 1) (by omega)
  rw [e]
  refine ⟨fun w hw => ?_, ⟨_, allA_at (i := i) (by omega), a2⟩, ⟨_, allA_at (i := j) (by omega), b2⟩⟩
  obtain ⟨i, hi, rfl⟩ := allA_idx hw
  exact h1 i (by omega)
theorem overV_ok {h : Hd} (k : HOk h) {n : Int} (hn : 0 ≤ n ∧ n ≤ 100) (hne : 0 < (allA h).length) :
    overV h n = if n < ((allA h).getD 0 0 : Nat) then 2 else if (((allA h).getD ((allA h).length - 1) 0 : Nat) : Int) ≤ n then 0 else 1 := by
  rw [overV, if_pos (by rw [overE_full k hn, if_neg (by omega)])]

end Go.Proofs.Ytdeollnepclhaaa
end
section
set_option linter.unusedVariables false
set_option linter.unusedSimpArgs false
namespace Go.Proofs.Ytdeollnepclhaaa
open Go.V
/-- A sounding that knows the depth. -/
def knowS (p t n : Int) : Sd := ⟨p, t, t, n, n⟩
/-- The four numbers beside both ends. -/
def endsL (r : Int × Int) : List Int := [r.1 - 1, r.1, r.2, r.2 + 1]
/-- Has one of the first amounts this depth? -/
def anyD (h : Hd) (t p d : Int) (k : Nat) : Bool := ((allA h).take k).any fun w : Nat => decide (dz h w t p = d)
/-- A hold of which one sounding was made with one list. -/
def setS (s : Sd) (n : Int) : Sd := ⟨s.w, n, n, s.c, s.d⟩
def setL (h : Hd) (i : Nat) (n : Int) : Hd := ⟨h.n, h.fl, h.m, fun j => if j = i then setS (h.sd i) n else h.sd j⟩
theorem mem_all {h : Hd} {w : Nat} : w ∈ allA h ↔ w < 101 ∧ ∀ j, j < h.m → anyN h (h.sd j) w 5 = true := by
  simp only [allA, amts, amtsN, List.mem_filter, List.mem_range, canB_full]
theorem lsB_iff {h : Hd} {n : Int} {j : Nat} : lsB h n j = true ↔ ∃ w : Nat, w ∈ allA h ∧ rightB h (h.sd n.toNat) w ((j : Int) - 2) = true := by
  simp only [lsB, lsK, List.take_length, List.any_eq_true]
theorem lists_mem {h : Hd} {i : Nat} (he : listsE h i = 0) (n : Int) : n ∈ listsV h i ↔ (-2 ≤ n ∧ n ≤ 2) ∧ ∃ w : Nat, w ∈ allA h ∧ rightB h (h.sd i) w n = true := by
  rw [listsV, if_pos he]
  simp only [lsN, List.mem_map, List.mem_filter, List.mem_range, lsB_iff, Int.toNat_natCast]
  constructor
  · rintro ⟨j, ⟨h1, h2⟩, rfl⟩; exact ⟨by omega, h2⟩
  · rintro ⟨h1, h2⟩
    refine ⟨(n + 2).toNat, ⟨by omega, ?_⟩, by omega⟩
    rw [show (((n + 2).toNat : Nat) : Int) - 2 = n by omega]; exact h2
theorem listsE_full {h : Hd} (k : HOk h) {n : Int} (hn : 0 ≤ n ∧ n < h.m) : listsE h n = if (allA h).length = 0 then 10 else 0 :=
  errE_full k (by rw [Bool.and_eq_true, decide_eq_true_eq, decide_eq_true_eq]; omega)
theorem clashE_ok {h : Hd} (k : HOk h) : clashE h = 4 ↔ 0 < (allA h).length := by
  simp only [clashE, errE_ok k, if_true]
  show (if 0 < (allA h).length then (4 : Int) else 0) = 4 ↔ _
  split <;> simp_all
theorem lists_le (h : Hd) (n : Int) : (listsV h n).length ≤ 5 := by
  unfold listsV
  split
  · have := List.length_filter_le (lsB h n) (List.range 5)
    simpa [lsN] using this
  · simp
/-- Is a number among the first of a list? -/
def hasN (l : List Int) (n : Int) (k : Nat) : Bool := (l.take k).any fun x => decide (x = n)
theorem hasN_zero (l : List Int) (n : Int) : hasN l n 0 = false := rfl
theorem hasN_succ {l : List Int} {n : Int} {k : Nat} (hk : k < l.length) : hasN l n (k + 1) = (hasN l n k || decide (l.getD k 0 = n)) := by
  simp only [hasN, take_snoc l k 0 hk, List.any_append, List.any_cons, List.any_nil, Bool.or_false]
theorem hasN_all (l : List Int) (n : Int) : hasN l n l.length = decide (n ∈ l) := by
  rw [Bool.eq_iff_iff]
  simp only [hasN, List.take_length, List.any_eq_true, decide_eq_true_eq]
  exact ⟨fun ⟨x, h1, h2⟩ => h2 ▸ h1, fun h => ⟨n, h, rfl⟩⟩

end Go.Proofs.Ytdeollnepclhaaa
end
section
set_option linter.unusedVariables false
set_option linter.unusedSimpArgs false
namespace Go.Proofs.Ytdeollnepclhaaa
open Go.V
def revS (n : Nat) (s : Sd) : Sd := ⟨(n : Int) - 1 - s.w, -s.b, -s.a, s.c, s.d⟩
def revH (h : Hd) : Hd := ⟨h.n, fun p => h.fl (h.n - 1 - p), h.m, fun i => revS h.n (h.sd (h.m - 1 - i))⟩
/-- The bits of what is told to be dry. -/
theorem dryN_bit (h : Hd) (t : Int) (n y : Nat) (hy : y < n) : (dryN h t n).1.testBit y = decide (dryC h t y (allA h).length = (allA h).length) ∧ (dryN h t n).2.testBit y = decide (0 < dryC h t y (allA h).length) := by
  induction n with
  | zero => omega
  | succ n ih =>
    have hb := dryN_lt h t n
    have key : ∀ (x : Nat) (q : Prop) [Decidable q], x < 2 ^ n → ∀ y, y < n + 1 → (x + (if q then 2 ^ n else 0)).testBit y = if y = n then decide q else x.testBit y := by
      intro x q _ hx y hy
      by_cases hq : q
      · rw [if_pos hq, Nat.add_comm]
        split
        · rename_i e; subst e; rw [Nat.testBit_two_pow_add_eq, Nat.testBit_lt_two_pow hx]; simp [hq]
        · rw [Nat.testBit_two_pow_add_gt (by omega)]
      · rw [if_neg hq, Nat.add_zero]
        split
        · rename_i e; subst e; rw [Nat.testBit_lt_two_pow hx]; simp [hq]
        · rfl
    simp only [dryN]
    rw [key _ _ hb.1 y hy, key _ _ hb.2 y hy]
    by_cases e : y = n
    · subst e; simp
    · rw [if_neg e, if_neg e]; exact ih (by omega)

theorem dryE_full {h : Hd} (k : HOk h) {t : Int} (ht : -2 ≤ t ∧ t ≤ 2) : dryE h t = if (allA h).length = 0 then 10 else 0 := errE_full k ((tiltB_iff t).2 ht)
end Go.Proofs.Ytdeollnepclhaaa
end
section
set_option linter.unusedVariables false
set_option linter.unusedSimpArgs false
set_option maxHeartbeats 4000000
set_option maxRecDepth 100000
namespace Go.Proofs.Ytdeollnepclhaaa
open Go.V
def moreX (h : Hd) (s : Sd) (p : Int) (i : Nat) : Hd := if i = 0 then addH h s else addH h (bareS p)
end Go.Proofs.Ytdeollnepclhaaa
end
section
set_option linter.unusedVariables false
namespace Go.V
/-- A value in which a row is now data. -/
inductive FrzD (id st n : Nat) (f : Nat → List AV) : AV → AV → Prop
  | same (x : AV) : FrzD id st n f x x
  | hit {g : Nat → List AV} (h : ∀ i, i < n → f i = g i) : FrzD id st n f (.sl id st n) (.rsl n st g)
  | agg {cs cs' : List AV} (hl : cs'.length = cs.length) (h : ∀ k, k < cs.length → FrzD id st n f (cs.getD k .any) (cs'.getD k .any)) : FrzD id st n f (.agg cs) (.agg cs')
  | tuple {cs cs' : List AV} (hl : cs'.length = cs.length) (h : ∀ k, k < cs.length → FrzD id st n f (cs.getD k .any) (cs'.getD k .any)) : FrzD id st n f (.tuple cs) (.tuple cs')

theorem FrzD.conv {S S2 : St} {id st n : Nat} {f : Nat → List AV} (hle : Le S S2) (hc : ∀ v, VRel S (.sl id st n) v → VRel S2 (.rsl n st f) v) {x y : AV} (hxy : FrzD id st n f x y) : ∀ v, VRel S x v → VRel S2 y v := by
  induction hxy with
  | same x => intro v hv; exact hv.mono hle
  | hit h => intro v hv; exact AV.Le.rsl h _ _ (hc v hv)
  | agg hl h ih =>
    intro v hv
    cases hv with
    | agg hn hv => exact .agg (hn.trans hl.symm) fun k hk => ih k (by omega) _ (hv k (by omega))
  | tuple hl h ih =>
    intro v hv
    cases hv with
    | tuple hn hv => exact .tuple (hn.trans hl.symm) fun k hk => ih k (by omega) _ (hv k (by omega))

/-- A row that is handed back inside a value, to be written no more. -/
theorem Tri.thawD {P : Program} {fv : AV} {args : List AV} {H : Hp} {R1 R : Res → Hp → Prop} (h : Tri P fv args H R1)
    (hR : ∀ r H', R1 r H' → R r H' ∨ ∃ v v' id st n f, r = .ret v ∧ H' id = some (.row st n f) ∧ FrzD id st n f v v' ∧ R (.ret v') (H'.del id)) : Tri P fv args H R := by
  intro S vf vs hH hvf ha
  obtain ⟨nx, h1, h2⟩ := h S vf vs hH hvf ha
  have ho : ∀ e w, Out S R1 e w → Out S R e w := by
    rintro e w ⟨S', r, H', hw, hle, hH', hres, hr⟩
    rcases hR r H' hr with hr | ⟨v, v', id, st, n, f, rfl, hob, hf, hr⟩
    · exact ⟨S', r, H', hw, hle, hH', hres, hr⟩
    · cases e with
      | returned cv =>
        obtain ⟨S2, hw2, hle2, hH2, hc⟩ := frz_step hH' hob
        exact ⟨S2, .ret v', _, hw2.trans hw, hle.trans hle2, hH2, hf.conv hle2 hc cv hres, hr⟩
      | _ => exact hres.elim
  refine ⟨nx, h1, ?_⟩
  cases nx <;> simp only [NextOk] at h2 ⊢
  · exact Calls.mono h2 ho
  · exact h2.mono ho

end Go.V
end
section
set_option linter.unusedVariables false
namespace Go.V
section
variable {r : Option Nat} {P : Program} {m : Option Tmp → Bool} {n : Nat} {k : List It} {s : Fr} {ds : List AD} {H : Hp} {Q : Post}
theorem vs_entL {c : Code} (h : Ent s ds H fun s ds H => VS r P m n (.code (.loop c) :: k) s ds H Q) : VS r P m n (.code (.loop c) :: k) s ds H Q :=
  (wps_ent h : WPS r P n (.loop c) s ds H (TK r P m n k Q))
end
theorem Hp.del_get (H : Hp) (i j : Nat) : (H.del i) j = if j = i then none else H j := rfl
end Go.V
end
section
set_option linter.unusedVariables false
set_option linter.unusedSimpArgs false
set_option maxHeartbeats 8000000
set_option maxRecDepth 100000
namespace Go.Proofs.Ytdeollnepclhaaa
open Go.V
theorem shr_ok (S i : Nat) (hS : S < 1000) : 0 ≤ (S : Int) / 2 ^ i ∧ -9223372036854775808 ≤ (S : Int) / 2 ^ i ∧ (S : Int) / 2 ^ i ≤ 9223372036854775807 := by
  have ep : (0 : Int) < 2 ^ i := Int.pow_pos (by decide)
  have e0 : 0 ≤ (S : Int) / 2 ^ i := Int.ediv_nonneg (by omega) (by omega)
  have e1 : (S : Int) / 2 ^ i ≤ S := Int.ediv_le_self _ (by omega)
  omega
theorem dryV_lt (h : Hd) (k : HOk h) (t : Int) : (dryV h t).1 < 1000 ∧ (dryV h t).2 < 1000 := by
  have := dryN_lt h t h.n
  have h2 : 2 ^ h.n ≤ 2 ^ 7 := Nat.pow_le_pow_right (by decide) (by have := k.n; omega)
  unfold dryV
  split
  · constructor <;> omega
  · exact ⟨by decide, by decide⟩
def negF (W : List (Int × Int)) (y : Nat) : Nat → List AV := fun k => if k < y then [i64 (-9), i64 (-9)] else spanF W k
theorem lists_rng (h : Hd) (n : Int) (y : Nat) (hy : y < (listsV h n).length) : -2 ≤ (listsV h n).getD y 0 ∧ (listsV h n).getD y 0 ≤ 2 := by
  have hm := mem_getD (listsV h n) y 0 hy
  generalize (listsV h n).getD y 0 = x at *
  unfold listsV at hm
  split at hm
  · simp only [lsN, List.mem_map, List.mem_filter, List.mem_range] at hm
    obtain ⟨j, ⟨h1, h2⟩, rfl⟩ := hm
    omega
  · simp at hm
end Go.Proofs.Ytdeollnepclhaaa
end
section
set_option linter.unusedVariables false
set_option linter.unusedSimpArgs false
set_option maxHeartbeats 4000000
set_option maxRecDepth 100000
namespace Go.Proofs.Ytdeollnepclhaaa
open Go.V
abbrev u16 (n : Int) : AV := .lit (.int .u16 n)
def byF (b : Nat → Int) : Nat → List AV := fun i => [u16 (b i)]
theorem byF_at (b : Nat → Int) (i : Nat) : byF b i = [u16 (b i)] := rfl
/-- A number is drawn. -/
def drawR (i5 a : Nat) (n : Int) (H : Hp) : Res → Hp → Prop := fun r H' => ∃ v : Int, (0 ≤ v ∧ v < n) ∧ r = .ret (i64 v) ∧ H' = H.set i5 (.box 1 1 fun _ => [i64 ((a + 1 : Nat) : Int)])
theorem ldraw_tri (N : Nat) (b : Nat → Int) (i5 a : Nat) (n : Int) (H : Hp) (hN : N ≤ 9223372036854775807) (hb : ∀ i, i < N → 0 ≤ b i ∧ b i ≤ 65535) (hn : 1 ≤ n ∧ n ≤ 1000) (ha : a ≤ 1000) (ho : H i5 = some (.box 1 1 fun _ => [i64 a])) :
    Tri Try.prog (.func (.func 93) [] [.ref i5 0 1 0 0, .rptr 1 1 (fun _ => [.rsl N 1 (byF b)]) 0 0]) [i64 n] H (drawR i5 a n H) := by
  refine Tri.drop ?_
  refine tri_v0 (fun _ => false) Try.func93 (by kernel_rfl) rfl (by simp only [List.length_append, List.length_cons, List.length_nil, Try.ntmps93]; decide) ?_
  skip
  simp only [vsAll, binA, binLitA, intA, loadA, loadRow, partA, partOk, lenA, cellA, cellsA, opA, newCells, okCells, storeObj, dstOk, nilSliceOp, argFr, Nat.reduceLT, Nat.reduceEqDiff, ↓reduceIte, eq_self, wtAll, Try.ntmps93, ho]
  refine ⟨by simp only [InR_i64]; ((try clear ho); omega), ?_⟩
  have hset : (H.set i5 (.box 1 1 fun _ => [i64 ((a : Int) + 1)])) i5 = some (.box 1 1 fun _ => [i64 ((a : Int) + 1)]) := Hp.set_same _ _ _
  refine condD (fun hd => ?_) (fun hd => ?_)
  · simp only [vsAll, binA, binLitA, intA, loadA, loadRow, partA, partOk, opA, dstOk, nilSliceOp, resA, argFr, retA.eq_1, Nat.reduceLT, Nat.reduceEqDiff, ↓reduceIte, reduceCtorEq, eq_self, ne_eq, wtAll, Try.results93]
    have hv : 0 ≤ ((a : Int) + 1).tmod n ∧ ((a : Int) + 1).tmod n < n := by
      rw [Int.tmod_eq_emod_of_nonneg (by ((try clear ho); omega))]
      exact ⟨Int.emod_nonneg _ (by ((try clear ho); omega)), Int.emod_lt_of_pos _ (by ((try clear ho); omega))⟩
    refine ⟨by ((try clear ho); omega), ?_⟩
    exact ⟨_, HSub_rfl, _, hv, rfl, by rw [Int.natCast_add, Int.natCast_one]⟩
  · have hq : 0 ≤ ((a : Int) + 1).tmod N ∧ ((a : Int) + 1).tmod N < N := by
      rw [Int.tmod_eq_emod_of_nonneg (by ((try clear ho); omega))]
      exact ⟨Int.emod_nonneg _ (by ((try clear ho); omega)), Int.emod_lt_of_pos _ (by ((try clear ho); omega))⟩
    simp only [vsAll]
    refine vs_draw 14 (by decide +kernel) ?_
    simp only [vsAll, binA, binLitA, intA, loadA, loadRow, partA, partOk, indexAddrA, lenA, convA, opA, dstOk, resA, argFr, retA.eq_1, Nat.reduceLT, Nat.reduceEqDiff, ↓reduceIte, reduceCtorEq, eq_self, ne_eq, wtAll, Try.results93, byF_at]
    have hb2 := hb (((a : Int) + 1).tmod N).toNat (by ((try clear ho); omega))
    generalize b (((a : Int) + 1).tmod N).toNat = B at *
    have hv : 0 ≤ (B + 29 * ((a : Int) + 1)).tmod n ∧ (B + 29 * ((a : Int) + 1)).tmod n < n := by
      rw [Int.tmod_eq_emod_of_nonneg (by ((try clear ho); omega))]
      exact ⟨Int.emod_nonneg _ (by ((try clear ho); omega)), Int.emod_lt_of_pos _ (by ((try clear ho); omega))⟩
    simp only [InR_i64]
    exact ⟨by ((try clear ho); omega), hq, by ((try clear ho); omega), by ((try clear ho); omega), by ((try clear ho); omega), by ((try clear ho); omega), by ((try clear ho); omega), _, HSub_rfl, _, hv, rfl, by rw [Int.natCast_add, Int.natCast_one]⟩

theorem lunder2_tri (h : Hd) (s t : Int) (ib q : Nat) (H : Hp) (k : HOk h) (hs : -1000 ≤ s ∧ s ≤ 1000) (ht : -2 ≤ t ∧ t ≤ 2) :
    PTri Try.prog (fnA 37) [.agg [flAV h.n h.fl, .sl ib 5 q], i64 s, i64 t] H (.tuple [intsAV (uzsN h s t h.n), i64 (vol h s t)]) := by
  have hn := k.n
  refine tri_v (mset [6]) Try.func37 (by kernel_rfl) rfl (by simp only [List.length_append, List.length_cons, List.length_nil, Try.ntmps37]; decide) ?_
  simp only [vsAll, loadA, loadRow, partA, partOk, fieldAddrA, lenA, boxA, opA, dstOk, nilA, nilSliceOp, argFr, Nat.reduceAdd, Nat.reduceLT, Nat.reduceEqDiff, Nat.reduceBEq, ↓reduceIte, eq_self, wtAll, Try.ntmps37]
  intro id hid
  refine vs_loop (σ := Nat) (fun i => i ≤ h.n) (fun i => [(1, i64 s), (2, i64 t), (3, .rptr 1 2 (fun _ => [flAV h.n h.fl, .sl ib 5 q]) 0 0), (6, .sl id 1 (uzsN h s t i).length), (7, i64 (volN h s t i)), (12, flAV h.n h.fl), (13, i64 h.n), (14, i64 i)])
    (fun i => H.set id (.row 1 (uzsN h s t i).length (intF (uzsN h s t i)))) (fun i => h.n - i) 0 (Nat.zero_le _) ?_ ?_ fun i hi => ?_
  · simp only [vsAll, argFr, Nat.reduceEqDiff, ↓reduceIte, eq_self, volN, Int.natCast_zero, uzsN, List.range_zero]
  · exact HSub_set (row0_le _ _ _)
  · simp only [vsAll, binA, binLitA, intA, opA, dstOk, Nat.reduceLT, Nat.reduceEqDiff, ↓reduceIte, eq_self]
    refine condD (fun hd => ?_) (fun hd => ?_)
    · have hf := k.f i (by omega)
      have hm := mul_small t ((i : Int) - (h.n : Int) / 2) ht (by omega)
      have hv := volN_bound h s t k hs ht i hi
      have hv2 := volN_bound h s t k hs ht (i+1) (by omega)
      have hu := uz_bound h s t i k (by omega) ht
      have ed : ((h.n : Int) - 1).tdiv 2 = (h.n : Int) / 2 := by rcases hn with e | e | e <;> rw [e] <;> rfl
      have eu : max 0 (s + t * ((i : Int) - (h.n : Int) / 2) - h.fl i) = uz h s t i := by simp only [uz, Int.toNat_natCast]
      have hl := uzsN_len h s t i
      simp only [vsAll, binA, binLitA, intA, loadA, loadRow, partA, partOk, fieldAddrA, indexAddrA, lenA, cellA, cellsA, okParts, buildSliceA, partIdx, elemsA, lensA, mmA, okAll, stAll, opsA, partsA, partsOk, opA, appendA, dstOk, nilSliceOp, Nat.reduceMul, Nat.reduceLT, Nat.reduceLeDiff, Nat.reduceEqDiff, Nat.reduceBEq, Int.reduceEq, ↓reduceIte, eq_self, ne_eq, wtAll, ed, eu]
      rw [app_ints _ (uz h s t i) _ rfl]
      simp only [InR_i64]
      simp only [volN] at hv2
      refine ⟨by omega, by omega, by omega, by omega, by omega, by omega, by omega, by omega, fun j hj => ?_, by omega, by omega, by omega, by omega, loop_next (i + 1) (by omega) (by omega) ?_ ?_⟩
      · have : j = 0 := by omega
        subst this
        simp only [vsAll, cellA, okCells, eq_self]
      · simp only [vsAll, Nat.reduceEqDiff, ↓reduceIte, eq_self, uzsN_succ, volN, List.length_append, Int.natCast_add, Int.natCast_one]
      · simp only [vsAll, uzsN_succ, List.length_append, Hp.set_set]
    · have e : i = h.n := by omega
      clear hi
      subst e
      simp only [vsAll, opA, dstOk, nilSliceOp, Nat.reduceLT, Nat.reduceEqDiff, Nat.reduceBEq, ↓reduceIte, eq_self]
      refine ret_freeze2 (v := i64 (volN h s t h.n)) (by rw [Try.results37]) (by simp only [vsAll, Nat.reduceEqDiff, ↓reduceIte, eq_self]) (by simp only [vsAll, ↓reduceIte, eq_self]) ?_ (by decide) (Hp.set_same _ _ _) ⟨?_, set_del hid⟩
      · simp only [vsAll]
      · simp only [vsAll, eq_self, vol]

end Go.Proofs.Ytdeollnepclhaaa
end
section
set_option linter.unusedVariables false
set_option linter.unusedSimpArgs false
namespace Go.Proofs.Ytdeollnepclhaaa
open Go.V
theorem uz_congr {g h : Hd} (hn : g.n = h.n) (hf : g.fl = h.fl) (s t p : Int) : uz g s t p = uz h s t p := by simp only [uz, hn, hf]
theorem volN_congr {g h : Hd} (hn : g.n = h.n) (hf : g.fl = h.fl) (s t : Int) (i : Nat) : volN g s t i = volN h s t i := by
  induction i with
  | zero => rfl
  | succ i ih => simp only [volN, ih, uz_congr hn hf]
theorem hzF_congr {g h : Hd} (hn : g.n = h.n) (hf : g.fl = h.fl) (w t : Int) (f : Nat) (s : Int) : hzF g w t f s = hzF h w t f s := by
  induction f generalizing s with
  | zero => rfl
  | succ f ih =>
    have e : vol g (s + 1) t = vol h (s + 1) t := by simp only [vol, volN_congr hn hf, hn]
    rw [hzF, hzF, e, ih]
theorem dz_congr {g h : Hd} (hn : g.n = h.n) (hf : g.fl = h.fl) (w t p : Int) : dz g w t p = dz h w t p := by
  simp only [dz, hz, hzF_congr hn hf, uz_congr hn hf]
theorem rightB_congr {g h : Hd} (hn : g.n = h.n) (hf : g.fl = h.fl) (s : Sd) (w t : Int) : rightB g s w t = rightB h s w t := by
  simp only [rightB, dz_congr hn hf]

theorem uz_nn (h : Hd) (s t p : Int) : 0 ≤ uz h s t p := by simp only [uz]; omega
theorem volN_nn (h : Hd) (s t : Int) (i : Nat) : 0 ≤ volN h s t i := by
  induction i with
  | zero => exact Int.le_refl _
  | succ i ih => have := uz_nn h s t i; simp only [volN]; omega
theorem volN_one (h : Hd) (s t : Int) (p i : Nat) (hp : p < i) : uz h s t p ≤ volN h s t i := by
  induction i with
  | zero => omega
  | succ i ih =>
    have h1 := uz_nn h s t i
    have h2 := volN_nn h s t i
    simp only [volN]
    by_cases e : p = i
    · subst e; omega
    · have := ih (by omega); omega
theorem volN_two (h : Hd) (s t : Int) (p q i : Nat) (hpq : p < q) (hq : q < i) : uz h s t p + uz h s t q ≤ volN h s t i := by
  induction i with
  | zero => omega
  | succ i ih =>
    have h1 := uz_nn h s t i
    simp only [volN]
    by_cases e : q = i
    · subst e; have := volN_one h s t p q hpq; omega
    · have := ih (by omega); omega
theorem uz_near {h : Hd} (k : HOk h) (s : Int) {t : Int} (ht : -2 ≤ t ∧ t ≤ 2) {p q : Nat} (hp : p < h.n) (hq : q < h.n) (hpq : q = p + 1 ∨ p = q + 1) : uz h s t p ≤ uz h s t q + 11 := by
  have h1 := k.f p hp
  have h2 := k.f q hq
  simp only [uz, Int.toNat_natCast]
  have : t * ((p : Int) - (h.n : Int) / 2) ≤ t * ((q : Int) - (h.n : Int) / 2) + 2 := by
    rcases hpq with e | e
    · rw [e, show ((p + 1 : Nat) : Int) - (h.n : Int) / 2 = ((p : Int) - (h.n : Int) / 2) + 1 by omega, Int.mul_add, Int.mul_one]; omega
    · rw [e, show ((q + 1 : Nat) : Int) - (h.n : Int) / 2 = ((q : Int) - (h.n : Int) / 2) + 1 by omega, Int.mul_add, Int.mul_one]; omega
  omega
/-- So little water is nowhere too deep for a rod. -/
theorem dz_rod {h : Hd} (k : HOk h) {w t p : Int} (hw : 0 ≤ w ∧ w ≤ 59) (ht : -2 ≤ t ∧ t ≤ 2) (hp : 0 ≤ p ∧ p < h.n) : 0 ≤ dz h w t p ∧ dz h w t p ≤ 38 := by
  refine ⟨uz_nn _ _ _ _, ?_⟩
  obtain ⟨_, _, h3, _⟩ := hz_spec h w t k ht (by omega)
  have hn := k.n
  obtain ⟨q, rfl⟩ : ∃ q : Nat, p = (q : Int) := ⟨p.toNat, by omega⟩
  show uz h (hz h w t) t q ≤ 38
  unfold vol at h3
  by_cases e : q + 1 < h.n
  · have h4 := uz_near k (hz h w t) ht (p := q) (q := q + 1) (by omega) e (.inl rfl)
    have h5 := volN_two h (hz h w t) t q (q + 1) h.n (by omega) e
    omega
  · have h4 := uz_near k (hz h w t) ht (p := q) (q := q - 1) (by omega) (by omega) (.inr (by omega))
    have h5 := volN_two h (hz h w t) t (q - 1) q h.n (by omega) (by omega)
    omega

def mkH (L : List Int) (SL : List Sd) : Hd := ⟨L.length, fun p => L.getD p 0, SL.length, fun i => SL.getD i sd0⟩
/-- A truth, of which the soundings are right. -/
structure MadeP (h : Hd) (w : Int) (ls : List Int) : Prop where
  ok : HOk h
  water : 0 ≤ w ∧ w ≤ 59
  len : ls.length = h.m
  right : ∀ i, i < h.m → (-2 ≤ ls.getD i 0 ∧ ls.getD i 0 ≤ 2) ∧ rightB h (h.sd i) w (ls.getD i 0) = true
theorem made_nil {L : List Int} (hn : L.length = 3 ∨ L.length = 5 ∨ L.length = 7) (hL : ∀ p, p < L.length → 0 ≤ L.getD p 0 ∧ L.getD p 0 ≤ 9) {w : Int} (hw : 0 ≤ w ∧ w ≤ 59) : MadeP (mkH L []) w [] :=
  ⟨⟨hn, Nat.zero_le _, hL, fun i hi => absurd hi (Nat.not_lt_zero _), fun i hi => absurd hi (Nat.not_lt_zero _), fun i hi => absurd hi (Nat.not_lt_zero _)⟩, hw, rfl, fun i hi => absurd hi (Nat.not_lt_zero _)⟩
theorem made_snoc {L : List Int} {SL : List Sd} {w : Int} {ls : List Int} (h : MadeP (mkH L SL) w ls) {x : Sd} {t : Int} (hm : SL.length < 6) (hx : 0 ≤ x.w ∧ x.w < L.length) (hl : -2 ≤ x.a ∧ x.a ≤ x.b ∧ x.b ≤ 2)
    (hr : 0 ≤ x.c ∧ x.c ≤ x.d ∧ x.d ≤ 40) (ht : -2 ≤ t ∧ t ≤ 2) (hR : rightB (mkH L SL) x w t = true) : MadeP (mkH L (SL ++ [x])) w (ls ++ [t]) := by
  have hlen : ls.length = SL.length := h.len
  have hlen2 : (SL ++ [x]).length = SL.length + 1 := by simp
  have key : ∀ i, i < SL.length + 1 → (i = SL.length ∧ (SL ++ [x]).getD i sd0 = x) ∨ (i < SL.length ∧ (SL ++ [x]).getD i sd0 = SL.getD i sd0) := fun i hi => by
    rw [getD_snoc]
    by_cases e : i = SL.length
    · exact .inl ⟨e, if_pos e⟩
    · exact .inr ⟨by omega, if_neg e⟩
  refine ⟨⟨h.ok.n, by show (SL ++ [x]).length ≤ 6; omega, h.ok.f, fun i hi => ?_, fun i hi => ?_, fun i hi => ?_⟩, h.water, by show (ls ++ [t]).length = (SL ++ [x]).length; simp; exact hlen, fun i hi => ?_⟩
  all_goals (have hi2 : i < SL.length + 1 := by have : i < (SL ++ [x]).length := hi; omega)
  · show 0 ≤ ((SL ++ [x]).getD i sd0).w ∧ ((SL ++ [x]).getD i sd0).w < L.length
    rcases key i hi2 with ⟨_, e⟩ | ⟨hj, e⟩ <;> rw [e]
    · exact hx
    · exact h.ok.w i hj
  · show -2 ≤ ((SL ++ [x]).getD i sd0).a ∧ ((SL ++ [x]).getD i sd0).a ≤ ((SL ++ [x]).getD i sd0).b ∧ ((SL ++ [x]).getD i sd0).b ≤ 2
    rcases key i hi2 with ⟨_, e⟩ | ⟨hj, e⟩ <;> rw [e]
    · exact hl
    · exact h.ok.l i hj
  · show 0 ≤ ((SL ++ [x]).getD i sd0).c ∧ ((SL ++ [x]).getD i sd0).c ≤ ((SL ++ [x]).getD i sd0).d ∧ ((SL ++ [x]).getD i sd0).d ≤ 40
    rcases key i hi2 with ⟨_, e⟩ | ⟨hj, e⟩ <;> rw [e]
    · exact hr
    · exact h.ok.r i hj
  · show (-2 ≤ (ls ++ [t]).getD i 0 ∧ (ls ++ [t]).getD i 0 ≤ 2) ∧ rightB (mkH L (SL ++ [x])) ((SL ++ [x]).getD i sd0) w ((ls ++ [t]).getD i 0) = true
    rw [rightB_congr (g := mkH L (SL ++ [x])) (h := mkH L SL) rfl rfl]
    rcases key i hi2 with ⟨e0, e⟩ | ⟨hj, e⟩ <;> rw [e, getD_snoc]
    · rw [if_pos (by omega)]; exact ⟨ht, hR⟩
    · rw [if_neg (by omega)]; exact h.right i hj

end Go.Proofs.Ytdeollnepclhaaa
end
section
set_option linter.unusedVariables false
set_option linter.unusedSimpArgs false
set_option maxHeartbeats 4000000
set_option maxRecDepth 100000
namespace Go.Proofs.Ytdeollnepclhaaa
open Go.V
abbrev drawAV (i5 N : Nat) (b : Nat → Int) : AV := .func (.func 93) [] [.ref i5 0 1 0 0, .rptr 1 1 (fun _ => [.rsl N 1 (byF b)]) 0 0]
theorem lmade_walk (N : Nat) (b : Nat → Int) (H : Hp) (hN : N ≤ 9223372036854775807) (hb : ∀ i, i < N → 0 ≤ b i ∧ b i ≤ 65535) :
    Tri Try.prog (fnA 38) [.rsl N 1 (byF b)] H (fun r H' => ∃ (L : List Int) (SL : List Sd) (w : Int) (ls : List Int) (iS iL : Nat), MadeP (mkH L SL) w ls ∧ (iS ≠ iL ∧ H iS = none ∧ H iL = none) ∧
      r = .ret (.tuple [.agg [flAV L.length fun p => L.getD p 0, .sl iS 5 SL.length], i64 w, .sl iL 1 SL.length]) ∧ H' = (H.set iS (.row 5 SL.length (sdsF SL))).set iL (.row 1 SL.length (intF ls))) := by
  refine Tri.drop ?_
  refine tri_v0 (mset [4]) Try.func38 (by kernel_rfl) rfl (by simp only [List.length_append, List.length_cons, List.length_nil, Try.ntmps38]; decide) ?_
  simp only [vsAll, boxA, cellA, cellsA, okAll, stAll, opsA, opA, allocA, newCells, okCells, storeObj, dstOk, nilA, nilSliceOp, argFr, Nat.reduceAdd, Nat.reduceLT, Nat.reduceEqDiff, Nat.reduceBEq, Int.reduceNeg, ↓reduceIte, eq_self, ne_eq, wtAll, Try.ntmps38]
  intro i2 hh_i2; (try simp only [Hp.set_none, ite_none] at hh_i2); intro iL hh_iL; (try simp only [ite_none] at hh_iL); intro i5 hh_i5; (try simp only [ite_none] at hh_i5)
  rw [Hp.set_set]
  have dr : ∀ (n : Int) (a : Nat) (X : Hp), 1 ≤ n ∧ n ≤ 1000 → a ≤ 1000 → X i5 = some (.box 1 1 fun _ => [i64 a]) → Tri Try.prog (drawAV i5 N b) [i64 n] X (drawR i5 a n X) := fun n a X h1 h2 h3 => ldraw_tri N b i5 a n X hN hb h1 h2 h3
  refine callK (dr 3 0 _ (by ((try clear hh_i2); (try clear hh_iL); (try clear hh_i5); omega)) (by ((try clear hh_i2); (try clear hh_iL); (try clear hh_i5); omega)) (by simp only [vsAll, ↓reduceIte, eq_self]; try rfl)) ?_
  rintro r H' ⟨v, hv, rfl, rfl⟩
  simp only [vsAll, binA, binLitA, intA, opA, dstOk, Nat.reduceLT, Int.reduceNeg, ↓reduceIte, eq_self]
  simp only [InR_i64]
  refine ⟨by ((try clear hh_i2); (try clear hh_iL); (try clear hh_i5); omega), by ((try clear hh_i2); (try clear hh_iL); (try clear hh_i5); omega), ?_⟩
  rw [Hp.set_set]
  refine vs_entL (Ent.nilBox 1 (intF []) (fun id _ => [.sl id 1 0, .lit (.slice none 0 0)]) (j := i2) (st' := 2) (n' := 1) (g := fun _ => [.lit (.slice none 0 0), .lit (.slice none 0 0)]) (by simp only [vsAll, ↓reduceIte, eq_self, hh_iL, hh_i5]) (fun _ _ _ => rfl) (fun id q d hq hd => ?_) fun iF hF => ?_)
  · match d, hd with
    | 0, _ => exact .hit
    | 1, _ => exact .rfl
  simp only [Hp.set_none] at hF
  skip
  refine vs_loop (σ := List Int × Nat) (fun x => (x.1.length : Int) ≤ 3 + 2 * v ∧ (∀ p, p < x.1.length → 0 ≤ x.1.getD p 0 ∧ x.1.getD p 0 ≤ 9) ∧ x.2 ≤ 10 + x.1.length)
    (fun x => [(2, .ref i2 0 2 0 0), (4, .sl iL 1 0), (6, drawAV i5 N b), (18, i64 (3 + 2 * v)), (19, i64 x.1.length)])
    (fun x => (((H.set iL (.row 1 0 (intF []))).set i5 (.box 1 1 fun _ => [i64 x.2])).set iF (.row 1 x.1.length (intF x.1))).set i2 (.box 2 1 fun _ => [.sl iF 1 x.1.length, .lit (.slice none 0 0)])) (fun x => 20 - x.1.length) ([], 1) ⟨by simp; ((try clear hh_i2); (try clear hh_iL); (try clear hh_i5); (try clear hF); omega), fun p hp => by simp at hp, by ((try clear hh_i2); (try clear hh_iL); (try clear hh_i5); (try clear hF); omega)⟩ ?_ ?_ fun ⟨L, a⟩ hi => ?_
  · simp only [vsAll, Nat.reduceEqDiff, ↓reduceIte, eq_self, Int.natCast_zero]
  · refine HSub_put_eq (by simp only [vsAll, ↓reduceIte, eq_self]; try rfl) (HSub_put (o' := .row 1 0 (intF [])) (by simp only [vsAll, ↓reduceIte, eq_self, hF]) (row0_le _ _ _) (HSub_put_eq (by simp only [vsAll, ↓reduceIte, eq_self, hh_i5, hF]; try rfl) (HSub_put (o' := .row 1 0 fun _ => []) (by simp only [vsAll, ↓reduceIte, eq_self, hh_iL, hh_i5, hF]) (row0_le _ _ _) ?_)))
    (repeat (first | exact HSub_rfl | refine HSub_put_eq (by simp only [vsAll, binA, binLitA, intA, aggA, boolA, nilA2, isConst, unA, loadA, loadRow, partA, partOk, fieldAddrA, indexAddrA, indexA, fieldA, extractA, lenA, nilCheckA, boxA, cellA, cellsA, fillA, okParts, buildSliceA, buildMutA, makeSliceA, partIdx, elemsA, lensA, ifaceA, convA, mmA, pickA, okAll, stAll, opsA, partsA, partsOk, opA, allocA, boxMutA, newCells, okCells, storeObj, appendA, guardV, taA, nM, mapUpA, lookA, sliceA, boundsA, opO, okO, copyA, dstOk, nilA, quietOk, nilSliceOp, panA, resA, argFr, retA.eq_1, retA.eq_2, Nat.reduceAdd, Nat.reduceSub, Nat.reduceMul, Nat.reduceLT, Nat.reduceLeDiff, Nat.reduceEqDiff, Nat.reduceBEq, Int.reduceAdd, Int.reduceSub, Int.reduceMul, Int.reduceNeg, Int.reduceLE, Int.reduceLT, Int.reduceEq, Int.reduceNe, Int.reduceToNat, ↓reduceIte, reduceCtorEq, implies_true, forall_const, eq_self, ne_eq, wtAll, Try.ntmps38, Try.results38, hh_i2, hh_iL, hh_i5, hF]) ?_ | refine HSub_drop2 (by simp only [eq_self, hh_i2, hh_iL, hh_i5, hF]) ?_ | refine HSub_keep_eq (by simp only [vsAll, binA, binLitA, intA, aggA, boolA, nilA2, isConst, unA, loadA, loadRow, partA, partOk, fieldAddrA, indexAddrA, indexA, fieldA, extractA, lenA, nilCheckA, boxA, cellA, cellsA, fillA, okParts, buildSliceA, buildMutA, makeSliceA, partIdx, elemsA, lensA, ifaceA, convA, mmA, pickA, okAll, stAll, opsA, partsA, partsOk, opA, allocA, boxMutA, newCells, okCells, storeObj, appendA, guardV, taA, nM, mapUpA, lookA, sliceA, boundsA, opO, okO, copyA, dstOk, nilA, quietOk, nilSliceOp, panA, resA, argFr, retA.eq_1, retA.eq_2, Nat.reduceAdd, Nat.reduceSub, Nat.reduceMul, Nat.reduceLT, Nat.reduceLeDiff, Nat.reduceEqDiff, Nat.reduceBEq, Int.reduceAdd, Int.reduceSub, Int.reduceMul, Int.reduceNeg, Int.reduceLE, Int.reduceLT, Int.reduceEq, Int.reduceNe, Int.reduceToNat, ↓reduceIte, reduceCtorEq, implies_true, forall_const, eq_self, ne_eq, wtAll, Try.ntmps38, Try.results38, hh_i2, hh_iL, hh_i5, hF]) ?_))
  · obtain ⟨h1, h2, h3⟩ := hi
    simp only [] at h1 h2 h3
    simp only [vsAll, binA, binLitA, intA, opA, dstOk, Nat.reduceLT, Nat.reduceEqDiff, Int.reduceNeg, ↓reduceIte, eq_self]
    refine condD (fun hd => ?_) (fun hd => ?_)
    · simp only [vsAll, Int.reduceNeg]
      refine vs_draw2 [0, 0, 0, 1, 2, 3, 4, 5] [([0, 1, 2], [1], 3), ([4], [], 5), ([6], [], 7)] [] (by decide +kernel) ?_
      simp only [vsAll, loadA, loadRow, partA, partOk, fieldAddrA, okAll, stAll, opsA, opA, dstOk, Nat.reduceLT, Nat.reduceEqDiff, Int.reduceNeg, ↓reduceIte, eq_self, wtAll]
      refine callK (dr 10 a _ (by ((try clear hh_i2); (try clear hh_iL); (try clear hh_i5); (try clear hF); omega)) (by ((try clear hh_i2); (try clear hh_iL); (try clear hh_i5); (try clear hF); omega)) (by simp only [vsAll, ↓reduceIte, eq_self, hh_i5, hF]; try rfl)) ?_
      rintro r H' ⟨f, hf, rfl, rfl⟩
      simp only [vsAll, binA, binLitA, intA, loadA, loadRow, partA, partOk, fieldAddrA, cellA, cellsA, okParts, buildSliceA, partIdx, elemsA, lensA, partsA, partsOk, opA, newCells, okCells, storeObj, appendA, dstOk, Nat.reduceMul, Nat.reduceLT, Nat.reduceLeDiff, Nat.reduceEqDiff, Int.reduceNeg, ↓reduceIte, eq_self, wtAll, hh_i5, hF]
      rw [app_ints _ f _ rfl]
      refine ⟨fun j hj => by (have : j = 0 := by ((try clear hh_i2); (try clear hh_iL); (try clear hh_i5); (try clear hF); omega)); subst this; simp only [vsAll, cellA, okCells, eq_self], by ((try clear hh_i2); (try clear hh_iL); (try clear hh_i5); (try clear hF); omega), by ((try clear hh_i2); (try clear hh_iL); (try clear hh_i5); (try clear hF); omega), by simp only [InR_i64]; ((try clear hh_i2); (try clear hh_iL); (try clear hh_i5); (try clear hF); omega), loop_next (L ++ [f], a + 1) ⟨by simp only [List.length_append, List.length_cons, List.length_nil]; ((try clear hh_i2); (try clear hh_iL); (try clear hh_i5); (try clear hF); omega), fun p hp => ?_, by simp only [List.length_append, List.length_cons, List.length_nil]; ((try clear hh_i2); (try clear hh_iL); (try clear hh_i5); (try clear hF); omega)⟩ (by simp only [List.length_append, List.length_cons, List.length_nil]; ((try clear hh_i2); (try clear hh_iL); (try clear hh_i5); (try clear hF); omega)) ?_ ?_⟩
      · simp only [List.length_append, List.length_cons, List.length_nil] at hp ⊢
        rw [getD_snoc]
        split
        · ((try clear hh_i2); (try clear hh_iL); (try clear hh_i5); (try clear hF); omega)
        · exact h2 p (by ((try clear hh_i2); (try clear hh_iL); (try clear hh_i5); (try clear hF); omega))
      · simp only [vsAll, Nat.reduceEqDiff, ↓reduceIte, eq_self, List.length_append, Int.natCast_add, Int.natCast_one]
      · simp only [List.length_append, List.length_cons, List.length_nil, Nat.zero_add]
        (repeat (first | exact HSub_rfl | refine HSub_put_eq (by simp only [vsAll, ↓reduceIte, eq_self, hh_iL, hh_i5, hF]) ?_ | refine HSub_drop2 (by simp only [eq_self, hh_i2, hh_iL, hh_i5, hF]) ?_ | refine HSub_keep_eq (by simp only [vsAll, binA, binLitA, intA, aggA, boolA, nilA2, isConst, unA, loadA, loadRow, partA, partOk, fieldAddrA, indexAddrA, indexA, fieldA, extractA, lenA, nilCheckA, boxA, cellA, cellsA, fillA, okParts, buildSliceA, buildMutA, makeSliceA, partIdx, elemsA, lensA, ifaceA, convA, mmA, pickA, okAll, stAll, opsA, partsA, partsOk, opA, allocA, boxMutA, newCells, okCells, storeObj, appendA, guardV, taA, nM, mapUpA, lookA, sliceA, boundsA, opO, okO, copyA, dstOk, nilA, quietOk, nilSliceOp, panA, resA, argFr, retA.eq_1, retA.eq_2, Nat.reduceAdd, Nat.reduceSub, Nat.reduceMul, Nat.reduceLT, Nat.reduceLeDiff, Nat.reduceEqDiff, Nat.reduceBEq, Int.reduceAdd, Int.reduceSub, Int.reduceMul, Int.reduceNeg, Int.reduceLE, Int.reduceLT, Int.reduceEq, Int.reduceNe, Int.reduceToNat, ↓reduceIte, reduceCtorEq, implies_true, forall_const, eq_self, ne_eq, wtAll, Try.ntmps38, Try.results38, hh_i2, hh_iL, hh_i5, hF]) ?_))
    · have hn : L.length = 3 ∨ L.length = 5 ∨ L.length = 7 := by ((try clear hh_i2); (try clear hh_iL); (try clear hh_i5); (try clear hF); omega)
      simp only [vsAll, okAll, stAll, opsA, opA, dstOk, Nat.reduceLT, Nat.reduceEqDiff, Int.reduceNeg, ↓reduceIte, eq_self]
      refine callK (dr 60 a _ (by ((try clear hh_i2); (try clear hh_iL); (try clear hh_i5); (try clear hF); omega)) (by ((try clear hh_i2); (try clear hh_iL); (try clear hh_i5); (try clear hF); omega)) (by simp only [vsAll, ↓reduceIte, eq_self, hh_i5, hF]; try rfl)) ?_
      rintro r H' ⟨w, hw, rfl, rfl⟩
      simp only [vsAll, okAll, stAll, opsA, opA, dstOk, nilSliceOp, Nat.reduceLT, Nat.reduceEqDiff, Nat.reduceBEq, Int.reduceNeg, ↓reduceIte, eq_self]
      refine callK (dr 7 (a + 1) _ (by ((try clear hh_i2); (try clear hh_iL); (try clear hh_i5); (try clear hF); omega)) (by ((try clear hh_i2); (try clear hh_iL); (try clear hh_i5); (try clear hF); omega)) (by simp only [vsAll, ↓reduceIte, eq_self]; try rfl)) ?_
      rintro r H' ⟨M, hM, rfl, rfl⟩
      simp only [vsAll, opA, dstOk, Nat.reduceLT, Int.reduceNeg, eq_self]
      refine vs_entL (Ent.freezeBox (id := iF) (st := 1) (n := L.length) (f := intF L) (j := i2) (st' := 2) (n' := 1) (g := fun _ => [.sl iF 1 L.length, .lit (.slice none 0 0)]) (g' := fun _ => [.rsl L.length 1 (intF L), .lit (.slice none 0 0)]) (by simp only [vsAll, ↓reduceIte, eq_self, hF]; try rfl) (by simp only [vsAll, ↓reduceIte, eq_self, hh_i5]; try rfl) (fun t => .rfl) (fun _ _ => rfl) (fun q d hq hd => ?_) ?_)
      · match d, hd with
        | 0, _ => exact .hit
        | 1, _ => exact .rfl
      refine vs_entL (Ent.weak (H' := ((H.set iL (.row 1 0 (intF []))).set i5 (.box 1 1 fun _ => [i64 ((a + 1 + 1 : Nat) : Int)])).set i2 (.box 2 1 fun _ => [.rsl L.length 1 (intF L), .lit (.slice none 0 0)])) (fun _ => AV.Le.of_eq rfl) ?_ ?_)
      · refine HSub_put_eq (Hp.set_same _ _ _) (HSub_put_eq (by simp only [vsAll, ↓reduceIte, eq_self, hh_i5, hF, Hp.del_get]; try rfl) (HSub_put_eq (by simp only [vsAll, ↓reduceIte, eq_self, hh_iL, hh_i5, hF, Hp.del_get]; try rfl) ?_))
        intro x o hx
        have y2 : x ≠ i2 := fun e => by rw [e, hh_i2] at hx; cases hx
        have yL : x ≠ iL := fun e => by rw [e, hh_iL.2] at hx; cases hx
        have y5 : x ≠ i5 := fun e => by rw [e, hh_i5.2.2] at hx; cases hx
        have yF : x ≠ iF := fun e => by
          have hF0 : H iF = none := by simp only [hF]
          rw [e, hF0] at hx; cases hx
        refine ⟨o, ?_, .refl _⟩
        rw [Hp.set_ne _ _ y2, Hp.del_ne _ yF, Hp.set_ne _ _ y5, Hp.set_ne _ _ y5, Hp.set_ne _ _ y2, Hp.set_ne _ _ yF, Hp.set_ne _ _ y5, Hp.set_ne _ _ yL]
        exact hx
      refine vs_entL (Ent.nilBox 5 (sdsF []) (fun id _ => [.rsl L.length 1 (intF L), .sl id 5 0]) (j := i2) (st' := 2) (n' := 1) (g := fun _ => [.rsl L.length 1 (intF L), .lit (.slice none 0 0)]) (Hp.set_same _ _ _) (fun _ _ _ => rfl) (fun id q d hq hd => ?_) fun iS hS => ?_)
      · match d, hd with
        | 0, _ => exact .rfl
        | 1, _ => exact .hit
      simp only [Hp.set_none] at hS
      skip
      refine vs_loop (σ := List Sd × List Int × Nat) (fun x => (x.1.length : Int) ≤ M ∧ MadeP (mkH L x.1) w x.2.1 ∧ x.2.2 ≤ 40 + 10 * x.1.length)
        (fun x => [(2, .ref i2 0 2 0 0), (3, i64 w), (4, .sl iL 1 x.1.length), (6, drawAV i5 N b), (32, i64 M), (33, i64 x.1.length)])
        (fun x => (((H.set iL (.row 1 x.1.length (intF x.2.1))).set i5 (.box 1 1 fun _ => [i64 x.2.2])).set iS (.row 5 x.1.length (sdsF x.1))).set i2 (.box 2 1 fun _ => [.rsl L.length 1 (intF L), .sl iS 5 x.1.length])) (fun x => 10 - x.1.length) ([], [], a + 1 + 1) ⟨by simp; ((try clear hh_i2); (try clear hh_iL); (try clear hh_i5); (try clear hF); (try clear hS); omega), made_nil hn h2 (by ((try clear hh_i2); (try clear hh_iL); (try clear hh_i5); (try clear hF); (try clear hS); omega)), by simp only [List.length_nil]; ((try clear hh_i2); (try clear hh_iL); (try clear hh_i5); (try clear hF); (try clear hS); omega)⟩ ?_ ?_ fun ⟨SL, ls, a2⟩ hi => ?_
      · simp only [vsAll, Nat.reduceEqDiff, ↓reduceIte, eq_self, Int.natCast_zero]
      · refine HSub_put_eq (by simp only [vsAll, ↓reduceIte, eq_self]; try rfl) (HSub_put (o' := .row 5 0 (sdsF [])) (by simp only [vsAll, ↓reduceIte, eq_self, hS]) (row0_le _ _ _) (HSub_put_eq (by simp only [vsAll, ↓reduceIte, eq_self, hh_i5, hS]; try rfl) (HSub_put (o' := .row 1 0 (intF [])) (by simp only [vsAll, ↓reduceIte, eq_self, hh_iL, hh_i5, hS]) (row0_le _ _ _) ?_)))
        (repeat (first | exact HSub_rfl | refine HSub_put_eq (by simp only [vsAll, binA, binLitA, intA, aggA, boolA, nilA2, isConst, unA, loadA, loadRow, partA, partOk, fieldAddrA, indexAddrA, indexA, fieldA, extractA, lenA, nilCheckA, boxA, cellA, cellsA, fillA, okParts, buildSliceA, buildMutA, makeSliceA, partIdx, elemsA, lensA, ifaceA, convA, mmA, pickA, okAll, stAll, opsA, partsA, partsOk, opA, allocA, boxMutA, newCells, okCells, storeObj, appendA, guardV, taA, nM, mapUpA, lookA, sliceA, boundsA, opO, okO, copyA, dstOk, nilA, quietOk, nilSliceOp, panA, resA, argFr, retA.eq_1, retA.eq_2, Nat.reduceAdd, Nat.reduceSub, Nat.reduceMul, Nat.reduceLT, Nat.reduceLeDiff, Nat.reduceEqDiff, Nat.reduceBEq, Int.reduceAdd, Int.reduceSub, Int.reduceMul, Int.reduceNeg, Int.reduceLE, Int.reduceLT, Int.reduceEq, Int.reduceNe, Int.reduceToNat, ↓reduceIte, reduceCtorEq, implies_true, forall_const, eq_self, ne_eq, wtAll, Try.ntmps38, Try.results38, hh_i2, hh_iL, hh_i5, hF, hS]) ?_ | refine HSub_drop2 (by simp only [eq_self, hh_i2, hh_iL, hh_i5, hS]) ?_ | refine HSub_keep_eq (by simp only [vsAll, binA, binLitA, intA, aggA, boolA, nilA2, isConst, unA, loadA, loadRow, partA, partOk, fieldAddrA, indexAddrA, indexA, fieldA, extractA, lenA, nilCheckA, boxA, cellA, cellsA, fillA, okParts, buildSliceA, buildMutA, makeSliceA, partIdx, elemsA, lensA, ifaceA, convA, mmA, pickA, okAll, stAll, opsA, partsA, partsOk, opA, allocA, boxMutA, newCells, okCells, storeObj, appendA, guardV, taA, nM, mapUpA, lookA, sliceA, boundsA, opO, okO, copyA, dstOk, nilA, quietOk, nilSliceOp, panA, resA, argFr, retA.eq_1, retA.eq_2, Nat.reduceAdd, Nat.reduceSub, Nat.reduceMul, Nat.reduceLT, Nat.reduceLeDiff, Nat.reduceEqDiff, Nat.reduceBEq, Int.reduceAdd, Int.reduceSub, Int.reduceMul, Int.reduceNeg, Int.reduceLE, Int.reduceLT, Int.reduceEq, Int.reduceNe, Int.reduceToNat, ↓reduceIte, reduceCtorEq, implies_true, forall_const, eq_self, ne_eq, wtAll, Try.ntmps38, Try.results38, hh_i2, hh_iL, hh_i5, hF, hS]) ?_))
      · obtain ⟨g1, g2, g3⟩ := hi
        simp only [] at g1 g2 g3
        have gl : ls.length = SL.length := g2.len
        simp only [vsAll, binA, binLitA, intA, opA, dstOk, Nat.reduceLT, Nat.reduceEqDiff, Int.reduceNeg, ↓reduceIte, eq_self]
        refine condD (fun hd2 => ?_) (fun hd2 => ?_)
        · simp only [vsAll, Int.reduceNeg]
          refine vs_draw2 [0, 1, 2, 0, 0, 0, 0, 3, 4, 4] [([0, 3, 4, 5, 6], [5], 1), ([2], [], 7)] [8, 9] (by decide +kernel) ?_
          simp only [vsAll, loadA, loadRow, partA, partOk, fieldAddrA, lenA, okAll, stAll, opsA, opA, dstOk, Nat.reduceLT, Nat.reduceEqDiff, Int.reduceNeg, ↓reduceIte, eq_self, wtAll]
          refine callK (dr 5 a2 _ (by ((try clear hh_i2); (try clear hh_iL); (try clear hh_i5); (try clear hF); (try clear hS); omega)) (by ((try clear hh_i2); (try clear hh_iL); (try clear hh_i5); (try clear hF); (try clear hS); omega)) (by simp only [vsAll, ↓reduceIte, eq_self, hh_i5, hS]; try rfl)) ?_
          rintro r H' ⟨u, hu, rfl, rfl⟩
          simp only [vsAll, binA, binLitA, intA, loadA, loadRow, partA, partOk, okAll, stAll, opsA, opA, dstOk, Nat.reduceLT, Nat.reduceEqDiff, Int.reduceNeg, ↓reduceIte, eq_self, wtAll, hh_i5]
          refine ⟨by simp only [InR_i64]; ((try clear hh_i2); (try clear hh_iL); (try clear hh_i5); (try clear hF); (try clear hS); omega), ?_⟩
          refine callK (dr L.length (a2 + 1) _ (by ((try clear hh_i2); (try clear hh_iL); (try clear hh_i5); (try clear hF); (try clear hS); omega)) (by ((try clear hh_i2); (try clear hh_iL); (try clear hh_i5); (try clear hF); (try clear hS); omega)) (by simp only [vsAll, ↓reduceIte, eq_self]; try rfl)) ?_
          rintro r H' ⟨p, hp, rfl, rfl⟩
          simp only [vsAll, opA, dstOk, nilSliceOp, Nat.reduceLT, Nat.reduceEqDiff, Nat.reduceBEq, Int.reduceNeg, ↓reduceIte, eq_self]
          generalize ht0 : u - 2 = t at *
          have ht : -2 ≤ t ∧ t ≤ 2 := by ((try clear hh_i2); (try clear hh_iL); (try clear hh_i5); (try clear hF); (try clear hS); omega)
          have k := g2.ok
          have hnL : (mkH L SL).n = L.length := rfl
          have hwo := g2.water
          have v0 := vol_low (mkH L SL) (-20) t k ht (by ((try clear hh_i2); (try clear hh_iL); (try clear hh_i5); (try clear hF); (try clear hS); omega))
          refine vs_loop (σ := Int) (fun s => (-20 ≤ s ∧ s ≤ 110) ∧ vol (mkH L SL) s t ≤ w)
            (fun s => [(2, .ref i2 0 2 0 0), (3, i64 w), (4, .sl iL 1 SL.length), (6, drawAV i5 N b), (7, i64 t), (8, i64 p), (9, i64 s), (32, i64 M), (33, i64 SL.length)])
            (fun _ => (((H.set iL (.row 1 SL.length (intF ls))).set i5 (.box 1 1 fun _ => [i64 ((a2 + 1 + 1 : Nat) : Int)])).set iS (.row 5 SL.length (sdsF SL))).set i2 (.box 2 1 fun _ => [.rsl L.length 1 (intF L), .sl iS 5 SL.length])) (fun s => (200 - s).toNat) (-20) ⟨by ((try clear hh_i2); (try clear hh_iL); (try clear hh_i5); (try clear hF); (try clear hS); omega), by ((try clear hh_i2); (try clear hh_iL); (try clear hh_i5); (try clear hF); (try clear hS); omega)⟩ ?_ ?_ fun s hs => ?_
          · simp only [vsAll, Nat.reduceEqDiff, Int.reduceNeg, ↓reduceIte, eq_self]
          · (repeat (first | exact HSub_rfl | refine HSub_put_eq (by simp only [vsAll, ↓reduceIte, eq_self, hh_iL, hh_i5, hS]) ?_ | refine HSub_drop2 (by simp only [eq_self, hh_i2, hh_iL, hh_i5, hS]) ?_ | refine HSub_keep_eq (by simp only [vsAll, binA, binLitA, intA, aggA, boolA, nilA2, isConst, unA, loadA, loadRow, partA, partOk, fieldAddrA, indexAddrA, indexA, fieldA, extractA, lenA, nilCheckA, boxA, cellA, cellsA, fillA, okParts, buildSliceA, buildMutA, makeSliceA, partIdx, elemsA, lensA, ifaceA, convA, mmA, pickA, okAll, stAll, opsA, partsA, partsOk, opA, allocA, boxMutA, newCells, okCells, storeObj, appendA, guardV, taA, nM, mapUpA, lookA, sliceA, boundsA, opO, okO, copyA, dstOk, nilA, quietOk, nilSliceOp, panA, resA, argFr, retA.eq_1, retA.eq_2, Nat.reduceAdd, Nat.reduceSub, Nat.reduceMul, Nat.reduceLT, Nat.reduceLeDiff, Nat.reduceEqDiff, Nat.reduceBEq, Int.reduceAdd, Int.reduceSub, Int.reduceMul, Int.reduceNeg, Int.reduceLE, Int.reduceLT, Int.reduceEq, Int.reduceNe, Int.reduceToNat, ↓reduceIte, reduceCtorEq, implies_true, forall_const, eq_self, ne_eq, wtAll, Try.ntmps38, Try.results38, hh_i2, hh_iL, hh_i5, hF, hS]) ?_))
          · obtain ⟨hs1, hs2⟩ := hs
            simp only [vsAll, binA, binLitA, intA, loadA, loadRow, partA, partOk, okAll, stAll, opsA, opA, dstOk, Nat.reduceLT, Nat.reduceEqDiff, Int.reduceNeg, ↓reduceIte, eq_self, wtAll]
            refine ⟨by simp only [InR_i64]; ((try clear hh_i2); (try clear hh_iL); (try clear hh_i5); (try clear hF); (try clear hS); omega), ?_⟩
            refine callK_pure (lunder2_tri (mkH L SL) (s + 1) t iS SL.length _ k (by ((try clear hh_i2); (try clear hh_iL); (try clear hh_i5); (try clear hF); (try clear hS); omega)) ht) ?_
            simp only [vsAll, binA, binLitA, intA, extractA, opA, dstOk, nilSliceOp, Nat.reduceAdd, Nat.reduceLT, Nat.reduceEqDiff, Nat.reduceBEq, Int.reduceNeg, ↓reduceIte, eq_self]
            refine condD (fun hd3 => ?_) (fun hd3 => ?_)
            · have es := hz_unique (mkH L SL) w t s k ht (by ((try clear hh_i2); (try clear hh_iL); (try clear hh_i5); (try clear hF); (try clear hS); omega)) hs2 (by ((try clear hh_i2); (try clear hh_iL); (try clear hh_i5); (try clear hF); (try clear hS); omega))
              have el := uzsN_at (h := mkH L SL) (s := s) (t := t) (n := L.length) (i := p.toNat) (by ((try clear hh_i2); (try clear hh_iL); (try clear hh_i5); (try clear hF); (try clear hS); omega))
              rw [show ((p.toNat : Nat) : Int) = p by ((try clear hh_i2); (try clear hh_iL); (try clear hh_i5); (try clear hF); (try clear hS); omega)] at el
              have ell := uzsN_len (mkH L SL) s t L.length
              have ez : uz (mkH L SL) s t p = dz (mkH L SL) w t p := by rw [es]; rfl
              rw [ez] at el
              simp only [vsAll, loadA, loadRow, partA, partOk, okAll, stAll, opsA, opA, dstOk, Nat.reduceLT, Nat.reduceEqDiff, Int.reduceNeg, ↓reduceIte, eq_self, wtAll]
              refine callK_pure (lunder2_tri (mkH L SL) s t iS SL.length _ k (by ((try clear hh_i2); (try clear hh_iL); (try clear hh_i5); (try clear hF); (try clear hS); omega)) ht) ?_
              simp only [vsAll, extractA, opA, dstOk, nilSliceOp, Nat.reduceAdd, Nat.reduceLT, Nat.reduceEqDiff, Nat.reduceBEq, Int.reduceNeg, ↓reduceIte, eq_self]
              refine vs_draw2 [0, 0, 0, 0, 0, 1, 2, 2, 0, 0, 3, 4, 4, 4, 0, 0, 0, 0, 0, 5, 6, 6, 0, 0, 0, 0, 0, 7, 8, 8, 8, 8, 8, 9, 10, 11] [([0, 1, 2, 3, 4, 8, 9, 14, 15, 16, 17, 18, 22, 23, 24, 25, 26], [1, 17, 25], 5), ([6, 7], [1, 17, 25], 10), ([11, 12, 13], [1, 17, 25], 19), ([20, 21], [1, 17, 25], 27), ([28, 29, 30, 31, 32], [], 33), ([34], [], 35)] [] (by decide +kernel) ?_
              have hlen : (uzsN (mkH L SL) s t (mkH L SL).n).length = L.length := uzsN_len _ _ _ _
              have el2 : (uzsN (mkH L SL) s t (mkH L SL).n).getD p.toNat 0 = dz (mkH L SL) w t p := el
              have hz2 := dz_rod k (w := w) (t := t) (p := p) (by ((try clear hh_i2); (try clear hh_iL); (try clear hh_i5); (try clear hF); (try clear hS); omega)) ht hp
              clear el ell
              generalize uzsN (mkH L SL) s t (mkH L SL).n = U at *
              simp only [vsAll, loadA, loadRow, partA, partOk, fieldAddrA, indexAddrA, okAll, stAll, opsA, opA, dstOk, Nat.reduceLT, Nat.reduceEqDiff, Int.reduceNeg, ↓reduceIte, eq_self, wtAll, intF_at, hlen, el2]
              refine ⟨hp, by ((try clear hh_i2); (try clear hh_iL); (try clear hh_i5); (try clear hF); (try clear hS); omega), hp, by ((try clear hh_i2); (try clear hh_iL); (try clear hh_i5); (try clear hF); (try clear hS); omega), ?_⟩
              refine callK (dr 2 (a2 + 1 + 1) _ (by ((try clear hh_i2); (try clear hh_iL); (try clear hh_i5); (try clear hF); (try clear hS); omega)) (by ((try clear hh_i2); (try clear hh_iL); (try clear hh_i5); (try clear hF); (try clear hS); omega)) (by simp only [vsAll, ↓reduceIte, eq_self, hh_i5, hS]; try rfl)) ?_
              rintro r H' ⟨d1, hd1, rfl, rfl⟩
              simp only [vsAll, binA, binLitA, intA, loadA, loadRow, partA, partOk, mmA, okAll, stAll, opsA, opA, dstOk, Nat.reduceLT, Nat.reduceEqDiff, Int.reduceNeg, ↓reduceIte, eq_self, wtAll, hh_i5, intF_at, el2]
              refine ⟨by ((try clear hh_i2); (try clear hh_iL); (try clear hh_i5); (try clear hF); (try clear hS); omega), by simp only [InR_i64]; ((try clear hh_i2); (try clear hh_iL); (try clear hh_i5); (try clear hF); (try clear hS); omega), ?_⟩
              refine callK (dr 2 (a2 + 1 + 1 + 1) _ (by ((try clear hh_i2); (try clear hh_iL); (try clear hh_i5); (try clear hF); (try clear hS); omega)) (by ((try clear hh_i2); (try clear hh_iL); (try clear hh_i5); (try clear hF); (try clear hS); omega)) (by simp only [vsAll, ↓reduceIte, eq_self]; try rfl)) ?_
              rintro r H' ⟨d2, hd2, rfl, rfl⟩
              simp only [vsAll, binA, binLitA, intA, loadA, loadRow, partA, partOk, mmA, okAll, stAll, opsA, opA, dstOk, Nat.reduceLT, Nat.reduceEqDiff, Int.reduceNeg, ↓reduceIte, eq_self, wtAll, hh_i5, intF_at, el2]
              refine ⟨by ((try clear hh_i2); (try clear hh_iL); (try clear hh_i5); (try clear hF); (try clear hS); omega), by simp only [InR_i64]; ((try clear hh_i2); (try clear hh_iL); (try clear hh_i5); (try clear hF); (try clear hS); omega), ?_⟩
              refine qcall _ ⟨trivial, by simp only [vsAll, okAll, opsA, opA, Nat.reduceEqDiff, Int.reduceNeg, ↓reduceIte, eq_self], lspan_tri _ _ _⟩ ?_
              simp only [vsAll, okAll, stAll, opsA, opA, dstOk, Nat.reduceLT, Nat.reduceEqDiff, Int.reduceNeg, ↓reduceIte, eq_self]
              refine callK (dr 3 (a2 + 1 + 1 + 1 + 1) _ (by ((try clear hh_i2); (try clear hh_iL); (try clear hh_i5); (try clear hF); (try clear hS); omega)) (by ((try clear hh_i2); (try clear hh_iL); (try clear hh_i5); (try clear hF); (try clear hS); omega)) (by simp only [vsAll, ↓reduceIte, eq_self]; try rfl)) ?_
              rintro r H' ⟨d3, hd3, rfl, rfl⟩
              simp only [vsAll, binA, binLitA, intA, loadA, loadRow, partA, partOk, mmA, okAll, stAll, opsA, opA, dstOk, Nat.reduceLT, Nat.reduceEqDiff, Int.reduceNeg, ↓reduceIte, eq_self, wtAll, hh_i5, intF_at, el2]
              refine ⟨by ((try clear hh_i2); (try clear hh_iL); (try clear hh_i5); (try clear hF); (try clear hS); omega), by simp only [InR_i64]; ((try clear hh_i2); (try clear hh_iL); (try clear hh_i5); (try clear hF); (try clear hS); omega), ?_⟩
              refine callK (dr 3 (a2 + 1 + 1 + 1 + 1 + 1) _ (by ((try clear hh_i2); (try clear hh_iL); (try clear hh_i5); (try clear hF); (try clear hS); omega)) (by ((try clear hh_i2); (try clear hh_iL); (try clear hh_i5); (try clear hF); (try clear hS); omega)) (by simp only [vsAll, ↓reduceIte, eq_self]; try rfl)) ?_
              rintro r H' ⟨d4, hd4, rfl, rfl⟩
              simp only [vsAll, binA, binLitA, intA, loadA, loadRow, partA, partOk, mmA, okAll, stAll, opsA, opA, dstOk, Nat.reduceLT, Nat.reduceEqDiff, Int.reduceNeg, ↓reduceIte, eq_self, wtAll, hh_i5, intF_at, el2]
              refine ⟨by ((try clear hh_i2); (try clear hh_iL); (try clear hh_i5); (try clear hF); (try clear hS); omega), by simp only [InR_i64]; ((try clear hh_i2); (try clear hh_iL); (try clear hh_i5); (try clear hF); (try clear hS); omega), ?_⟩
              refine qcall _ ⟨trivial, by simp only [vsAll, okAll, opsA, opA, Nat.reduceEqDiff, Int.reduceNeg, ↓reduceIte, eq_self], lspan_tri _ _ _⟩ ?_
              simp only [vsAll, dstOk, Nat.reduceLT, Int.reduceNeg, eq_self]
              refine qcall _ ⟨trivial, by simp only [vsAll, okAll, opsA, opA, Nat.reduceEqDiff, Int.reduceNeg, ↓reduceIte, eq_self], lsounding_tri _ _ _ _ _ _⟩ ?_
              simp only [vsAll, binA, binLitA, intA, fieldAddrA, cellA, cellsA, okParts, buildSliceA, partIdx, elemsA, lensA, partsA, partsOk, opA, newCells, okCells, storeObj, appendA, dstOk, nilSliceOp, Nat.reduceAdd, Nat.reduceMul, Nat.reduceLT, Nat.reduceLeDiff, Nat.reduceEqDiff, Nat.reduceBEq, Int.reduceNeg, ↓reduceIte, eq_self, wtAll, hh_iL, hh_i5, hS]
              have hmx : SL.length < 6 := by ((try clear hh_i2); (try clear hh_iL); (try clear hh_i5); (try clear hF); (try clear hS); omega)
              have hP : MadeP (mkH L (SL ++ [⟨p, max (-2) (t - d1), min 2 (t + d2), max 0 (dz (mkH L SL) w t p - d3), min 40 (dz (mkH L SL) w t p + d4)⟩])) w (ls ++ [t]) :=
                made_snoc g2 hmx (by exact hp) (by simp only []; ((try clear hh_i2); (try clear hh_iL); (try clear hh_i5); (try clear hF); (try clear hS); omega)) (by simp only []; ((try clear hh_i2); (try clear hh_iL); (try clear hh_i5); (try clear hF); (try clear hS); omega)) ht (rightB_iff.2 ⟨by simp only []; ((try clear hh_i2); (try clear hh_iL); (try clear hh_i5); (try clear hF); (try clear hS); omega), by simp only []; ((try clear hh_i2); (try clear hh_iL); (try clear hh_i5); (try clear hF); (try clear hS); omega)⟩)
              generalize hX : (⟨p, max (-2) (t - d1), min 2 (t + d2), max 0 (dz (mkH L SL) w t p - d3), min 40 (dz (mkH L SL) w t p + d4)⟩ : Sd) = X at *
              refine ⟨fun j hj => by (have : j = 0 := by ((try clear hh_i2); (try clear hh_iL); (try clear hh_i5); (try clear hF); (try clear hS); omega)); subst this; simp only [vsAll, cellA, okCells, eq_self], by ((try clear hh_i2); (try clear hh_iL); (try clear hh_i5); (try clear hF); (try clear hS); omega), by ((try clear hh_i2); (try clear hh_iL); (try clear hh_i5); (try clear hF); (try clear hS); omega), fun j hj => by (have : j = 0 := by ((try clear hh_i2); (try clear hh_iL); (try clear hh_i5); (try clear hF); (try clear hS); omega)); subst this; simp only [vsAll, cellA, okCells, eq_self], by ((try clear hh_i2); (try clear hh_iL); (try clear hh_i5); (try clear hF); (try clear hS); omega), by ((try clear hh_i2); (try clear hh_iL); (try clear hh_i5); (try clear hF); (try clear hS); omega), by simp only [InR_i64]; ((try clear hh_i2); (try clear hh_iL); (try clear hh_i5); (try clear hF); (try clear hS); omega),
                loop_next (SL ++ [X], ls ++ [t], a2 + 6) ⟨by simp only [List.length_append, List.length_cons, List.length_nil]; ((try clear hh_i2); (try clear hh_iL); (try clear hh_i5); (try clear hF); (try clear hS); omega), hP, by simp only [List.length_append, List.length_cons, List.length_nil]; ((try clear hh_i2); (try clear hh_iL); (try clear hh_i5); (try clear hF); (try clear hS); omega)⟩ (by simp only [List.length_append, List.length_cons, List.length_nil]; ((try clear hh_i2); (try clear hh_iL); (try clear hh_i5); (try clear hF); (try clear hS); omega)) ?_ ?_⟩
              · simp only [vsAll, Nat.reduceEqDiff, Int.reduceNeg, ↓reduceIte, eq_self, List.length_append, Int.natCast_add, Int.natCast_one]
              · simp only [List.length_append, List.length_cons, List.length_nil, Nat.zero_add]
                refine HSub_put_eq (by simp only [vsAll, ↓reduceIte, eq_self, hh_iL]; try rfl) (HSub_put (o' := .row 5 (SL.length + 1) _) (by simp only [vsAll, ↓reduceIte, eq_self, hS]; try rfl) (Obj.Le.row fun j hj => ?_) (HSub_put_eq (by simp only [vsAll, ↓reduceIte, eq_self, hh_i5, hS]; try rfl) (HSub_put (o' := .row 1 (SL.length + 1) _) (by simp only [vsAll, ↓reduceIte, eq_self]; try rfl) (Obj.Le.row fun j hj => ?_) ?_)))
                · rw [appF_at (by ((try clear hh_i2); (try clear hh_iL); (try clear hh_i5); (try clear hF); (try clear hS); omega))]
                  simp only [sdsF, getD_snoc]
                  by_cases e : j = SL.length
                  · rw [if_neg (by ((try clear hh_i2); (try clear hh_iL); (try clear hh_i5); (try clear hF); (try clear hS); omega)), if_pos e, e, Nat.sub_self]; rfl
                  · rw [if_pos (by ((try clear hh_i2); (try clear hh_iL); (try clear hh_i5); (try clear hF); (try clear hS); omega)), if_neg e]
                · rw [appF_at (by ((try clear hh_i2); (try clear hh_iL); (try clear hh_i5); (try clear hF); (try clear hS); omega))]
                  simp only [intF, getD_snoc, gl]
                  by_cases e : j = SL.length
                  · rw [if_neg (by ((try clear hh_i2); (try clear hh_iL); (try clear hh_i5); (try clear hF); (try clear hS); omega)), if_pos e, e, Nat.sub_self]; rfl
                  · rw [if_pos (by ((try clear hh_i2); (try clear hh_iL); (try clear hh_i5); (try clear hF); (try clear hS); omega)), if_neg e]
                · (repeat (first | exact HSub_rfl | refine HSub_put_eq (by simp only [vsAll, binA, binLitA, intA, aggA, boolA, nilA2, isConst, unA, loadA, loadRow, partA, partOk, fieldAddrA, indexAddrA, indexA, fieldA, extractA, lenA, nilCheckA, boxA, cellA, cellsA, fillA, okParts, buildSliceA, buildMutA, makeSliceA, partIdx, elemsA, lensA, ifaceA, convA, mmA, pickA, okAll, stAll, opsA, partsA, partsOk, opA, allocA, boxMutA, newCells, okCells, storeObj, appendA, guardV, taA, nM, mapUpA, lookA, sliceA, boundsA, opO, okO, copyA, dstOk, nilA, quietOk, nilSliceOp, panA, resA, argFr, retA.eq_1, retA.eq_2, Nat.reduceAdd, Nat.reduceSub, Nat.reduceMul, Nat.reduceLT, Nat.reduceLeDiff, Nat.reduceEqDiff, Nat.reduceBEq, Int.reduceAdd, Int.reduceSub, Int.reduceMul, Int.reduceNeg, Int.reduceLE, Int.reduceLT, Int.reduceEq, Int.reduceNe, Int.reduceToNat, ↓reduceIte, reduceCtorEq, implies_true, forall_const, eq_self, ne_eq, wtAll, Try.ntmps38, Try.results38, hh_i2, hh_iL, hh_i5, hF, hS]) ?_ | refine HSub_drop2 (by simp only [eq_self, hh_i2, hh_iL, hh_i5, hS]) ?_ | refine HSub_keep_eq (by simp only [vsAll, binA, binLitA, intA, aggA, boolA, nilA2, isConst, unA, loadA, loadRow, partA, partOk, fieldAddrA, indexAddrA, indexA, fieldA, extractA, lenA, nilCheckA, boxA, cellA, cellsA, fillA, okParts, buildSliceA, buildMutA, makeSliceA, partIdx, elemsA, lensA, ifaceA, convA, mmA, pickA, okAll, stAll, opsA, partsA, partsOk, opA, allocA, boxMutA, newCells, okCells, storeObj, appendA, guardV, taA, nM, mapUpA, lookA, sliceA, boundsA, opO, okO, copyA, dstOk, nilA, quietOk, nilSliceOp, panA, resA, argFr, retA.eq_1, retA.eq_2, Nat.reduceAdd, Nat.reduceSub, Nat.reduceMul, Nat.reduceLT, Nat.reduceLeDiff, Nat.reduceEqDiff, Nat.reduceBEq, Int.reduceAdd, Int.reduceSub, Int.reduceMul, Int.reduceNeg, Int.reduceLE, Int.reduceLT, Int.reduceEq, Int.reduceNe, Int.reduceToNat, ↓reduceIte, reduceCtorEq, implies_true, forall_const, eq_self, ne_eq, wtAll, Try.ntmps38, Try.results38, hh_i2, hh_iL, hh_i5, hF, hS]) ?_))
            · simp only [vsAll, binA, binLitA, intA, opA, dstOk, nilSliceOp, Nat.reduceLT, Nat.reduceEqDiff, Nat.reduceBEq, Int.reduceNeg, ↓reduceIte, eq_self]
              have hu2 : s + 1 ≤ 110 := by
                obtain ⟨_, b1, _, b2⟩ := hz_spec (mkH L SL) w t k ht (by ((try clear hh_i2); (try clear hh_iL); (try clear hh_i5); (try clear hF); (try clear hS); omega))
                apply Classical.byContradiction; intro hcc
                have := vol_mono (mkH L SL) (hz (mkH L SL) w t + 1) (s + 1) t (by ((try clear hh_i2); (try clear hh_iL); (try clear hh_i5); (try clear hF); (try clear hS); omega))
                ((try clear hh_i2); (try clear hh_iL); (try clear hh_i5); (try clear hF); (try clear hS); omega)
              refine ⟨by simp only [InR_i64]; ((try clear hh_i2); (try clear hh_iL); (try clear hh_i5); (try clear hF); (try clear hS); omega), loop_next (s + 1) ⟨by ((try clear hh_i2); (try clear hh_iL); (try clear hh_i5); (try clear hF); (try clear hS); omega), by ((try clear hh_i2); (try clear hh_iL); (try clear hh_i5); (try clear hF); (try clear hS); omega)⟩ (by ((try clear hh_i2); (try clear hh_iL); (try clear hh_i5); (try clear hF); (try clear hS); omega)) ?_ ?_⟩
              · simp only [vsAll, Nat.reduceEqDiff, ↓reduceIte, eq_self]
              · (repeat (first | exact HSub_rfl | refine HSub_put_eq (by simp only [vsAll, binA, binLitA, intA, aggA, boolA, nilA2, isConst, unA, loadA, loadRow, partA, partOk, fieldAddrA, indexAddrA, indexA, fieldA, extractA, lenA, nilCheckA, boxA, cellA, cellsA, fillA, okParts, buildSliceA, buildMutA, makeSliceA, partIdx, elemsA, lensA, ifaceA, convA, mmA, pickA, okAll, stAll, opsA, partsA, partsOk, opA, allocA, boxMutA, newCells, okCells, storeObj, appendA, guardV, taA, nM, mapUpA, lookA, sliceA, boundsA, opO, okO, copyA, dstOk, nilA, quietOk, nilSliceOp, panA, resA, argFr, retA.eq_1, retA.eq_2, Nat.reduceAdd, Nat.reduceSub, Nat.reduceMul, Nat.reduceLT, Nat.reduceLeDiff, Nat.reduceEqDiff, Nat.reduceBEq, Int.reduceAdd, Int.reduceSub, Int.reduceMul, Int.reduceNeg, Int.reduceLE, Int.reduceLT, Int.reduceEq, Int.reduceNe, Int.reduceToNat, ↓reduceIte, reduceCtorEq, implies_true, forall_const, eq_self, ne_eq, wtAll, Try.ntmps38, Try.results38, hh_i2, hh_iL, hh_i5, hF, hS]) ?_ | refine HSub_drop2 (by simp only [vsAll, binA, binLitA, intA, aggA, boolA, nilA2, isConst, unA, loadA, loadRow, partA, partOk, fieldAddrA, indexAddrA, indexA, fieldA, extractA, lenA, nilCheckA, boxA, cellA, cellsA, fillA, okParts, buildSliceA, buildMutA, makeSliceA, partIdx, elemsA, lensA, ifaceA, convA, mmA, pickA, okAll, stAll, opsA, partsA, partsOk, opA, allocA, boxMutA, newCells, okCells, storeObj, appendA, guardV, taA, nM, mapUpA, lookA, sliceA, boundsA, opO, okO, copyA, dstOk, nilA, quietOk, nilSliceOp, panA, resA, argFr, retA.eq_1, retA.eq_2, Nat.reduceAdd, Nat.reduceSub, Nat.reduceMul, Nat.reduceLT, Nat.reduceLeDiff, Nat.reduceEqDiff, Nat.reduceBEq, Int.reduceAdd, Int.reduceSub, Int.reduceMul, Int.reduceNeg, Int.reduceLE, Int.reduceLT, Int.reduceEq, Int.reduceNe, Int.reduceToNat, ↓reduceIte, reduceCtorEq, implies_true, forall_const, eq_self, ne_eq, wtAll, Try.ntmps38, Try.results38, hh_i2, hh_iL, hh_i5, hF, hS]) ?_ | refine HSub_keep_eq (by simp only [vsAll, binA, binLitA, intA, aggA, boolA, nilA2, isConst, unA, loadA, loadRow, partA, partOk, fieldAddrA, indexAddrA, indexA, fieldA, extractA, lenA, nilCheckA, boxA, cellA, cellsA, fillA, okParts, buildSliceA, buildMutA, makeSliceA, partIdx, elemsA, lensA, ifaceA, convA, mmA, pickA, okAll, stAll, opsA, partsA, partsOk, opA, allocA, boxMutA, newCells, okCells, storeObj, appendA, guardV, taA, nM, mapUpA, lookA, sliceA, boundsA, opO, okO, copyA, dstOk, nilA, quietOk, nilSliceOp, panA, resA, argFr, retA.eq_1, retA.eq_2, Nat.reduceAdd, Nat.reduceSub, Nat.reduceMul, Nat.reduceLT, Nat.reduceLeDiff, Nat.reduceEqDiff, Nat.reduceBEq, Int.reduceAdd, Int.reduceSub, Int.reduceMul, Int.reduceNeg, Int.reduceLE, Int.reduceLT, Int.reduceEq, Int.reduceNe, Int.reduceToNat, ↓reduceIte, reduceCtorEq, implies_true, forall_const, eq_self, ne_eq, wtAll, Try.ntmps38, Try.results38, hh_i2, hh_iL, hh_i5, hF, hS]) ?_))
        · have eM : M = SL.length := by ((try clear hh_i2); (try clear hh_iL); (try clear hh_i5); (try clear hF); (try clear hS); omega)
          simp only [vsAll, loadA, loadRow, partA, partOk, cellA, cellsA, opA, newCells, okCells, storeObj, dstOk, nilSliceOp, resA, retA.eq_2, Nat.reduceAdd, Nat.reduceLT, Nat.reduceEqDiff, Nat.reduceBEq, Int.reduceNeg, ↓reduceIte, eq_self, wtAll, Try.results38]
          refine ⟨_, ?_, L, SL, w, ls, iS, iL, g2, ⟨by simp only [vsAll, hS], by simp only [eq_self, hS], by simp only [eq_self, hh_iL]⟩, rfl, rfl⟩
          (repeat (first | exact HSub_rfl | refine HSub_put_eq (by simp only [vsAll, ↓reduceIte, eq_self, hh_iL, hh_i5, hS]) ?_ | refine HSub_drop2 (by simp only [eq_self, hh_i2, hh_iL, hh_i5, hS]) ?_ | refine HSub_keep_eq (by simp only [vsAll, binA, binLitA, intA, aggA, boolA, nilA2, isConst, unA, loadA, loadRow, partA, partOk, fieldAddrA, indexAddrA, indexA, fieldA, extractA, lenA, nilCheckA, boxA, cellA, cellsA, fillA, okParts, buildSliceA, buildMutA, makeSliceA, partIdx, elemsA, lensA, ifaceA, convA, mmA, pickA, okAll, stAll, opsA, partsA, partsOk, opA, allocA, boxMutA, newCells, okCells, storeObj, appendA, guardV, taA, nM, mapUpA, lookA, sliceA, boundsA, opO, okO, copyA, dstOk, nilA, quietOk, nilSliceOp, panA, resA, argFr, retA.eq_1, retA.eq_2, Nat.reduceAdd, Nat.reduceSub, Nat.reduceMul, Nat.reduceLT, Nat.reduceLeDiff, Nat.reduceEqDiff, Nat.reduceBEq, Int.reduceAdd, Int.reduceSub, Int.reduceMul, Int.reduceNeg, Int.reduceLE, Int.reduceLT, Int.reduceEq, Int.reduceNe, Int.reduceToNat, ↓reduceIte, reduceCtorEq, implies_true, forall_const, eq_self, ne_eq, wtAll, Try.ntmps38, Try.results38, hh_i2, hh_iL, hh_i5, hF, hS]) ?_))

/-- A truth is made. -/
def madeR (H : Hp) : Res → Hp → Prop := fun r H' => ∃ (h : Hd) (w : Int) (ls : List Int), MadeP h w ls ∧ r = .ret (.tuple [h.av, i64 w, intsAV ls]) ∧ H' = H
theorem lmade_tri (N : Nat) (b : Nat → Int) (H : Hp) (hN : N ≤ 9223372036854775807) (hb : ∀ i, i < N → 0 ≤ b i ∧ b i ≤ 65535) : Tri Try.prog (fnA 38) [.rsl N 1 (byF b)] H (madeR H) := by
  refine Tri.thawD (R1 := fun r H' => ∃ (L : List Int) (SL : List Sd) (w : Int) (ls : List Int) (iL : Nat), MadeP (mkH L SL) w ls ∧ H iL = none ∧
      r = .ret (.tuple [(mkH L SL).av, i64 w, .sl iL 1 SL.length]) ∧ H' = H.set iL (.row 1 SL.length (intF ls))) (Tri.thawD (lmade_walk N b H hN hb) ?_) ?_
  · rintro r H' ⟨L, SL, w, ls, iS, iL, hP, ⟨h1, h2, h3⟩, rfl, rfl⟩
    right
    refine ⟨_, .tuple [(mkH L SL).av, i64 w, .sl iL 1 SL.length], iS, 5, SL.length, sdsF SL, rfl, by rw [Hp.set_ne _ _ h1, Hp.set_same], ?_, L, SL, w, ls, iL, hP, h3, rfl, ?_⟩
    · refine .tuple rfl fun k hk => ?_
      match k, hk with
      | 0, _ =>
        refine .agg rfl fun k hk => ?_
        match k, hk with
        | 0, _ => exact .same _
        | 1, _ => exact .hit fun i hi => rfl
      | 1, _ => exact .same _
      | 2, _ => exact .same _
    · funext x
      simp only [Hp.del, Hp.set]
      by_cases e : x = iS
      · subst e; rw [if_pos rfl, if_neg h1, h2]
      · rw [if_neg e, if_neg e]
  · rintro r H' ⟨L, SL, w, ls, iL, hP, h3, rfl, rfl⟩
    right
    have hl : ls.length = SL.length := hP.len
    refine ⟨_, .tuple [(mkH L SL).av, i64 w, intsAV ls], iL, 1, SL.length, intF ls, rfl, Hp.set_same _ _ _, ?_, mkH L SL, w, ls, hP, rfl, set_del h3⟩
    refine .tuple rfl fun k hk => ?_
    match k, hk with
    | 0, _ => exact .same _
    | 1, _ => exact .same _
    | 2, _ => show FrzD _ _ _ _ (AV.sl iL 1 SL.length) (AV.rsl ls.length 1 (intF ls)); rw [hl]; exact .hit fun i hi => rfl

end Go.Proofs.Ytdeollnepclhaaa
end
section
set_option linter.unusedVariables false
set_option linter.unusedSimpArgs false
namespace Go.Proofs.Ytdeollnepclhaaa
open Go.V
theorem made_mem {h : Hd} {w : Int} {ls : List Int} (hP : MadeP h w ls) : ∃ W : Nat, (W : Int) = w ∧ W ∈ allA h := by
  have hw := hP.water
  refine ⟨w.toNat, by omega, mem_all.2 ⟨by omega, fun j hj => ?_⟩⟩
  obtain ⟨h1, h2⟩ := hP.right j hj
  rw [show ((w.toNat : Nat) : Int) = w by omega]
  exact anyN_iff.2 ⟨_, h1, h2⟩
theorem over_true {h : Hd} (k : HOk h) {W : Nat} (hW : W ∈ allA h) {n : Int} (hn : 0 ≤ n ∧ n ≤ 100) :
    (decide (overV h n = 2) && decide ((W : Int) ≤ n)) = false ∧ (decide (overV h n = 0) && decide (n < (W : Int))) = false ∧
    (!decide (overV h n = 2) && decide (n < ((spA h).getD 0 (0, 0)).1)) = false ∧ (!decide (overV h n = 0) && decide (((spA h).getD ((spA h).length - 1) (0, 0)).2 ≤ n)) = false := by
  have hne : 0 < (allA h).length := List.length_pos_of_mem hW
  have h1 := allA_first hW
  have h2 := allA_last hW
  have h3 := allA_last (allA_at hne)
  rw [overV_ok k hn hne, spA_first hne, (spA_last hne).2]
  generalize (allA h).getD 0 0 = a at *
  generalize (allA h).getD ((allA h).length - 1) 0 = b at *
  refine ⟨?_, ?_, ?_, ?_⟩ <;> (rw [Bool.eq_false_iff]; intro g; simp only [Bool.and_eq_true, Bool.not_eq_true', decide_eq_true_eq, decide_eq_false_iff_not] at g; obtain ⟨g1, g2⟩ := g; split at g1 <;> (try split at g1) <;> first | omega | (exact g1 rfl))
theorem lists_sorted {h : Hd} {n : Int} {y : Nat} (hy : y + 1 < (listsV h n).length) : (listsV h n).getD y 0 < (listsV h n).getD (y + 1) 0 := by
  have hp : (listsV h n).Pairwise (· < ·) := by
    unfold listsV
    split
    · simp only [lsN]
      rw [List.pairwise_map]
      exact (List.Pairwise.filter _ List.pairwise_lt_range).imp fun hab => by omega
    · exact List.Pairwise.nil
  have := List.pairwise_iff_getElem.1 hp y (y + 1) (by omega) hy (by omega)
  rw [List.getD_eq_getElem?_getD, List.getD_eq_getElem?_getD, List.getElem?_eq_getElem (by omega), List.getElem?_eq_getElem hy]
  exact this
theorem lists_in {h : Hd} {i y : Nat} (he : listsE h (i : Nat) = 0) (hy : y < (listsV h (i : Nat)).length) : (h.sd i).a ≤ (listsV h (i : Nat)).getD y 0 ∧ (listsV h (i : Nat)).getD y 0 ≤ (h.sd i).b := by
  obtain ⟨_, w, _, h2⟩ := (lists_mem he _).1 (mem_getD (listsV h (i : Nat)) y 0 hy)
  exact (rightB_iff.1 h2).1
theorem dry_bits {h : Hd} (k : HOk h) {t : Int} (ht : -2 ≤ t ∧ t ≤ 2) (hne : 0 < (allA h).length) {p : Nat} (hp : p < h.n) :
    (dryN h t h.n).1.testBit p = decide ((rodV h t p).2 = 0) ∧ (dryN h t h.n).2.testBit p = decide ((rodV h t p).1 = 0) := by
  obtain ⟨b1, b2⟩ := dryN_bit h t h.n p hp
  obtain ⟨c1, ⟨w1, a1, a2⟩, w2, a3, a4⟩ := rod_spec k ht (p := (p : Int)) (by omega) hne
  have e : dryC h t p (allA h).length = (allA h).countP fun w : Nat => decide (dz h w t p = 0) := by simp only [dryC, List.take_length]
  rw [b1, b2, e]
  have nn : ∀ w : Nat, 0 ≤ dz h w t p := fun w => uz_nn _ _ _ _
  constructor
  · rw [decide_eq_decide, List.countP_eq_length]
    constructor
    · intro q
      have := of_decide_eq_true (q w2 a3)
      omega
    · intro q w hw
      have := c1 w hw
      have := nn w
      exact decide_eq_true (by omega)
  · rw [decide_eq_decide, List.countP_pos_iff]
    constructor
    · rintro ⟨w, hw, hd⟩
      have := of_decide_eq_true hd
      have := c1 w hw
      have := nn w1
      omega
    · intro q
      exact ⟨w1, a1, decide_eq_true (by omega)⟩
theorem dry_sub {h : Hd} (k : HOk h) {t : Int} (ht : -2 ≤ t ∧ t ≤ 2) (hne : 0 < (allA h).length) : (dryN h t h.n).1 ^^^ ((dryN h t h.n).1 &&& (dryN h t h.n).2) = 0 := by
  apply Nat.eq_of_testBit_eq
  intro i
  rw [Nat.testBit_xor, Nat.testBit_and, Nat.zero_testBit]
  by_cases hi : i < h.n
  · obtain ⟨b1, b2⟩ := dry_bits k ht hne hi
    obtain ⟨c1, ⟨w1, a1, a2⟩, _⟩ := rod_spec k ht (p := (i : Int)) (by omega) hne
    have nn : 0 ≤ dz h w1 t i := uz_nn _ _ _ _
    have := c1 w1 a1
    rw [b1, b2]
    by_cases e : (rodV h t i).2 = 0
    · have e2 : (rodV h t i).1 = 0 := by omega
      simp [e, e2]
    · simp [e]
  · have := (dryN_lt h t h.n).1
    rw [Nat.testBit_lt_two_pow (Nat.lt_of_lt_of_le this (Nat.pow_le_pow_right (by decide) (by omega)))]
    simp
theorem dry_shr {h : Hd} {t : Int} : (((dryN h t h.n).2 : Nat) : Int) / 2 ^ h.n = 0 := by
  have := (dryN_lt h t h.n).2
  have e : (2 : Int) ^ h.n = ((2 ^ h.n : Nat) : Int) := by simp
  rw [e]
  exact Int.ediv_eq_zero_of_lt (by omega) (by omega)

end Go.Proofs.Ytdeollnepclhaaa
end
