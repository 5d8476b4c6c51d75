/- Helper lemmas of this claim, part 4. -/
import Derived.Test.YtliomkpmadpibaaTu3
section
set_option linter.unusedVariables false
set_option linter.unusedSimpArgs false
set_option maxHeartbeats 4000000
set_option maxRecDepth 100000
namespace Go.Proofs.Ytliomkpmadpibaa
open Go.V
theorem not_in (a b n : Int) : (!(decide (a ≤ n) && decide (n ≤ b))) = false ↔ a ≤ n ∧ n ≤ b := by
  rw [Bool.not_eq_false', Bool.and_eq_true, decide_eq_true_eq, decide_eq_true_eq]
theorem rpitch_tri (p : Pt) (H : Hp) (kn : Near p) : PTri Try.prog (fnA 70) [p.av] H (boo (decide (Ok p))) := by
  have nF := kn.nF
  have nP := kn.nP
  refine Tri.drop ?_
  refine tri_v0 (fun _ => false) Try.func70 (by kernel_rfl) rfl (by simp only [List.length_append, List.length_cons, List.length_nil, Try.ntmps70]; decide) ?_
  have fail : ¬ Ok p → decide (Ok p) = false := fun h => decide_eq_false h
  simp only [vsAll, loadA, loadRow, partA, partOk, fieldAddrA, boxA, boxZ, okAll, stAll, opsA, opA, dstOk, nilSliceOp, argFr, Nat.reduceAdd, Nat.reduceLT, Nat.reduceEqDiff, ↓reduceIte, eq_self, wtAll, Try.ntmps70]
  refine callK_pure (in_tri _ _ _ _) ?_
  simp only [vsAll, binA, binLitA, intA, unA, loadA, loadRow, partA, partOk, fieldAddrA, lenA, pickA, opA, guardV, dstOk, Nat.reduceLT, Nat.reduceEqDiff, ↓reduceIte, implies_true, eq_self, wtAll]
  refine condV (fun hc => ?_) (fun hc => ?_)
  · have hno : ¬ Ok p := fun k => by
      have := k.nF; have := k.nP; have := k.hr
      simp only [Bool.or_eq_true, Bool.and_eq_false_iff, Bool.not_eq_true', decide_eq_true_eq, decide_eq_false_iff_not] at hc
      omega
    simp only [vsAll, opA, dstOk, nilSliceOp, resA, retA.eq_1, Nat.reduceLT, ↓reduceIte, eq_self, Try.results70, fail hno]
    exact dropR_pure rfl (by (repeat (first | exact HSub_rfl | refine HSub_put_eq (by simp only [vsAll, binA, binLitA, intA, aggA, aggV, boolA, nilA2, isConst, unA, loadA, loadRow, partA, partOk, fieldAddrA, indexAddrA, indexA, fieldA, extractA, lenA, nilCheckA, boxA, boxZ, cellA, cellsA, fillA, okParts, buildSliceA, buildMutA, makeSliceA, partIdx, elemsA, lensA, ifaceA, convA, mmA, pickA, okAll, stAll, opsA, partsA, partsOk, opA, allocA, boxMutA, newCells, okCells, storeObj, appendA, guardV, taA, nM, mapUpA, lookA, sliceA, sliceS, boundsA, opO, okO, copyA, dstOk, nilA, quietOk, nilSliceOp, deferV, panA, resA, argFr, retA.eq_1, retA.eq_2, Nat.reduceAdd, Nat.reduceSub, Nat.reduceMul, Nat.reduceLT, Nat.reduceLeDiff, Nat.reduceEqDiff, Nat.reduceBEq, Int.reduceAdd, Int.reduceSub, Int.reduceMul, Int.reduceNeg, Int.reduceLE, Int.reduceLT, Int.reduceEq, Int.reduceNe, Int.reduceToNat, ↓reduceIte, reduceCtorEq, implies_true, forall_const, eq_self, ne_eq, arrL, wtAll, Try.ntmps70, Try.results70]) ?_ | refine HSub_drop2 (by simp only [vsAll, binA, binLitA, intA, aggA, aggV, boolA, nilA2, isConst, unA, loadA, loadRow, partA, partOk, fieldAddrA, indexAddrA, indexA, fieldA, extractA, lenA, nilCheckA, boxA, boxZ, cellA, cellsA, fillA, okParts, buildSliceA, buildMutA, makeSliceA, partIdx, elemsA, lensA, ifaceA, convA, mmA, pickA, okAll, stAll, opsA, partsA, partsOk, opA, allocA, boxMutA, newCells, okCells, storeObj, appendA, guardV, taA, nM, mapUpA, lookA, sliceA, sliceS, boundsA, opO, okO, copyA, dstOk, nilA, quietOk, nilSliceOp, deferV, panA, resA, argFr, retA.eq_1, retA.eq_2, Nat.reduceAdd, Nat.reduceSub, Nat.reduceMul, Nat.reduceLT, Nat.reduceLeDiff, Nat.reduceEqDiff, Nat.reduceBEq, Int.reduceAdd, Int.reduceSub, Int.reduceMul, Int.reduceNeg, Int.reduceLE, Int.reduceLT, Int.reduceEq, Int.reduceNe, Int.reduceToNat, ↓reduceIte, reduceCtorEq, implies_true, forall_const, eq_self, ne_eq, arrL, wtAll, Try.ntmps70, Try.results70]) ?_ | refine HSub_keep_eq (by simp only [vsAll, binA, binLitA, intA, aggA, aggV, boolA, nilA2, isConst, unA, loadA, loadRow, partA, partOk, fieldAddrA, indexAddrA, indexA, fieldA, extractA, lenA, nilCheckA, boxA, boxZ, cellA, cellsA, fillA, okParts, buildSliceA, buildMutA, makeSliceA, partIdx, elemsA, lensA, ifaceA, convA, mmA, pickA, okAll, stAll, opsA, partsA, partsOk, opA, allocA, boxMutA, newCells, okCells, storeObj, appendA, guardV, taA, nM, mapUpA, lookA, sliceA, sliceS, boundsA, opO, okO, copyA, dstOk, nilA, quietOk, nilSliceOp, deferV, panA, resA, argFr, retA.eq_1, retA.eq_2, Nat.reduceAdd, Nat.reduceSub, Nat.reduceMul, Nat.reduceLT, Nat.reduceLeDiff, Nat.reduceEqDiff, Nat.reduceBEq, Int.reduceAdd, Int.reduceSub, Int.reduceMul, Int.reduceNeg, Int.reduceLE, Int.reduceLT, Int.reduceEq, Int.reduceNe, Int.reduceToNat, ↓reduceIte, reduceCtorEq, implies_true, forall_const, eq_self, ne_eq, arrL, wtAll, Try.ntmps70, Try.results70]) ?_)))
  · have hN : (0 ≤ p.hr ∧ p.hr ≤ 12) ∧ p.fs.length ≤ 3 ∧ p.ps.length ≤ 4 := by
      rw [Bool.or_eq_false_iff, Bool.or_eq_false_iff, not_in, decide_eq_false_iff_not, decide_eq_false_iff_not] at hc
      omega
    have eH : (p.H : Int) = p.hr := by unfold Pt.H; omega
    have eH' : p.hr = (p.H : Int) := eH.symm
    have h12 : p.H ≤ 12 := by omega
    have hpw := pow12 h12
    have hp0 : 0 < 2 ^ p.H := Nat.two_pow_pos _
    simp only [vsAll, loadA, loadRow, partA, partOk, fieldAddrA, okAll, stAll, opsA, opA, dstOk, Nat.reduceLT, Nat.reduceEqDiff, ↓reduceIte, eq_self, wtAll, eH']
    refine callK_pure (power_tri p.H _ (by omega)) ?_
    simp only [vsAll, binA, binLitA, intA, loadA, loadRow, partA, partOk, fieldAddrA, okAll, stAll, opsA, opA, dstOk, nilSliceOp, Nat.reduceLT, Nat.reduceEqDiff, ↓reduceIte, eq_self, wtAll]
    refine ⟨by simp only [InR_i64]; omega, callK_pure (in_tri _ _ _ _) ?_⟩
    simp only [vsAll, unA, loadA, loadRow, partA, partOk, fieldAddrA, opA, guardV, dstOk, Nat.reduceLT, Nat.reduceEqDiff, ↓reduceIte, implies_true, eq_self, wtAll]
    refine gcall _ (fun g => ⟨by simp only [vsAll, opA], by simp only [vsAll, okAll, opsA, opA, Nat.reduceEqDiff, ↓reduceIte, eq_self, g], in_tri p.per 0 _ _⟩) ?_
    simp only [vsAll, unA, pickA, opA, guardV, dstOk, Nat.reduceLT, Nat.reduceEqDiff, ↓reduceIte, implies_true, eq_self]
    refine condV (fun hc2 => ?_) (fun hc2 => ?_)
    · have hno : ¬ Ok p := fun k => by
        have h1 := k.fro; have h2 := k.per
        unfold okSet at h1 h2
        rw [Bool.or_eq_true, ← Bool.not_eq_false, ← Bool.not_eq_false, not_in, not_in] at hc2
        omega
      simp only [vsAll, opA, dstOk, nilSliceOp, resA, retA.eq_1, Nat.reduceLT, ↓reduceIte, eq_self, Try.results70, fail hno]
      exact dropR_pure rfl (by (repeat (first | exact HSub_rfl | refine HSub_put_eq (by simp only [vsAll, binA, binLitA, intA, aggA, aggV, boolA, nilA2, isConst, unA, loadA, loadRow, partA, partOk, fieldAddrA, indexAddrA, indexA, fieldA, extractA, lenA, nilCheckA, boxA, boxZ, cellA, cellsA, fillA, okParts, buildSliceA, buildMutA, makeSliceA, partIdx, elemsA, lensA, ifaceA, convA, mmA, pickA, okAll, stAll, opsA, partsA, partsOk, opA, allocA, boxMutA, newCells, okCells, storeObj, appendA, guardV, taA, nM, mapUpA, lookA, sliceA, sliceS, boundsA, opO, okO, copyA, dstOk, nilA, quietOk, nilSliceOp, deferV, panA, resA, argFr, retA.eq_1, retA.eq_2, Nat.reduceAdd, Nat.reduceSub, Nat.reduceMul, Nat.reduceLT, Nat.reduceLeDiff, Nat.reduceEqDiff, Nat.reduceBEq, Int.reduceAdd, Int.reduceSub, Int.reduceMul, Int.reduceNeg, Int.reduceLE, Int.reduceLT, Int.reduceEq, Int.reduceNe, Int.reduceToNat, ↓reduceIte, reduceCtorEq, implies_true, forall_const, eq_self, ne_eq, arrL, wtAll, Try.ntmps70, Try.results70]) ?_ | refine HSub_drop2 (by simp only [vsAll, binA, binLitA, intA, aggA, aggV, boolA, nilA2, isConst, unA, loadA, loadRow, partA, partOk, fieldAddrA, indexAddrA, indexA, fieldA, extractA, lenA, nilCheckA, boxA, boxZ, cellA, cellsA, fillA, okParts, buildSliceA, buildMutA, makeSliceA, partIdx, elemsA, lensA, ifaceA, convA, mmA, pickA, okAll, stAll, opsA, partsA, partsOk, opA, allocA, boxMutA, newCells, okCells, storeObj, appendA, guardV, taA, nM, mapUpA, lookA, sliceA, sliceS, boundsA, opO, okO, copyA, dstOk, nilA, quietOk, nilSliceOp, deferV, panA, resA, argFr, retA.eq_1, retA.eq_2, Nat.reduceAdd, Nat.reduceSub, Nat.reduceMul, Nat.reduceLT, Nat.reduceLeDiff, Nat.reduceEqDiff, Nat.reduceBEq, Int.reduceAdd, Int.reduceSub, Int.reduceMul, Int.reduceNeg, Int.reduceLE, Int.reduceLT, Int.reduceEq, Int.reduceNe, Int.reduceToNat, ↓reduceIte, reduceCtorEq, implies_true, forall_const, eq_self, ne_eq, arrL, wtAll, Try.ntmps70, Try.results70]) ?_ | refine HSub_keep_eq (by simp only [vsAll, binA, binLitA, intA, aggA, aggV, boolA, nilA2, isConst, unA, loadA, loadRow, partA, partOk, fieldAddrA, indexAddrA, indexA, fieldA, extractA, lenA, nilCheckA, boxA, boxZ, cellA, cellsA, fillA, okParts, buildSliceA, buildMutA, makeSliceA, partIdx, elemsA, lensA, ifaceA, convA, mmA, pickA, okAll, stAll, opsA, partsA, partsOk, opA, allocA, boxMutA, newCells, okCells, storeObj, appendA, guardV, taA, nM, mapUpA, lookA, sliceA, sliceS, boundsA, opO, okO, copyA, dstOk, nilA, quietOk, nilSliceOp, deferV, panA, resA, argFr, retA.eq_1, retA.eq_2, Nat.reduceAdd, Nat.reduceSub, Nat.reduceMul, Nat.reduceLT, Nat.reduceLeDiff, Nat.reduceEqDiff, Nat.reduceBEq, Int.reduceAdd, Int.reduceSub, Int.reduceMul, Int.reduceNeg, Int.reduceLE, Int.reduceLT, Int.reduceEq, Int.reduceNe, Int.reduceToNat, ↓reduceIte, reduceCtorEq, implies_true, forall_const, eq_self, ne_eq, arrL, wtAll, Try.ntmps70, Try.results70]) ?_)))
    · have hS : okSet p p.fro ∧ okSet p p.per := by
        rw [Bool.or_eq_false_iff, not_in, not_in] at hc2
        unfold okSet; exact hc2
      simp only [vsAll, opA, dstOk, nilSliceOp, Nat.reduceLT, eq_self]
      refine vs_loop (σ := Nat) (fun i => i ≤ p.fs.length ∧ ∀ j, j < i → okSet p (p.fs.getD j 0)) (fun i => [(1, pptr p), (3, i64 (((2 ^ p.H : Nat) : Int) - 1)), (4, i64 i)]) (fun _ => H) (fun i => p.fs.length - i) 0 ⟨Nat.zero_le _, fun j hj => absurd hj (by omega)⟩ ?_ (HSub.refl _) fun i hi => ?_
      · simp only [vsAll, Nat.reduceEqDiff, ↓reduceIte, eq_self, Int.natCast_zero]
      · obtain ⟨hi, hall⟩ := hi
        simp only [vsAll, binA, binLitA, intA, loadA, loadRow, partA, partOk, fieldAddrA, lenA, opA, dstOk, Nat.reduceLT, Nat.reduceEqDiff, ↓reduceIte, eq_self, wtAll]
        refine condD (fun hd => ?_) (fun hd => ?_)
        · have hio : i < p.fs.length := by omega
          simp only [vsAll, loadA, loadRow, partA, partOk, fieldAddrA, indexAddrA, okAll, stAll, opsA, opA, dstOk, Nat.reduceLT, Nat.reduceEqDiff, ↓reduceIte, eq_self, wtAll, intF_at]
          refine ⟨⟨by omega, by omega⟩, hio, callK_pure (in_tri _ _ _ _) ?_⟩
          simp only [vsAll, unA, opA, dstOk, Nat.reduceLT, ↓reduceIte, eq_self]
          refine condV (fun hc3 => ?_) (fun hc3 => ?_)
          · have hno : ¬ Ok p := fun k => by
              have h1 := k.f i hio
              unfold okSet at h1
              rw [← Bool.not_eq_false, not_in] at hc3
              exact hc3 h1
            simp only [vsAll, opA, dstOk, nilSliceOp, resA, retA.eq_1, Nat.reduceLT, ↓reduceIte, eq_self, Try.results70, fail hno]
            exact dropR_pure rfl (by (repeat (first | exact HSub_rfl | refine HSub_put_eq (by simp only [vsAll, binA, binLitA, intA, aggA, aggV, boolA, nilA2, isConst, unA, loadA, loadRow, partA, partOk, fieldAddrA, indexAddrA, indexA, fieldA, extractA, lenA, nilCheckA, boxA, boxZ, cellA, cellsA, fillA, okParts, buildSliceA, buildMutA, makeSliceA, partIdx, elemsA, lensA, ifaceA, convA, mmA, pickA, okAll, stAll, opsA, partsA, partsOk, opA, allocA, boxMutA, newCells, okCells, storeObj, appendA, guardV, taA, nM, mapUpA, lookA, sliceA, sliceS, boundsA, opO, okO, copyA, dstOk, nilA, quietOk, nilSliceOp, deferV, panA, resA, argFr, retA.eq_1, retA.eq_2, Nat.reduceAdd, Nat.reduceSub, Nat.reduceMul, Nat.reduceLT, Nat.reduceLeDiff, Nat.reduceEqDiff, Nat.reduceBEq, Int.reduceAdd, Int.reduceSub, Int.reduceMul, Int.reduceNeg, Int.reduceLE, Int.reduceLT, Int.reduceEq, Int.reduceNe, Int.reduceToNat, ↓reduceIte, reduceCtorEq, implies_true, forall_const, eq_self, ne_eq, arrL, wtAll, Try.ntmps70, Try.results70]) ?_ | refine HSub_drop2 (by simp only [vsAll, binA, binLitA, intA, aggA, aggV, boolA, nilA2, isConst, unA, loadA, loadRow, partA, partOk, fieldAddrA, indexAddrA, indexA, fieldA, extractA, lenA, nilCheckA, boxA, boxZ, cellA, cellsA, fillA, okParts, buildSliceA, buildMutA, makeSliceA, partIdx, elemsA, lensA, ifaceA, convA, mmA, pickA, okAll, stAll, opsA, partsA, partsOk, opA, allocA, boxMutA, newCells, okCells, storeObj, appendA, guardV, taA, nM, mapUpA, lookA, sliceA, sliceS, boundsA, opO, okO, copyA, dstOk, nilA, quietOk, nilSliceOp, deferV, panA, resA, argFr, retA.eq_1, retA.eq_2, Nat.reduceAdd, Nat.reduceSub, Nat.reduceMul, Nat.reduceLT, Nat.reduceLeDiff, Nat.reduceEqDiff, Nat.reduceBEq, Int.reduceAdd, Int.reduceSub, Int.reduceMul, Int.reduceNeg, Int.reduceLE, Int.reduceLT, Int.reduceEq, Int.reduceNe, Int.reduceToNat, ↓reduceIte, reduceCtorEq, implies_true, forall_const, eq_self, ne_eq, arrL, wtAll, Try.ntmps70, Try.results70]) ?_ | refine HSub_keep_eq (by simp only [vsAll, binA, binLitA, intA, aggA, aggV, boolA, nilA2, isConst, unA, loadA, loadRow, partA, partOk, fieldAddrA, indexAddrA, indexA, fieldA, extractA, lenA, nilCheckA, boxA, boxZ, cellA, cellsA, fillA, okParts, buildSliceA, buildMutA, makeSliceA, partIdx, elemsA, lensA, ifaceA, convA, mmA, pickA, okAll, stAll, opsA, partsA, partsOk, opA, allocA, boxMutA, newCells, okCells, storeObj, appendA, guardV, taA, nM, mapUpA, lookA, sliceA, sliceS, boundsA, opO, okO, copyA, dstOk, nilA, quietOk, nilSliceOp, deferV, panA, resA, argFr, retA.eq_1, retA.eq_2, Nat.reduceAdd, Nat.reduceSub, Nat.reduceMul, Nat.reduceLT, Nat.reduceLeDiff, Nat.reduceEqDiff, Nat.reduceBEq, Int.reduceAdd, Int.reduceSub, Int.reduceMul, Int.reduceNeg, Int.reduceLE, Int.reduceLT, Int.reduceEq, Int.reduceNe, Int.reduceToNat, ↓reduceIte, reduceCtorEq, implies_true, forall_const, eq_self, ne_eq, arrL, wtAll, Try.ntmps70, Try.results70]) ?_)))
          · rw [not_in] at hc3
            simp only [vsAll, binA, binLitA, intA, opA, dstOk, nilSliceOp, Nat.reduceLT, Nat.reduceEqDiff, ↓reduceIte, eq_self]
            refine ⟨by simp only [InR_i64]; omega, loop_next (i + 1) ⟨by omega, fun j hj => ?_⟩ (by omega) ?_ HSub_rfl⟩
            · by_cases e : j = i
              · rw [e]; exact hc3
              · exact hall j (by omega)
            · simp only [vsAll, Nat.reduceEqDiff, ↓reduceIte, eq_self, Int.natCast_add, Int.natCast_one]
        · have ei : i = p.fs.length := by omega
          subst ei
          simp only [vsAll, opA, dstOk, nilSliceOp, Nat.reduceLT, ↓reduceIte, eq_self]
          refine vs_loop (σ := Nat) (fun i => i ≤ p.ps.length ∧ ∀ j, j < i → okP p (p.ps.getD j po0)) (fun i => [(1, pptr p), (5, i64 i)]) (fun _ => H) (fun i => p.ps.length - i) 0 ⟨Nat.zero_le _, fun j hj => absurd hj (by omega)⟩ ?_ (HSub.refl _) fun i hi2 => ?_
          · simp only [vsAll, Nat.reduceEqDiff, ↓reduceIte, eq_self, Int.natCast_zero]
          · obtain ⟨hi2, hall2⟩ := hi2
            simp only [vsAll, binA, binLitA, intA, loadA, loadRow, partA, partOk, fieldAddrA, lenA, opA, dstOk, Nat.reduceLT, Nat.reduceEqDiff, ↓reduceIte, eq_self, wtAll]
            refine condD (fun hd2 => ?_) (fun hd2 => ?_)
            · have hio : i < p.ps.length := by omega
              simp only [vsAll, loadA, loadRow, partA, partOk, fieldAddrA, indexAddrA, cellA, okAll, stAll, opsA, opA, allocA, newCells, okCells, storeObj, dstOk, Nat.reduceAdd, Nat.reduceLT, Nat.reduceEqDiff, ↓reduceIte, eq_self, wtAll, psF_at]
              refine ⟨⟨by omega, by omega⟩, hio, ?_⟩
              intro i6 hh_i6; (try simp only [Hp.set_none, ite_none] at hh_i6)
              have hle : ∀ x : Po, okP p x ↔ (!(decide (1 ≤ x.ht) && decide (x.ht ≤ 12)) || !(decide (0 ≤ x.fr) && decide (x.fr ≤ (p.H : Int))) || !(decide (0 ≤ x.bb) && decide (x.bb ≤ (p.H : Int)))) = false := fun x => by
                unfold okP
                rw [Bool.or_eq_false_iff, Bool.or_eq_false_iff, not_in, not_in, not_in]
                ((try clear hh_i6); omega)
              have hle := hle (p.ps.getD i po0)
              have hnx : okP p (p.ps.getD i po0) → ∀ j, j < i + 1 → okP p (p.ps.getD j po0) := fun h j hj => by
                by_cases e : j = i
                · rw [e]; exact h
                · exact hall2 j (by ((try clear hh_i6); omega))
              have hno : ¬ okP p (p.ps.getD i po0) → ¬ Ok p := fun h k => h (k.s i hio)
              generalize p.ps.getD i po0 = x at *
              refine callK_pure (in_tri _ _ _ _) ?_
              simp only [vsAll, unA, loadA, loadRow, partA, partOk, fieldAddrA, opA, guardV, dstOk, Nat.reduceLT, Nat.reduceEqDiff, ↓reduceIte, implies_true, eq_self, wtAll, eH']
              refine gcall _ (fun g => ⟨by simp only [vsAll, opA], by simp only [vsAll, okAll, opsA, opA, Nat.reduceEqDiff, ↓reduceIte, eq_self, g], in_tri x.fr 0 (p.H : Int) _⟩) ?_
              simp only [vsAll, unA, loadA, loadRow, partA, partOk, fieldAddrA, pickA, opA, guardV, dstOk, Nat.reduceLT, Nat.reduceEqDiff, ↓reduceIte, implies_true, eq_self, wtAll, eH']
              refine gcall _ (fun g => ⟨by simp only [vsAll, opA], by simp only [vsAll, okAll, opsA, opA, Nat.reduceEqDiff, ↓reduceIte, eq_self, g], in_tri x.bb 0 (p.H : Int) _⟩) ?_
              simp only [vsAll, unA, pickA, opA, guardV, dstOk, Nat.reduceLT, Nat.reduceEqDiff, ↓reduceIte, implies_true, eq_self]
              refine condV (fun hc2 => ?_) (fun hc2 => ?_)
              · have hn := hno (fun q => by rw [hle.1 q] at hc2; cases hc2)
                simp only [vsAll, opA, dstOk, nilSliceOp, resA, retA.eq_1, Nat.reduceLT, ↓reduceIte, eq_self, Try.results70, fail hn]
                exact dropR_pure rfl (by (repeat (first | exact HSub_rfl | refine HSub_put_eq (by simp only [vsAll, binA, binLitA, intA, aggA, aggV, boolA, nilA2, isConst, unA, loadA, loadRow, partA, partOk, fieldAddrA, indexAddrA, indexA, fieldA, extractA, lenA, nilCheckA, boxA, boxZ, cellA, cellsA, fillA, okParts, buildSliceA, buildMutA, makeSliceA, partIdx, elemsA, lensA, ifaceA, convA, mmA, pickA, okAll, stAll, opsA, partsA, partsOk, opA, allocA, boxMutA, newCells, okCells, storeObj, appendA, guardV, taA, nM, mapUpA, lookA, sliceA, sliceS, boundsA, opO, okO, copyA, dstOk, nilA, quietOk, nilSliceOp, deferV, panA, resA, argFr, retA.eq_1, retA.eq_2, Nat.reduceAdd, Nat.reduceSub, Nat.reduceMul, Nat.reduceLT, Nat.reduceLeDiff, Nat.reduceEqDiff, Nat.reduceBEq, Int.reduceAdd, Int.reduceSub, Int.reduceMul, Int.reduceNeg, Int.reduceLE, Int.reduceLT, Int.reduceEq, Int.reduceNe, Int.reduceToNat, ↓reduceIte, reduceCtorEq, implies_true, forall_const, eq_self, ne_eq, arrL, wtAll, Try.ntmps70, Try.results70, hh_i6]) ?_ | refine HSub_drop2 (by simp only [eq_self, hh_i6]) ?_ | refine HSub_keep_eq (by simp only [vsAll, binA, binLitA, intA, aggA, aggV, boolA, nilA2, isConst, unA, loadA, loadRow, partA, partOk, fieldAddrA, indexAddrA, indexA, fieldA, extractA, lenA, nilCheckA, boxA, boxZ, cellA, cellsA, fillA, okParts, buildSliceA, buildMutA, makeSliceA, partIdx, elemsA, lensA, ifaceA, convA, mmA, pickA, okAll, stAll, opsA, partsA, partsOk, opA, allocA, boxMutA, newCells, okCells, storeObj, appendA, guardV, taA, nM, mapUpA, lookA, sliceA, sliceS, boundsA, opO, okO, copyA, dstOk, nilA, quietOk, nilSliceOp, deferV, panA, resA, argFr, retA.eq_1, retA.eq_2, Nat.reduceAdd, Nat.reduceSub, Nat.reduceMul, Nat.reduceLT, Nat.reduceLeDiff, Nat.reduceEqDiff, Nat.reduceBEq, Int.reduceAdd, Int.reduceSub, Int.reduceMul, Int.reduceNeg, Int.reduceLE, Int.reduceLT, Int.reduceEq, Int.reduceNe, Int.reduceToNat, ↓reduceIte, reduceCtorEq, implies_true, forall_const, eq_self, ne_eq, arrL, wtAll, Try.ntmps70, Try.results70, hh_i6]) ?_)))
              · have hk := hle.2 hc2
                simp only [vsAll, binA, binLitA, intA, opA, dstOk, nilSliceOp, Nat.reduceLT, Nat.reduceEqDiff, ↓reduceIte, eq_self]
                refine ⟨by simp only [InR_i64]; ((try clear hh_i6); omega), loop_next (i + 1) ⟨by ((try clear hh_i6); omega), hnx hk⟩ (by ((try clear hh_i6); omega)) ?_ ?_⟩
                · simp only [vsAll, Nat.reduceEqDiff, ↓reduceIte, eq_self, Int.natCast_add, Int.natCast_one]
                · (repeat (first | exact HSub_rfl | refine HSub_put_eq (by simp only [vsAll, binA, binLitA, intA, aggA, aggV, boolA, nilA2, isConst, unA, loadA, loadRow, partA, partOk, fieldAddrA, indexAddrA, indexA, fieldA, extractA, lenA, nilCheckA, boxA, boxZ, cellA, cellsA, fillA, okParts, buildSliceA, buildMutA, makeSliceA, partIdx, elemsA, lensA, ifaceA, convA, mmA, pickA, okAll, stAll, opsA, partsA, partsOk, opA, allocA, boxMutA, newCells, okCells, storeObj, appendA, guardV, taA, nM, mapUpA, lookA, sliceA, sliceS, boundsA, opO, okO, copyA, dstOk, nilA, quietOk, nilSliceOp, deferV, panA, resA, argFr, retA.eq_1, retA.eq_2, Nat.reduceAdd, Nat.reduceSub, Nat.reduceMul, Nat.reduceLT, Nat.reduceLeDiff, Nat.reduceEqDiff, Nat.reduceBEq, Int.reduceAdd, Int.reduceSub, Int.reduceMul, Int.reduceNeg, Int.reduceLE, Int.reduceLT, Int.reduceEq, Int.reduceNe, Int.reduceToNat, ↓reduceIte, reduceCtorEq, implies_true, forall_const, eq_self, ne_eq, arrL, wtAll, Try.ntmps70, Try.results70, hh_i6]) ?_ | refine HSub_drop2 (by simp only [eq_self, hh_i6]) ?_ | refine HSub_keep_eq (by simp only [vsAll, binA, binLitA, intA, aggA, aggV, boolA, nilA2, isConst, unA, loadA, loadRow, partA, partOk, fieldAddrA, indexAddrA, indexA, fieldA, extractA, lenA, nilCheckA, boxA, boxZ, cellA, cellsA, fillA, okParts, buildSliceA, buildMutA, makeSliceA, partIdx, elemsA, lensA, ifaceA, convA, mmA, pickA, okAll, stAll, opsA, partsA, partsOk, opA, allocA, boxMutA, newCells, okCells, storeObj, appendA, guardV, taA, nM, mapUpA, lookA, sliceA, sliceS, boundsA, opO, okO, copyA, dstOk, nilA, quietOk, nilSliceOp, deferV, panA, resA, argFr, retA.eq_1, retA.eq_2, Nat.reduceAdd, Nat.reduceSub, Nat.reduceMul, Nat.reduceLT, Nat.reduceLeDiff, Nat.reduceEqDiff, Nat.reduceBEq, Int.reduceAdd, Int.reduceSub, Int.reduceMul, Int.reduceNeg, Int.reduceLE, Int.reduceLT, Int.reduceEq, Int.reduceNe, Int.reduceToNat, ↓reduceIte, reduceCtorEq, implies_true, forall_const, eq_self, ne_eq, arrL, wtAll, Try.ntmps70, Try.results70, hh_i6]) ?_))
            · have ei : i = p.ps.length := by omega
              have hk : decide (Ok p) = true := decide_eq_true ((ok_iff p).2 ⟨hN, hS, hall, by rw [← ei]; exact hall2⟩)
              simp only [vsAll, opA, dstOk, nilSliceOp, resA, retA.eq_1, Nat.reduceLT, ↓reduceIte, eq_self, Try.results70, hk]
              exact dropR_pure rfl (by (repeat (first | exact HSub_rfl | refine HSub_put_eq (by simp only [vsAll, binA, binLitA, intA, aggA, aggV, boolA, nilA2, isConst, unA, loadA, loadRow, partA, partOk, fieldAddrA, indexAddrA, indexA, fieldA, extractA, lenA, nilCheckA, boxA, boxZ, cellA, cellsA, fillA, okParts, buildSliceA, buildMutA, makeSliceA, partIdx, elemsA, lensA, ifaceA, convA, mmA, pickA, okAll, stAll, opsA, partsA, partsOk, opA, allocA, boxMutA, newCells, okCells, storeObj, appendA, guardV, taA, nM, mapUpA, lookA, sliceA, sliceS, boundsA, opO, okO, copyA, dstOk, nilA, quietOk, nilSliceOp, deferV, panA, resA, argFr, retA.eq_1, retA.eq_2, Nat.reduceAdd, Nat.reduceSub, Nat.reduceMul, Nat.reduceLT, Nat.reduceLeDiff, Nat.reduceEqDiff, Nat.reduceBEq, Int.reduceAdd, Int.reduceSub, Int.reduceMul, Int.reduceNeg, Int.reduceLE, Int.reduceLT, Int.reduceEq, Int.reduceNe, Int.reduceToNat, ↓reduceIte, reduceCtorEq, implies_true, forall_const, eq_self, ne_eq, arrL, wtAll, Try.ntmps70, Try.results70]) ?_ | refine HSub_drop2 (by simp only [vsAll, binA, binLitA, intA, aggA, aggV, boolA, nilA2, isConst, unA, loadA, loadRow, partA, partOk, fieldAddrA, indexAddrA, indexA, fieldA, extractA, lenA, nilCheckA, boxA, boxZ, cellA, cellsA, fillA, okParts, buildSliceA, buildMutA, makeSliceA, partIdx, elemsA, lensA, ifaceA, convA, mmA, pickA, okAll, stAll, opsA, partsA, partsOk, opA, allocA, boxMutA, newCells, okCells, storeObj, appendA, guardV, taA, nM, mapUpA, lookA, sliceA, sliceS, boundsA, opO, okO, copyA, dstOk, nilA, quietOk, nilSliceOp, deferV, panA, resA, argFr, retA.eq_1, retA.eq_2, Nat.reduceAdd, Nat.reduceSub, Nat.reduceMul, Nat.reduceLT, Nat.reduceLeDiff, Nat.reduceEqDiff, Nat.reduceBEq, Int.reduceAdd, Int.reduceSub, Int.reduceMul, Int.reduceNeg, Int.reduceLE, Int.reduceLT, Int.reduceEq, Int.reduceNe, Int.reduceToNat, ↓reduceIte, reduceCtorEq, implies_true, forall_const, eq_self, ne_eq, arrL, wtAll, Try.ntmps70, Try.results70]) ?_ | refine HSub_keep_eq (by simp only [vsAll, binA, binLitA, intA, aggA, aggV, boolA, nilA2, isConst, unA, loadA, loadRow, partA, partOk, fieldAddrA, indexAddrA, indexA, fieldA, extractA, lenA, nilCheckA, boxA, boxZ, cellA, cellsA, fillA, okParts, buildSliceA, buildMutA, makeSliceA, partIdx, elemsA, lensA, ifaceA, convA, mmA, pickA, okAll, stAll, opsA, partsA, partsOk, opA, allocA, boxMutA, newCells, okCells, storeObj, appendA, guardV, taA, nM, mapUpA, lookA, sliceA, sliceS, boundsA, opO, okO, copyA, dstOk, nilA, quietOk, nilSliceOp, deferV, panA, resA, argFr, retA.eq_1, retA.eq_2, Nat.reduceAdd, Nat.reduceSub, Nat.reduceMul, Nat.reduceLT, Nat.reduceLeDiff, Nat.reduceEqDiff, Nat.reduceBEq, Int.reduceAdd, Int.reduceSub, Int.reduceMul, Int.reduceNeg, Int.reduceLE, Int.reduceLT, Int.reduceEq, Int.reduceNe, Int.reduceToNat, ↓reduceIte, reduceCtorEq, implies_true, forall_const, eq_self, ne_eq, arrL, wtAll, Try.ntmps70, Try.results70]) ?_)))
end Go.Proofs.Ytliomkpmadpibaa
end
section
set_option linter.unusedVariables false
set_option linter.unusedSimpArgs false
set_option maxHeartbeats 4000000
set_option maxRecDepth 100000
namespace Go.Proofs.Ytliomkpmadpibaa
open Go.V
/-- When a pot is hot, as the document counts. -/
def aftV (p : Pt) (b : Bool) (i h : Nat) : Int := if hotV p b i h ≤ p.H then (hotV p b i h : Nat) else -1
/-- What a valid pitch is made of, in whole numbers. -/
theorem Ok.nums {p : Pt} (k : Ok p) : ∃ fo pe : Nat, p.fro = (fo : Int) ∧ p.per = (pe : Int) ∧ fo < 4096 ∧ pe < 4096 ∧ (∀ b j, (p.F b).testBit j = (fo.testBit j || b && pe.testBit j)) ∧ p.hr = (p.H : Int) ∧ p.H ≤ 12 := by
  obtain ⟨fo, e1, h1⟩ := okSet_nat k.fro
  obtain ⟨pe, e2, h2⟩ := okSet_nat k.per
  obtain ⟨e3, h3⟩ := k.H_eq
  have := pow12 h3
  refine ⟨fo, pe, e1, e2, by omega, by omega, fun b j => ?_, e3.symm, h3⟩
  unfold Pt.F
  rw [e1, e2, Int.toNat_natCast, Int.toNat_natCast]
  cases b <;> simp [Nat.testBit_or]
theorem Ok.pot {p : Pt} (k : Ok p) {i : Nat} (hi : i < p.ps.length) : 1 ≤ (p.pot i).ht ∧ (p.pot i).ht ≤ 12 ∧ 0 ≤ (p.pot i).fr ∧ (p.pot i).fr ≤ p.hr ∧ 0 ≤ (p.pot i).bb ∧ (p.pot i).bb ≤ p.hr := by
  have := k.s i hi
  unfold okP at this
  unfold Pt.pot
  omega
end Go.Proofs.Ytliomkpmadpibaa
end
section
set_option linter.unusedVariables false
set_option linter.unusedSimpArgs false
set_option maxHeartbeats 4000000
set_option maxRecDepth 100000
namespace Go.Proofs.Ytliomkpmadpibaa
open Go.V
theorem Ok.fire {p : Pt} (k : Ok p) {f : Nat} (hf : f < p.fs.length) : p.fs.getD f 0 = (fireN p f : Int) ∧ fireN p f < 4096 := by
  obtain ⟨m, e, hm⟩ := okSet_nat (k.f f hf)
  have := pow12 k.H_eq.2
  unfold fireN
  rw [e, Int.toNat_natCast]
  exact ⟨rfl, by omega⟩
theorem place_nat {p : Pt} {x : Int × Int} (h : x ∈ places p) : ∃ f t : Nat, x = ((f : Int), (t : Int)) ∧ f < p.fs.length ∧ t < p.H := by
  rw [mem_places] at h
  exact ⟨x.1.toNat, x.2.toNat, Prod.ext (by simp; omega) (by simp; omega), by omega, by omega⟩
end Go.Proofs.Ytliomkpmadpibaa
end
section
set_option linter.unusedVariables false
set_option linter.unusedSimpArgs false
set_option maxHeartbeats 4000000
set_option maxRecDepth 100000
namespace Go.Proofs.Ytliomkpmadpibaa
open Go.V
theorem planB_pl {p : Pt} (k : Ok p) {l : List (Int × Int)} (h : planB p l = true) : l.length = p.ps.length ∧ ∀ i, i < l.length → l.getD i (0, 0) ∈ places p := by
  rw [planB, Bool.and_eq_true, List.all_eq_true, decide_eq_true_eq] at h
  exact ⟨h.2, fun i hi => (placeB_iff k).1 (h.1 _ (mem_getD l i _ hi))⟩
end Go.Proofs.Ytliomkpmadpibaa
end
section
set_option linter.unusedVariables false
set_option linter.unusedSimpArgs false
set_option maxHeartbeats 4000000
set_option maxRecDepth 100000
namespace Go.Proofs.Ytliomkpmadpibaa
open Go.V
def llpF (l : List (List (Int × Int))) : Nat → List AV := fun i => [plsAV (l.getD i [])]
abbrev llpAV (l : List (List (Int × Int))) : AV := .rsl l.length 1 (llpF l)
/-- The first places, in order. -/
def plcN (p : Pt) (f h : Nat) : List (Int × Int) := ((List.range f).flatMap fun f : Nat => (List.range p.H).map fun h : Nat => ((f : Int), (h : Int))) ++ (List.range h).map fun h : Nat => ((f : Int), (h : Int))
/-- The right plans that go on from some, with one of these places first. -/
def plsG (p : Pt) (n : Nat) (b L : List (Int × Int)) : List (List (Int × Int)) := L.flatMap fun x => if brR p b.length x b = 0 then pls p n (b ++ [x]) else []
/-- What the document adds for a beginning. -/
def plsD (p : Pt) (n : Nat) (b : List (Int × Int)) : List (List (Int × Int)) := if 0 < b.length ∧ ¬ brR p (b.length - 1) (b.getD (b.length - 1) (0, 0)) b = 0 then [] else pls p n b
def plsR (p : Pt) (n : Nat) (b : List (Int × Int)) (id : Nat) (O : List (List (Int × Int))) (H : Hp) : Res → Hp → Prop := fun r H' =>
  r = .ret (.sl id 1 (O ++ plsD p n b).length) ∧ H' = H.set id (.row 1 (O ++ plsD p n b).length (llpF (O ++ plsD p n b)))
end Go.Proofs.Ytliomkpmadpibaa
end
section
set_option linter.unusedVariables false
set_option linter.unusedSimpArgs false
namespace Go.Proofs.Ytliomkpmadpibaa
open Go.V
theorem F_sub (p : Pt) (j : Nat) (h : (p.F false).testBit j = true) : (p.F true).testBit j = true := by
  unfold Pt.F at *
  simp only [Bool.false_eq_true, if_false, if_true] at *
  rw [Nat.testBit_or, h]; rfl
theorem hsum_sub {F G : Nat} (h : ∀ j, F.testBit j = true → G.testBit j = true) (a : Nat) : ∀ n, hsum G a n ≤ hsum F a n
  | 0 => Nat.le_refl _
  | n + 1 => by
    have ih := hsum_sub h a n
    have := h (a + n)
    simp only [hsum]
    by_cases h1 : F.testBit (a + n) = true
    · rw [if_pos h1, if_pos (this h1)]; omega
    · rw [if_neg h1]; split <;> omega
/-- With less frost, or less heat to take, a pot is hot no later. -/
theorem endN_mono {F G : Nat} (h : ∀ j, F.testBit j = true → G.testBit j = true) {t t' : Int} (ht : t ≤ t') {H a : Nat} (ha : a ≤ H) : endN F t H a ≤ endN G t' H a := by
  rcases endN_cases G t' H a with ⟨h1, h2, h3, _⟩ | ⟨h1, _⟩
  · rw [endN_le h2 h1]
    have := hsum_sub h a (endN G t' H a - a)
    omega
  · have := endN_gt F t ha
    omega
theorem hotV_mono (p : Pt) (i : Nat) {h : Nat} (hh : h ≤ p.H) : hotV p false i h ≤ hotV p true i h := endN_mono (F_sub p) (Int.le_refl _) hh
def hotE (p : Pt) (n h : Int) : Int := if errE p (isPot p n && isHour p h) = 0 then if hotV p true n.toNat h.toNat ≤ p.H then 0 else 11 else errE p (isPot p n && isHour p h)
def hotS (p : Pt) (n h : Int) : Int × Int := if hotE p n h = 0 then ((hotV p false n.toNat h.toNat : Nat), (hotV p true n.toNat h.toNat : Nat)) else (0, 0)
/-- The hours at which a pot can be put on a fire, of the first ones. -/
def stN (p : Pt) (i : Nat) (f : Int) : Nat → Nat
  | 0 => 0
  | t + 1 => stN p i f t + if alR p i (f, (t : Int)) = 0 then 2 ^ t else 0
theorem stN_lt (p : Pt) (i : Nat) (f : Int) (t : Nat) : stN p i f t < 2 ^ t := by
  induction t with
  | zero => simp [stN]
  | succ t ih => simp only [stN, Nat.pow_succ]; split <;> omega
def stE (p : Pt) (n f : Int) : Int := errE p (isPot p n && isFire p f)
def stV (p : Pt) (n f : Int) : Nat := if stE p n f = 0 then stN p n.toNat f p.H else 0
def ckO (p : Pt) (l : List (Int × Int)) : Option Nat := (List.range l.length).find? fun i => !decide (brR p i (l.getD i (0, 0)) l = 0)
def checkE (p : Pt) (l : List (Int × Int)) : Int := if errE p (planB p l) = 0 then if (ckO p l).isSome = true then 0 else 4 else errE p (planB p l)
def checkW (p : Pt) (l : List (Int × Int)) : Nat := if checkE p l = 0 then (ckO p l).getD 0 else 0
def checkR (p : Pt) (l : List (Int × Int)) : Int := if checkE p l = 0 then brR p (checkW p l) (l.getD (checkW p l) (0, 0)) l else 0
theorem ckO_some {p : Pt} {l : List (Int × Int)} {i : Nat} (hi : i < l.length) (h : ¬ brR p i (l.getD i (0, 0)) l = 0) (hall : ∀ j, j < i → brR p j (l.getD j (0, 0)) l = 0) : ckO p l = some i := by
  unfold ckO
  rw [List.find?_range_eq_some]
  exact ⟨by simpa using h, by simpa using hi, fun j hj => by simpa using hall j hj⟩
theorem ckO_none {p : Pt} {l : List (Int × Int)} (hall : ∀ j, j < l.length → brR p j (l.getD j (0, 0)) l = 0) : ckO p l = none := by
  unfold ckO
  rw [List.find?_eq_none]
  intro j hj
  rw [List.mem_range] at hj
  simpa using hall j hj
theorem ckO_of {p : Pt} {l : List (Int × Int)} {i : Nat} (h : ckO p l = some i) : i < l.length ∧ ¬ brR p i (l.getD i (0, 0)) l = 0 ∧ ∀ j, j < i → brR p j (l.getD j (0, 0)) l = 0 := by
  unfold ckO at h
  rw [List.find?_range_eq_some] at h
  exact ⟨by simpa using h.2.1, by simpa using h.1, fun j hj => by simpa using h.2.2 j hj⟩
theorem ckO_no {p : Pt} {l : List (Int × Int)} (h : ckO p l = none) : ∀ j, j < l.length → brR p j (l.getD j (0, 0)) l = 0 := by
  intro j hj
  unfold ckO at h
  rw [List.find?_eq_none] at h
  by_cases hb : brR p j (l.getD j (0, 0)) l = 0
  · exact hb
  · exact absurd (by rw [decide_eq_false hb]; rfl) (h j (List.mem_range.2 hj))
/-- What a check of a plan tells. -/
theorem ck_facts {p : Pt} (k : Ok p) {l : List (Int × Int)} (hp : planB p l = true) :
    (checkE p l = 4 ∧ checkW p l = 0 ∧ checkR p l = 0 ∧ ∀ j, j < l.length → brR p j (l.getD j (0, 0)) l = 0) ∨
    (checkE p l = 0 ∧ checkW p l < l.length ∧ checkR p l = brR p (checkW p l) (l.getD (checkW p l) (0, 0)) l ∧ ¬ checkR p l = 0 ∧ ∀ j, j < checkW p l → brR p j (l.getD j (0, 0)) l = 0) := by
  have he : errE p (planB p l) = 0 := by rw [hp]; exact errE_ok k
  cases ho : ckO p l with
  | some i =>
    right
    obtain ⟨h1, h2, h3⟩ := ckO_of ho
    have eE : checkE p l = 0 := by unfold checkE; rw [if_pos he, ho]; rfl
    have eW : checkW p l = i := by unfold checkW; rw [if_pos eE, ho]; rfl
    have eR : checkR p l = brR p (checkW p l) (l.getD (checkW p l) (0, 0)) l := by unfold checkR; rw [if_pos eE]
    refine ⟨eE, by rw [eW]; exact h1, eR, by rw [eR, eW]; exact h2, by rw [eW]; exact h3⟩
  | none =>
    left
    have eE : checkE p l = 4 := by unfold checkE; rw [if_pos he, ho]; rfl
    have eW : checkW p l = 0 := by unfold checkW; rw [if_neg (by rw [eE]; decide)]
    have eR : checkR p l = 0 := by unfold checkR; rw [if_neg (by rw [eE]; decide)]
    exact ⟨eE, eW, eR, ckO_no ho⟩
def cntE (p : Pt) : Int := errE p true
def cntV (p : Pt) : Nat := if cntE p = 0 then (rpl p).length else 0
def rgtE (p : Pt) (v : Bool) : Int := if errE p v = 0 then if (rpl p).length = 0 then 4 else 0 else errE p v
theorem rgtE_zero {p : Pt} {v : Bool} (h : rgtE p v = 0) : Ok p ∧ v = true ∧ 0 < (rpl p).length := by
  unfold rgtE at h
  split at h
  · rename_i he
    obtain ⟨k, hv⟩ := errE_zero he
    refine ⟨k, hv, ?_⟩
    split at h
    · omega
    · omega
  · rename_i he; exact absurd h he
def bestP (p : Pt) : List (Int × Int) := if rgtE p true = 0 then mnG (lastV p) (rpl p) [] (rpl p).length else []
def bestV (p : Pt) : Int := if rgtE p true = 0 then lastV p (bestP p) else 0
def latN (L : List (List (Int × Int))) (t : Nat) : Nat → Int
  | 0 => 0
  | i + 1 => max (latN L t i) ((L.getD i []).getD t (0, 0)).2
def latE (p : Pt) (n : Int) : Int := rgtE p (isPot p n)
def latV (p : Pt) (n : Int) : Int := if latE p n = 0 then latN (rpl p) n.toNat (rpl p).length else 0
def usedN (l : List (Int × Int)) : Nat → Nat
  | 0 => 0
  | i + 1 => usedN l i ||| 2 ^ (l.getD i (0, 0)).1.toNat
def used (l : List (Int × Int)) : Nat := usedN l l.length
def lessU (a b : Nat) : Bool := decide (pop a < pop b) || (decide (pop a = pop b) && decide (a < b))
def fewU (L : List (List (Int × Int))) : Nat → Nat
  | 0 => used (L.getD 0 [])
  | i + 1 => if lessU (used (L.getD i [])) (fewU L i) = true then used (L.getD i []) else fewU L i
def fewN (p : Pt) : Nat := if rgtE p true = 0 then fewU (rpl p) (rpl p).length else 0
def onL (p : Pt) (S : Nat) : Nat → List Po
  | 0 => []
  | i + 1 => if S.testBit i = true then onL p S i ++ [p.ps.getD i po0] else onL p S i
def onlyP (p : Pt) (S : Nat) : Pt := { p with ps := onL p S p.ps.length }
def noneP (p : Pt) (S : Nat) : Bool := decide ((rpl (onlyP p S)).length = 0)
def clE (p : Pt) : Int := if errE p true = 0 then if 0 < (rpl p).length then 4 else 0 else errE p true
def clV (p : Pt) : Nat := if clE p = 0 then bsN (noneP p) (2 ^ p.ps.length - 1) (2 ^ p.ps.length) else 0
end Go.Proofs.Ytliomkpmadpibaa
end
section
set_option linter.unusedVariables false
set_option linter.unusedSimpArgs false
set_option maxHeartbeats 4000000
set_option maxRecDepth 100000
namespace Go.Proofs.Ytliomkpmadpibaa
open Go.V
abbrev nilA : AV := .lit (.slice none 0 0)
def rgtA (p : Pt) (v : Bool) : AV := if rgtE p v = 0 then llpAV (rpl p) else nilA
end Go.Proofs.Ytliomkpmadpibaa
end
section
set_option linter.unusedVariables false
set_option linter.unusedSimpArgs false
set_option maxHeartbeats 4000000
set_option maxRecDepth 100000
namespace Go.Proofs.Ytliomkpmadpibaa
open Go.V
theorem alR_late {p : Pt} {i : Nat} {x : Int × Int} (h : alR p i x = 0) : (hotV p true i x.2.toNat : Int) ≤ (p.pot i).bb := by
  unfold alR at h
  split at h
  · omega
  split at h
  · omega
  · omega
/-- In a right plan every pot becomes hot. -/
theorem RightP.hot {p : Pt} (k : Ok p) {l : List (Int × Int)} (h : RightP p l) {i : Nat} (hi : i < l.length) : (hotV p true i (l.getD i (0, 0)).2.toNat : Int) ≤ (p.pot i).bb ∧ hotV p true i (l.getD i (0, 0)).2.toNat ≤ p.H := by
  have hb := h.br i hi
  have ha : alR p i (l.getD i (0, 0)) = 0 := by
    unfold brR at hb
    by_cases q : alR p i (l.getD i (0, 0)) = 0
    · exact q
    · rw [if_neg q] at hb; exact absurd hb q
  have h1 := alR_late ha
  have h2 := k.pot (i := i) (by rw [← h.len]; exact hi)
  have h3 := k.H_eq
  omega
def bestA (p : Pt) : AV := if rgtE p true = 0 then plsAV (bestP p) else nilA
end Go.Proofs.Ytliomkpmadpibaa
end
section
set_option linter.unusedVariables false
set_option linter.unusedSimpArgs false
set_option maxHeartbeats 4000000
set_option maxRecDepth 100000
namespace Go.Proofs.Ytliomkpmadpibaa
open Go.V
theorem app_ps (l : List Po) (x : Po) (g : Nat → List AV) (hg : g 0 = x.cs) : appF l.length 1 (psF l) g = psF (l ++ [x]) := app_lF Po.cs po0 l x g hg
theorem onL_len (p : Pt) (S i : Nat) : (onL p S i).length ≤ i := by
  induction i with
  | zero => exact Nat.le_refl _
  | succ i ih =>
    simp only [onL]
    split
    · rw [List.length_append]; simp only [List.length_cons, List.length_nil]; omega
    · omega
theorem onL_mem {p : Pt} {S : Nat} {x : Po} : ∀ {i : Nat}, i ≤ p.ps.length → x ∈ onL p S i → ∃ j, j < i ∧ S.testBit j = true ∧ x = p.ps.getD j po0
  | 0, _, h => by cases h
  | i + 1, hi, h => by
    simp only [onL] at h
    split at h
    · rename_i hb
      rcases List.mem_append.1 h with h | h
      · obtain ⟨j, h1, h2⟩ := onL_mem (by omega) h
        exact ⟨j, by omega, h2⟩
      · exact ⟨i, by omega, hb, by simpa using h⟩
    · obtain ⟨j, h1, h2⟩ := onL_mem (by omega) h
      exact ⟨j, by omega, h2⟩
theorem only_ok {p : Pt} (k : Ok p) (S : Nat) : Ok (onlyP p S) := by
  have hl := onL_len p S p.ps.length
  refine ⟨k.hr, k.nF, by have := k.nP; show (onL p S p.ps.length).length ≤ 4; omega, k.fro, k.per, k.f, fun i hi => ?_⟩
  have hm : (onL p S p.ps.length).getD i po0 ∈ onL p S p.ps.length := mem_getD _ i po0 hi
  obtain ⟨j, h1, _, h3⟩ := onL_mem (Nat.le_refl _) hm
  show okP (onlyP p S) ((onL p S p.ps.length).getD i po0)
  rw [h3]
  exact k.s j h1
theorem eq_pl : eqT Try.prog 51 2 := eqT_of (by kernel_rfl) (by kernel_rfl) (by kernel_rfl) (by kernel_rfl) (by kernel_rfl)
theorem rsame_tri (a b : List (Int × Int)) (H : Hp) (ha : a.length < 2 ^ 60) (hb : b.length < 2 ^ 60) : PTri Try.prog (fnA 28) [plsAV a, plsAV b] H (boo (decide (a = b))) := by
  refine tri_v0 (fun _ => false) Try.func28 (by kernel_rfl) rfl (by simp only [List.length_append, List.length_cons, List.length_nil, Try.ntmps28]; decide) ?_
  simp only [vsAll, binA, binLitA, intA, lenA, opA, dstOk, nilSliceOp, argFr, Nat.reduceLT, Nat.reduceEqDiff, ↓reduceIte, reduceCtorEq, eq_self, wtAll, Try.ntmps28]
  refine condV (fun hc => ?_) (fun hc => ?_)
  · have e : decide (a = b) = false := decide_eq_false fun e => by subst e; simp at hc
    simp only [vsAll, opA, dstOk, nilSliceOp, resA, retA.eq_1, Nat.reduceLT, ↓reduceIte, eq_self, Try.results28, e]
  · have hlen : a.length = b.length := by
      have : (a.length : Int) = b.length := by simpa using hc
      omega
    simp only [vsAll, opA, dstOk, nilSliceOp, Nat.reduceLT, eq_self]
    refine vs_loop (σ := Nat) (fun i => i ≤ a.length ∧ ∀ j, j < i → a.getD j (0, 0) = b.getD j (0, 0)) (fun i => [(0, plsAV a), (1, plsAV b), (5, i64 i)]) (fun _ => H) (fun i => a.length - i) 0 ⟨Nat.zero_le _, fun j hj => absurd hj (by omega)⟩ ?_ (HSub.refl _) fun i hi => ?_
    · simp only [vsAll, argFr, Nat.reduceEqDiff, ↓reduceIte, reduceCtorEq, eq_self, Int.natCast_zero]
    · obtain ⟨hi, hall⟩ := hi
      simp only [vsAll, binA, binLitA, intA, lenA, opA, dstOk, Nat.reduceLT, Nat.reduceEqDiff, ↓reduceIte, reduceCtorEq, eq_self, wtAll]
      refine condD (fun hd => ?_) (fun hd => ?_)
      · have hil : i < a.length := by omega
        simp only [vsAll]
        refine vs_draw2 [0, 0, 0, 0, 0, 0, 0, 0, 0] [] [0, 1, 2, 3, 4, 5, 6, 7, 8] (by decide +kernel) ?_
        simp only [vsAll, binA, aggA, loadA, loadRow, partA, partOk, indexAddrA, opA, dstOk, Nat.reduceAdd, Nat.reduceLT, Nat.reduceEqDiff, ↓reduceIte, reduceCtorEq, eq_self, wtAll, plF_at]
        refine ⟨⟨by omega, by omega⟩, hil, ⟨by omega, by omega⟩, by omega, eq_pl, condV (fun hc2 => ?_) (fun hc2 => ?_)⟩
        · have e : decide (a = b) = false := decide_eq_false fun e => by subst e; simp at hc2
          simp only [vsAll, opA, dstOk, nilSliceOp, resA, retA.eq_1, Nat.reduceLT, ↓reduceIte, eq_self, Try.results28, e]
        · have hi2 : a.getD i (0, 0) = b.getD i (0, 0) := by
            rw [Bool.not_eq_false', decide_eq_true_eq, List.cons.injEq, List.cons.injEq] at hc2
            exact Prod.ext hc2.1 hc2.2.1
          simp only [vsAll, binA, binLitA, intA, opA, dstOk, nilSliceOp, Nat.reduceLT, Nat.reduceEqDiff, ↓reduceIte, reduceCtorEq, eq_self]
          refine ⟨by simp only [InR_i64]; omega, loop_next (i + 1) ⟨by omega, fun j hj => ?_⟩ (by omega) ?_ HSub_rfl⟩
          · by_cases e : j = i
            · rw [e]; exact hi2
            · exact hall j (by omega)
          · simp only [vsAll, Nat.reduceEqDiff, ↓reduceIte, reduceCtorEq, eq_self, Int.natCast_add, Int.natCast_one]
      · have ei : i = a.length := by omega
        have e : decide (a = b) = true := decide_eq_true (List.ext_getElem hlen fun j h1 h2 => by
          have := hall j (by omega)
          simpa [List.getD_eq_getElem?_getD, h1, h2] using this)
        simp only [vsAll, opA, dstOk, nilSliceOp, resA, retA.eq_1, Nat.reduceLT, ↓reduceIte, eq_self, Try.results28, e]
end Go.Proofs.Ytliomkpmadpibaa
end
section
set_option linter.unusedVariables false
set_option linter.unusedSimpArgs false
set_option maxHeartbeats 4000000
set_option maxRecDepth 100000
namespace Go.Proofs.Ytliomkpmadpibaa
open Go.V
/-- The ones of a number, counted as the library does. -/
def ones1 (s : Nat) : Nat := ((s >>> 1) &&& 6148914691236517205) + (s &&& 6148914691236517205)
def ones2 (s : Nat) : Nat := ((s >>> 2) &&& 3689348814741910323) + (s &&& 3689348814741910323)
def ones3 (s : Nat) : Nat := ((s >>> 4) + s) &&& 1085102592571150095
def ones4 (s : Nat) : Nat := s + (s >>> 8)
def ones5 (s : Nat) : Nat := s + (s >>> 16)
def ones6 (s : Nat) : Nat := s + (s >>> 32)
def ones (s : Nat) : Nat := ones6 (ones5 (ones4 (ones3 (ones2 (ones1 s))))) &&& 127

theorem shr_int (s k : Nat) : ((s : Int) / 2 ^ k) = ((s >>> k : Nat) : Int) := by
  rw [Nat.shiftRight_eq_div_pow]; simp
theorem bits64 (b : Int) : (Go.V.shB IntKind.u64 b = 64) = True := eq_true rfl
theorem ones1_le (s : Nat) : ones1 s ≤ 12297829382473034410 := by
  have h1 := @Nat.and_le_right (s >>> 1) 6148914691236517205
  have h2 := @Nat.and_le_right s 6148914691236517205
  unfold ones1; omega
theorem ones2_le (s : Nat) : ones2 s ≤ 7378697629483820646 := by
  have h1 := @Nat.and_le_right (s >>> 2) 3689348814741910323
  have h2 := @Nat.and_le_right s 3689348814741910323
  unfold ones2; omega
theorem ones3_le (s : Nat) : ones3 s ≤ 1085102592571150095 := Nat.and_le_right
theorem shr_le (s k : Nat) : s >>> k ≤ s := by rw [Nat.shiftRight_eq_div_pow]; exact Nat.div_le_self _ _

theorem ones64_tri (s : Nat) (H : Hp) (hs : s < 2 ^ 64) : PTri Try.prog (fnA 107) [u64 s] H (i64 (ones s)) := by
  refine tri_w0 Try.func107 (by kernel_rfl) rfl (by simp only [List.length_append, List.length_cons, List.length_nil, Try.ntmps107]; decide) ?_
  refine wps_cut (m := fun _ => false) [(0, u64 s)] H [] (by simp only [vsAll, opA, dstOk, nilSliceOp, argFr, Nat.reduceLT, ↓reduceIte, reduceCtorEq, eq_self, Try.ntmps107]) ?_
  refine wps_cut (m := fun _ => false) [(0, u64 (ones1 s))] H [] ?_ ?_
  · have h1 := ones1_le s
    have h2 := shr_le s 1
    have e : ((s >>> 1 &&& 6148914691236517205 : Nat) : Int) + ((s &&& 6148914691236517205 : Nat) : Int) = (ones1 s : Int) := by simp only [ones1]; omega
    simp only [vsAll, binA, binLitA, intA, opA, dstOk, nilSliceOp, Nat.reduceLT, Nat.reduceEqDiff, Int.reduceLE, Int.reduceLT, Int.reduceToNat, ↓reduceIte, reduceCtorEq, eq_self, Try.ntmps107, shr_int, bits64, InR_u64, e]
    omega
  have hs1 := ones1_le s
  generalize es1 : ones1 s = s1 at *
  refine wps_cut (m := fun _ => false) [(0, u64 (ones2 s1))] H [] ?_ ?_
  · have h1 := ones2_le s1
    have h2 := shr_le s1 2
    have e : ((s1 >>> 2 &&& 3689348814741910323 : Nat) : Int) + ((s1 &&& 3689348814741910323 : Nat) : Int) = (ones2 s1 : Int) := by simp only [ones2]; omega
    simp only [vsAll, binA, binLitA, intA, opA, dstOk, nilSliceOp, Nat.reduceLT, Nat.reduceEqDiff, Int.reduceLE, Int.reduceLT, Int.reduceToNat, ↓reduceIte, reduceCtorEq, eq_self, Try.ntmps107, shr_int, bits64, InR_u64, e]
    omega
  have hs2 := ones2_le s1
  generalize es2 : ones2 s1 = s2 at *
  refine wps_cut (m := fun _ => false) [(0, u64 (ones3 s2))] H [] ?_ ?_
  · have h1 := ones3_le s2
    have h2 := shr_le s2 4
    have e0 : ((s2 >>> 4 : Nat) : Int) + (s2 : Int) = ((s2 >>> 4 + s2 : Nat) : Int) := by omega
    have e : (((s2 >>> 4 + s2) &&& 1085102592571150095 : Nat) : Int) = (ones3 s2 : Int) := rfl
    simp only [vsAll, binA, binLitA, intA, opA, dstOk, nilSliceOp, Nat.reduceLT, Nat.reduceEqDiff, Int.reduceLE, Int.reduceLT, Int.reduceToNat, ↓reduceIte, reduceCtorEq, eq_self, Try.ntmps107, shr_int, bits64, InR_u64, e0, e]
    omega
  have hs3 := ones3_le s2
  generalize es3 : ones3 s2 = s3 at *
  refine wps_cut (m := fun _ => false) [(0, u64 (ones4 s3))] H [] ?_ ?_
  · have h2 := shr_le s3 8
    have e0 : (s3 : Int) + ((s3 >>> 8 : Nat) : Int) = (ones4 s3 : Int) := by simp only [ones4]; omega
    simp only [vsAll, binA, binLitA, intA, opA, dstOk, nilSliceOp, Nat.reduceLT, Nat.reduceEqDiff, Int.reduceLE, Int.reduceLT, Int.reduceToNat, ↓reduceIte, reduceCtorEq, eq_self, Try.ntmps107, shr_int, bits64, InR_u64, e0]
    simp only [ones4]; omega
  have hs4 : ones4 s3 ≤ 2 * 1085102592571150095 := by have := shr_le s3 8; simp only [ones4]; omega
  generalize es4 : ones4 s3 = s4 at *
  refine wps_cut (m := fun _ => false) [(0, u64 (ones5 s4))] H [] ?_ ?_
  · have h2 := shr_le s4 16
    have e0 : (s4 : Int) + ((s4 >>> 16 : Nat) : Int) = (ones5 s4 : Int) := by simp only [ones5]; omega
    simp only [vsAll, binA, binLitA, intA, opA, dstOk, nilSliceOp, Nat.reduceLT, Nat.reduceEqDiff, Int.reduceLE, Int.reduceLT, Int.reduceToNat, ↓reduceIte, reduceCtorEq, eq_self, Try.ntmps107, shr_int, bits64, InR_u64, e0]
    simp only [ones5]; omega
  have hs5 : ones5 s4 ≤ 4 * 1085102592571150095 := by have := shr_le s4 16; simp only [ones5]; omega
  generalize es5 : ones5 s4 = s5 at *
  refine wps_cut (m := fun _ => false) [(0, u64 (ones6 s5))] H [] ?_ ?_
  · have h2 := shr_le s5 32
    have e0 : (s5 : Int) + ((s5 >>> 32 : Nat) : Int) = (ones6 s5 : Int) := by simp only [ones6]; omega
    simp only [vsAll, binA, binLitA, intA, opA, dstOk, nilSliceOp, Nat.reduceLT, Nat.reduceEqDiff, Int.reduceLE, Int.reduceLT, Int.reduceToNat, ↓reduceIte, reduceCtorEq, eq_self, Try.ntmps107, shr_int, bits64, InR_u64, e0]
    simp only [ones6]; omega
  have hs6 : ones6 s5 ≤ 8 * 1085102592571150095 := by have := shr_le s5 32; simp only [ones6]; omega
  generalize es6 : ones6 s5 = s6 at *
  refine wps_vs (m := fun _ => false) ?_
  simp only [vsAll, binA, binLitA, intA, convA, opA, dstOk, nilSliceOp, resA, retA.eq_1, Nat.reduceLT, Int.reduceLE, Int.reduceToNat, ↓reduceIte, eq_self, wtAll, Try.ntmps107, Try.results107]
  refine ⟨by simp only [InR_i64]; omega, by simp only [InR_i64]; omega, ?_⟩
  simp only [ones, es1, es2, es3, es4, es5, es6]

theorem ones_pop (s : Nat) (hs : s < 4096) : ones s = pop s := by
  have : ∀ a, a < 64 → ∀ b, b < 64 → ones (64 * a + b) = pop (64 * a + b) := by decide +kernel
  have h := this (s / 64) (by omega) (s % 64) (by omega)
  rwa [show 64 * (s / 64) + s % 64 = s by omega] at h
theorem onesCount_tri (s : Nat) (H : Hp) (hs : s < 4096) : PTri Try.prog (fnA 104) [u64 s] H (i64 (pop s)) := by
  refine tri_v0 (fun _ => false) Try.func104 (by kernel_rfl) rfl (by simp only [List.length_append, List.length_cons, List.length_nil, Try.ntmps104]; decide) ?_
  simp only [vsAll, okAll, stAll, opsA, opA, dstOk, nilSliceOp, argFr, Nat.reduceLT, ↓reduceIte, reduceCtorEq, eq_self, Try.ntmps104]
  refine callK_pure (ones64_tri s H (by omega)) ?_
  simp only [vsAll, opA, dstOk, nilSliceOp, resA, retA.eq_1, Nat.reduceLT, ↓reduceIte, eq_self, Try.results104, ones_pop s hs]
theorem count_tri (s : Nat) (H : Hp) (hs : s < 4096) : PTri Try.prog (fnA 92) [u64 s] H (i64 (pop s)) := by
  refine tri_v0 (fun _ => false) Try.func92 (by kernel_rfl) rfl (by simp only [List.length_append, List.length_cons, List.length_nil, Try.ntmps92]; decide) ?_
  simp only [vsAll, okAll, stAll, opsA, opA, dstOk, nilSliceOp, argFr, Nat.reduceLT, ↓reduceIte, reduceCtorEq, eq_self, Try.ntmps92]
  refine callK_pure (onesCount_tri s H hs) ?_
  simp only [vsAll, opA, dstOk, nilSliceOp, resA, retA.eq_1, Nat.reduceLT, ↓reduceIte, eq_self, Try.results92]
abbrev rT : RefT := ⟨121, false⟩
theorem within_tri (n low high : Int) (H : Hp) : PTri Try.prog (fnA 90) [i64 n, i64 low, i64 high] H (boo (decide (low ≤ n) && decide (n ≤ high))) := by
  refine tri_v0 (fun _ => false) Try.func90 (by kernel_rfl) rfl (by simp only [List.length_append, List.length_cons, List.length_nil, Try.ntmps90]; decide) ?_
  simp only [vsAll, binA, binLitA, intA, pickA, opA, guardV, dstOk, nilSliceOp, resA, argFr, retA.eq_1, Nat.reduceLT, Nat.reduceEqDiff, ↓reduceIte, reduceCtorEq, implies_true, eq_self, Try.ntmps90, Try.results90]

theorem ask_tri (b : Bool) (e : Int) (H : Hp) : Tri Try.prog (fnA 52) [boo b, i64 e] H fun r H' => H' = H ∧ r = if b then .ret (.tuple []) else .pan (.iface 121 (i64 e)) := by
  refine tri_v0 (fun _ => false) Try.func52 (by kernel_rfl) rfl (by simp only [List.length_append, List.length_cons, List.length_nil, Try.ntmps52]; decide) ?_
  simp only [vsAll, unA, opA, dstOk, argFr, Nat.reduceLT, ↓reduceIte, eq_self, Try.ntmps52]
  refine condV (fun hc => ?_) (fun hc => ?_)
  · simp only [Bool.not_eq_true'] at hc
    subst hc
    simp only [vsAll, ifaceA, opA, dstOk, panA, argFr, Nat.reduceLT, Nat.reduceEqDiff, ↓reduceIte, eq_self, wtAll]
  · simp only [Bool.not_eq_false'] at hc
    subst hc
    simp only [vsAll, resA, retA.eq_2, ↓reduceIte, eq_self, Try.results52]

theorem ask_call {b : Bool} {e : Int} {H : Hp} {K : AV → Hp → Prop} {Kp : AV → Hp → Prop} (h1 : b = true → K (.tuple []) H) (h2 : b = false → Kp (.iface 121 (i64 e)) H) :
    CallK Try.prog (fnA 52) [boo b, i64 e] H K Kp := by
  refine ⟨_, ask_tri b e H, ?_⟩
  rintro r H' ⟨rfl, rfl⟩
  cases b
  · exact h2 rfl
  · exact h1 rfl


theorem wps_of_vs {P : Program} {m : Option Tmp → Bool} {n : Nat} {c : Code} {s : Fr} {ds : List AD} {H : Hp} {Q : Post} (h : VS none P m n [.code c] s ds H Q) : WPS none P n c s ds H Q := vcC_sound c h
/-- What answer does. -/
-- tri_v0 (fun _ => false) Try.func46 (by kernel_rfl) rfl (by simp only [List.length_append, List.length_cons, List.length_nil, Try.ntmps46]; decide) ?_
theorem ans46 : AnsOk Try.prog 46 rT := by
  have hn : (1 : Nat) ≤ Try.f46.ntmps := by rw [Try.ntmps46]; decide
  refine ⟨fun H id f S vs ho hH ha => ?_, fun H id f c S vs ho hH ha => ?_, fun vs w => by kernel_rfl⟩
  · refine (ansD (args := [.ref id 0 1 0 0]) (t5 := 5) (t2 := 2) (Q := fun H' => H' = H) (u' := .returning) (rv := .lit .nilIface) (cv := .nilIface) Try.func46 rfl rfl hn (fun c₀ cs hu => .inr ⟨by simp [recoverD, hu], rfl, rfl⟩) hH ha (.lit _) ?_ (by rw [Try.ntmps46]; decide) (by rw [Try.ntmps46]; decide)).mono ?_
    · refine wps_of_vs (m := fun _ => false) ?_
      simp only [vsAll, binA, binLitA, nilA2, isConst, opA, dstOk, Nat.reduceLT, ↓reduceIte, reduceCtorEq, eq_self, wtAll, Try.ntmps46]
    · rintro e u w ⟨h1, h2, S', H', h3, h4, h5, rfl⟩
      exact ⟨h1, h2, S', h3, h4, h5⟩
  · refine (ansD (args := [.ref id 0 1 0 0]) (t5 := 5) (t2 := 2) (Q := fun H' => H' = H.set id (.box 1 1 fun _ => [i64 c])) (u' := .panicking [{ v := Go.V.refusal rT c, recovered := true }]) (rv := .iface 121 (i64 c)) (cv := Go.V.refusal rT c) Try.func46 rfl rfl hn (fun c₀ cs hu => .inl (by simp [recoverD, hu])) hH ha (.iface (.lit _)) ?_ (by rw [Try.ntmps46]; decide) (by rw [Try.ntmps46]; decide)).mono ?_
    · refine wps_of_vs (m := fun _ => false) ?_
      obtain ⟨bb, cc, e, q1, q2, q3, q4⟩ := hH.obj id _ ho
      have q5 := q4.2.1 0 (by omega)
      simp only [vsAll, binA, nilA2, unA, extractA, nilCheckA, cellA, cellsA, opA, newCells, okCells, storeObj, taA, dstOk, nilSliceOp, argFr, Nat.reduceAdd, Nat.reduceLT, Nat.reduceEqDiff, ↓reduceIte, reduceCtorEq, eq_self, wtAll, Try.ntmps46, ho]
      have : (f 0).drop 1 = [] := List.drop_eq_nil_of_le (by omega)
      rw [this]
    · rintro e u w ⟨h1, h2, S', H', h3, h4, h5, rfl⟩
      exact ⟨h1, h2, S', h3, h4, h5⟩


end Go.Proofs.Ytliomkpmadpibaa
end
section
set_option linter.unusedVariables false
set_option linter.unusedSimpArgs false
set_option maxHeartbeats 4000000
set_option maxRecDepth 100000
namespace Go.Proofs.Ytliomkpmadpibaa
open Go.V
/-- A pitch that is looked at. -/
abbrev pC (p : Pt) : List AV := [i64 p.hr, i64 p.fro, i64 p.per, intsAV p.fs, psAV p.ps, u64 (p.F false : Nat), u64 (p.F true : Nat)]
abbrev pP (p : Pt) : AV := .rptr 1 7 (fun _ => pC p) 0 0
theorem wpot_tri (p : Pt) (n : Int) (H : Hp) (k : Near p) : PTri Try.prog (fnA 49) [pP p, i64 n] H (boo (isPot p n)) := by
  have := k.nP
  refine tri_v0 (fun _ => false) Try.func49 (by kernel_rfl) rfl (by simp only [List.length_append, List.length_cons, List.length_nil, Try.ntmps49]; decide) ?_
  simp only [vsAll, binA, binLitA, intA, loadA, loadRow, partA, partOk, fieldAddrA, lenA, nilCheckA, okAll, stAll, opsA, opA, dstOk, nilSliceOp, argFr, Nat.reduceLT, Nat.reduceEqDiff, ↓reduceIte, reduceCtorEq, eq_self, wtAll, Try.ntmps49]
  refine ⟨by simp only [InR_i64]; omega, callK_pure (within_tri _ _ _ _) ?_⟩
  simp only [vsAll, opA, dstOk, nilSliceOp, resA, retA.eq_1, Nat.reduceLT, ↓reduceIte, eq_self, Try.results49]
  rfl
theorem wfire_tri (p : Pt) (n : Int) (H : Hp) (k : Near p) : PTri Try.prog (fnA 58) [pP p, i64 n] H (boo (isFire p n)) := by
  have := k.nF
  refine tri_v0 (fun _ => false) Try.func58 (by kernel_rfl) rfl (by simp only [List.length_append, List.length_cons, List.length_nil, Try.ntmps58]; decide) ?_
  simp only [vsAll, binA, binLitA, intA, loadA, loadRow, partA, partOk, fieldAddrA, lenA, nilCheckA, okAll, stAll, opsA, opA, dstOk, nilSliceOp, argFr, Nat.reduceLT, Nat.reduceEqDiff, ↓reduceIte, reduceCtorEq, eq_self, wtAll, Try.ntmps58]
  refine ⟨by simp only [InR_i64]; omega, callK_pure (within_tri _ _ _ _) ?_⟩
  simp only [vsAll, opA, dstOk, nilSliceOp, resA, retA.eq_1, Nat.reduceLT, ↓reduceIte, eq_self, Try.results58]
  rfl
theorem whour_tri (p : Pt) (n : Int) (H : Hp) (k : Ok p) : PTri Try.prog (fnA 50) [pP p, i64 n] H (boo (isHour p n)) := by
  have := k.hr
  have hw : InR .i64 (p.hr - 1) := by simp only [InR_i64]; omega
  have e : isHour p n = (decide (0 ≤ n) && decide (n ≤ p.hr - 1)) := by unfold isHour; rw [hw.wrap]
  rw [e]
  refine tri_v0 (fun _ => false) Try.func50 (by kernel_rfl) rfl (by simp only [List.length_append, List.length_cons, List.length_nil, Try.ntmps50]; decide) ?_
  simp only [vsAll, binA, binLitA, intA, loadA, loadRow, partA, partOk, fieldAddrA, nilCheckA, okAll, stAll, opsA, opA, dstOk, nilSliceOp, argFr, Nat.reduceLT, Nat.reduceEqDiff, ↓reduceIte, reduceCtorEq, eq_self, wtAll, Try.ntmps50]
  refine ⟨hw, callK_pure (within_tri _ _ _ _) ?_⟩
  simp only [vsAll, opA, dstOk, nilSliceOp, resA, retA.eq_1, Nat.reduceLT, ↓reduceIte, eq_self, Try.results50]
theorem pop_add : ∀ (k a : Nat), a < 2 ^ k → k < 59 → pop (a + 2 ^ k) = pop a + 1 := by
  intro k
  induction k with
  | zero =>
    intro a ha _
    have : a = 0 := by simpa using ha
    subst this; rfl
  | succ k ih =>
    intro a ha hk
    have h59 : 2 ^ (k + 1) ≤ 2 ^ 58 := Nat.pow_le_pow_right (by decide) (by omega)
    rw [Nat.pow_succ] at ha h59 ⊢
    have e1 := pop_step (a + 2 ^ k * 2) (by omega)
    have e2 := pop_step a (by omega)
    rw [show (a + 2 ^ k * 2) % 2 = a % 2 by omega, show (a + 2 ^ k * 2) / 2 = a / 2 + 2 ^ k by omega, ih (a / 2) (by omega) (by omega)] at e1
    omega
/-- The heat of a stretch of hours, as the program counts it. -/
theorem seg_sum (F h : Nat) : ∀ n, h + n ≤ 12 → 2 * pop (2 ^ (h + n) - 2 ^ h) = hsum F h n + pop ((2 ^ (h + n) - 2 ^ h) &&& F) := by
  intro n
  induction n with
  | zero =>
    intro _
    rw [Nat.add_zero, Nat.sub_self, Nat.zero_and]; rfl
  | succ n ih =>
    intro hn
    have ih := ih (by omega)
    have hp : 2 ^ h ≤ 2 ^ (h + n) := Nat.pow_le_pow_right (by decide) (by omega)
    have h0 : 0 < 2 ^ h := Nat.two_pow_pos _
    have e : 2 ^ (h + (n + 1)) - 2 ^ h = (2 ^ (h + n) - 2 ^ h) + 2 ^ (h + n) := by
      rw [← Nat.add_assoc, Nat.pow_succ]; omega
    have e2 : ((2 ^ (h + n) - 2 ^ h) + 2 ^ (h + n)) &&& F = ((2 ^ (h + n) - 2 ^ h) &&& F) + if F.testBit (h + n) = true then 2 ^ (h + n) else 0 := by
      have hlt : 2 ^ (h + n) - 2 ^ h < 2 ^ (h + n) := by omega
      have hlt2 : (2 ^ (h + n) - 2 ^ h) &&& F < 2 ^ (h + n) := Nat.lt_of_le_of_lt Nat.and_le_left hlt
      generalize (2 ^ (h + n) - 2 ^ h) = a at hlt hlt2 ⊢
      generalize h + n = m at hlt hlt2 ⊢
      have hor : a + 2 ^ m = 2 ^ m ||| a := by
        have := Nat.two_pow_add_eq_or_of_lt hlt 1
        rw [Nat.mul_one] at this
        rw [← this]; omega
      have hor2 : (a &&& F) + 2 ^ m = 2 ^ m ||| (a &&& F) := by
        have := Nat.two_pow_add_eq_or_of_lt hlt2 1
        rw [Nat.mul_one] at this
        rw [← this]; omega
      by_cases hb : F.testBit m = true
      · rw [if_pos hb, hor2, hor]
        apply Nat.eq_of_testBit_eq
        intro j
        simp only [Nat.testBit_and, Nat.testBit_or, Nat.testBit_two_pow]
        by_cases ej : m = j
        · subst ej; simp [hb]
        · simp [ej]
      · rw [if_neg hb, Nat.add_zero, hor]
        apply Nat.eq_of_testBit_eq
        intro j
        simp only [Nat.testBit_and, Nat.testBit_or, Nat.testBit_two_pow]
        by_cases ej : m = j
        · subst ej
          rw [Bool.not_eq_true] at hb
          simp [hb]
        · simp [ej]
    have hlt : 2 ^ (h + n) - 2 ^ h < 2 ^ (h + n) := by omega
    have hlt2 : (2 ^ (h + n) - 2 ^ h) &&& F < 2 ^ (h + n) := Nat.lt_of_le_of_lt Nat.and_le_left hlt
    rw [e, e2, pop_add _ _ hlt (by omega)]
    simp only [hsum]
    by_cases hb : F.testBit (h + n) = true
    · rw [if_pos hb, if_pos hb, pop_add _ _ hlt2 (by omega)]; omega
    · rw [if_neg hb, if_neg hb]; simp only [Nat.add_zero]; omega
theorem pow_int (n : Nat) : (1 : Int) * 2 ^ n = ((2 ^ n : Nat) : Int) := by rw [Int.one_mul]; simp
theorem stretch_tri (a b : Nat) (H : Hp) (hab : a ≤ b) (hb : b ≤ 60) : PTri Try.prog (fnA 93) [i64 a, i64 b] H (u64 ((2 ^ b - 2 ^ a : Nat) : Int)) := by
  have h1 : 2 ^ a ≤ 2 ^ b := Nat.pow_le_pow_right (by decide) hab
  have h2 : 2 ^ b ≤ 2 ^ 60 := Nat.pow_le_pow_right (by decide) hb
  obtain ⟨x, hx⟩ : ∃ x, 2 ^ a = x := ⟨_, rfl⟩
  obtain ⟨y, hy⟩ : ∃ y, 2 ^ b = y := ⟨_, rfl⟩
  rw [hx, hy] at h1 ⊢
  rw [hy] at h2
  have e : ((y - x : Nat) : Int) = (y : Int) - (x : Int) := by omega
  rw [e]
  refine tri_v0 (fun _ => false) Try.func93 (by kernel_rfl) rfl (by simp only [List.length_append, List.length_cons, List.length_nil, Try.ntmps93]; decide) ?_
  simp only [vsAll, opA, dstOk, nilSliceOp, Nat.reduceLT, eq_self, Try.ntmps93]
  refine vs_draw2 [0, 0, 0, 0, 0, 0] [] [0, 1, 2, 3, 4, 5] (by decide +kernel) ?_
  simp only [vsAll, binA, binLitA, intA, opA, dstOk, resA, argFr, retA.eq_1, Nat.reduceLT, Nat.reduceEqDiff, ↓reduceIte, reduceCtorEq, eq_self, Try.results93, pow_int, hx, hy]
  refine ⟨⟨by omega, by omega, by simp only [InR_u64]; omega⟩, ⟨by omega, by omega, by simp only [InR_u64]; omega⟩, by simp only [InR_u64]; omega⟩
theorem hot_tri (p : Pt) (i h : Nat) (b : Bool) (H : Hp) (k : Ok p) (hi : i < p.ps.length) (hh : h ≤ p.H) : PTri Try.prog (fnA 51) [pP p, i64 i, i64 h, u64 (p.F b : Nat)] H (i64 (hotV p b i h : Nat)) := by
  obtain ⟨fo, pe, e1, e2, h1, h2, hF, eH, h12⟩ := k.nums
  have nP := k.nP
  have hp := k.pot hi
  have hFl := F_lt k b
  have h4096 := pow12 h12
  have epot : (p.ps.getD i po0).ht = (p.pot i).ht := rfl
  refine tri_v0 (fun _ => false) Try.func51 (by kernel_rfl) rfl (by simp only [List.length_append, List.length_cons, List.length_nil, Try.ntmps51]; decide) ?_
  simp only [vsAll, binA, binLitA, intA, opA, dstOk, nilSliceOp, argFr, Nat.reduceLT, Nat.reduceEqDiff, ↓reduceIte, eq_self, Try.ntmps51]
  refine ⟨by simp only [InR_i64]; omega, ?_⟩
  refine vs_loop (σ := Nat) (fun e => h < e ∧ e ≤ p.H + 1 ∧ ∀ e', h < e' → e' < e → ¬ (p.pot i).ht ≤ (hsum (p.F b) h (e' - h) : Nat)) (fun e => [(0, pP p), (1, i64 i), (2, i64 h), (3, u64 (p.F b : Nat)), (9, fnA 92), (10, i64 e)]) (fun _ => H) (fun e => p.H + 1 - e) (h + 1) ⟨by omega, by omega, fun e' a c => by omega⟩ ?_ (HSub.refl _) fun e he => ?_
  · simp only [vsAll, argFr, Nat.reduceEqDiff, ↓reduceIte, reduceCtorEq, eq_self, Int.natCast_add, Int.natCast_one]
  · obtain ⟨he1, he2, hall⟩ := he
    simp only [vsAll, binA, binLitA, intA, loadA, loadRow, partA, partOk, fieldAddrA, nilCheckA, opA, dstOk, Nat.reduceLT, Nat.reduceEqDiff, ↓reduceIte, reduceCtorEq, eq_self, wtAll, eH]
    refine condD (fun hd => ?_) (fun hd => ?_)
    · have hs := seg_sum (p.F b) h (e - h) (by omega)
      rw [show h + (e - h) = e by omega] at hs
      have hle := hsum_le (p.F b) h (e - h)
      have hel : 2 ^ e ≤ 2 ^ 12 := Nat.pow_le_pow_right (by decide) (by omega)
      have hal := @Nat.and_le_left (2 ^ e - 2 ^ h) (p.F b)
      have pl1 := pop_le (2 ^ e - 2 ^ h)
      have pl2 := pop_le ((2 ^ e - 2 ^ h) &&& p.F b)
      simp only [vsAll, okAll, stAll, opsA, opA, dstOk, Nat.reduceLT, Nat.reduceEqDiff, ↓reduceIte, reduceCtorEq, eq_self]
      refine callK_pure (stretch_tri h e _ (by omega) (by omega)) ?_
      have hsg : 2 ^ e - 2 ^ h < 4096 := by have := Nat.two_pow_pos h; omega
      generalize 2 ^ e - 2 ^ h = sg at *
      simp only [vsAll, opA, dstOk, nilSliceOp, Nat.reduceLT, ↓reduceIte, eq_self]
      refine vs_draw2 [0, 0, 0, 0, 0, 0, 0, 0, 0, 0, 0, 0, 0, 0, 0, 0, 0, 0, 0, 0] [] [0, 1, 2, 3, 4, 5, 6, 7, 8, 9, 10, 11, 12, 13, 14, 15, 16, 17, 18, 19] (by decide +kernel) ?_
      simp only [vsAll, opA, dstOk, Nat.reduceLT, Nat.reduceEqDiff, ↓reduceIte, reduceCtorEq, eq_self]
      refine qcall _ ⟨trivial, by simp only [vsAll, okAll, opsA, opA, ↓reduceIte, eq_self], count_tri sg _ (by omega)⟩ ?_
      simp only [vsAll, binA, binLitA, intA, opA, dstOk, Nat.reduceLT, Nat.reduceEqDiff, ↓reduceIte, reduceCtorEq, eq_self]
      refine ⟨by simp only [InR_i64]; omega, ⟨by omega, by omega, by simp only [InR_u64]; omega, by simp only [InR_u64]; omega⟩, ?_⟩
      refine qcall _ ⟨trivial, by simp only [vsAll, okAll, opsA, opA, ↓reduceIte, eq_self], count_tri (sg &&& p.F b) _ (by omega)⟩ ?_
      simp only [vsAll, binA, binLitA, intA, loadA, loadRow, partA, partOk, fieldAddrA, indexAddrA, nilCheckA, opA, dstOk, Nat.reduceLT, Nat.reduceEqDiff, ↓reduceIte, reduceCtorEq, eq_self, wtAll, psF_at, epot]
      refine ⟨by simp only [InR_i64]; omega, ⟨by omega, by omega⟩, hi, ?_⟩
      have eV : (2 * (pop sg : Int) - (pop (sg &&& p.F b) : Nat)) = (hsum (p.F b) h (e - h) : Nat) := by omega
      rw [eV]
      refine condV (fun hc => ?_) (fun hc => ?_)
      · have : hotV p b i h = e := endN_found he1 (by omega) (of_decide_eq_true hc) hall
        rw [this]
        simp only [vsAll, opA, dstOk, nilSliceOp, resA, retA.eq_1, Nat.reduceLT, Nat.reduceEqDiff, ↓reduceIte, reduceCtorEq, eq_self, Try.results51]
      · have hc := of_decide_eq_false hc
        simp only [vsAll, binA, binLitA, intA, opA, dstOk, nilSliceOp, Nat.reduceLT, Nat.reduceEqDiff, ↓reduceIte, reduceCtorEq, eq_self]
        refine ⟨by simp only [InR_i64]; omega, loop_next (e + 1) ⟨by omega, by omega, fun e' a c => ?_⟩ (by omega) ?_ HSub_rfl⟩
        · by_cases q : e' = e
          · rw [q]; exact hc
          · exact hall e' a (by omega)
        · simp only [vsAll, Nat.reduceEqDiff, ↓reduceIte, reduceCtorEq, eq_self, Int.natCast_add, Int.natCast_one]
    · have : hotV p b i h = p.H + 1 := endN_none fun e' a c => hall e' a (by omega)
      rw [this]
      simp only [vsAll, binA, binLitA, intA, loadA, loadRow, partA, partOk, fieldAddrA, nilCheckA, opA, dstOk, nilSliceOp, resA, retA.eq_1, Nat.reduceLT, ↓reduceIte, reduceCtorEq, eq_self, wtAll, Try.results51, eH]
      refine ⟨by simp only [InR_i64]; omega, ?_⟩
      simp
end Go.Proofs.Ytliomkpmadpibaa
end
section
set_option linter.unusedVariables false
set_option linter.unusedSimpArgs false
set_option maxHeartbeats 4000000
set_option maxRecDepth 100000
namespace Go.Proofs.Ytliomkpmadpibaa
open Go.V
theorem meets_tri (a b : Nat) (H : Hp) (ha : a < 2 ^ 60) (hb : b < 2 ^ 60) : PTri Try.prog (fnA 103) [u64 (a : Nat), u64 (b : Nat)] H (boo (meet a b)) := by
  have e : meet a b = !decide (((a &&& b : Nat) : Int) = 0) := by
    unfold meet
    congr 1
    exact decide_eq_decide.2 (by omega)
  rw [e]
  refine tri_v0 (fun _ => false) Try.func103 (by kernel_rfl) rfl (by simp only [List.length_append, List.length_cons, List.length_nil, Try.ntmps103]; decide) ?_
  simp only [vsAll, binA, binLitA, intA, opA, dstOk, nilSliceOp, resA, argFr, retA.eq_1, Nat.reduceLT, Nat.reduceEqDiff, ↓reduceIte, reduceCtorEq, eq_self, Try.ntmps103, Try.results103]
  exact ⟨by omega, by omega, by simp only [InR_u64]; omega, by simp only [InR_u64]; omega⟩
theorem takes_tri (p : Pt) (i h : Nat) (H : Hp) (k : Ok p) (hi : i < p.ps.length) (hh : h < p.H) : PTri Try.prog (fnA 68) [pP p, i64 i, i64 h] H (u64 (tkN p i h : Nat)) := by
  obtain ⟨fo, pe, e1, e2, h1, h2, hF, eH, h12⟩ := k.nums
  have hgt := endN_gt (p.F true) (p.pot i).ht (show h ≤ p.H by omega)
  have eT : (tkN p i h : Nat) = 2 ^ (min p.H (hotV p true i h)) - 2 ^ h := rfl
  refine tri_v0 (fun _ => false) Try.func68 (by kernel_rfl) rfl (by simp only [List.length_append, List.length_cons, List.length_nil, Try.ntmps68]; decide) ?_
  simp only [vsAll, opA, dstOk, nilSliceOp, Nat.reduceLT, eq_self, Try.ntmps68]
  refine vs_draw2 [0, 0, 0, 0, 0, 0, 0, 0, 0, 0, 0, 0, 0, 0, 0, 0, 0] [] [0, 1, 2, 3, 4, 5, 6, 7, 8, 9, 10, 11, 12, 13, 14, 15, 16] (by decide +kernel) ?_
  simp only [vsAll, loadA, loadRow, partA, partOk, fieldAddrA, nilCheckA, opA, dstOk, argFr, Nat.reduceLT, Nat.reduceEqDiff, ↓reduceIte, reduceCtorEq, eq_self, wtAll, eH]
  refine qcall _ ⟨trivial, by simp only [vsAll, okAll, opsA, opA, Nat.reduceEqDiff, ↓reduceIte, eq_self], hot_tri p i h true _ k hi (by omega)⟩ ?_
  simp only [vsAll, mmA, okAll, stAll, opsA, opA, dstOk, Nat.reduceLT, Nat.reduceEqDiff, ↓reduceIte, eq_self]
  have em : min (p.H : Int) (hotV p true i h : Nat) = ((min p.H (hotV p true i h) : Nat) : Int) := by omega
  rw [em]
  refine qcall _ ⟨trivial, by simp only [vsAll, okAll, opsA, opA, Nat.reduceEqDiff, ↓reduceIte, eq_self], stretch_tri h (min p.H (hotV p true i h)) _ (by unfold hotV; omega) (by omega)⟩ ?_
  rw [← eT]
  simp only [vsAll, opA, dstOk, resA, retA.eq_1, Nat.reduceLT, ↓reduceIte, eq_self, Try.results68]
theorem meth_early : methT Try.prog 88 "caulkworks/pitch.broken" 123 := fun cv vs w => by kernel_rfl
theorem meth_late : methT Try.prog 89 "caulkworks/pitch.broken" 124 := fun cv vs w => by kernel_rfl
theorem meth_hull : methT Try.prog 90 "caulkworks/pitch.broken" 125 := fun cv vs w => by kernel_rfl
theorem meth_crowd : methT Try.prog 92 "caulkworks/pitch.broken" 126 := fun cv vs w => by kernel_rfl
abbrev earlyA : AV := .iface 88 (.agg [])
abbrev lateA : AV := .iface 89 (.agg [])
abbrev hullA : AV := .iface 90 (.agg [])
theorem early_tri (p : Pt) (i f h : Nat) (H : Hp) (k : Ok p) (hi : i < p.ps.length) : PTri Try.prog (fnA 123) [.agg [], pP p, i64 i, plA ((f : Int), (h : Int))] H (boo (decide ((h : Int) < (p.pot i).fr))) := by
  have nP := k.nP
  refine tri_v0 (fun _ => false) Try.func123 (by kernel_rfl) rfl (by simp only [List.length_append, List.length_cons, List.length_nil, Try.ntmps123]; decide) ?_
  simp only [vsAll, boxA, boxZ, opA, dstOk, nilSliceOp, argFr, Nat.reduceAdd, Nat.reduceLT, Nat.reduceEqDiff, ↓reduceIte, eq_self, wtAll, Try.ntmps123]
  refine vs_draw2 [0, 0, 0, 0, 0, 0, 0, 0, 0, 0, 0, 0, 0] [] [0, 1, 2, 3, 4, 5, 6, 7, 8, 9, 10, 11, 12] (by decide +kernel) ?_
  simp only [vsAll, binA, binLitA, intA, loadA, loadRow, partA, partOk, fieldAddrA, indexAddrA, nilCheckA, opA, dstOk, resA, argFr, retA.eq_1, Nat.reduceLT, Nat.reduceEqDiff, ↓reduceIte, eq_self, wtAll, Try.results123, psF_at]
  exact ⟨⟨by omega, by omega⟩, hi, rfl⟩
theorem late_tri (p : Pt) (i f h : Nat) (H : Hp) (k : Ok p) (hi : i < p.ps.length) (hh : h < p.H) : PTri Try.prog (fnA 124) [.agg [], pP p, i64 i, plA ((f : Int), (h : Int))] H (boo (decide ((p.pot i).bb < (hotV p true i h : Nat)))) := by
  have nP := k.nP
  refine tri_v0 (fun _ => false) Try.func124 (by kernel_rfl) rfl (by simp only [List.length_append, List.length_cons, List.length_nil, Try.ntmps124]; decide) ?_
  simp only [vsAll, boxA, boxZ, opA, dstOk, nilSliceOp, argFr, Nat.reduceAdd, Nat.reduceLT, Nat.reduceEqDiff, ↓reduceIte, eq_self, wtAll, Try.ntmps124]
  refine vs_draw2 [0, 0, 0, 0, 0, 0, 0, 0, 0, 0, 0, 0, 0, 0, 0, 0, 0, 0, 0, 0] [] [0, 1, 2, 3, 4, 5, 6, 7, 8, 9, 10, 11, 12, 13, 14, 15, 16, 17, 18, 19] (by decide +kernel) ?_
  simp only [vsAll, loadA, loadRow, partA, partOk, fieldAddrA, nilCheckA, opA, dstOk, argFr, Nat.reduceLT, Nat.reduceEqDiff, ↓reduceIte, eq_self, wtAll]
  refine qcall _ ⟨trivial, by simp only [vsAll, okAll, opsA, opA, Nat.reduceEqDiff, ↓reduceIte, eq_self], hot_tri p i h true _ k hi (by omega)⟩ ?_
  simp only [vsAll, binA, binLitA, intA, loadA, loadRow, partA, partOk, fieldAddrA, indexAddrA, nilCheckA, opA, dstOk, resA, argFr, retA.eq_1, Nat.reduceLT, Nat.reduceEqDiff, ↓reduceIte, eq_self, wtAll, Try.results124, psF_at]
  exact ⟨⟨by omega, by omega⟩, hi, rfl⟩
theorem hull_tri (p : Pt) (i f h : Nat) (H : Hp) (k : Ok p) (hi : i < p.ps.length) (hf : f < p.fs.length) (hh : h < p.H) : PTri Try.prog (fnA 125) [.agg [], pP p, i64 i, plA ((f : Int), (h : Int))] H (boo (meet (tkN p i h) (fireN p f))) := by
  have nF := k.nF
  have nP := k.nP
  obtain ⟨ef, hfl⟩ := k.fire hf
  have htl := tk_lt p i h
  have h4096 := pow12 k.H_eq.2
  refine tri_v0 (fun _ => false) Try.func125 (by kernel_rfl) rfl (by simp only [List.length_append, List.length_cons, List.length_nil, Try.ntmps125]; decide) ?_
  simp only [vsAll, boxA, boxZ, opA, dstOk, nilSliceOp, argFr, Nat.reduceAdd, Nat.reduceLT, Nat.reduceEqDiff, ↓reduceIte, eq_self, wtAll, Try.ntmps125]
  refine vs_draw2 [0, 0, 0, 0, 0, 0, 0, 0, 0, 0, 0, 0, 0, 0, 0, 0, 0] [] [0, 1, 2, 3, 4, 5, 6, 7, 8, 9, 10, 11, 12, 13, 14, 15, 16] (by decide +kernel) ?_
  simp only [vsAll, loadA, loadRow, partA, partOk, fieldAddrA, opA, dstOk, argFr, Nat.reduceLT, Nat.reduceEqDiff, ↓reduceIte, eq_self, wtAll]
  refine qcall _ ⟨trivial, by simp only [vsAll, okAll, opsA, opA, Nat.reduceEqDiff, ↓reduceIte, eq_self], takes_tri p i h _ k hi hh⟩ ?_
  simp only [vsAll, loadA, loadRow, partA, partOk, fieldAddrA, indexAddrA, nilCheckA, convA, opA, dstOk, argFr, Nat.reduceLT, Nat.reduceEqDiff, ↓reduceIte, eq_self, wtAll, intF_at, ef]
  refine ⟨⟨by omega, by omega⟩, hf, by simp only [InR_u64]; omega, ?_⟩
  refine qcall _ ⟨trivial, by simp only [vsAll, okAll, opsA, opA, Nat.reduceEqDiff, ↓reduceIte, eq_self], meets_tri (tkN p i h) (fireN p f) _ (by omega) (by omega)⟩ ?_
  simp only [vsAll, opA, dstOk, resA, retA.eq_1, Nat.reduceLT, ↓reduceIte, eq_self, Try.results125]
abbrev bdC (u : List Nat) : List AV := [u64 (u.getD 0 0 : Nat), u64 (u.getD 1 0 : Nat), u64 (u.getD 2 0 : Nat)]
abbrev bdF (u : List Nat) : Nat → List AV := fun i => [u64 (u.getD i 0 : Nat)]
abbrev bdAV (u : List Nat) : AV := .arr 3 1 (bdF u)
theorem bd_at (u : List Nat) {f : Nat} (h : f < 3) : (List.drop (f * 1) (bdC u)).getD 0 AV.any = u64 (u.getD f 0 : Nat) := by
  have : f = 0 ∨ f = 1 ∨ f = 2 := by omega
  rcases this with rfl | rfl | rfl <;> rfl
theorem lt3 {i : Nat} (h : i < 3) : i = 0 ∨ i = 1 ∨ i = 2 := by omega
abbrev crowdA (u : List Nat) : AV := .iface 92 (.agg (bdC u))
theorem crowd_tri (p : Pt) (i f h : Nat) (u : List Nat) (H : Hp) (k : Ok p) (hi : i < p.ps.length) (hf : f < p.fs.length) (hh : h < p.H) (hu : ∀ q, q < 3 → u.getD q 0 < 4096) : PTri Try.prog (fnA 126) [.agg (bdC u), pP p, i64 i, plA ((f : Int), (h : Int))] H (boo (meet (tkN p i h) (u.getD f 0))) := by
  have nF := k.nF
  have hu := hu f (by omega)
  have htl := tk_lt p i h
  have h4096 := pow12 k.H_eq.2
  refine tri_v0 (fun _ => false) Try.func126 (by kernel_rfl) rfl (by simp only [List.length_append, List.length_cons, List.length_nil, Try.ntmps126]; decide) ?_
  simp only [vsAll, boxA, boxZ, opA, dstOk, nilSliceOp, argFr, Nat.reduceAdd, Nat.reduceLT, Nat.reduceEqDiff, ↓reduceIte, eq_self, wtAll, Try.ntmps126]
  refine vs_draw2 [0, 0, 0, 0, 0, 0, 0, 0, 0, 0, 0, 0] [] [0, 1, 2, 3, 4, 5, 6, 7, 8, 9, 10, 11] (by decide +kernel) ?_
  simp only [vsAll, loadA, loadRow, partA, partOk, fieldAddrA, opA, dstOk, argFr, Nat.reduceLT, Nat.reduceEqDiff, ↓reduceIte, eq_self, wtAll]
  refine qcall _ ⟨trivial, by simp only [vsAll, okAll, opsA, opA, Nat.reduceEqDiff, ↓reduceIte, eq_self], takes_tri p i h _ k hi hh⟩ ?_
  have hb := bd_at u (f := f) (by omega)
  simp only [vsAll, loadA, loadRow, partA, partOk, fieldAddrA, indexAddrA, opA, dstOk, Nat.reduceLT, Nat.reduceEqDiff, ↓reduceIte, eq_self, wtAll, hb]
  refine ⟨⟨by omega, by omega⟩, by omega, ?_⟩
  refine qcall _ ⟨trivial, by simp only [vsAll, okAll, opsA, opA, Nat.reduceEqDiff, ↓reduceIte, eq_self], meets_tri (tkN p i h) (u.getD f 0) _ (by omega) (by omega)⟩ ?_
  simp only [vsAll, opA, dstOk, resA, retA.eq_1, Nat.reduceLT, ↓reduceIte, eq_self, Try.results126]
/-- The first of some rules that is broken. -/
def fstR (B : Nat → Bool) (n : Nat) : Int := match (List.range n).find? B with
  | some j => j + 1
  | none => 0
theorem fstR_hit {B : Nat → Bool} {n j : Nat} (hj : j < n) (h : B j = true) (hall : ∀ q, q < j → B q = false) : fstR B n = j + 1 := by
  have : (List.range n).find? B = some j := by
    rw [List.find?_range_eq_some]
    exact ⟨h, by simpa using hj, fun q hq => by simp [hall q hq]⟩
  unfold fstR; rw [this]
theorem fstR_none {B : Nat → Bool} {n : Nat} (hall : ∀ q, q < n → B q = false) : fstR B n = 0 := by
  have : (List.range n).find? B = none := by
    rw [List.find?_eq_none]
    intro q hq
    simp [hall q (List.mem_range.1 hq)]
  unfold fstR; rw [this]
theorem brokenL_tri (p : Pt) (i : Nat) (x : Int × Int) (n : Nat) (R : Nat → AV) (B : Nat → Bool) (H : Hp) (hn : n ≤ 10) (hok : ∀ j, (R j).ok = True) (hst : ∀ j, (R j).st = R j)
    (hR : ∀ j, j < n → PTri Try.prog (.func (.method "caulkworks/pitch.broken") [] []) [R j, pP p, i64 i, plA x] H (boo (B j))) :
    PTri Try.prog (fnA 67) [pP p, i64 i, plA x, .rsl n 1 fun j => [R j]] H (i64 (fstR B n)) := by
  refine tri_v0 (fun _ => false) Try.func67 (by kernel_rfl) rfl (by simp only [List.length_append, List.length_cons, List.length_nil, Try.ntmps67]; decide) ?_
  simp only [vsAll, lenA, boxA, boxZ, opA, dstOk, nilSliceOp, argFr, Nat.reduceAdd, Nat.reduceLT, Nat.reduceEqDiff, ↓reduceIte, eq_self, wtAll, Try.ntmps67]
  refine vs_loop (σ := Nat) (fun j => j ≤ n ∧ ∀ q, q < j → B q = false) (fun j => [(0, pP p), (1, i64 i), (6, plP x), (11, .rsl n 1 fun j => [R j]), (12, i64 n), (13, i64 j)]) (fun _ => H) (fun j => n - j) 0 ⟨Nat.zero_le _, fun q hq => absurd hq (by omega)⟩ ?_ (HSub.refl _) fun j hj => ?_
  · simp only [vsAll, argFr, Nat.reduceEqDiff, ↓reduceIte, reduceCtorEq, eq_self, Int.natCast_zero]
  · obtain ⟨hj, hall⟩ := hj
    have hokj := hok j
    have hstj := hst j
    simp only [vsAll, binA, binLitA, intA, opA, dstOk, Nat.reduceLT, Nat.reduceEqDiff, ↓reduceIte, reduceCtorEq, eq_self]
    refine condD (fun hd => ?_) (fun hd => ?_)
    · have hjn : j < n := by omega
      simp only [vsAll, loadA, loadRow, partA, partOk, indexAddrA, okAll, stAll, opsA, opA, dstOk, nilSliceOp, Nat.reduceLT, Nat.reduceEqDiff, ↓reduceIte, reduceCtorEq, eq_self, wtAll, hokj, hstj]
      refine ⟨⟨by omega, by omega⟩, hjn, callK_pure (hR j hjn) ?_⟩
      simp only [vsAll, opA, ↓reduceIte, eq_self]
      refine condV (fun hc => ?_) (fun hc => ?_)
      · have e := fstR_hit hjn hc hall
        simp only [vsAll, binA, binLitA, intA, opA, dstOk, nilSliceOp, resA, retA.eq_1, Nat.reduceLT, Nat.reduceEqDiff, ↓reduceIte, eq_self, Try.results67, e]
        simp only [InR_i64]; omega
      · simp only [vsAll, binA, binLitA, intA, opA, dstOk, Nat.reduceLT, Nat.reduceEqDiff, ↓reduceIte, reduceCtorEq, eq_self]
        refine ⟨by simp only [InR_i64]; omega, loop_next (j + 1) ⟨by omega, fun q hq => ?_⟩ (by omega) ?_ HSub_rfl⟩
        · by_cases e : q = j
          · rw [e]; exact hc
          · exact hall q (by omega)
        · simp only [vsAll, Nat.reduceEqDiff, ↓reduceIte, reduceCtorEq, eq_self, Int.natCast_add, Int.natCast_one]
    · have ej : j = n := by omega
      have e := fstR_none (B := B) (n := n) fun q hq => hall q (by omega)
      simp only [vsAll, opA, dstOk, nilSliceOp, resA, retA.eq_1, Nat.reduceLT, ↓reduceIte, eq_self, Try.results67, e]
theorem fst3 (B : Nat → Bool) : fstR B 3 = if B 0 = true then 1 else if B 1 = true then 2 else if B 2 = true then 3 else 0 := by
  cases h0 : B 0 <;> cases h1 : B 1 <;> cases h2 : B 2 <;> simp [fstR, List.range_succ, h0, h1, h2]
theorem fst4 (B : Nat → Bool) : fstR B 4 = if B 0 = true then 1 else if B 1 = true then 2 else if B 2 = true then 3 else if B 3 = true then 4 else 0 := by
  cases h0 : B 0 <;> cases h1 : B 1 <;> cases h2 : B 2 <;> cases h3 : B 3 <;> simp [fstR, List.range_succ, h0, h1, h2, h3]
/-- The rules, and whether they are broken. -/
def rlA (u : List Nat) : Nat → AV
  | 0 => earlyA
  | 1 => lateA
  | 2 => hullA
  | _ => crowdA u
def rlB (p : Pt) (i f h : Nat) (u : List Nat) : Nat → Bool
  | 0 => decide ((h : Int) < (p.pot i).fr)
  | 1 => decide ((p.pot i).bb < (hotV p true i h : Nat))
  | 2 => meet (tkN p i h) (fireN p f)
  | _ => meet (tkN p i h) (u.getD f 0)
theorem rlA_ok (u : List Nat) (j : Nat) : (rlA u j).ok = True := by unfold rlA; split <;> rfl
theorem rlA_st (u : List Nat) (j : Nat) : (rlA u j).st = rlA u j := by unfold rlA; split <;> rfl
theorem rl_tri (p : Pt) (i f h : Nat) (u : List Nat) (H : Hp) (k : Ok p) (hi : i < p.ps.length) (hf : f < p.fs.length) (hh : h < p.H) (hu : ∀ q, q < 3 → u.getD q 0 < 4096) (j : Nat) :
    PTri Try.prog (.func (.method "caulkworks/pitch.broken") [] []) [rlA u j, pP p, i64 i, plA ((f : Int), (h : Int))] H (boo (rlB p i f h u j)) := by
  match j with
  | 0 => exact tri_inv meth_early (early_tri p i f h H k hi)
  | 1 => exact tri_inv meth_late (late_tri p i f h H k hi hh)
  | 2 => exact tri_inv meth_hull (hull_tri p i f h H k hi hf hh)
  | _ + 3 => exact tri_inv meth_crowd (crowd_tri p i f h u H k hi hf hh hu)
theorem alone_tri (p : Pt) (i f h : Nat) (H : Hp) (k : Ok p) (hi : i < p.ps.length) (hf : f < p.fs.length) (hh : h < p.H) : PTri Try.prog (fnA 59) [pP p, i64 i, plA ((f : Int), (h : Int))] H (boo (decide (alR p i ((f : Int), (h : Int)) = 0))) := by
  have e : alR p i ((f : Int), (h : Int)) = fstR (rlB p i f h u0) 3 := by
    rw [fst3]
    simp only [rlB, decide_eq_true_eq]
    rfl
  rw [e]
  have hb : PTri Try.prog (fnA 67) [pP p, i64 i, plA ((f : Int), (h : Int)), .rsl 3 1 fun j => [[earlyA], [lateA], [hullA]].getD j []] H (i64 (fstR (rlB p i f h u0) 3)) := by
    refine Tri.args (brokenL_tri p i ((f : Int), (h : Int)) 3 (rlA u0) (rlB p i f h u0) H (by omega) (rlA_ok u0) (rlA_st u0) fun j _ => rl_tri p i f h u0 H k hi hf hh (fun q hq => by have := lt3 hq; rcases this with rfl | rfl | rfl <;> decide) j) rfl fun q hq => ?_
    match q, hq with
    | 0, _ => exact AV.Le.refl _
    | 1, _ => exact AV.Le.refl _
    | 2, _ => exact AV.Le.refl _
    | 3, _ =>
      refine AV.Le.rsl fun j hj => ?_
      match j, hj with
      | 0, _ => rfl
      | 1, _ => rfl
      | 2, _ => rfl
  refine tri_v0 (fun _ => false) Try.func59 (by kernel_rfl) rfl (by simp only [List.length_append, List.length_cons, List.length_nil, Try.ntmps59]; decide) ?_
  simp only [vsAll, loadA, loadRow, partA, partOk, boxA, boxZ, cellA, cellsA, fillA, okParts, buildSliceA, partIdx, elemsA, lensA, ifaceA, okAll, stAll, opsA, partsA, partsOk, opA, dstOk, nilSliceOp, argFr, Nat.reduceAdd, Nat.reduceMul, Nat.reduceLT, Nat.reduceLeDiff, Nat.reduceEqDiff, ↓reduceIte, reduceCtorEq, eq_self, wtAll, Try.ntmps59]
  refine callK_pure hb ?_
  simp only [vsAll, binA, binLitA, intA, opA, dstOk, nilSliceOp, resA, retA.eq_1, Nat.reduceLT, ↓reduceIte, eq_self, Try.results59]
/-- A board: what is taken on each fire, in numbers that are not too great. -/
def Bd (u : List Nat) : Prop := u.length = 3 ∧ ∀ q, q < 3 → u.getD q 0 < 4096
theorem broken4_tri (p : Pt) (i : Nat) (x : Int × Int) (b : List (Int × Int)) (u : List Nat) (H : Hp) (k : Ok p) (hi : i < p.ps.length) (hx : x ∈ places p) (hu : Bd u) (ht : Tk p b u) (hb : b.length = i) :
    PTri Try.prog (fnA 67) [pP p, i64 i, plA x, .rsl 4 1 fun j => [[earlyA], [lateA], [hullA], [crowdA u]].getD j []] H (i64 (brR p i x b)) := by
  have hgo := go_br ht hx
  obtain ⟨f, h, rfl, hf, hh⟩ := place_nat hx
  have e : brR p i ((f : Int), (h : Int)) b = fstR (rlB p i f h u) 4 := by
    subst hb
    unfold goB at hgo
    have e3 : alR p b.length ((f : Int), (h : Int)) = fstR (rlB p b.length f h u) 3 := by
      rw [fst3]
      simp only [rlB, decide_eq_true_eq]
      rfl
    rw [fst4]
    rw [fst3] at e3
    have em : rlB p b.length f h u 3 = meet (tkN p b.length h) (u.getD f 0) := rfl
    simp only [Int.toNat_natCast] at hgo
    unfold brR at hgo ⊢
    rw [em]
    generalize rlB p b.length f h u 0 = b0 at *
    generalize rlB p b.length f h u 1 = b1 at *
    generalize rlB p b.length f h u 2 = b2 at *
    cases b0
    · cases b1
      · cases b2
        · simp only [Bool.false_eq_true, if_false] at e3 ⊢
          rw [e3] at hgo ⊢
          simp only [decide_true, Bool.and_true, if_true] at hgo ⊢
          cases hm : meet (tkN p b.length h) (u.getD f 0)
          · rw [hm] at hgo
            have := of_decide_eq_true hgo.symm
            exact this
          · rw [hm] at hgo
            have := of_decide_eq_false hgo.symm
            split at this
            · rename_i q; rw [if_pos q]; rfl
            · exact absurd rfl this
        · simp only [Bool.false_eq_true, if_false, if_true] at e3 ⊢
          rw [e3]; rfl
      · simp only [Bool.false_eq_true, if_false, if_true] at e3 ⊢
        rw [e3]; rfl
    · simp only [if_true] at e3 ⊢
      rw [e3]; rfl
  rw [e]
  refine Tri.args (brokenL_tri p i ((f : Int), (h : Int)) 4 (rlA u) (rlB p i f h u) H (by omega) (rlA_ok u) (rlA_st u) fun j _ => rl_tri p i f h u H k hi hf hh hu.2 j) rfl fun q hq => ?_
  match q, hq with
  | 0, _ => exact AV.Le.refl _
  | 1, _ => exact AV.Le.refl _
  | 2, _ => exact AV.Le.refl _
  | 3, _ =>
    refine AV.Le.rsl fun j hj => ?_
    match j, hj with
    | 0, _ => rfl
    | 1, _ => rfl
    | 2, _ => rfl
    | 3, _ => rfl
end Go.Proofs.Ytliomkpmadpibaa
end
section
set_option linter.unusedVariables false
set_option linter.unusedSimpArgs false
set_option maxHeartbeats 4000000
set_option maxRecDepth 100000
namespace Go.Proofs.Ytliomkpmadpibaa
open Go.V
theorem joined_tri (a b : Nat) (H : Hp) (ha : a < 2 ^ 60) (hb : b < 2 ^ 60) : PTri Try.prog (fnA 60) [.rsl 2 1 fun i => [[u64 (a : Nat)], [u64 (b : Nat)]].getD i []] H (u64 ((a ||| b : Nat) : Int)) := by
  have hab := Nat.or_lt_two_pow ha hb
  have key : ∀ j : Nat, j < 2 → ([[u64 (a : Nat)], [u64 (b : Nat)]].getD j []).getD 0 .any = u64 ((if j = 0 then a else b : Nat) : Int) := fun j hj => by
    match j, hj with
    | 0, _ => rfl
    | 1, _ => rfl
  refine tri_v0 (fun _ => false) Try.func60 (by kernel_rfl) rfl (by simp only [List.length_append, List.length_cons, List.length_nil, Try.ntmps60]; decide) ?_
  simp only [vsAll, lenA, opA, dstOk, nilSliceOp, argFr, Nat.reduceLT, ↓reduceIte, reduceCtorEq, eq_self, wtAll, Try.ntmps60]
  refine vs_loop (σ := Nat) (fun j => j ≤ 2) (fun j => [(2, u64 ((if j = 0 then 0 else if j = 1 then a else a ||| b : Nat) : Int)), (5, .rsl 2 1 fun i => [[u64 (a : Nat)], [u64 (b : Nat)]].getD i []), (6, i64 ((2 : Nat) : Int)), (7, i64 j)]) (fun _ => H) (fun j => 2 - j) 0 (Nat.zero_le _) ?_ HSub_rfl fun j hj => ?_
  · simp only [vsAll, Nat.reduceEqDiff, ↓reduceIte, eq_self, Int.natCast_zero]
  · simp only [vsAll, binA, binLitA, intA, opA, dstOk, Nat.reduceLT, Nat.reduceEqDiff, ↓reduceIte, eq_self]
    refine condD (fun hd => ?_) (fun hd => ?_)
    · have hj2 : j < 2 := by omega
      have hk := key j hj2
      simp only [vsAll, binA, binLitA, intA, loadA, loadRow, partA, partOk, indexAddrA, opA, dstOk, nilSliceOp, Nat.reduceLT, Nat.reduceEqDiff, ↓reduceIte, eq_self, wtAll, hk]
      have e : ((if j = 0 then 0 else if j = 1 then a else a ||| b) ||| (if j = 0 then a else b)) = (if j + 1 = 0 then 0 else if j + 1 = 1 then a else a ||| b) := by
        have : j = 0 ∨ j = 1 := by omega
        rcases this with rfl | rfl <;> simp
      have hb1 : (if j = 0 then a else b) < 2 ^ 60 := by split <;> omega
      have hb2 : (if j = 0 then 0 else if j = 1 then a else a ||| b) < 2 ^ 60 := by
        split
        · omega
        · split <;> omega
      refine ⟨⟨by omega, by omega⟩, by omega, ⟨by omega, by omega, by simp only [InR_u64]; omega, by simp only [InR_u64]; omega⟩, by simp only [InR_i64]; omega, loop_next (j + 1) (by omega) (by omega) ?_ HSub_rfl⟩
      rw [e]
      simp only [vsAll, Nat.reduceEqDiff, ↓reduceIte, reduceCtorEq, eq_self, Int.natCast_add, Int.natCast_one]
    · have ej : j = 2 := by omega
      subst ej
      simp only [vsAll, opA, dstOk, nilSliceOp, resA, retA.eq_1, Nat.reduceLT, Nat.reduceEqDiff, ↓reduceIte, reduceCtorEq, eq_self, Try.results60]
abbrev setF (p : Pt) : AV := .func (.func 91) [] [pptr p]
def setB (p : Pt) (s : Int) : Bool := decide (0 ≤ s) && decide (s ≤ ((2 ^ p.H : Nat) : Int) - 1)
theorem isSet_tri (p : Pt) (s : Int) (H : Hp) (hr : 0 ≤ p.hr ∧ p.hr ≤ 12) : PTri Try.prog (setF p) [i64 s] H (boo (setB p s)) := by
  have eH : p.hr = (p.H : Int) := by unfold Pt.H; omega
  have h12 : p.H ≤ 12 := by omega
  have hpw := pow12 h12
  have hp0 : 0 < 2 ^ p.H := Nat.two_pow_pos _
  refine tri_v0 (fun _ => false) Try.func91 (by kernel_rfl) rfl (by simp only [List.length_append, List.length_cons, List.length_nil, Try.ntmps91]; decide) ?_
  simp only [vsAll, binA, binLitA, intA, loadA, loadRow, partA, partOk, fieldAddrA, okAll, stAll, opsA, opA, dstOk, nilSliceOp, argFr, Nat.reduceLT, Nat.reduceEqDiff, ↓reduceIte, reduceCtorEq, eq_self, wtAll, Try.ntmps91, eH, pow_int]
  generalize hP : 2 ^ p.H = P at hpw hp0 ⊢
  refine ⟨⟨by omega, by omega, by simp only [InR_i64]; omega⟩, by simp only [InR_i64]; omega, callK_pure (within_tri _ _ _ _) ?_⟩
  have e : setB p s = (decide (0 ≤ s) && decide (s ≤ (P : Int) - 1)) := by unfold setB; rw [hP]
  simp only [vsAll, opA, dstOk, nilSliceOp, resA, retA.eq_1, Nat.reduceLT, ↓reduceIte, eq_self, Try.results91, e]
def openR (p : Pt) (v : Bool) (H : Hp) : Res → Hp → Prop := fun r H' =>
  H' = H ∧ if Ok p then (if v = true then r = .ret (pP p) else r = .pan (.iface 121 (i64 2))) else r = .pan (.iface 121 (i64 1))
theorem open_tri (p : Pt) (fv : AV) (v : Bool) (H : Hp) (kn : Near p) (hfv : fv.ok) (hst : fv.st = fv)
    (hq : Ok p → ∀ (H' : Hp), PTri Try.prog fv [pP p] H' (boo v)) : Tri Try.prog (fnA 47) [p.av, fv] H (openR p v H) := by
  have nF := kn.nF
  have nP := kn.nP
  refine tri_vs (m := fun _ => false) Try.func47 (by kernel_rfl) rfl (by simp only [List.length_append, List.length_cons, List.length_nil, Try.ntmps47]; decide) ?_
  have no : ∀ {r}, ¬ Ok p → r = .pan (.iface 121 (i64 1)) → openR p v H r H := fun hno e => ⟨rfl, by rw [if_neg hno]; exact e⟩
  simp only [vsAll, loadA, loadRow, partA, partOk, fieldAddrA, boxA, boxZ, okAll, stAll, opsA, opA, dstOk, nilSliceOp, argFr, Nat.reduceAdd, Nat.reduceLT, Nat.reduceEqDiff, ↓reduceIte, eq_self, wtAll, Try.ntmps47]
  refine callK_pure (within_tri _ _ _ _) ?_
  simp only [vsAll, binA, binLitA, intA, loadA, loadRow, partA, partOk, fieldAddrA, lenA, pickA, okAll, stAll, opsA, opA, guardV, dstOk, Nat.reduceLT, Nat.reduceEqDiff, ↓reduceIte, implies_true, eq_self, wtAll]
  refine ask_call (fun hb => ?_) (fun hb => ?_)
  case refine_2 =>
    have hno : ¬ Ok p := fun k => by
      have := k.hr; have := k.nF; have := k.nP
      simp only [Bool.and_eq_false_iff, decide_eq_false_iff_not] at hb
      omega
    simp only [vsAll, eq_self]
    exact ⟨H, HSub_rfl, no hno rfl⟩
  have hN : (0 ≤ p.hr ∧ p.hr ≤ 12) ∧ p.fs.length ≤ 3 ∧ p.ps.length ≤ 4 := by
    simp only [Bool.and_eq_true, decide_eq_true_eq] at hb
    omega
  have eH : p.hr = (p.H : Int) := by unfold Pt.H; omega
  simp only [vsAll, loadA, loadRow, partA, partOk, fieldAddrA, okAll, stAll, opsA, opA, dstOk, nilSliceOp, Nat.reduceLT, Nat.reduceEqDiff, ↓reduceIte, eq_self, wtAll]
  refine callK_pure (isSet_tri p p.fro _ hN.1) ?_
  simp only [vsAll, loadA, loadRow, partA, partOk, fieldAddrA, opA, guardV, dstOk, Nat.reduceLT, Nat.reduceEqDiff, ↓reduceIte, implies_true, eq_self, wtAll]
  refine gcall _ (fun g => ⟨by simp only [vsAll, opA, Nat.reduceEqDiff, ↓reduceIte, eq_self, g], by simp only [vsAll, okAll, opsA, opA, ↓reduceIte, eq_self, g], isSet_tri p p.per _ hN.1⟩) ?_
  simp only [vsAll, pickA, okAll, stAll, opsA, opA, dstOk, Nat.reduceLT, Nat.reduceEqDiff, ↓reduceIte, implies_true, eq_self]
  have hset : ∀ s, setB p s = true ↔ okSet p s := fun s => by unfold setB okSet; simp
  refine ask_call (fun hb2 => ?_) (fun hb2 => ?_)
  case refine_2 =>
    have hno : ¬ Ok p := fun k => by
      rw [(hset _).2 k.fro, (hset _).2 k.per] at hb2
      cases hb2
    simp only [vsAll, eq_self]
    exact ⟨H, HSub_rfl, no hno rfl⟩
  rw [Bool.and_eq_true, hset, hset] at hb2
  simp only [vsAll, loadA, loadRow, partA, partOk, fieldAddrA, lenA, opA, dstOk, Nat.reduceLT, Nat.reduceEqDiff, ↓reduceIte, eq_self, wtAll]
  refine vs_loop (σ := Nat) (fun i => i ≤ p.fs.length ∧ ∀ j, j < i → okSet p (p.fs.getD j 0)) (fun i => [(1, fv), (2, pptr p), (5, setF p), (40, intsAV p.fs), (41, i64 p.fs.length), (42, i64 i)]) (fun _ => H) (fun i => p.fs.length - i) 0 ⟨Nat.zero_le _, fun j hj => absurd hj (by omega)⟩ ?_ (HSub.refl _) fun i hi => ?_
  · simp only [vsAll, argFr, Nat.reduceEqDiff, ↓reduceIte, eq_self, Int.natCast_zero]
  · obtain ⟨hi, hall⟩ := hi
    simp only [vsAll, binA, binLitA, intA, opA, dstOk, Nat.reduceLT, Nat.reduceEqDiff, ↓reduceIte, eq_self]
    refine condD (fun hd => ?_) (fun hd => ?_)
    · have hio : i < p.fs.length := by omega
      simp only [vsAll, loadA, loadRow, partA, partOk, indexAddrA, okAll, stAll, opsA, opA, dstOk, nilSliceOp, Nat.reduceLT, Nat.reduceEqDiff, ↓reduceIte, eq_self, wtAll, intF_at]
      refine ⟨⟨by omega, by omega⟩, hio, callK_pure (isSet_tri p (p.fs.getD i 0) _ hN.1) ?_⟩
      simp only [vsAll, okAll, stAll, opsA, opA, dstOk, Nat.reduceLT, ↓reduceIte, eq_self]
      refine ask_call (fun hc => ?_) (fun hc => ?_)
      case refine_2 =>
        have hno : ¬ Ok p := fun k => by
          rw [(hset _).2 (k.f i hio)] at hc
          cases hc
        simp only [vsAll, eq_self]
        exact ⟨H, HSub_rfl, no hno rfl⟩
      rw [hset] at hc
      simp only [vsAll, binA, binLitA, intA, opA, dstOk, Nat.reduceLT, Nat.reduceEqDiff, ↓reduceIte, eq_self]
      refine ⟨by simp only [InR_i64]; omega, loop_next (i + 1) ⟨by omega, fun j hj => ?_⟩ (by omega) ?_ HSub_rfl⟩
      · by_cases e : j = i
        · rw [e]; exact hc
        · exact hall j (by omega)
      · simp only [vsAll, Nat.reduceEqDiff, ↓reduceIte, eq_self, Int.natCast_add, Int.natCast_one]
    · have hA : ∀ j, j < p.fs.length → okSet p (p.fs.getD j 0) := fun j hj => hall j (by omega)
      simp only [vsAll, loadA, loadRow, partA, partOk, fieldAddrA, lenA, opA, dstOk, Nat.reduceLT, Nat.reduceEqDiff, ↓reduceIte, eq_self, wtAll]
      refine vs_loop (σ := Nat) (fun i => i ≤ p.ps.length ∧ ∀ j, j < i → okP p (p.ps.getD j po0)) (fun i => [(1, fv), (2, pptr p), (52, psAV p.ps), (53, i64 p.ps.length), (54, i64 i)]) (fun _ => H) (fun i => p.ps.length - i) 0 ⟨Nat.zero_le _, fun j hj => absurd hj (by omega)⟩ ?_ (HSub.refl _) fun i hi => ?_
      · simp only [vsAll, Nat.reduceEqDiff, ↓reduceIte, eq_self, Int.natCast_zero]
      · obtain ⟨hi, hall⟩ := hi
        simp only [vsAll, binA, binLitA, intA, opA, dstOk, Nat.reduceLT, Nat.reduceEqDiff, ↓reduceIte, eq_self]
        refine condD (fun hd => ?_) (fun hd => ?_)
        · have hio : i < p.ps.length := by omega
          simp only [vsAll, loadA, loadRow, partA, partOk, fieldAddrA, indexAddrA, cellA, okAll, stAll, opsA, opA, allocA, newCells, okCells, storeObj, dstOk, Nat.reduceAdd, Nat.reduceLT, Nat.reduceEqDiff, ↓reduceIte, eq_self, wtAll, psF_at]
          refine ⟨⟨by omega, by omega⟩, hio, ?_⟩
          intro i9 hh_i9; (try simp only [Hp.set_none, ite_none] at hh_i9)
          have hle : ∀ x : Po, okP p x ↔ ((decide (1 ≤ x.ht) && decide (x.ht ≤ 12)) && (decide (0 ≤ x.fr) && decide (x.fr ≤ (p.H : Int))) && (decide (0 ≤ x.bb) && decide (x.bb ≤ (p.H : Int)))) = true := fun x => by
            unfold okP
            simp only [Bool.and_eq_true, decide_eq_true_eq]
            ((try clear hh_i9); omega)
          have hle := hle (p.ps.getD i po0)
          have hnx : okP p (p.ps.getD i po0) → ∀ j, j < i + 1 → okP p (p.ps.getD j po0) := fun h j hj => by
            by_cases e : j = i
            · rw [e]; exact h
            · exact hall j (by ((try clear hh_i9); omega))
          have hno : ¬ okP p (p.ps.getD i po0) → ¬ Ok p := fun h k => h (k.s i hio)
          generalize p.ps.getD i po0 = x at *
          refine callK_pure (within_tri _ _ _ _) ?_
          simp only [vsAll, loadA, loadRow, partA, partOk, fieldAddrA, opA, guardV, dstOk, Nat.reduceLT, Nat.reduceEqDiff, ↓reduceIte, implies_true, eq_self, wtAll, eH]
          refine gcall _ (fun g => ⟨by simp only [vsAll, opA], by simp only [vsAll, okAll, opsA, opA, Nat.reduceEqDiff, ↓reduceIte, eq_self, g], within_tri x.fr 0 (p.H : Int) _⟩) ?_
          simp only [vsAll, loadA, loadRow, partA, partOk, fieldAddrA, pickA, opA, guardV, dstOk, Nat.reduceLT, Nat.reduceEqDiff, ↓reduceIte, implies_true, eq_self, wtAll, eH]
          refine gcall _ (fun g => ⟨by simp only [vsAll, opA], by simp only [vsAll, okAll, opsA, opA, Nat.reduceEqDiff, ↓reduceIte, eq_self, g], within_tri x.bb 0 (p.H : Int) _⟩) ?_
          simp only [vsAll, pickA, okAll, stAll, opsA, opA, dstOk, Nat.reduceLT, Nat.reduceEqDiff, ↓reduceIte, implies_true, eq_self]
          refine ask_call (fun hc => ?_) (fun hc => ?_)
          case refine_2 =>
            have hn := hno (fun q => by rw [hle.1 q] at hc; cases hc)
            simp only [vsAll, eq_self]
            exact ⟨H, by (repeat (first | exact HSub_rfl | refine HSub_put_eq (by simp only [vsAll, binA, binLitA, intA, aggA, aggV, boolA, nilA2, isConst, unA, loadA, loadRow, partA, partOk, fieldAddrA, indexAddrA, indexA, fieldA, extractA, lenA, nilCheckA, boxA, boxZ, cellA, cellsA, fillA, okParts, buildSliceA, buildMutA, makeSliceA, partIdx, elemsA, lensA, ifaceA, convA, mmA, pickA, okAll, stAll, opsA, partsA, partsOk, opA, allocA, boxMutA, newCells, okCells, storeObj, appendA, guardV, taA, nM, mapUpA, lookA, sliceA, sliceS, boundsA, opO, okO, copyA, dstOk, nilA, quietOk, nilSliceOp, deferV, panA, resA, argFr, retA.eq_1, retA.eq_2, Nat.reduceAdd, Nat.reduceSub, Nat.reduceMul, Nat.reduceLT, Nat.reduceLeDiff, Nat.reduceEqDiff, Nat.reduceBEq, Int.reduceAdd, Int.reduceSub, Int.reduceMul, Int.reduceNeg, Int.reduceLE, Int.reduceLT, Int.reduceEq, Int.reduceNe, Int.reduceToNat, ↓reduceIte, reduceCtorEq, implies_true, forall_const, eq_self, ne_eq, arrL, wtAll, Try.ntmps47, Try.results47, hh_i9]) ?_ | refine HSub_drop2 (by simp only [eq_self, hh_i9]) ?_ | refine HSub_keep_eq (by simp only [vsAll, binA, binLitA, intA, aggA, aggV, boolA, nilA2, isConst, unA, loadA, loadRow, partA, partOk, fieldAddrA, indexAddrA, indexA, fieldA, extractA, lenA, nilCheckA, boxA, boxZ, cellA, cellsA, fillA, okParts, buildSliceA, buildMutA, makeSliceA, partIdx, elemsA, lensA, ifaceA, convA, mmA, pickA, okAll, stAll, opsA, partsA, partsOk, opA, allocA, boxMutA, newCells, okCells, storeObj, appendA, guardV, taA, nM, mapUpA, lookA, sliceA, sliceS, boundsA, opO, okO, copyA, dstOk, nilA, quietOk, nilSliceOp, deferV, panA, resA, argFr, retA.eq_1, retA.eq_2, Nat.reduceAdd, Nat.reduceSub, Nat.reduceMul, Nat.reduceLT, Nat.reduceLeDiff, Nat.reduceEqDiff, Nat.reduceBEq, Int.reduceAdd, Int.reduceSub, Int.reduceMul, Int.reduceNeg, Int.reduceLE, Int.reduceLT, Int.reduceEq, Int.reduceNe, Int.reduceToNat, ↓reduceIte, reduceCtorEq, implies_true, forall_const, eq_self, ne_eq, arrL, wtAll, Try.ntmps47, Try.results47, hh_i9]) ?_)), no hn rfl⟩
          have hk := hle.2 hc
          simp only [vsAll, binA, binLitA, intA, opA, dstOk, Nat.reduceLT, Nat.reduceEqDiff, ↓reduceIte, eq_self]
          refine ⟨by simp only [InR_i64]; ((try clear hh_i9); omega), loop_next (i + 1) ⟨by ((try clear hh_i9); omega), hnx hk⟩ (by ((try clear hh_i9); omega)) ?_ ?_⟩
          · simp only [vsAll, Nat.reduceEqDiff, ↓reduceIte, eq_self, Int.natCast_add, Int.natCast_one]
          · (repeat (first | exact HSub_rfl | refine HSub_put_eq (by simp only [vsAll, binA, binLitA, intA, aggA, aggV, boolA, nilA2, isConst, unA, loadA, loadRow, partA, partOk, fieldAddrA, indexAddrA, indexA, fieldA, extractA, lenA, nilCheckA, boxA, boxZ, cellA, cellsA, fillA, okParts, buildSliceA, buildMutA, makeSliceA, partIdx, elemsA, lensA, ifaceA, convA, mmA, pickA, okAll, stAll, opsA, partsA, partsOk, opA, allocA, boxMutA, newCells, okCells, storeObj, appendA, guardV, taA, nM, mapUpA, lookA, sliceA, sliceS, boundsA, opO, okO, copyA, dstOk, nilA, quietOk, nilSliceOp, deferV, panA, resA, argFr, retA.eq_1, retA.eq_2, Nat.reduceAdd, Nat.reduceSub, Nat.reduceMul, Nat.reduceLT, Nat.reduceLeDiff, Nat.reduceEqDiff, Nat.reduceBEq, Int.reduceAdd, Int.reduceSub, Int.reduceMul, Int.reduceNeg, Int.reduceLE, Int.reduceLT, Int.reduceEq, Int.reduceNe, Int.reduceToNat, ↓reduceIte, reduceCtorEq, implies_true, forall_const, eq_self, ne_eq, arrL, wtAll, Try.ntmps47, Try.results47, hh_i9]) ?_ | refine HSub_drop2 (by simp only [eq_self, hh_i9]) ?_ | refine HSub_keep_eq (by simp only [vsAll, binA, binLitA, intA, aggA, aggV, boolA, nilA2, isConst, unA, loadA, loadRow, partA, partOk, fieldAddrA, indexAddrA, indexA, fieldA, extractA, lenA, nilCheckA, boxA, boxZ, cellA, cellsA, fillA, okParts, buildSliceA, buildMutA, makeSliceA, partIdx, elemsA, lensA, ifaceA, convA, mmA, pickA, okAll, stAll, opsA, partsA, partsOk, opA, allocA, boxMutA, newCells, okCells, storeObj, appendA, guardV, taA, nM, mapUpA, lookA, sliceA, sliceS, boundsA, opO, okO, copyA, dstOk, nilA, quietOk, nilSliceOp, deferV, panA, resA, argFr, retA.eq_1, retA.eq_2, Nat.reduceAdd, Nat.reduceSub, Nat.reduceMul, Nat.reduceLT, Nat.reduceLeDiff, Nat.reduceEqDiff, Nat.reduceBEq, Int.reduceAdd, Int.reduceSub, Int.reduceMul, Int.reduceNeg, Int.reduceLE, Int.reduceLT, Int.reduceEq, Int.reduceNe, Int.reduceToNat, ↓reduceIte, reduceCtorEq, implies_true, forall_const, eq_self, ne_eq, arrL, wtAll, Try.ntmps47, Try.results47, hh_i9]) ?_))
        · have k : Ok p := (ok_iff p).2 ⟨hN, hb2, hA, fun j hj => hall j (by omega)⟩
          obtain ⟨fo, pe, e1, e2, h1, h2, hF, _, h12⟩ := k.nums
          have eF0 : p.F false = fo := by unfold Pt.F; rw [e1, if_neg (by decide), Int.toNat_natCast]
          have eF1 : p.F true = fo ||| pe := by unfold Pt.F; rw [e1, e2, if_pos rfl, Int.toNat_natCast, Int.toNat_natCast]
          simp only [vsAll, ↓reduceIte, eq_self]
          refine vs_draw2 [0, 0, 0, 0, 0, 0, 0, 0, 0, 0, 0, 0, 0, 0, 0] [] [0, 1, 2, 3, 4, 5, 6, 7, 8, 9, 10, 11, 12, 13, 14] (by decide +kernel) ?_
          simp only [vsAll, loadA, loadRow, partA, partOk, fieldAddrA, cellA, cellsA, okParts, buildSliceA, partIdx, elemsA, lensA, convA, partsA, partsOk, opA, dstOk, Nat.reduceAdd, Nat.reduceMul, Nat.reduceLT, Nat.reduceLeDiff, Nat.reduceEqDiff, ↓reduceIte, eq_self, wtAll, e1, e2]
          refine ⟨by simp only [InR_u64]; omega, by simp only [InR_u64]; omega, by simp only [InR_u64]; omega, ?_⟩
          refine qcall _ ⟨trivial, by simp only [vsAll, okAll, opsA, opA, ↓reduceIte, eq_self], joined_tri fo pe _ (by omega) (by omega)⟩ ?_
          have eP : pP p = .rptr 1 7 (fun _ => [i64 p.hr, i64 fo, i64 pe, intsAV p.fs, psAV p.ps, u64 (fo : Nat), u64 ((fo ||| pe : Nat) : Int)]) 0 0 := by
            unfold pP pC; rw [eF0, eF1, e1, e2]
          have hq := hq k
          rw [eP] at hq
          simp only [vsAll, boxA, boxZ, cellA, cellsA, fillA, okParts, okAll, stAll, opsA, partsA, partsOk, opA, dstOk, Nat.reduceAdd, Nat.reduceLT, Nat.reduceLeDiff, Nat.reduceEqDiff, ↓reduceIte, eq_self, wtAll, hst, hfv]
          refine callK_pure (hq _) ?_
          simp only [vsAll, okAll, stAll, opsA, opA, dstOk, Nat.reduceLT, ↓reduceIte, eq_self]
          refine ask_call (fun hc => ?_) (fun hc => ?_)
          · subst hc
            simp only [vsAll, opA, dstOk, nilSliceOp, Nat.reduceLT, Nat.reduceEqDiff, ↓reduceIte, eq_self]
            refine ret0 ?_
            simp only [vsAll, resA, retA.eq_1, ↓reduceIte, eq_self, Try.results47]
            exact ⟨H, HSub_rfl, rfl, by rw [if_pos k, if_pos rfl, eP]⟩
          · subst hc
            simp only [vsAll, eq_self]
            exact ⟨H, HSub_rfl, rfl, by rw [if_pos k, if_neg (by decide)]⟩
end Go.Proofs.Ytliomkpmadpibaa
end
section
set_option linter.unusedVariables false
set_option linter.unusedSimpArgs false
set_option maxHeartbeats 4000000
set_option maxRecDepth 100000
namespace Go.Proofs.Ytliomkpmadpibaa
open Go.V
theorem open_call {p : Pt} {fv : AV} {v : Bool} {H : Hp} {K : AV → Hp → Prop} {Kp : AV → Hp → Prop} (ht : Tri Try.prog (fnA 47) [p.av, fv] H (openR p v H))
    (h1 : ¬ errE p v = 0 → Kp (.iface 121 (i64 (errE p v))) H) (h2 : Ok p → v = true → K (pP p) H) : CallK Try.prog (fnA 47) [p.av, fv] H K Kp := by
  refine ⟨_, ht, fun r H' hr => ?_⟩
  obtain ⟨rfl, hr⟩ := hr
  split at hr
  · rename_i hk
    split at hr
    · rename_i hv
      subst hr
      exact h2 hk hv
    · rename_i hv
      subst hr
      have hv : v = false := by simpa using hv
      subst hv
      have e := errE_bad hk
      rw [← e]
      exact h1 (by rw [e]; decide)
  · rename_i hk
    subst hr
    have e := errE_no hk v
    rw [← e]
    exact h1 (by rw [e]; decide)
theorem hot1_tri (p : Pt) (n h : Int) (H : Hp) (k : Ok p) : PTri Try.prog (.func (.func 48) [] [bx n, bx h]) [pP p] H (boo (isPot p n && isHour p h)) := by
  refine tri_v0 (fun _ => false) Try.func48 (by kernel_rfl) rfl (by simp only [List.length_append, List.length_cons, List.length_nil, Try.ntmps48]; decide) ?_
  simp only [vsAll, loadA, loadRow, partA, partOk, okAll, stAll, opsA, opA, dstOk, nilSliceOp, argFr, Nat.reduceLT, Nat.reduceEqDiff, ↓reduceIte, reduceCtorEq, eq_self, wtAll, Try.ntmps48]
  refine callK_pure (wpot_tri p n _ k.near) ?_
  simp only [vsAll, loadA, loadRow, partA, partOk, opA, guardV, dstOk, argFr, Nat.reduceLT, Nat.reduceEqDiff, ↓reduceIte, reduceCtorEq, implies_true, eq_self, wtAll]
  refine gcall _ (fun g => ⟨by simp only [vsAll, opA], by simp only [vsAll, okAll, opsA, opA, Nat.reduceEqDiff, ↓reduceIte, eq_self, g], whour_tri p h _ k⟩) ?_
  simp only [vsAll, pickA, opA, dstOk, nilSliceOp, resA, retA.eq_1, Nat.reduceLT, Nat.reduceEqDiff, ↓reduceIte, implies_true, eq_self, Try.results48]
theorem starts1_tri (p : Pt) (n f : Int) (H : Hp) (k : Ok p) : PTri Try.prog (.func (.func 57) [] [bx n, bx f]) [pP p] H (boo (isPot p n && isFire p f)) := by
  refine tri_v0 (fun _ => false) Try.func57 (by kernel_rfl) rfl (by simp only [List.length_append, List.length_cons, List.length_nil, Try.ntmps57]; decide) ?_
  simp only [vsAll, loadA, loadRow, partA, partOk, okAll, stAll, opsA, opA, dstOk, nilSliceOp, argFr, Nat.reduceLT, Nat.reduceEqDiff, ↓reduceIte, reduceCtorEq, eq_self, wtAll, Try.ntmps57]
  refine callK_pure (wpot_tri p n _ k.near) ?_
  simp only [vsAll, loadA, loadRow, partA, partOk, opA, guardV, dstOk, argFr, Nat.reduceLT, Nat.reduceEqDiff, ↓reduceIte, reduceCtorEq, implies_true, eq_self, wtAll]
  refine gcall _ (fun g => ⟨by simp only [vsAll, opA], by simp only [vsAll, okAll, opsA, opA, Nat.reduceEqDiff, ↓reduceIte, eq_self, g], wfire_tri p f _ k.near⟩) ?_
  simp only [vsAll, pickA, opA, dstOk, nilSliceOp, resA, retA.eq_1, Nat.reduceLT, Nat.reduceEqDiff, ↓reduceIte, implies_true, eq_self, Try.results57]
theorem whot_tri (p : Pt) (n h : Int) (H : Hp) (kn : Near p) : PTri Try.prog (fnA 15) [p.av, i64 n, i64 h] H (.tuple [.agg [i64 (hotS p n h).1, i64 (hotS p n h).2], i64 (hotE p n h)]) := by
  refine Tri.drop ?_
  refine tri_a (m := fun _ => false) ans46 Try.func15 (by kernel_rfl) rfl (by simp only [List.length_append, List.length_cons, List.length_nil, Try.ntmps15]; decide) ?_
  simp only [vsAll, loadA, loadRow, partA, partOk, boxA, boxZ, cellA, okAll, stAll, opsA, opA, allocA, dstOk, argFr, Nat.reduceAdd, Nat.reduceLT, Nat.reduceEqDiff, ↓reduceIte, eq_self, wtAll, Try.ntmps15]
  intro i6 hh_i6; (try simp only [Hp.set_none, ite_none] at hh_i6); intro i7 hh_i7; (try simp only [ite_none] at hh_i7)
  refine open_call (open_tri p _ (isPot p n && isHour p h) _ kn trivial rfl (fun k H' => hot1_tri p n h H' k)) (fun he => ?_) (fun k hv => ?_)
  · have e : hotE p n h = errE p (isPot p n && isHour p h) := if_neg he
    have e2 : hotS p n h = (0, 0) := if_neg (by rw [e]; exact he)
    simp only [vsAll]
    refine ⟨errE p (isPot p n && isHour p h), i7, _, rfl, rfl, by simp only [vsAll, ↓reduceIte, eq_self]; try rfl, ?_⟩
    simp only [vsAll, loadA, loadRow, partA, partOk, resA, retA.eq_2, Nat.reduceLT, Nat.reduceEqDiff, ↓reduceIte, eq_self, wtAll, Try.results15, hh_i7]
    refine dropR_pure ?_ (by (repeat (first | exact HSub_rfl | refine HSub_put_eq (by simp only [vsAll, binA, binLitA, intA, aggA, aggV, boolA, nilA2, isConst, unA, loadA, loadRow, partA, partOk, fieldAddrA, indexAddrA, indexA, fieldA, extractA, lenA, nilCheckA, boxA, boxZ, cellA, cellsA, fillA, okParts, buildSliceA, buildMutA, makeSliceA, partIdx, elemsA, lensA, ifaceA, convA, mmA, pickA, okAll, stAll, opsA, partsA, partsOk, opA, allocA, boxMutA, newCells, okCells, storeObj, appendA, guardV, taA, nM, mapUpA, lookA, sliceA, sliceS, boundsA, opO, okO, copyA, dstOk, nilA, quietOk, nilSliceOp, deferV, panA, resA, argFr, retA.eq_1, retA.eq_2, Nat.reduceAdd, Nat.reduceSub, Nat.reduceMul, Nat.reduceLT, Nat.reduceLeDiff, Nat.reduceEqDiff, Nat.reduceBEq, Int.reduceAdd, Int.reduceSub, Int.reduceMul, Int.reduceNeg, Int.reduceLE, Int.reduceLT, Int.reduceEq, Int.reduceNe, Int.reduceToNat, ↓reduceIte, reduceCtorEq, implies_true, forall_const, eq_self, ne_eq, arrL, wtAll, Try.ntmps15, Try.results15, hh_i6, hh_i7]) ?_ | refine HSub_drop2 (by simp only [eq_self, hh_i6, hh_i7]) ?_ | refine HSub_keep_eq (by simp only [vsAll, binA, binLitA, intA, aggA, aggV, boolA, nilA2, isConst, unA, loadA, loadRow, partA, partOk, fieldAddrA, indexAddrA, indexA, fieldA, extractA, lenA, nilCheckA, boxA, boxZ, cellA, cellsA, fillA, okParts, buildSliceA, buildMutA, makeSliceA, partIdx, elemsA, lensA, ifaceA, convA, mmA, pickA, okAll, stAll, opsA, partsA, partsOk, opA, allocA, boxMutA, newCells, okCells, storeObj, appendA, guardV, taA, nM, mapUpA, lookA, sliceA, sliceS, boundsA, opO, okO, copyA, dstOk, nilA, quietOk, nilSliceOp, deferV, panA, resA, argFr, retA.eq_1, retA.eq_2, Nat.reduceAdd, Nat.reduceSub, Nat.reduceMul, Nat.reduceLT, Nat.reduceLeDiff, Nat.reduceEqDiff, Nat.reduceBEq, Int.reduceAdd, Int.reduceSub, Int.reduceMul, Int.reduceNeg, Int.reduceLE, Int.reduceLT, Int.reduceEq, Int.reduceNe, Int.reduceToNat, ↓reduceIte, reduceCtorEq, implies_true, forall_const, eq_self, ne_eq, arrL, wtAll, Try.ntmps15, Try.results15, hh_i6, hh_i7]) ?_)))
    simp only [eq_self, e, e2]
  · have he : errE p (isPot p n && isHour p h) = 0 := by rw [hv]; exact errE_ok k
    rw [Bool.and_eq_true, isPot_iff, isHour_iff k] at hv
    obtain ⟨⟨a1, a2⟩, a3, a4⟩ := hv
    obtain ⟨i, rfl⟩ : ∃ i : Nat, n = (i : Int) := ⟨n.toNat, by ((try clear hh_i6); (try clear hh_i7); omega)⟩
    obtain ⟨t, rfl⟩ : ∃ t : Nat, h = (t : Int) := ⟨h.toNat, by ((try clear hh_i6); (try clear hh_i7); omega)⟩
    have hH := k.H_eq
    have eH : p.hr = (p.H : Int) := hH.1.symm
    have ht : t ≤ p.H := by ((try clear hh_i6); (try clear hh_i7); omega)
    simp only [vsAll, opA, dstOk, nilSliceOp, Nat.reduceLT, ↓reduceIte, eq_self]
    refine vs_draw2 [0, 0, 0, 0, 0, 0, 0, 0, 0, 0, 0, 0, 0, 0, 0, 0, 0, 1, 3] [([0, 1, 2, 3, 4, 5, 6, 7, 8, 9, 10, 11, 12, 13, 14, 15, 16], [1, 2, 6, 7, 9, 10, 14, 15], 17), ([], [], 18)] [] (by decide +kernel) ?_
    simp only [vsAll, loadA, loadRow, partA, partOk, fieldAddrA, nilCheckA, opA, dstOk, Nat.reduceLT, Nat.reduceEqDiff, ↓reduceIte, eq_self, wtAll]
    refine qcall _ ⟨trivial, by simp only [vsAll, okAll, opsA, opA, Nat.reduceEqDiff, ↓reduceIte, eq_self], hot_tri p i t false _ k (by ((try clear hh_i6); (try clear hh_i7); omega)) ht⟩ ?_
    simp only [vsAll, loadA, loadRow, partA, partOk, fieldAddrA, nilCheckA, opA, dstOk, Nat.reduceLT, Nat.reduceEqDiff, ↓reduceIte, eq_self, wtAll]
    refine qcall _ ⟨trivial, by simp only [vsAll, okAll, opsA, opA, Nat.reduceEqDiff, ↓reduceIte, eq_self], hot_tri p i t true _ k (by ((try clear hh_i6); (try clear hh_i7); omega)) ht⟩ ?_
    simp only [vsAll, loadA, loadRow, partA, partOk, cellA, cellsA, fillA, okParts, partsA, partsOk, opA, allocA, newCells, okCells, storeObj, dstOk, Nat.reduceAdd, Nat.reduceLT, Nat.reduceLeDiff, Nat.reduceEqDiff, ↓reduceIte, eq_self, wtAll]
    intro i9 hh_i9; (try simp only [ite_none] at hh_i9)
    have hm := hotV_mono p i ht
    refine ⟨⟨rcall _ ⟨trivial, by simp only [vsAll, okAll, opsA, opA, Nat.reduceEqDiff, ↓reduceIte, eq_self], hot_tri p i t false _ k (by ((try clear hh_i6); (try clear hh_i7); (try clear hh_i9); omega)) ht⟩ (by simp only [vsAll, Nat.reduceEqDiff, ↓reduceIte, eq_self]), rcall _ ⟨trivial, by simp only [vsAll, okAll, opsA, opA, Nat.reduceEqDiff, ↓reduceIte, eq_self], hot_tri p i t true _ k (by ((try clear hh_i6); (try clear hh_i7); (try clear hh_i9); omega)) ht⟩ (by simp only [vsAll, Nat.reduceEqDiff, ↓reduceIte, eq_self])⟩, ?_⟩
    refine vs_draw2 [0, 0, 0, 0, 0, 0, 0, 0, 1] [([0, 1, 2, 3, 4, 5, 6, 7], [], 8)] [] (by decide +kernel) ?_
    simp only [vsAll, binA, binLitA, intA, loadA, loadRow, partA, partOk, fieldAddrA, nilCheckA, okAll, stAll, opsA, opA, dstOk, Nat.reduceLT, Nat.reduceEqDiff, ↓reduceIte, eq_self, wtAll, eH]
    refine ask_call (fun hc => ?_) (fun hc => ?_)
    · have hle : hotV p true i t ≤ p.H := by rw [decide_eq_true_eq] at hc; ((try clear hh_i6); (try clear hh_i7); (try clear hh_i9); omega)
      have e : hotE p i t = 0 := by unfold hotE; rw [if_pos he, Int.toNat_natCast, Int.toNat_natCast, if_pos hle]
      have e2 : hotS p i t = (((hotV p false i t : Nat) : Int), ((hotV p true i t : Nat) : Int)) := by unfold hotS; rw [if_pos e, Int.toNat_natCast, Int.toNat_natCast]
      simp only [vsAll, loadA, loadRow, partA, partOk, cellA, cellsA, opA, newCells, okCells, storeObj, dstOk, Nat.reduceAdd, Nat.reduceLT, Nat.reduceEqDiff, ↓reduceIte, eq_self, wtAll, hh_i7, hh_i9]
      refine Ent.ret ⟨i7, _, rfl, by simp only [vsAll, ↓reduceIte, eq_self]; try rfl, ?_⟩
      simp only [vsAll, loadA, loadRow, partA, partOk, resA, retA.eq_2, Nat.reduceLT, Nat.reduceEqDiff, ↓reduceIte, eq_self, wtAll, Try.results15, hh_i7]
      refine dropR_pure ?_ (by (repeat (first | exact HSub_rfl | refine HSub_put_eq (by simp only [vsAll, binA, binLitA, intA, aggA, aggV, boolA, nilA2, isConst, unA, loadA, loadRow, partA, partOk, fieldAddrA, indexAddrA, indexA, fieldA, extractA, lenA, nilCheckA, boxA, boxZ, cellA, cellsA, fillA, okParts, buildSliceA, buildMutA, makeSliceA, partIdx, elemsA, lensA, ifaceA, convA, mmA, pickA, okAll, stAll, opsA, partsA, partsOk, opA, allocA, boxMutA, newCells, okCells, storeObj, appendA, guardV, taA, nM, mapUpA, lookA, sliceA, sliceS, boundsA, opO, okO, copyA, dstOk, nilA, quietOk, nilSliceOp, deferV, panA, resA, argFr, retA.eq_1, retA.eq_2, Nat.reduceAdd, Nat.reduceSub, Nat.reduceMul, Nat.reduceLT, Nat.reduceLeDiff, Nat.reduceEqDiff, Nat.reduceBEq, Int.reduceAdd, Int.reduceSub, Int.reduceMul, Int.reduceNeg, Int.reduceLE, Int.reduceLT, Int.reduceEq, Int.reduceNe, Int.reduceToNat, ↓reduceIte, reduceCtorEq, implies_true, forall_const, eq_self, ne_eq, arrL, wtAll, Try.ntmps15, Try.results15, hh_i6, hh_i7, hh_i9]) ?_ | refine HSub_drop2 (by simp only [eq_self, hh_i6, hh_i7, hh_i9]) ?_ | refine HSub_keep_eq (by simp only [vsAll, binA, binLitA, intA, aggA, aggV, boolA, nilA2, isConst, unA, loadA, loadRow, partA, partOk, fieldAddrA, indexAddrA, indexA, fieldA, extractA, lenA, nilCheckA, boxA, boxZ, cellA, cellsA, fillA, okParts, buildSliceA, buildMutA, makeSliceA, partIdx, elemsA, lensA, ifaceA, convA, mmA, pickA, okAll, stAll, opsA, partsA, partsOk, opA, allocA, boxMutA, newCells, okCells, storeObj, appendA, guardV, taA, nM, mapUpA, lookA, sliceA, sliceS, boundsA, opO, okO, copyA, dstOk, nilA, quietOk, nilSliceOp, deferV, panA, resA, argFr, retA.eq_1, retA.eq_2, Nat.reduceAdd, Nat.reduceSub, Nat.reduceMul, Nat.reduceLT, Nat.reduceLeDiff, Nat.reduceEqDiff, Nat.reduceBEq, Int.reduceAdd, Int.reduceSub, Int.reduceMul, Int.reduceNeg, Int.reduceLE, Int.reduceLT, Int.reduceEq, Int.reduceNe, Int.reduceToNat, ↓reduceIte, reduceCtorEq, implies_true, forall_const, eq_self, ne_eq, arrL, wtAll, Try.ntmps15, Try.results15, hh_i6, hh_i7, hh_i9]) ?_)))
      simp only [eq_self, e, e2]
    · have hle : ¬ hotV p true i t ≤ p.H := by rw [decide_eq_false_iff_not] at hc; ((try clear hh_i6); (try clear hh_i7); (try clear hh_i9); omega)
      have e : hotE p i t = 11 := by unfold hotE; rw [if_pos he, Int.toNat_natCast, Int.toNat_natCast, if_neg hle]
      have e2 : hotS p i t = (0, 0) := by unfold hotS; rw [if_neg (by rw [e]; decide)]
      simp only [vsAll]
      refine ⟨11, i7, _, rfl, rfl, by simp only [vsAll, ↓reduceIte, eq_self, hh_i9]; try rfl, ?_⟩
      simp only [vsAll, loadA, loadRow, partA, partOk, resA, retA.eq_2, Nat.reduceLT, Nat.reduceEqDiff, ↓reduceIte, eq_self, wtAll, Try.results15, hh_i7, hh_i9]
      refine dropR_pure ?_ (by (repeat (first | exact HSub_rfl | refine HSub_put_eq (by simp only [vsAll, binA, binLitA, intA, aggA, aggV, boolA, nilA2, isConst, unA, loadA, loadRow, partA, partOk, fieldAddrA, indexAddrA, indexA, fieldA, extractA, lenA, nilCheckA, boxA, boxZ, cellA, cellsA, fillA, okParts, buildSliceA, buildMutA, makeSliceA, partIdx, elemsA, lensA, ifaceA, convA, mmA, pickA, okAll, stAll, opsA, partsA, partsOk, opA, allocA, boxMutA, newCells, okCells, storeObj, appendA, guardV, taA, nM, mapUpA, lookA, sliceA, sliceS, boundsA, opO, okO, copyA, dstOk, nilA, quietOk, nilSliceOp, deferV, panA, resA, argFr, retA.eq_1, retA.eq_2, Nat.reduceAdd, Nat.reduceSub, Nat.reduceMul, Nat.reduceLT, Nat.reduceLeDiff, Nat.reduceEqDiff, Nat.reduceBEq, Int.reduceAdd, Int.reduceSub, Int.reduceMul, Int.reduceNeg, Int.reduceLE, Int.reduceLT, Int.reduceEq, Int.reduceNe, Int.reduceToNat, ↓reduceIte, reduceCtorEq, implies_true, forall_const, eq_self, ne_eq, arrL, wtAll, Try.ntmps15, Try.results15, hh_i6, hh_i7, hh_i9]) ?_ | refine HSub_drop2 (by simp only [eq_self, hh_i6, hh_i7, hh_i9]) ?_ | refine HSub_keep_eq (by simp only [vsAll, binA, binLitA, intA, aggA, aggV, boolA, nilA2, isConst, unA, loadA, loadRow, partA, partOk, fieldAddrA, indexAddrA, indexA, fieldA, extractA, lenA, nilCheckA, boxA, boxZ, cellA, cellsA, fillA, okParts, buildSliceA, buildMutA, makeSliceA, partIdx, elemsA, lensA, ifaceA, convA, mmA, pickA, okAll, stAll, opsA, partsA, partsOk, opA, allocA, boxMutA, newCells, okCells, storeObj, appendA, guardV, taA, nM, mapUpA, lookA, sliceA, sliceS, boundsA, opO, okO, copyA, dstOk, nilA, quietOk, nilSliceOp, deferV, panA, resA, argFr, retA.eq_1, retA.eq_2, Nat.reduceAdd, Nat.reduceSub, Nat.reduceMul, Nat.reduceLT, Nat.reduceLeDiff, Nat.reduceEqDiff, Nat.reduceBEq, Int.reduceAdd, Int.reduceSub, Int.reduceMul, Int.reduceNeg, Int.reduceLE, Int.reduceLT, Int.reduceEq, Int.reduceNe, Int.reduceToNat, ↓reduceIte, reduceCtorEq, implies_true, forall_const, eq_self, ne_eq, arrL, wtAll, Try.ntmps15, Try.results15, hh_i6, hh_i7, hh_i9]) ?_)))
      simp only [eq_self, e, e2]
theorem wstarts_tri (p : Pt) (n f : Int) (H : Hp) (kn : Near p) : PTri Try.prog (fnA 17) [p.av, i64 n, i64 f] H (.tuple [i64 (stV p n f : Nat), i64 (stE p n f)]) := by
  refine Tri.drop ?_
  refine tri_a (m := fun _ => false) ans46 Try.func17 (by kernel_rfl) rfl (by simp only [List.length_append, List.length_cons, List.length_nil, Try.ntmps17]; decide) ?_
  simp only [vsAll, loadA, loadRow, partA, partOk, boxA, boxZ, cellA, okAll, stAll, opsA, opA, allocA, dstOk, nilSliceOp, argFr, Nat.reduceAdd, Nat.reduceLT, Nat.reduceEqDiff, ↓reduceIte, eq_self, wtAll, Try.ntmps17]
  intro i7 hh_i7; (try simp only [Hp.set_none, ite_none] at hh_i7)
  refine open_call (open_tri p _ (isPot p n && isFire p f) _ kn trivial rfl (fun k H' => starts1_tri p n f H' k)) (fun he => ?_) (fun k hv => ?_)
  · have e : stE p n f = errE p (isPot p n && isFire p f) := rfl
    have ev : stV p n f = 0 := if_neg he
    simp only [vsAll]
    refine ⟨errE p (isPot p n && isFire p f), i7, _, rfl, rfl, by simp only [vsAll, ↓reduceIte, eq_self]; try rfl, ?_⟩
    simp only [vsAll, loadA, loadRow, partA, partOk, resA, retA.eq_2, Nat.reduceLT, Nat.reduceEqDiff, ↓reduceIte, eq_self, wtAll, Try.results17]
    refine dropR_pure ?_ (by (repeat (first | exact HSub_rfl | refine HSub_put_eq (by simp only [vsAll, binA, binLitA, intA, aggA, aggV, boolA, nilA2, isConst, unA, loadA, loadRow, partA, partOk, fieldAddrA, indexAddrA, indexA, fieldA, extractA, lenA, nilCheckA, boxA, boxZ, cellA, cellsA, fillA, okParts, buildSliceA, buildMutA, makeSliceA, partIdx, elemsA, lensA, ifaceA, convA, mmA, pickA, okAll, stAll, opsA, partsA, partsOk, opA, allocA, boxMutA, newCells, okCells, storeObj, appendA, guardV, taA, nM, mapUpA, lookA, sliceA, sliceS, boundsA, opO, okO, copyA, dstOk, nilA, quietOk, nilSliceOp, deferV, panA, resA, argFr, retA.eq_1, retA.eq_2, Nat.reduceAdd, Nat.reduceSub, Nat.reduceMul, Nat.reduceLT, Nat.reduceLeDiff, Nat.reduceEqDiff, Nat.reduceBEq, Int.reduceAdd, Int.reduceSub, Int.reduceMul, Int.reduceNeg, Int.reduceLE, Int.reduceLT, Int.reduceEq, Int.reduceNe, Int.reduceToNat, ↓reduceIte, reduceCtorEq, implies_true, forall_const, eq_self, ne_eq, arrL, wtAll, Try.ntmps17, Try.results17, hh_i7]) ?_ | refine HSub_drop2 (by simp only [eq_self, hh_i7]) ?_ | refine HSub_keep_eq (by simp only [vsAll, binA, binLitA, intA, aggA, aggV, boolA, nilA2, isConst, unA, loadA, loadRow, partA, partOk, fieldAddrA, indexAddrA, indexA, fieldA, extractA, lenA, nilCheckA, boxA, boxZ, cellA, cellsA, fillA, okParts, buildSliceA, buildMutA, makeSliceA, partIdx, elemsA, lensA, ifaceA, convA, mmA, pickA, okAll, stAll, opsA, partsA, partsOk, opA, allocA, boxMutA, newCells, okCells, storeObj, appendA, guardV, taA, nM, mapUpA, lookA, sliceA, sliceS, boundsA, opO, okO, copyA, dstOk, nilA, quietOk, nilSliceOp, deferV, panA, resA, argFr, retA.eq_1, retA.eq_2, Nat.reduceAdd, Nat.reduceSub, Nat.reduceMul, Nat.reduceLT, Nat.reduceLeDiff, Nat.reduceEqDiff, Nat.reduceBEq, Int.reduceAdd, Int.reduceSub, Int.reduceMul, Int.reduceNeg, Int.reduceLE, Int.reduceLT, Int.reduceEq, Int.reduceNe, Int.reduceToNat, ↓reduceIte, reduceCtorEq, implies_true, forall_const, eq_self, ne_eq, arrL, wtAll, Try.ntmps17, Try.results17, hh_i7]) ?_)))
    simp only [eq_self, e, ev, Int.natCast_zero]
  · have he : stE p n f = 0 := by unfold stE; rw [hv]; exact errE_ok k
    rw [Bool.and_eq_true, isPot_iff, isFire_iff] at hv
    obtain ⟨⟨a1, a2⟩, a3, a4⟩ := hv
    obtain ⟨i, rfl⟩ : ∃ i : Nat, n = (i : Int) := ⟨n.toNat, by ((try clear hh_i7); omega)⟩
    obtain ⟨g, rfl⟩ : ∃ g : Nat, f = (g : Int) := ⟨f.toNat, by ((try clear hh_i7); omega)⟩
    have ev : stV p i g = stN p i g p.H := by rw [stV, if_pos he, Int.toNat_natCast]
    have hH := k.H_eq
    have eH : p.hr = (p.H : Int) := hH.1.symm
    simp only [vsAll, loadA, loadRow, partA, partOk, fieldAddrA, nilCheckA, opA, dstOk, nilSliceOp, Nat.reduceLT, Nat.reduceEqDiff, ↓reduceIte, eq_self, wtAll, eH]
    refine vs_loop (σ := Nat) (fun t => t ≤ p.H) (fun t => [(4, bx i), (5, bx g), (7, .ref i7 0 1 0 0), (8, pP p), (9, u64 (stN p i g t : Nat)), (18, i64 p.H), (19, i64 t)]) (fun _ => H.set i7 (.box 1 1 fun _ => [i64 0])) (fun t => p.H - t) 0 (Nat.zero_le _) ?_ ?_ fun t ht => ?_
    · simp only [vsAll, Nat.reduceEqDiff, ↓reduceIte, eq_self, Int.natCast_zero, stN]
    · (repeat (first | exact HSub_rfl | refine HSub_put_eq (by simp only [vsAll, binA, binLitA, intA, aggA, aggV, boolA, nilA2, isConst, unA, loadA, loadRow, partA, partOk, fieldAddrA, indexAddrA, indexA, fieldA, extractA, lenA, nilCheckA, boxA, boxZ, cellA, cellsA, fillA, okParts, buildSliceA, buildMutA, makeSliceA, partIdx, elemsA, lensA, ifaceA, convA, mmA, pickA, okAll, stAll, opsA, partsA, partsOk, opA, allocA, boxMutA, newCells, okCells, storeObj, appendA, guardV, taA, nM, mapUpA, lookA, sliceA, sliceS, boundsA, opO, okO, copyA, dstOk, nilA, quietOk, nilSliceOp, deferV, panA, resA, argFr, retA.eq_1, retA.eq_2, Nat.reduceAdd, Nat.reduceSub, Nat.reduceMul, Nat.reduceLT, Nat.reduceLeDiff, Nat.reduceEqDiff, Nat.reduceBEq, Int.reduceAdd, Int.reduceSub, Int.reduceMul, Int.reduceNeg, Int.reduceLE, Int.reduceLT, Int.reduceEq, Int.reduceNe, Int.reduceToNat, ↓reduceIte, reduceCtorEq, implies_true, forall_const, eq_self, ne_eq, arrL, wtAll, Try.ntmps17, Try.results17, hh_i7]) ?_ | refine HSub_drop2 (by simp only [vsAll, binA, binLitA, intA, aggA, aggV, boolA, nilA2, isConst, unA, loadA, loadRow, partA, partOk, fieldAddrA, indexAddrA, indexA, fieldA, extractA, lenA, nilCheckA, boxA, boxZ, cellA, cellsA, fillA, okParts, buildSliceA, buildMutA, makeSliceA, partIdx, elemsA, lensA, ifaceA, convA, mmA, pickA, okAll, stAll, opsA, partsA, partsOk, opA, allocA, boxMutA, newCells, okCells, storeObj, appendA, guardV, taA, nM, mapUpA, lookA, sliceA, sliceS, boundsA, opO, okO, copyA, dstOk, nilA, quietOk, nilSliceOp, deferV, panA, resA, argFr, retA.eq_1, retA.eq_2, Nat.reduceAdd, Nat.reduceSub, Nat.reduceMul, Nat.reduceLT, Nat.reduceLeDiff, Nat.reduceEqDiff, Nat.reduceBEq, Int.reduceAdd, Int.reduceSub, Int.reduceMul, Int.reduceNeg, Int.reduceLE, Int.reduceLT, Int.reduceEq, Int.reduceNe, Int.reduceToNat, ↓reduceIte, reduceCtorEq, implies_true, forall_const, eq_self, ne_eq, arrL, wtAll, Try.ntmps17, Try.results17, hh_i7]) ?_ | refine HSub_keep_eq (by simp only [vsAll, binA, binLitA, intA, aggA, aggV, boolA, nilA2, isConst, unA, loadA, loadRow, partA, partOk, fieldAddrA, indexAddrA, indexA, fieldA, extractA, lenA, nilCheckA, boxA, boxZ, cellA, cellsA, fillA, okParts, buildSliceA, buildMutA, makeSliceA, partIdx, elemsA, lensA, ifaceA, convA, mmA, pickA, okAll, stAll, opsA, partsA, partsOk, opA, allocA, boxMutA, newCells, okCells, storeObj, appendA, guardV, taA, nM, mapUpA, lookA, sliceA, sliceS, boundsA, opO, okO, copyA, dstOk, nilA, quietOk, nilSliceOp, deferV, panA, resA, argFr, retA.eq_1, retA.eq_2, Nat.reduceAdd, Nat.reduceSub, Nat.reduceMul, Nat.reduceLT, Nat.reduceLeDiff, Nat.reduceEqDiff, Nat.reduceBEq, Int.reduceAdd, Int.reduceSub, Int.reduceMul, Int.reduceNeg, Int.reduceLE, Int.reduceLT, Int.reduceEq, Int.reduceNe, Int.reduceToNat, ↓reduceIte, reduceCtorEq, implies_true, forall_const, eq_self, ne_eq, arrL, wtAll, Try.ntmps17, Try.results17, hh_i7]) ?_))
    · simp only [vsAll, binA, binLitA, intA, opA, dstOk, Nat.reduceLT, Nat.reduceEqDiff, ↓reduceIte, eq_self]
      refine condD (fun hd => ?_) (fun hd => ?_)
      · have hl := stN_lt p i g t
        have hp : 2 ^ t ≤ 2 ^ 12 := Nat.pow_le_pow_right (by decide) (by ((try clear hh_i7); omega))
        have e : stN p i g (t + 1) = stN p i g t + if alR p i ((g : Int), (t : Int)) = 0 then 2 ^ t else 0 := rfl
        simp only [vsAll, loadA, loadRow, partA, partOk, cellA, cellsA, fillA, okParts, okAll, stAll, opsA, partsA, partsOk, opA, dstOk, nilSliceOp, Nat.reduceAdd, Nat.reduceLT, Nat.reduceLeDiff, Nat.reduceEqDiff, ↓reduceIte, eq_self, wtAll]
        refine callK_pure (alone_tri p i g t _ k (by ((try clear hh_i7); omega)) (by ((try clear hh_i7); omega)) (by ((try clear hh_i7); omega))) ?_
        simp only [vsAll, opA, ↓reduceIte, eq_self]
        refine condD (fun hc2 => ?_) (fun hc2 => ?_)
        · rw [if_pos hc2] at e
          have eo : stN p i g t ||| 2 ^ t = stN p i g (t + 1) := by
            have := Nat.two_pow_add_eq_or_of_lt hl 1
            rw [Nat.mul_one] at this
            rw [e, Nat.or_comm, ← this]; ((try clear hh_i7); omega)
          simp only [vsAll, binA, binLitA, intA, cellA, cellsA, okParts, buildSliceA, partIdx, elemsA, lensA, okAll, stAll, opsA, partsA, partsOk, opA, dstOk, Nat.reduceAdd, Nat.reduceMul, Nat.reduceLT, Nat.reduceLeDiff, Nat.reduceEqDiff, ↓reduceIte, eq_self, wtAll, pow_int]
          refine ⟨⟨by ((try clear hh_i7); omega), by ((try clear hh_i7); omega), by simp only [InR_u64]; ((try clear hh_i7); omega)⟩, callK_pure (joined_tri (stN p i g t) (2 ^ t) _ (by ((try clear hh_i7); omega)) (by ((try clear hh_i7); omega))) ?_⟩
          rw [eo]
          simp only [vsAll, binA, binLitA, intA, opA, dstOk, nilSliceOp, Nat.reduceLT, Nat.reduceEqDiff, ↓reduceIte, eq_self]
          refine ⟨by simp only [InR_i64]; ((try clear hh_i7); omega), loop_next (t + 1) (by ((try clear hh_i7); omega)) (by ((try clear hh_i7); omega)) ?_ HSub_rfl⟩
          simp only [vsAll, Nat.reduceEqDiff, ↓reduceIte, eq_self, Int.natCast_add, Int.natCast_one]
        · rw [if_neg hc2, Nat.add_zero] at e
          simp only [vsAll, binA, binLitA, intA, opA, dstOk, Nat.reduceLT, Nat.reduceEqDiff, ↓reduceIte, eq_self]
          refine ⟨by simp only [InR_i64]; ((try clear hh_i7); omega), loop_next (t + 1) (by ((try clear hh_i7); omega)) (by ((try clear hh_i7); omega)) ?_ HSub_rfl⟩
          simp only [vsAll, Nat.reduceEqDiff, ↓reduceIte, eq_self, Int.natCast_add, Int.natCast_one, e]
      · have et : t = p.H := by ((try clear hh_i7); omega)
        have hl := stN_lt p i g p.H
        have h4 := pow12 hH.2
        rw [et]
        simp only [vsAll, cellA, cellsA, convA, opA, newCells, okCells, storeObj, dstOk, nilSliceOp, Nat.reduceLT, Nat.reduceEqDiff, ↓reduceIte, eq_self, wtAll]
        refine ⟨by simp only [InR_i64]; ((try clear hh_i7); omega), ?_⟩
        refine Ent.ret ⟨i7, _, rfl, by simp only [vsAll, ↓reduceIte, eq_self]; try rfl, ?_⟩
        simp only [vsAll, loadA, loadRow, partA, partOk, resA, retA.eq_2, Nat.reduceLT, Nat.reduceEqDiff, ↓reduceIte, eq_self, wtAll, Try.results17]
        refine dropR_pure ?_ (by (repeat (first | exact HSub_rfl | refine HSub_put_eq (by simp only [vsAll, binA, binLitA, intA, aggA, aggV, boolA, nilA2, isConst, unA, loadA, loadRow, partA, partOk, fieldAddrA, indexAddrA, indexA, fieldA, extractA, lenA, nilCheckA, boxA, boxZ, cellA, cellsA, fillA, okParts, buildSliceA, buildMutA, makeSliceA, partIdx, elemsA, lensA, ifaceA, convA, mmA, pickA, okAll, stAll, opsA, partsA, partsOk, opA, allocA, boxMutA, newCells, okCells, storeObj, appendA, guardV, taA, nM, mapUpA, lookA, sliceA, sliceS, boundsA, opO, okO, copyA, dstOk, nilA, quietOk, nilSliceOp, deferV, panA, resA, argFr, retA.eq_1, retA.eq_2, Nat.reduceAdd, Nat.reduceSub, Nat.reduceMul, Nat.reduceLT, Nat.reduceLeDiff, Nat.reduceEqDiff, Nat.reduceBEq, Int.reduceAdd, Int.reduceSub, Int.reduceMul, Int.reduceNeg, Int.reduceLE, Int.reduceLT, Int.reduceEq, Int.reduceNe, Int.reduceToNat, ↓reduceIte, reduceCtorEq, implies_true, forall_const, eq_self, ne_eq, arrL, wtAll, Try.ntmps17, Try.results17, hh_i7]) ?_ | refine HSub_drop2 (by simp only [eq_self, hh_i7]) ?_ | refine HSub_keep_eq (by simp only [vsAll, binA, binLitA, intA, aggA, aggV, boolA, nilA2, isConst, unA, loadA, loadRow, partA, partOk, fieldAddrA, indexAddrA, indexA, fieldA, extractA, lenA, nilCheckA, boxA, boxZ, cellA, cellsA, fillA, okParts, buildSliceA, buildMutA, makeSliceA, partIdx, elemsA, lensA, ifaceA, convA, mmA, pickA, okAll, stAll, opsA, partsA, partsOk, opA, allocA, boxMutA, newCells, okCells, storeObj, appendA, guardV, taA, nM, mapUpA, lookA, sliceA, sliceS, boundsA, opO, okO, copyA, dstOk, nilA, quietOk, nilSliceOp, deferV, panA, resA, argFr, retA.eq_1, retA.eq_2, Nat.reduceAdd, Nat.reduceSub, Nat.reduceMul, Nat.reduceLT, Nat.reduceLeDiff, Nat.reduceEqDiff, Nat.reduceBEq, Int.reduceAdd, Int.reduceSub, Int.reduceMul, Int.reduceNeg, Int.reduceLE, Int.reduceLT, Int.reduceEq, Int.reduceNe, Int.reduceToNat, ↓reduceIte, reduceCtorEq, implies_true, forall_const, eq_self, ne_eq, arrL, wtAll, Try.ntmps17, Try.results17, hh_i7]) ?_)))
        simp only [eq_self, ev, he]
end Go.Proofs.Ytliomkpmadpibaa
end
section
set_option linter.unusedVariables false
set_option linter.unusedSimpArgs false
set_option maxHeartbeats 4000000
set_option maxRecDepth 100000
namespace Go.Proofs.Ytliomkpmadpibaa
open Go.V
def idxV (B : Int × Int → Bool) (l : List (Int × Int)) : Int := match (List.range l.length).find? fun i => B (l.getD i (0, 0)) with
  | some j => j
  | none => -1
theorem idxV_any (B : Int × Int → Bool) (l : List (Int × Int)) : decide (0 ≤ idxV B l) = l.any B := by
  unfold idxV
  cases h : (List.range l.length).find? fun i => B (l.getD i (0, 0)) with
  | some j =>
    rw [List.find?_range_eq_some] at h
    have : l.any B = true := List.any_eq_true.2 ⟨l.getD j (0, 0), mem_getD l j _ (by simpa using h.2.1), h.1⟩
    rw [this]
    show decide (0 ≤ (j : Int)) = true
    exact decide_eq_true (by omega)
  | none =>
    rw [List.find?_eq_none] at h
    have : l.any B = false := by
      rw [← Bool.not_eq_true, List.any_eq_true]
      rintro ⟨x, hx, hb⟩
      obtain ⟨j, hj, rfl⟩ := getD_mem (0, 0) hx
      exact h j (List.mem_range.2 hj) hb
    rw [this]; rfl
theorem index_tri (l : List (Int × Int)) (fv : AV) (B : Int × Int → Bool) (H : Hp) (hl : l.length < 2 ^ 60) (hok : fv.ok) (hst : fv.st = fv) (hf : ∀ x, PTri Try.prog fv [plA x] H (boo (B x))) : PTri Try.prog (fnA 96) [plsAV l, fv] H (i64 (idxV B l)) := by
  refine tri_v0 (fun _ => false) Try.func96 (by kernel_rfl) rfl (by simp only [List.length_append, List.length_cons, List.length_nil, Try.ntmps96]; decide) ?_
  skip
  simp only [vsAll, lenA, opA, dstOk, nilSliceOp, argFr, Nat.reduceLT, Int.reduceNeg, ↓reduceIte, reduceCtorEq, eq_self, wtAll, Try.ntmps96]
  refine vs_loop (σ := Nat) (fun i => i ≤ l.length ∧ ∀ j, j < i → B (l.getD j (0, 0)) = false) (fun i => [(0, plsAV l), (1, fv), (7, i64 l.length), (8, i64 i)]) (fun _ => H) (fun i => l.length - i) 0 ⟨Nat.zero_le _, fun j hj => absurd hj (by ((try clear hok); (try clear hst); omega))⟩ ?_ HSub_rfl fun i hi => ?_
  · simp only [vsAll, argFr, Nat.reduceEqDiff, ↓reduceIte, reduceCtorEq, eq_self, Int.natCast_zero]
  · obtain ⟨hi, hall⟩ := hi
    simp only [vsAll, binA, binLitA, intA, opA, dstOk, Nat.reduceLT, Nat.reduceEqDiff, Int.reduceNeg, ↓reduceIte, reduceCtorEq, eq_self]
    refine condD (fun hd => ?_) (fun hd => ?_)
    · have hil : i < l.length := by ((try clear hok); (try clear hst); omega)
      simp only [vsAll, loadA, loadRow, partA, partOk, indexAddrA, okAll, stAll, opsA, opA, dstOk, nilSliceOp, Nat.reduceLT, Nat.reduceEqDiff, Int.reduceNeg, ↓reduceIte, reduceCtorEq, eq_self, wtAll, hok, hst, plF_at]
      refine ⟨⟨by ((try clear hok); (try clear hst); omega), by ((try clear hok); (try clear hst); omega)⟩, hil, callK_pure (hf (l.getD i (0, 0))) ?_⟩
      simp only [vsAll, opA, Int.reduceNeg, ↓reduceIte, eq_self]
      refine condV (fun hc => ?_) (fun hc => ?_)
      · have e : idxV B l = i := by
          have : (List.range l.length).find? (fun i => B (l.getD i (0, 0))) = some i := by
            rw [List.find?_range_eq_some]
            exact ⟨hc, by simpa using hil, fun j hj => by rw [hall j hj]; rfl⟩
          unfold idxV; rw [this]
        simp only [vsAll, opA, dstOk, nilSliceOp, resA, retA.eq_1, Nat.reduceLT, Nat.reduceEqDiff, Int.reduceNeg, ↓reduceIte, eq_self, Try.results96, e]
      · simp only [vsAll, binA, binLitA, intA, opA, dstOk, Nat.reduceLT, Nat.reduceEqDiff, Int.reduceNeg, ↓reduceIte, reduceCtorEq, eq_self]
        refine ⟨by simp only [InR_i64]; ((try clear hok); (try clear hst); omega), loop_next (i + 1) ⟨by ((try clear hok); (try clear hst); omega), fun j hj => ?_⟩ (by ((try clear hok); (try clear hst); omega)) ?_ HSub_rfl⟩
        · by_cases e : j = i
          · rw [e]; exact hc
          · exact hall j (by ((try clear hok); (try clear hst); omega))
        · simp only [vsAll, Nat.reduceEqDiff, ↓reduceIte, reduceCtorEq, eq_self, Int.natCast_add, Int.natCast_one]
    · have e : idxV B l = -1 := by
        have : (List.range l.length).find? (fun i => B (l.getD i (0, 0))) = none := by
          rw [List.find?_eq_none]
          intro j hj
          rw [hall j (by rw [List.mem_range] at hj; ((try clear hok); (try clear hst); omega))]; decide
        unfold idxV; rw [this]
      simp only [vsAll, opA, dstOk, nilSliceOp, resA, retA.eq_1, Nat.reduceLT, Int.reduceNeg, ↓reduceIte, eq_self, Try.results96, e]
theorem contains_tri (l : List (Int × Int)) (fv : AV) (B : Int × Int → Bool) (H : Hp) (hl : l.length < 2 ^ 60) (hok : fv.ok) (hst : fv.st = fv) (hf : ∀ x, PTri Try.prog fv [plA x] H (boo (B x))) : PTri Try.prog (fnA 66) [plsAV l, fv] H (boo (l.any B)) := by
  have e := idxV_any B l
  refine tri_v0 (fun _ => false) Try.func66 (by kernel_rfl) rfl (by simp only [List.length_append, List.length_cons, List.length_nil, Try.ntmps66]; decide) ?_
  skip
  simp only [vsAll, okAll, stAll, opsA, opA, dstOk, nilSliceOp, argFr, Nat.reduceLT, Nat.reduceEqDiff, ↓reduceIte, reduceCtorEq, eq_self, Try.ntmps66, hok, hst]
  refine callK_pure (index_tri l fv B _ hl hok hst hf) ?_
  simp only [vsAll, binA, binLitA, intA, opA, dstOk, nilSliceOp, resA, retA.eq_1, Nat.reduceLT, ↓reduceIte, eq_self, Try.results66]
  rw [e]
abbrev badF (p : Pt) : AV := .func (.func 65) [] [.rptr 1 1 (fun _ => [pP p]) 0 0]
theorem bad_tri (p : Pt) (x : Int × Int) (H : Hp) (k : Ok p) : PTri Try.prog (badF p) [plA x] H (boo (!placeB p x)) := by
  have e : (!placeB p x) = (!isFire p x.1 || !isHour p x.2) := by unfold placeB; rw [Bool.not_and]
  rw [e]
  refine tri_v0 (fun _ => false) Try.func65 (by kernel_rfl) rfl (by simp only [List.length_append, List.length_cons, List.length_nil, Try.ntmps65]; decide) ?_
  simp only [vsAll, loadA, loadRow, partA, partOk, fieldAddrA, boxA, boxZ, okAll, stAll, opsA, opA, dstOk, nilSliceOp, argFr, Nat.reduceAdd, Nat.reduceLT, Nat.reduceEqDiff, ↓reduceIte, eq_self, wtAll, Try.ntmps65]
  refine callK_pure (wfire_tri p x.1 _ k.near) ?_
  simp only [vsAll, unA, loadA, loadRow, partA, partOk, fieldAddrA, opA, guardV, dstOk, argFr, Nat.reduceLT, Nat.reduceEqDiff, ↓reduceIte, implies_true, eq_self, wtAll]
  refine gcall _ (fun g => ⟨by simp only [vsAll, opA], by simp only [vsAll, okAll, opsA, opA, Nat.reduceEqDiff, ↓reduceIte, eq_self, g], whour_tri p x.2 _ k⟩) ?_
  simp only [vsAll, unA, pickA, opA, guardV, dstOk, nilSliceOp, resA, retA.eq_1, Nat.reduceLT, Nat.reduceEqDiff, ↓reduceIte, implies_true, eq_self, Try.results65]
theorem check1_tri (p : Pt) (l : List (Int × Int)) (H : Hp) (k : Ok p) (hl : l.length ≤ 41) : PTri Try.prog (.func (.func 64) [] [.rptr 1 1 (fun _ => [plsAV l]) 0 0]) [pP p] H (boo (planB p l)) := by
  have e : planB p l = (decide ((l.length : Int) = p.ps.length) && !l.any fun x => !placeB p x) := by
    unfold planB
    rw [Bool.and_comm]
    congr 1
    · exact decide_eq_decide.2 (by omega)
    · rw [Bool.eq_iff_iff, Bool.not_eq_true', ← Bool.not_eq_true, List.any_eq_true, List.all_eq_true]
      constructor
      · rintro h ⟨x, hx, hn⟩
        rw [h x hx] at hn; cases hn
      · intro h x hx
        cases hp : placeB p x
        · exact absurd ⟨x, hx, by rw [hp]; rfl⟩ h
        · rfl
  rw [e]
  refine tri_v0 (fun _ => false) Try.func64 (by kernel_rfl) rfl (by simp only [List.length_append, List.length_cons, List.length_nil, Try.ntmps64]; decide) ?_
  simp only [vsAll, boxA, boxZ, cellA, okAll, stAll, opsA, opA, dstOk, nilSliceOp, argFr, Nat.reduceLT, Nat.reduceEqDiff, ↓reduceIte, eq_self, wtAll, Try.ntmps64]
  refine vs_draw2 [0, 0, 0, 0, 0, 0, 0, 0, 0, 0, 0, 0, 0, 0, 0, 0] [] [0, 1, 2, 3, 4, 5, 6, 7, 8, 9, 10, 11, 12, 13, 14, 15] (by decide +kernel) ?_
  simp only [vsAll, binA, binLitA, intA, loadA, loadRow, partA, partOk, fieldAddrA, lenA, nilCheckA, opA, guardV, dstOk, argFr, Nat.reduceLT, Nat.reduceEqDiff, ↓reduceIte, implies_true, eq_self, wtAll]
  refine qgcall _ (fun g => ⟨by simp only [vsAll, opA], by simp only [vsAll, okAll, opsA, opA, Nat.reduceEqDiff, ↓reduceIte, eq_self, g], contains_tri l (badF p) (fun x => !placeB p x) _ (by omega) trivial rfl (fun x => bad_tri p x _ k)⟩) ?_
  simp only [vsAll, unA, pickA, opA, guardV, dstOk, resA, retA.eq_1, Nat.reduceLT, Nat.reduceEqDiff, ↓reduceIte, implies_true, eq_self, Try.results64]
theorem Bd.or {u : List Nat} (h : Bd u) {f v : Nat} (hf : f < 3) (hv : v < 4096) : Bd (u.set f (u.getD f 0 ||| v)) := by
  refine ⟨by rw [List.length_set]; exact h.1, fun q hq => ?_⟩
  by_cases e : f = q
  · subst e
    have : (u.set f (u.getD f 0 ||| v)).getD f 0 = u.getD f 0 ||| v := by simp [List.getD_eq_getElem?_getD, h.1, hf]
    rw [this]
    exact Nat.or_lt_two_pow (n := 12) (h.2 f hf) hv
  · have : (u.set f (u.getD f 0 ||| v)).getD q 0 = u.getD q 0 := by simp [List.getD_eq_getElem?_getD, List.getElem?_set_ne e]
    rw [this]
    exact h.2 q hq
theorem bd_upd {u : List Nat} (h : u.length = 3) {f v : Nat} (hf : f < 3) (q : Nat) (hq : q < 3) : updF 3 f (bdF u) [u64 (v : Nat)] q = bdF (u.set f v) q := by
  show (if q = f then [u64 (v : Nat)] else bdF u q) = [u64 ((u.set f v).getD q 0 : Nat)]
  by_cases e : q = f
  · subst e
    rw [if_pos rfl]
    have : (u.set q v).getD q 0 = v := by simp [List.getD_eq_getElem?_getD, h, hq]
    rw [this]
  · rw [if_neg e]
    have : (u.set f v).getD q 0 = u.getD q 0 := by simp [List.getD_eq_getElem?_getD, List.getElem?_set_ne (Ne.symm e)]
    rw [this]
theorem wcheck_tri (p : Pt) (l : List (Int × Int)) (H : Hp) (kn : Near p) (hl : l.length ≤ 41) : PTri Try.prog (fnA 19) [p.av, plsAV l] H (.tuple [i64 (checkW p l : Nat), i64 (checkR p l), i64 (checkE p l)]) := by
  refine Tri.drop ?_
  refine tri_a (m := fun _ => false) ans46 Try.func19 (by kernel_rfl) rfl (by simp only [List.length_append, List.length_cons, List.length_nil, Try.ntmps19]; decide) ?_
  simp only [vsAll, loadA, loadRow, partA, partOk, boxA, boxZ, cellA, okAll, stAll, opsA, opA, allocA, dstOk, nilSliceOp, argFr, Nat.reduceAdd, Nat.reduceLT, Nat.reduceEqDiff, ↓reduceIte, eq_self, wtAll, Try.ntmps19]
  intro i6 hh_i6; (try simp only [Hp.set_none, ite_none] at hh_i6)
  refine open_call (open_tri p _ (planB p l) _ kn trivial rfl (fun k H' => check1_tri p l H' k hl)) (fun he => ?_) (fun k hv => ?_)
  · have eE : checkE p l = errE p (planB p l) := if_neg he
    have eW : checkW p l = 0 := by rw [checkW, if_neg (by rw [eE]; exact he)]
    have eR : checkR p l = 0 := by rw [checkR, if_neg (by rw [eE]; exact he)]
    simp only [vsAll]
    refine ⟨errE p (planB p l), i6, _, rfl, rfl, by simp only [vsAll, ↓reduceIte, eq_self]; try rfl, ?_⟩
    simp only [vsAll, loadA, loadRow, partA, partOk, resA, retA.eq_2, Nat.reduceLT, Nat.reduceEqDiff, ↓reduceIte, eq_self, wtAll, Try.results19]
    refine dropR_pure ?_ (by (repeat (first | exact HSub_rfl | refine HSub_put_eq (by simp only [vsAll, binA, binLitA, intA, aggA, aggV, boolA, nilA2, isConst, unA, loadA, loadRow, partA, partOk, fieldAddrA, indexAddrA, indexA, fieldA, extractA, lenA, nilCheckA, boxA, boxZ, cellA, cellsA, fillA, okParts, buildSliceA, buildMutA, makeSliceA, partIdx, elemsA, lensA, ifaceA, convA, mmA, pickA, okAll, stAll, opsA, partsA, partsOk, opA, allocA, boxMutA, newCells, okCells, storeObj, appendA, guardV, taA, nM, mapUpA, lookA, sliceA, sliceS, boundsA, opO, okO, copyA, dstOk, nilA, quietOk, nilSliceOp, deferV, panA, resA, argFr, retA.eq_1, retA.eq_2, Nat.reduceAdd, Nat.reduceSub, Nat.reduceMul, Nat.reduceLT, Nat.reduceLeDiff, Nat.reduceEqDiff, Nat.reduceBEq, Int.reduceAdd, Int.reduceSub, Int.reduceMul, Int.reduceNeg, Int.reduceLE, Int.reduceLT, Int.reduceEq, Int.reduceNe, Int.reduceToNat, ↓reduceIte, reduceCtorEq, implies_true, forall_const, eq_self, ne_eq, arrL, wtAll, Try.ntmps19, Try.results19, hh_i6]) ?_ | refine HSub_drop2 (by simp only [eq_self, hh_i6]) ?_ | refine HSub_keep_eq (by simp only [vsAll, binA, binLitA, intA, aggA, aggV, boolA, nilA2, isConst, unA, loadA, loadRow, partA, partOk, fieldAddrA, indexAddrA, indexA, fieldA, extractA, lenA, nilCheckA, boxA, boxZ, cellA, cellsA, fillA, okParts, buildSliceA, buildMutA, makeSliceA, partIdx, elemsA, lensA, ifaceA, convA, mmA, pickA, okAll, stAll, opsA, partsA, partsOk, opA, allocA, boxMutA, newCells, okCells, storeObj, appendA, guardV, taA, nM, mapUpA, lookA, sliceA, sliceS, boundsA, opO, okO, copyA, dstOk, nilA, quietOk, nilSliceOp, deferV, panA, resA, argFr, retA.eq_1, retA.eq_2, Nat.reduceAdd, Nat.reduceSub, Nat.reduceMul, Nat.reduceLT, Nat.reduceLeDiff, Nat.reduceEqDiff, Nat.reduceBEq, Int.reduceAdd, Int.reduceSub, Int.reduceMul, Int.reduceNeg, Int.reduceLE, Int.reduceLT, Int.reduceEq, Int.reduceNe, Int.reduceToNat, ↓reduceIte, reduceCtorEq, implies_true, forall_const, eq_self, ne_eq, arrL, wtAll, Try.ntmps19, Try.results19, hh_i6]) ?_)))
    simp only [eq_self, eW, eR, eE, Int.natCast_zero]
  · have he : errE p (planB p l) = 0 := by rw [hv]; exact errE_ok k
    obtain ⟨hlen, hpl⟩ := planB_pl k hv
    have nP := k.nP
    have nF := k.nF
    simp only [vsAll, loadA, loadRow, partA, partOk, lenA, opA, allocA, dstOk, nilSliceOp, Nat.reduceLT, Nat.reduceEqDiff, ↓reduceIte, eq_self, wtAll]
    intro i8 hh_i8; (try simp only [ite_none] at hh_i8)
    refine vs_loop (σ := Nat × List Nat) (fun y => y.1 ≤ l.length ∧ (∀ j, j < y.1 → brR p j (l.getD j (0, 0)) l = 0) ∧ Bd y.2 ∧ Tk p (l.take y.1) y.2) (fun y => [(6, .ref i6 0 1 0 0), (7, pP p), (8, .ref i8 0 1 0 0), (15, plsAV l), (16, i64 l.length), (17, i64 y.1)]) (fun y => (H.set i6 (.box 1 1 fun _ => [i64 0])).set i8 (.box 1 3 (bdF y.2))) (fun y => l.length - y.1) (0, u0) ⟨Nat.zero_le _, fun j hj => absurd hj (by simp), ⟨rfl, fun q hq => by have := lt3 hq; rcases this with rfl | rfl | rfl <;> decide⟩, by simpa using Tk.zero nF⟩ ?_ ?_ fun y hy => ?_
    · simp only [vsAll, Nat.reduceEqDiff, ↓reduceIte, eq_self, Int.natCast_zero]
    · refine HSub.set HSub_rfl (box_ext fun q hq => ?_)
      have := lt3 hq
      rcases this with rfl | rfl | rfl <;> rfl
    · obtain ⟨i, u⟩ := y
      obtain ⟨hi, hall, hbd, htk⟩ := hy
      simp only [] at hi hall hbd htk
      simp only [vsAll, binA, binLitA, intA, opA, dstOk, Nat.reduceLT, Nat.reduceEqDiff, ↓reduceIte, eq_self]
      refine condD (fun hd => ?_) (fun hd => ?_)
      · have hil : i < l.length := by ((try clear hh_i6); (try clear hh_i8); omega)
        have hx := hpl i hil
        have hbr : brR p i (l.getD i (0, 0)) (l.take i) = brR p i (l.getD i (0, 0)) l := brR_congr p i _ fun j hj => by
          rw [List.getD_eq_getElem?_getD, List.getD_eq_getElem?_getD, List.getElem?_take_of_lt hj]
        have htl : (l.take i).length = i := by rw [List.length_take]; ((try clear hh_i6); (try clear hh_i8); omega)
        simp only [vsAll, loadA, loadRow, partA, partOk, indexAddrA, cellA, cellsA, fillA, okParts, buildSliceA, partIdx, elemsA, lensA, ifaceA, okAll, stAll, opsA, partsA, partsOk, opA, allocA, newCells, okCells, storeObj, dstOk, nilSliceOp, Nat.reduceAdd, Nat.reduceMul, Nat.reduceLT, Nat.reduceLeDiff, Nat.reduceEqDiff, ↓reduceIte, eq_self, arrL, wtAll, plF_at]
        refine ⟨⟨by ((try clear hh_i6); (try clear hh_i8); omega), by ((try clear hh_i6); (try clear hh_i8); omega)⟩, hil, ?_⟩
        intro i10 hh_i10; (try simp only [ite_none] at hh_i10)
        rw [Hp.set_set]
        simp only [vsAll, Nat.reduceAdd, ↓reduceIte, eq_self, arrL, hh_i10]
        refine callK_pure (broken4_tri p i (l.getD i (0, 0)) (l.take i) u _ k (by ((try clear hh_i6); (try clear hh_i8); (try clear hh_i10); omega)) hx hbd htk htl) ?_
        rw [hbr]
        simp only [vsAll, binA, binLitA, intA, opA, dstOk, nilSliceOp, Nat.reduceLT, ↓reduceIte, eq_self]
        refine condV (fun hc => ?_) (fun hc => ?_)
        · have hb : ¬ brR p i (l.getD i (0, 0)) l = 0 := by simpa using hc
          have ho := ckO_some hil hb hall
          have eE : checkE p l = 0 := by rw [checkE, if_pos he, ho]; rfl
          have eW : checkW p l = i := by rw [checkW, if_pos eE, ho]; rfl
          have eR : checkR p l = brR p i (l.getD i (0, 0)) l := by rw [checkR, if_pos eE, eW]
          simp only [vsAll, cellA, cellsA, opA, newCells, okCells, storeObj, dstOk, nilSliceOp, Nat.reduceLT, Nat.reduceEqDiff, ↓reduceIte, eq_self, wtAll, hh_i8, hh_i10]
          refine Ent.ret ⟨i6, _, rfl, by simp only [vsAll, ↓reduceIte, eq_self]; try rfl, ?_⟩
          simp only [vsAll, loadA, loadRow, partA, partOk, resA, retA.eq_2, Nat.reduceLT, Nat.reduceEqDiff, ↓reduceIte, eq_self, wtAll, Try.results19]
          refine dropR_pure ?_ (by (repeat (first | exact HSub_rfl | refine HSub_put_eq (by simp only [vsAll, binA, binLitA, intA, aggA, aggV, boolA, nilA2, isConst, unA, loadA, loadRow, partA, partOk, fieldAddrA, indexAddrA, indexA, fieldA, extractA, lenA, nilCheckA, boxA, boxZ, cellA, cellsA, fillA, okParts, buildSliceA, buildMutA, makeSliceA, partIdx, elemsA, lensA, ifaceA, convA, mmA, pickA, okAll, stAll, opsA, partsA, partsOk, opA, allocA, boxMutA, newCells, okCells, storeObj, appendA, guardV, taA, nM, mapUpA, lookA, sliceA, sliceS, boundsA, opO, okO, copyA, dstOk, nilA, quietOk, nilSliceOp, deferV, panA, resA, argFr, retA.eq_1, retA.eq_2, Nat.reduceAdd, Nat.reduceSub, Nat.reduceMul, Nat.reduceLT, Nat.reduceLeDiff, Nat.reduceEqDiff, Nat.reduceBEq, Int.reduceAdd, Int.reduceSub, Int.reduceMul, Int.reduceNeg, Int.reduceLE, Int.reduceLT, Int.reduceEq, Int.reduceNe, Int.reduceToNat, ↓reduceIte, reduceCtorEq, implies_true, forall_const, eq_self, ne_eq, arrL, wtAll, Try.ntmps19, Try.results19, hh_i6, hh_i8, hh_i10]) ?_ | refine HSub_drop2 (by simp only [eq_self, hh_i6, hh_i8, hh_i10]) ?_ | refine HSub_keep_eq (by simp only [vsAll, binA, binLitA, intA, aggA, aggV, boolA, nilA2, isConst, unA, loadA, loadRow, partA, partOk, fieldAddrA, indexAddrA, indexA, fieldA, extractA, lenA, nilCheckA, boxA, boxZ, cellA, cellsA, fillA, okParts, buildSliceA, buildMutA, makeSliceA, partIdx, elemsA, lensA, ifaceA, convA, mmA, pickA, okAll, stAll, opsA, partsA, partsOk, opA, allocA, boxMutA, newCells, okCells, storeObj, appendA, guardV, taA, nM, mapUpA, lookA, sliceA, sliceS, boundsA, opO, okO, copyA, dstOk, nilA, quietOk, nilSliceOp, deferV, panA, resA, argFr, retA.eq_1, retA.eq_2, Nat.reduceAdd, Nat.reduceSub, Nat.reduceMul, Nat.reduceLT, Nat.reduceLeDiff, Nat.reduceEqDiff, Nat.reduceBEq, Int.reduceAdd, Int.reduceSub, Int.reduceMul, Int.reduceNeg, Int.reduceLE, Int.reduceLT, Int.reduceEq, Int.reduceNe, Int.reduceToNat, ↓reduceIte, reduceCtorEq, implies_true, forall_const, eq_self, ne_eq, arrL, wtAll, Try.ntmps19, Try.results19, hh_i6, hh_i8, hh_i10]) ?_)))
          simp only [eq_self, eE, eW, eR]
        · have hb : brR p i (l.getD i (0, 0)) l = 0 := by simpa using hc
          obtain ⟨f, t, e, hf, ht⟩ := place_nat hx
          have htk2 := htk.next nF hx
          rw [htl, ← take_snoc l i (0, 0) hil, e] at htk2
          simp only [Int.toNat_natCast] at htk2
          have htl4 := tk_lt p i t
          have h4 := pow12 k.H_eq.2
          have hbf := hbd.2 f (by ((try clear hh_i6); (try clear hh_i8); (try clear hh_i10); omega))
          simp only [vsAll, e]
          refine vs_draw2 [0, 0, 0, 0, 0, 0, 0, 0, 0, 0, 0, 0, 0, 0, 1] [([0, 1, 2, 3, 4, 5, 6, 7, 8, 9, 10, 11, 12, 13], [], 14)] [] (by decide +kernel) ?_
          simp only [vsAll, loadA, loadRow, partA, partOk, fieldAddrA, indexAddrA, opA, dstOk, Nat.reduceLT, Nat.reduceEqDiff, ↓reduceIte, eq_self, wtAll, hh_i10]
          refine ⟨⟨by ((try clear hh_i6); (try clear hh_i8); (try clear hh_i10); omega), by ((try clear hh_i6); (try clear hh_i8); (try clear hh_i10); omega)⟩, by ((try clear hh_i6); (try clear hh_i8); (try clear hh_i10); omega), ?_⟩
          refine qcall _ ⟨trivial, by simp only [vsAll, okAll, opsA, opA, Nat.reduceEqDiff, ↓reduceIte, eq_self], takes_tri p i t _ k (by ((try clear hh_i6); (try clear hh_i8); (try clear hh_i10); omega)) ht⟩ ?_
          simp only [vsAll, cellA, cellsA, okParts, buildSliceA, partIdx, elemsA, lensA, partsA, partsOk, opA, dstOk, Nat.reduceAdd, Nat.reduceMul, Nat.reduceLT, Nat.reduceLeDiff, Nat.reduceEqDiff, ↓reduceIte, eq_self, wtAll]
          refine qcall _ ⟨trivial, by simp only [vsAll, okAll, opsA, opA, ↓reduceIte, eq_self], joined_tri (u.getD f 0) (tkN p i t) _ (by ((try clear hh_i6); (try clear hh_i8); (try clear hh_i10); omega)) (by ((try clear hh_i6); (try clear hh_i8); (try clear hh_i10); omega))⟩ ?_
          simp only [vsAll, binA, binLitA, intA, indexAddrA, cellA, cellsA, opA, newCells, okCells, storeObj, dstOk, Nat.reduceLT, Nat.reduceEqDiff, ↓reduceIte, eq_self, wtAll, hh_i10]
          refine ⟨⟨by ((try clear hh_i6); (try clear hh_i8); (try clear hh_i10); omega), by ((try clear hh_i6); (try clear hh_i8); (try clear hh_i10); omega)⟩, by ((try clear hh_i6); (try clear hh_i8); (try clear hh_i10); omega), by simp only [InR_i64]; ((try clear hh_i6); (try clear hh_i8); (try clear hh_i10); omega), loop_next (i + 1, u.set f (u.getD f 0 ||| tkN p i t)) ⟨by simp only []; ((try clear hh_i6); (try clear hh_i8); (try clear hh_i10); omega), fun j hj => ?_, hbd.or (by ((try clear hh_i6); (try clear hh_i8); (try clear hh_i10); omega)) (by ((try clear hh_i6); (try clear hh_i8); (try clear hh_i10); omega)), htk2⟩ (by simp only []; ((try clear hh_i6); (try clear hh_i8); (try clear hh_i10); omega)) ?_ ?_⟩
          · simp only [] at hj
            by_cases e : j = i
            · rw [e]; exact hb
            · exact hall j (by ((try clear hh_i6); (try clear hh_i8); (try clear hh_i10); omega))
          · simp only [vsAll, Nat.reduceEqDiff, ↓reduceIte, eq_self, Int.natCast_add, Int.natCast_one]
          · refine HSub.trans (B := (H.set i6 (.box 1 1 fun _ => [i64 0])).set i8 (.box 1 3 (updF 3 f (bdF u) [u64 ((u.getD f 0 ||| tkN p i t : Nat) : Int)]))) (by (repeat (first | exact HSub_rfl | refine HSub_put_eq (by simp only [vsAll, ↓reduceIte, eq_self, hh_i8, hh_i10]) ?_ | refine HSub_drop2 (by simp only [eq_self, hh_i6, hh_i8, hh_i10]) ?_ | refine HSub_keep_eq (by simp only [vsAll, binA, binLitA, intA, aggA, aggV, boolA, nilA2, isConst, unA, loadA, loadRow, partA, partOk, fieldAddrA, indexAddrA, indexA, fieldA, extractA, lenA, nilCheckA, boxA, boxZ, cellA, cellsA, fillA, okParts, buildSliceA, buildMutA, makeSliceA, partIdx, elemsA, lensA, ifaceA, convA, mmA, pickA, okAll, stAll, opsA, partsA, partsOk, opA, allocA, boxMutA, newCells, okCells, storeObj, appendA, guardV, taA, nM, mapUpA, lookA, sliceA, sliceS, boundsA, opO, okO, copyA, dstOk, nilA, quietOk, nilSliceOp, deferV, panA, resA, argFr, retA.eq_1, retA.eq_2, Nat.reduceAdd, Nat.reduceSub, Nat.reduceMul, Nat.reduceLT, Nat.reduceLeDiff, Nat.reduceEqDiff, Nat.reduceBEq, Int.reduceAdd, Int.reduceSub, Int.reduceMul, Int.reduceNeg, Int.reduceLE, Int.reduceLT, Int.reduceEq, Int.reduceNe, Int.reduceToNat, ↓reduceIte, reduceCtorEq, implies_true, forall_const, eq_self, ne_eq, arrL, wtAll, Try.ntmps19, Try.results19, hh_i6, hh_i8, hh_i10]) ?_))) (HSub.set (HSub.refl _) (box_ext fun q hq => bd_upd hbd.1 (by ((try clear hh_i6); (try clear hh_i8); (try clear hh_i10); omega)) q hq))
      · have ei : i = l.length := by ((try clear hh_i6); (try clear hh_i8); omega)
        have ho := ckO_none (p := p) (l := l) fun j hj => hall j (by ((try clear hh_i6); (try clear hh_i8); omega))
        have eE : checkE p l = 4 := by rw [checkE, if_pos he, ho]; rfl
        have eW : checkW p l = 0 := by rw [checkW, if_neg (by rw [eE]; decide)]
        have eR : checkR p l = 0 := by rw [checkR, if_neg (by rw [eE]; decide)]
        simp only [vsAll, cellA, cellsA, opA, newCells, okCells, storeObj, dstOk, nilSliceOp, Nat.reduceLT, Nat.reduceEqDiff, ↓reduceIte, eq_self, wtAll, hh_i8]
        refine Ent.ret ⟨i6, _, rfl, by simp only [vsAll, ↓reduceIte, eq_self]; try rfl, ?_⟩
        simp only [vsAll, loadA, loadRow, partA, partOk, resA, retA.eq_2, Nat.reduceLT, Nat.reduceEqDiff, ↓reduceIte, eq_self, wtAll, Try.results19]
        refine dropR_pure ?_ (by (repeat (first | exact HSub_rfl | refine HSub_put_eq (by simp only [vsAll, binA, binLitA, intA, aggA, aggV, boolA, nilA2, isConst, unA, loadA, loadRow, partA, partOk, fieldAddrA, indexAddrA, indexA, fieldA, extractA, lenA, nilCheckA, boxA, boxZ, cellA, cellsA, fillA, okParts, buildSliceA, buildMutA, makeSliceA, partIdx, elemsA, lensA, ifaceA, convA, mmA, pickA, okAll, stAll, opsA, partsA, partsOk, opA, allocA, boxMutA, newCells, okCells, storeObj, appendA, guardV, taA, nM, mapUpA, lookA, sliceA, sliceS, boundsA, opO, okO, copyA, dstOk, nilA, quietOk, nilSliceOp, deferV, panA, resA, argFr, retA.eq_1, retA.eq_2, Nat.reduceAdd, Nat.reduceSub, Nat.reduceMul, Nat.reduceLT, Nat.reduceLeDiff, Nat.reduceEqDiff, Nat.reduceBEq, Int.reduceAdd, Int.reduceSub, Int.reduceMul, Int.reduceNeg, Int.reduceLE, Int.reduceLT, Int.reduceEq, Int.reduceNe, Int.reduceToNat, ↓reduceIte, reduceCtorEq, implies_true, forall_const, eq_self, ne_eq, arrL, wtAll, Try.ntmps19, Try.results19, hh_i6, hh_i8]) ?_ | refine HSub_drop2 (by simp only [eq_self, hh_i6, hh_i8]) ?_ | refine HSub_keep_eq (by simp only [vsAll, binA, binLitA, intA, aggA, aggV, boolA, nilA2, isConst, unA, loadA, loadRow, partA, partOk, fieldAddrA, indexAddrA, indexA, fieldA, extractA, lenA, nilCheckA, boxA, boxZ, cellA, cellsA, fillA, okParts, buildSliceA, buildMutA, makeSliceA, partIdx, elemsA, lensA, ifaceA, convA, mmA, pickA, okAll, stAll, opsA, partsA, partsOk, opA, allocA, boxMutA, newCells, okCells, storeObj, appendA, guardV, taA, nM, mapUpA, lookA, sliceA, sliceS, boundsA, opO, okO, copyA, dstOk, nilA, quietOk, nilSliceOp, deferV, panA, resA, argFr, retA.eq_1, retA.eq_2, Nat.reduceAdd, Nat.reduceSub, Nat.reduceMul, Nat.reduceLT, Nat.reduceLeDiff, Nat.reduceEqDiff, Nat.reduceBEq, Int.reduceAdd, Int.reduceSub, Int.reduceMul, Int.reduceNeg, Int.reduceLE, Int.reduceLT, Int.reduceEq, Int.reduceNe, Int.reduceToNat, ↓reduceIte, reduceCtorEq, implies_true, forall_const, eq_self, ne_eq, arrL, wtAll, Try.ntmps19, Try.results19, hh_i6, hh_i8]) ?_)))
        simp only [eq_self, eE, eW, eR, Int.natCast_zero]
end Go.Proofs.Ytliomkpmadpibaa
end
section
set_option linter.unusedVariables false
set_option linter.unusedSimpArgs false
set_option maxHeartbeats 4000000
set_option maxRecDepth 100000
namespace Go.Proofs.Ytliomkpmadpibaa
open Go.V
/-- A mark: the pot that is next, and what is taken. -/
abbrev mkC (s : Nat) (u : List Nat) : List AV := [i64 (s : Nat), u64 (u.getD 0 0 : Nat), u64 (u.getD 1 0 : Nat), u64 (u.getD 2 0 : Nat)]
abbrev stepsF (p : Pt) (s : Nat) (u : List Nat) : AV := .func (.func 102) [] [.rptr 1 1 (fun _ => [pP p]) 0 0, .rptr 1 4 (fun _ => mkC s u) 0 0]
theorem steps_tri (p : Pt) (s : Nat) (u : List Nat) (H : Hp) : PTri Try.prog (fnA 77) [pP p, .agg (mkC s u)] H (stepsF p s u) := by
  refine tri_v0 (fun _ => false) Try.func77 (by kernel_rfl) rfl (by simp only [List.length_append, List.length_cons, List.length_nil, Try.ntmps77]; decide) ?_
  simp only [vsAll, boxA, boxZ, cellA, okAll, stAll, opsA, opA, dstOk, nilSliceOp, resA, argFr, retA.eq_1, Nat.reduceAdd, Nat.reduceLT, Nat.reduceEqDiff, ↓reduceIte, eq_self, wtAll, Try.ntmps77, Try.results77]
def rowR (p : Pt) (f h : Nat) : List (Int × Int) := ((List.range p.H).drop h).map fun h : Nat => ((f : Int), (h : Int))
def restF (p : Pt) (f : Nat) : List (Int × Int) := ((List.range p.fs.length).drop f).flatMap fun f : Nat => rowR p f 0
theorem rowR_next {p : Pt} {f h : Nat} (hh : h < p.H) : rowR p f h = ((f : Int), (h : Int)) :: rowR p f (h + 1) := by
  unfold rowR
  rw [List.drop_eq_getElem_cons (by simpa using hh)]
  simp
theorem rowR_end (p : Pt) (f : Nat) : rowR p f p.H = [] := by simp [rowR]
theorem restF_next {p : Pt} {f : Nat} (hf : f < p.fs.length) : restF p f = rowR p f 0 ++ restF p (f + 1) := by
  unfold restF
  rw [List.drop_eq_getElem_cons (by simpa using hf)]
  simp
theorem restF_end (p : Pt) : restF p p.fs.length = [] := by
  unfold restF
  rw [List.drop_eq_nil_of_le (by simp)]; rfl
theorem restF_zero (p : Pt) : restF p 0 = places p := by simp [restF, places, rowR]
def nextW (p : Pt) (s : Nat) (u : List Nat) (l : List (Int × Int)) : List (List AV) := (l.filter (goB p s u)).map fun x => [plA x, .agg (mkC (s + 1) (u.set x.1.toNat (u.getD x.1.toNat 0 ||| tkN p s x.2.toNat)))]
theorem nextW_cons {p : Pt} {s : Nat} {u : List Nat} {x : Int × Int} {l : List (Int × Int)} : nextW p s u (x :: l) = if goB p s u x = true then [plA x, .agg (mkC (s + 1) (u.set x.1.toNat (u.getD x.1.toNat 0 ||| tkN p s x.2.toNat)))] :: nextW p s u l else nextW p s u l := by
  simp only [nextW, List.filter_cons]
  split <;> rfl
def nextL (p : Pt) (s : Nat) (u : List Nat) : List (List AV) := nextW p s u (places p)
theorem nextL_eq (p : Pt) (s : Nat) (u : List Nat) : nextL p s u = (nxt p s u).map fun q => [plA q.1, .agg (mkC (s + 1) q.2)] := by
  simp only [nextL, nextW, nxt, List.map_map]; rfl
theorem mk_at (s : Int) (u : List Nat) (f : Nat) (hf : f < 3) : (List.drop (1 + f * 1) [i64 s, u64 (u.getD 0 0 : Nat), u64 (u.getD 1 0 : Nat), u64 (u.getD 2 0 : Nat)]).getD 0 AV.any = u64 (u.getD f 0 : Nat) := by
  have : f = 0 ∨ f = 1 ∨ f = 2 := by omega
  rcases this with rfl | rfl | rfl <;> rfl
theorem mk_set (s : Int) (u : List Nat) (hu : u.length = 3) (f v : Nat) (hf : f < 3) : List.take 4 (List.take (1 + f * 1) [i64 s, u64 (u.getD 0 0 : Nat), u64 (u.getD 1 0 : Nat), u64 (u.getD 2 0 : Nat)] ++ [u64 (v : Nat)] ++ List.drop (1 + f * 1) [u64 (u.getD 0 0 : Nat), u64 (u.getD 1 0 : Nat), u64 (u.getD 2 0 : Nat)]) =
    [i64 s, u64 ((u.set f v).getD 0 0 : Nat), u64 ((u.set f v).getD 1 0 : Nat), u64 ((u.set f v).getD 2 0 : Nat)] := by
  match u, hu with
  | [a, b, c], _ =>
    have : f = 0 ∨ f = 1 ∨ f = 2 := by omega
    rcases this with rfl | rfl | rfl <;> rfl
theorem steps1_tri (p : Pt) (s : Nat) (u : List Nat) (k : Ok p) (hs : s < p.ps.length) (hu : Bd u) (yf : Fn) (H : Hp) (Pre K : Hp → Prop)
    (hit : Iter Try.prog (.func yf [] []) Pre (nextL p s u) H K) :
    Tri Try.prog (stepsF p s u) [.func yf [] []] H fun r H' => (∃ v, r = .ret v) ∧ K H' := by
  have nF := k.nF
  have nP := k.nP
  have hH := k.H_eq
  have eH : p.hr = (p.H : Int) := hH.1.symm
  have h4 := pow12 hH.2
  rw [nextL, ← restF_zero] at hit
  refine tri_v0 (fun _ => false) Try.func102 (by kernel_rfl) rfl (by simp only [List.length_append, List.length_cons, List.length_nil, Try.ntmps102]; decide) ?_
  simp only [vsAll, loadA, loadRow, partA, partOk, fieldAddrA, lenA, nilCheckA, okAll, stAll, opsA, opA, dstOk, nilSliceOp, argFr, Nat.reduceLT, Nat.reduceEqDiff, ↓reduceIte, eq_self, wtAll, Try.ntmps102]
  refine vs_loop (σ := Nat × Hp) (fun y => y.1 ≤ p.fs.length ∧ Iter Try.prog (.func yf [] []) Pre (nextW p s u (restF p y.1)) y.2 K)
    (fun y => [(0, .func yf [] []), (1, .rptr 1 1 (fun _ => [pP p]) 0 0), (2, .rptr 1 4 (fun _ => mkC s u) 0 0), (4, .func (.func 59) [pP p] []), (17, i64 p.fs.length), (18, i64 y.1)]) (fun y => y.2) (fun y => p.fs.length - y.1) (0, H) ⟨by omega, hit⟩ ?_ (HSub.refl _) fun y hy => ?_
  · simp only [vsAll, argFr, Nat.reduceEqDiff, ↓reduceIte, reduceCtorEq, eq_self, Int.natCast_zero]
  · obtain ⟨f, H'⟩ := y
    obtain ⟨hf, hy⟩ := hy
    simp only [] at hf hy
    simp only [vsAll, binA, binLitA, intA, opA, dstOk, Nat.reduceLT, Nat.reduceEqDiff, ↓reduceIte, reduceCtorEq, eq_self]
    refine condD (fun hd => ?_) (fun hd => ?_)
    · have hfs : f < p.fs.length := by omega
      rw [restF_next hfs] at hy
      simp only [vsAll, loadA, loadRow, partA, partOk, fieldAddrA, nilCheckA, opA, dstOk, nilSliceOp, Nat.reduceLT, Nat.reduceEqDiff, ↓reduceIte, reduceCtorEq, eq_self, wtAll, eH]
      refine vs_loop (σ := Nat × Hp) (fun y => y.1 ≤ p.H ∧ Iter Try.prog (.func yf [] []) Pre (nextW p s u (rowR p f y.1 ++ restF p (f + 1))) y.2 K)
        (fun y => [(0, .func yf [] []), (1, .rptr 1 1 (fun _ => [pP p]) 0 0), (2, .rptr 1 4 (fun _ => mkC s u) 0 0), (4, .func (.func 59) [pP p] []), (17, i64 p.fs.length), (18, i64 f), (5, i64 f), (25, i64 p.H), (26, i64 y.1)]) (fun y => y.2) (fun y => p.H - y.1) (0, H') ⟨by omega, hy⟩ ?_ (HSub.refl _) fun y hy => ?_
      · simp only [vsAll, Nat.reduceEqDiff, ↓reduceIte, reduceCtorEq, eq_self, Int.natCast_zero]
      · obtain ⟨h, H2⟩ := y
        obtain ⟨hh, hy⟩ := hy
        simp only [] at hh hy
        simp only [vsAll, binA, binLitA, intA, opA, dstOk, Nat.reduceLT, Nat.reduceEqDiff, ↓reduceIte, reduceCtorEq, eq_self]
        refine condD (fun hd2 => ?_) (fun hd2 => ?_)
        · have hhs : h < p.H := by omega
          have htl := tk_lt p s h
          have hbf := hu.2 f (by omega)
          have hm := mk_at s u f (by omega)
          rw [rowR_next hhs, List.cons_append, nextW_cons] at hy
          have ego : goB p s u ((f : Int), (h : Int)) = !(meet (tkN p s h) (u.getD f 0) || !decide (alR p s ((f : Int), (h : Int)) = 0)) := by
            unfold goB
            simp only [Int.toNat_natCast]
            rw [Bool.not_or, Bool.not_not]
          rw [ego] at hy
          simp only [vsAll, loadA, loadRow, partA, partOk, fieldAddrA, cellA, cellsA, fillA, okParts, okAll, stAll, opsA, partsA, partsOk, opA, allocA, newCells, okCells, storeObj, dstOk, nilSliceOp, Nat.reduceAdd, Nat.reduceLT, Nat.reduceLeDiff, Nat.reduceEqDiff, ↓reduceIte, reduceCtorEq, eq_self, wtAll]
          intro i7 hh_i7; (try simp only [Hp.set_none, ite_none] at hh_i7)
          rw [Hp.set_set]
          refine callK_pure (takes_tri p s h _ k hs hhs) ?_
          simp only [vsAll, loadA, loadRow, partA, partOk, fieldAddrA, indexAddrA, okAll, stAll, opsA, opA, dstOk, nilSliceOp, Nat.reduceLT, Nat.reduceEqDiff, ↓reduceIte, reduceCtorEq, eq_self, wtAll, hm]
          refine ⟨⟨by ((try clear hh_i7); omega), by ((try clear hh_i7); omega)⟩, by ((try clear hh_i7); omega), callK_pure (meets_tri (tkN p s h) (u.getD f 0) _ (by ((try clear hh_i7); omega)) (by ((try clear hh_i7); omega))) ?_⟩
          simp only [vsAll, loadA, loadRow, partA, partOk, fieldAddrA, opA, guardV, dstOk, Nat.reduceLT, Nat.reduceEqDiff, ↓reduceIte, reduceCtorEq, implies_true, eq_self, wtAll]
          refine gcall _ (fun g => ⟨by simp only [vsAll, opA, Nat.reduceEqDiff, ↓reduceIte, eq_self, g], by simp only [vsAll, okAll, opsA, opA, Nat.reduceEqDiff, ↓reduceIte, eq_self, g], tri_bound (alone_tri p s f h _ k hs hfs hhs)⟩) ?_
          simp only [vsAll, unA, pickA, opA, guardV, dstOk, Nat.reduceLT, Nat.reduceEqDiff, ↓reduceIte, implies_true, eq_self]
          refine condV (fun hc => ?_) (fun hc => ?_)
          · rw [hc, if_neg (by decide)] at hy
            simp only [vsAll, binA, binLitA, intA, opA, dstOk, Nat.reduceLT, Nat.reduceEqDiff, ↓reduceIte, reduceCtorEq, eq_self]
            refine ⟨by simp only [InR_i64]; ((try clear hh_i7); omega), loop_next (h + 1, H2) ⟨by simp only []; ((try clear hh_i7); omega), hy⟩ (by simp only []; ((try clear hh_i7); omega)) ?_ (by (repeat (first | exact HSub_rfl | refine HSub_put_eq (by simp only [vsAll, binA, binLitA, intA, aggA, aggV, boolA, nilA2, isConst, unA, loadA, loadRow, partA, partOk, fieldAddrA, indexAddrA, indexA, fieldA, extractA, lenA, nilCheckA, boxA, boxZ, cellA, cellsA, fillA, okParts, buildSliceA, buildMutA, makeSliceA, partIdx, elemsA, lensA, ifaceA, convA, mmA, pickA, okAll, stAll, opsA, partsA, partsOk, opA, allocA, boxMutA, newCells, okCells, storeObj, appendA, guardV, taA, nM, mapUpA, lookA, sliceA, sliceS, boundsA, opO, okO, copyA, dstOk, nilA, quietOk, nilSliceOp, deferV, panA, resA, argFr, retA.eq_1, retA.eq_2, Nat.reduceAdd, Nat.reduceSub, Nat.reduceMul, Nat.reduceLT, Nat.reduceLeDiff, Nat.reduceEqDiff, Nat.reduceBEq, Int.reduceAdd, Int.reduceSub, Int.reduceMul, Int.reduceNeg, Int.reduceLE, Int.reduceLT, Int.reduceEq, Int.reduceNe, Int.reduceToNat, ↓reduceIte, reduceCtorEq, implies_true, forall_const, eq_self, ne_eq, arrL, wtAll, Try.ntmps102, Try.results102, hh_i7]) ?_ | refine HSub_drop2 (by simp only [eq_self, hh_i7]) ?_ | refine HSub_keep_eq (by simp only [vsAll, binA, binLitA, intA, aggA, aggV, boolA, nilA2, isConst, unA, loadA, loadRow, partA, partOk, fieldAddrA, indexAddrA, indexA, fieldA, extractA, lenA, nilCheckA, boxA, boxZ, cellA, cellsA, fillA, okParts, buildSliceA, buildMutA, makeSliceA, partIdx, elemsA, lensA, ifaceA, convA, mmA, pickA, okAll, stAll, opsA, partsA, partsOk, opA, allocA, boxMutA, newCells, okCells, storeObj, appendA, guardV, taA, nM, mapUpA, lookA, sliceA, sliceS, boundsA, opO, okO, copyA, dstOk, nilA, quietOk, nilSliceOp, deferV, panA, resA, argFr, retA.eq_1, retA.eq_2, Nat.reduceAdd, Nat.reduceSub, Nat.reduceMul, Nat.reduceLT, Nat.reduceLeDiff, Nat.reduceEqDiff, Nat.reduceBEq, Int.reduceAdd, Int.reduceSub, Int.reduceMul, Int.reduceNeg, Int.reduceLE, Int.reduceLT, Int.reduceEq, Int.reduceNe, Int.reduceToNat, ↓reduceIte, reduceCtorEq, implies_true, forall_const, eq_self, ne_eq, arrL, wtAll, Try.ntmps102, Try.results102, hh_i7]) ?_)))⟩
            simp only [vsAll, Nat.reduceEqDiff, ↓reduceIte, reduceCtorEq, eq_self, Int.natCast_add, Int.natCast_one]
          · rw [hc, Bool.not_false, if_pos rfl] at hy
            simp only [Int.toNat_natCast] at hy
            simp only [vsAll, binA, binLitA, intA, loadA, loadRow, partA, partOk, fieldAddrA, indexAddrA, cellA, cellsA, okParts, buildSliceA, partIdx, elemsA, lensA, okAll, stAll, opsA, partsA, partsOk, opA, allocA, newCells, okCells, storeObj, dstOk, Nat.reduceAdd, Nat.reduceMul, Nat.reduceLT, Nat.reduceLeDiff, Nat.reduceEqDiff, ↓reduceIte, reduceCtorEq, eq_self, wtAll]
            intro i9 hh_i9; (try simp only [ite_none] at hh_i9)
            rw [Hp.set_set]
            simp only [vsAll, eq_self, hm]
            refine ⟨by simp only [InR_i64]; ((try clear hh_i7); (try clear hh_i9); omega), ⟨by ((try clear hh_i7); (try clear hh_i9); omega), by ((try clear hh_i7); (try clear hh_i9); omega)⟩, by ((try clear hh_i7); (try clear hh_i9); omega), callK_pure (joined_tri (u.getD f 0) (tkN p s h) _ (by ((try clear hh_i7); (try clear hh_i9); omega)) (by ((try clear hh_i7); (try clear hh_i9); omega))) ?_⟩
            simp only [vsAll, loadA, loadRow, partA, partOk, fieldAddrA, indexAddrA, cellA, cellsA, okAll, stAll, opsA, opA, newCells, okCells, storeObj, dstOk, Nat.reduceLT, Nat.reduceLeDiff, Nat.reduceEqDiff, ↓reduceIte, reduceCtorEq, eq_self, wtAll, hh_i9]
            refine ⟨⟨by ((try clear hh_i7); (try clear hh_i9); omega), by ((try clear hh_i7); (try clear hh_i9); omega)⟩, by ((try clear hh_i7); (try clear hh_i9); omega), ?_⟩
            rw [mk_set ((s : Int) + 1) u hu.1 f _ (by ((try clear hh_i7); (try clear hh_i9); omega))]
            refine callK (Tri.less (by (repeat (first | exact HSub_rfl | refine HSub_put_eq (by simp only [vsAll, binA, binLitA, intA, aggA, aggV, boolA, nilA2, isConst, unA, loadA, loadRow, partA, partOk, fieldAddrA, indexAddrA, indexA, fieldA, extractA, lenA, nilCheckA, boxA, boxZ, cellA, cellsA, fillA, okParts, buildSliceA, buildMutA, makeSliceA, partIdx, elemsA, lensA, ifaceA, convA, mmA, pickA, okAll, stAll, opsA, partsA, partsOk, opA, allocA, boxMutA, newCells, okCells, storeObj, appendA, guardV, taA, nM, mapUpA, lookA, sliceA, sliceS, boundsA, opO, okO, copyA, dstOk, nilA, quietOk, nilSliceOp, deferV, panA, resA, argFr, retA.eq_1, retA.eq_2, Nat.reduceAdd, Nat.reduceSub, Nat.reduceMul, Nat.reduceLT, Nat.reduceLeDiff, Nat.reduceEqDiff, Nat.reduceBEq, Int.reduceAdd, Int.reduceSub, Int.reduceMul, Int.reduceNeg, Int.reduceLE, Int.reduceLT, Int.reduceEq, Int.reduceNe, Int.reduceToNat, ↓reduceIte, reduceCtorEq, implies_true, forall_const, eq_self, ne_eq, arrL, wtAll, Try.ntmps102, Try.results102, hh_i7, hh_i9]) ?_ | refine HSub_drop2 (by simp only [eq_self, hh_i7, hh_i9]) ?_ | refine HSub_keep_eq (by simp only [vsAll, binA, binLitA, intA, aggA, aggV, boolA, nilA2, isConst, unA, loadA, loadRow, partA, partOk, fieldAddrA, indexAddrA, indexA, fieldA, extractA, lenA, nilCheckA, boxA, boxZ, cellA, cellsA, fillA, okParts, buildSliceA, buildMutA, makeSliceA, partIdx, elemsA, lensA, ifaceA, convA, mmA, pickA, okAll, stAll, opsA, partsA, partsOk, opA, allocA, boxMutA, newCells, okCells, storeObj, appendA, guardV, taA, nM, mapUpA, lookA, sliceA, sliceS, boundsA, opO, okO, copyA, dstOk, nilA, quietOk, nilSliceOp, deferV, panA, resA, argFr, retA.eq_1, retA.eq_2, Nat.reduceAdd, Nat.reduceSub, Nat.reduceMul, Nat.reduceLT, Nat.reduceLeDiff, Nat.reduceEqDiff, Nat.reduceBEq, Int.reduceAdd, Int.reduceSub, Int.reduceMul, Int.reduceNeg, Int.reduceLE, Int.reduceLT, Int.reduceEq, Int.reduceNe, Int.reduceToNat, ↓reduceIte, reduceCtorEq, implies_true, forall_const, eq_self, ne_eq, arrL, wtAll, Try.ntmps102, Try.results102, hh_i7, hh_i9]) ?_))) hy.2) ?_
            rintro r H'' (⟨rfl, hr⟩ | ⟨rfl, hr⟩)
            · simp only [vsAll, binA, binLitA, intA, unA, opA, dstOk, Nat.reduceLT, Nat.reduceEqDiff, ↓reduceIte, reduceCtorEq, eq_self]
              refine ⟨by simp only [InR_i64]; ((try clear hh_i7); (try clear hh_i9); omega), loop_next (h + 1, H'') ⟨by simp only []; ((try clear hh_i7); (try clear hh_i9); omega), hr⟩ (by simp only []; ((try clear hh_i7); (try clear hh_i9); omega)) ?_ (HSub.refl _)⟩
              simp only [vsAll, Nat.reduceEqDiff, ↓reduceIte, reduceCtorEq, eq_self, Int.natCast_add, Int.natCast_one]
            · simp only [vsAll, unA, opA, dstOk, resA, retA.eq_2, Nat.reduceLT, ↓reduceIte, eq_self, Try.results102]
              exact ⟨⟨_, rfl⟩, hr⟩
        · have eh : h = p.H := by omega
          subst eh
          rw [rowR_end, List.nil_append] at hy
          simp only [vsAll, binA, binLitA, intA, opA, dstOk, Nat.reduceLT, Nat.reduceEqDiff, ↓reduceIte, reduceCtorEq, eq_self]
          refine ⟨by simp only [InR_i64]; omega, loop_next (f + 1, H2) ⟨by simp only []; omega, hy⟩ (by simp only []; omega) ?_ (HSub.refl _)⟩
          simp only [vsAll, Nat.reduceEqDiff, ↓reduceIte, reduceCtorEq, eq_self, Int.natCast_add, Int.natCast_one]
    · have ef : f = p.fs.length := by omega
      subst ef
      rw [restF_end] at hy
      simp only [vsAll, resA, retA.eq_2, ↓reduceIte, eq_self, Try.results102]
      exact ⟨⟨_, rfl⟩, hy⟩
end Go.Proofs.Ytliomkpmadpibaa
end
section
set_option linter.unusedVariables false
set_option linter.unusedSimpArgs false
namespace Go.V
set_option linter.unusedSectionVars false
variable [Inhabited GivT]
theorem kl_int {P : Program} {d : Nat} {T : TypeId} {q : IntKind} {n : Int} (hu : P.underlying T = some (.int q)) (hw : (Lit.int q n).wf = true) : P.keyLits (d + 1) T [.int q n] = some [.int q n] := by
  simp [Program.keyLits, hu, hw]
theorem kl_arr3 {P : Program} {d : Nat} {T e : TypeId} {q : IntKind} {a b c : Int} (hu : P.underlying T = some (.array 3 e)) (he : P.underlying e = some (.int q)) (hc : P.cellsOf T = 3) (hce : P.cellsOf e = 1)
    (ha : (Lit.int q a).wf = true) (hb : (Lit.int q b).wf = true) (hd : (Lit.int q c).wf = true) : P.keyLits (d + 2) T [.int q a, .int q b, .int q c] = some [.int q a, .int q b, .int q c] := by
  rw [Program.keyLits]
  rotate_left 3
  · exact hu
  rw [if_pos (by simp [hc]), hce, show List.range 3 = [0, 1, 2] from rfl]
  simp only [List.mapM_cons, List.mapM_nil, Nat.zero_mul, Nat.one_mul, List.drop_zero, List.take_succ_cons, List.take_zero, List.drop_succ_cons, kl_int he ha, kl_int he hb, kl_int he hd]
  rfl
theorem kl_two {P : Program} {d : Nat} {T : TypeId} {fs : Array Field} {f0 f1 : Field} {v0 : Value} {r : List Value} {L0 L1 : List Lit} (hu : P.underlying T = some (.struct fs)) (hf : fs.toList = [f0, f1]) (hn : f0.name ≠ "_" ∧ f1.name ≠ "_") (hc : P.cellsOf T = r.length + 1)
    (h0 : f0.offset = 0 ∧ P.cellsOf f0.type = 1) (h1 : f1.offset = 1 ∧ P.cellsOf f1.type = r.length) (k0 : P.keyLits d f0.type [v0] = some L0) (k1 : P.keyLits d f1.type r = some L1) :
    P.keyLits (d + 1) T (v0 :: r) = some (L0 ++ L1) := by
  have hall : fs.all (fun f => f.name != "_") = true := by
    rw [Array.all_eq_true_iff_forall_mem]
    intro f hf'
    have : f ∈ fs.toList := by simpa using hf'
    rw [hf] at this
    rcases List.mem_cons.1 this with rfl | this
    · simpa using hn.1
    · have := List.mem_singleton.1 this
      subst this; simpa using hn.2
  simp only [Program.keyLits, hu, List.length_cons, hc, hall, and_self, if_true, hf, List.mapM_cons, List.mapM_nil, h0.1, h0.2, h1.1, h1.2, List.drop_zero, List.take_succ_cons, List.take_zero, List.drop_succ_cons, List.take_length, k0, k1]
  simp
theorem wf_u64 {a : Int} (h : InR .u64 a) : (Lit.int .u64 a).wf = true := by
  simp only [InR, IntKind.min, IntKind.max, IntKind.signed, IntKind.bits] at h
  simp [Lit.wf, IntKind.min, IntKind.max, IntKind.signed, IntKind.bits] at h ⊢
  omega
end Go.V
end
section
set_option linter.unusedVariables false
set_option linter.unusedSimpArgs false
set_option maxHeartbeats 4000000
set_option maxRecDepth 100000
namespace Go.Proofs.Ytliomkpmadpibaa
open Go.V
theorem mapZ134 : mapZ Try.prog 134 = some (.agg #[.int .i64 0, .bool false]) := by kernel_rfl
theorem und134 : Program.underlying Try.prog 134 = some (.map 106 136) := by kernel_rfl
theorem key106 : Maps.Keyed Try.prog 106 := Maps.Keyed.of_law (deep_law_laid (by kernel_rfl) (m := 10) (by decide) (by decide +kernel) (by kernel_rfl) (by kernel_rfl))
/-- A mark, as a key. -/
abbrev mkV (s a b c : Int) : Value := .agg #[.int .i64 s, .int .u64 a, .int .u64 b, .int .u64 c]
abbrev mkU (s : Nat) (u : List Nat) : Value := mkV s (u.getD 0 0 : Nat) (u.getD 1 0 : Nat) (u.getD 2 0 : Nat)
theorem mkK (s a b c : Int) (h0 : 0 ≤ s ∧ s ≤ 1000) (h1 : 0 ≤ a ∧ a ≤ 4096) (h2 : 0 ≤ b ∧ b ≤ 4096) (h3 : 0 ≤ c ∧ c ≤ 4096) : ∃ l, keyOf Try.prog 106 (mkV s a b c) = some l := by
  have hsz : Try.prog.types.size + 1 = (Try.prog.types.size - 2) + 3 := by
    have : 2 ≤ Try.prog.types.size := by decide +kernel
    omega
  have hsz2 : (Try.prog.fieldsOf 106).toList.length = 2 := by decide +kernel
  have hu : Program.underlying Try.prog 106 = some (.struct (Try.prog.fieldsOf 106)) := by kernel_rfl
  obtain ⟨f0, e0⟩ : ∃ f0, f0 = (Try.prog.fieldsOf 106).toList[0]'(by rw [hsz2]; decide) := ⟨_, rfl⟩
  obtain ⟨f1, e1⟩ : ∃ f1, f1 = (Try.prog.fieldsOf 106).toList[1]'(by rw [hsz2]; decide) := ⟨_, rfl⟩
  have hf : (Try.prog.fieldsOf 106).toList = [f0, f1] := by
    rw [e0, e1]
    generalize (Try.prog.fieldsOf 106).toList = L at hsz2 ⊢
    match L, hsz2 with
    | [x, y], _ => rfl
  have hn : f0.name ≠ "_" ∧ f1.name ≠ "_" := by
    have h : (Try.prog.fieldsOf 106).toList.map (fun f => decide (f.name ≠ "_")) = [true, true] := by decide +kernel
    rw [hf] at h
    simpa using h
  have t0 : f0.type = 3 := by rw [e0]; kernel_rfl
  have t1 : f1.type = 85 := by rw [e1]; kernel_rfl
  have o0 : f0.offset = 0 := by rw [e0]; kernel_rfl
  have o1 : f1.offset = 1 := by rw [e1]; kernel_rfl
  have k0 : Try.prog.keyLits (Try.prog.types.size - 2 + 2) f0.type [.int .i64 s] = some [.int .i64 s] := by
    rw [t0]; exact kl_int (by kernel_rfl) (wf_i64 (by simp only [InR_i64]; omega))
  have k1 : Try.prog.keyLits (Try.prog.types.size - 2 + 2) f1.type [.int .u64 a, .int .u64 b, .int .u64 c] = some [.int .u64 a, .int .u64 b, .int .u64 c] := by
    rw [t1]
    exact kl_arr3 (e := 73) (by kernel_rfl) (by kernel_rfl) (by kernel_rfl) (by kernel_rfl) (wf_u64 (by simp only [InR_u64]; omega)) (wf_u64 (by simp only [InR_u64]; omega)) (wf_u64 (by simp only [InR_u64]; omega))
  have hk := kl_two hu hf hn (r := [.int .u64 a, .int .u64 b, .int .u64 c]) (by kernel_rfl) ⟨o0, by rw [t0]; kernel_rfl⟩ ⟨o1, by rw [t1]; kernel_rfl⟩ k0 k1
  unfold keyOf
  rw [hu]
  have hg : (Try.prog.keyType 106 && (mkV s a b c).formed Try.prog 106) = true := by kernel_rfl
  simp only [hg, if_true, hsz, Value.cells, List.toList_toArray]
  rw [hk]
  exact ⟨_, rfl⟩
theorem mkKU {s : Nat} {u : List Nat} (hs : s ≤ 4) (hu : Bd u) : ∃ l, keyOf Try.prog 106 (mkU s u) = some l := by
  have h0 := hu.2 0 (by omega)
  have h1 := hu.2 1 (by omega)
  have h2 := hu.2 2 (by omega)
  exact mkK _ _ _ _ (by omega) (by omega) (by omega) (by omega)
end Go.Proofs.Ytliomkpmadpibaa
end
section
set_option linter.unusedVariables false
set_option linter.unusedSimpArgs false
set_option maxHeartbeats 4000000
set_option maxRecDepth 100000
namespace Go.Proofs.Ytliomkpmadpibaa
open Go.V
/-- What is known: a number, and whether there is a plan. -/
abbrev knV (o : Option Int) : Value := .agg #[.int .i64 (o.getD 0), .bool o.isSome]
abbrev knA (o : Option Int) : AV := .tuple [i64 (o.getD 0), boo o.isSome]
section
variable (p : Pt) (e0 : Int) (more : Nat → Int × Int → Int → Int) (join : Int → Int → Int)
/-- What is kept of what was told. -/
def memT : Value → Value → Prop := fun k v => ∃ (s : Nat) (u : List Nat), s ≤ p.ps.length ∧ Bd u ∧ k = mkU s u ∧ v = knV (tl p e0 more join (p.ps.length - s) s u)
/-- A teller, and what its functions do. -/
structure Tel (fm fj : Fn) (cm cj : List AV) where
  V : Nat → Nat → Int → Prop
  vd : Vd p e0 more join V
  tM : ∀ (n k s : Nat) (x : Int × Int) (r : Int) (H : Hp), n < 5 → k ≤ 2000000 → s < p.ps.length → x ∈ places p → V n k r → PTri Try.prog (.func fm [] cm) [i64 (s : Nat), plA x, i64 r] H (i64 (more s x r))
  tJ : ∀ (n j k : Nat) (a b : Int) (H : Hp), n ≤ 5 → j + k ≤ 2000000 → V n j a → V n k b → PTri Try.prog (.func fj [] cj) [i64 a, i64 b] H (i64 (join a b))
abbrev talA (fm fj : Fn) (cm cj : List AV) : AV := .agg [i64 e0, .func fm [] cm, .func fj [] cj]
abbrev onF (fm fj : Fn) (cm cj : List AV) (i5 i6 : Nat) : AV := .func (.func 101) [] [.rptr 1 1 (fun _ => [pP p]) 0 0, .rptr 1 3 (fun _ => [i64 e0, .func fm [] cm, .func fj [] cj]) 0 0, .ref i5 0 1 0 0, .ref i6 0 1 0 0]
end
theorem memT_key {p : Pt} {e0 : Int} {more : Nat → Int × Int → Int → Int} {join : Int → Int → Int} {k v : Value} (kp : p.ps.length ≤ 4) (h : memT p e0 more join k v) : ∃ l, keyOf Try.prog 106 k = some l := by
  obtain ⟨s, u, hs, hu, rfl, _⟩ := h
  exact mkKU (by omega) hu
theorem next_get {p : Pt} {s : Nat} {u : List Nat} {i : Nat} {v : List AV} (h : (nextL p s u)[i]? = some v) :
    i < (nxt p s u).length ∧ v = [plA ((nxt p s u).getD i ((0, 0), [])).1, .agg (mkC (s + 1) ((nxt p s u).getD i ((0, 0), [])).2)] := by
  rw [nextL_eq, List.getElem?_map] at h
  cases hq : (nxt p s u)[i]? with
  | none => rw [hq] at h; cases h
  | some q =>
    rw [hq] at h
    simp only [Option.map_some, Option.some.injEq] at h
    subst h
    refine ⟨(List.getElem?_eq_some_iff.1 hq).1, ?_⟩
    rw [List.getD_eq_getElem?_getD, hq]; rfl
theorem next_pair {p : Pt} {s : Nat} {u : List Nat} : ∀ v ∈ nextL p s u, v.length = (#[41, 42] : Array Nat).size := by
  intro v hv
  rw [nextL_eq] at hv
  obtain ⟨q, _, rfl⟩ := List.mem_map.1 hv
  rfl
theorem nxt_bd {p : Pt} (k : Ok p) {s : Nat} {u : List Nat} {q : (Int × Int) × List Nat} (h : q ∈ nxt p s u) (hu : Bd u) : Bd q.2 := by
  obtain ⟨h1, _, h3⟩ := nxt_mem h
  rw [h3]
  rw [mem_places] at h1
  have := k.nF
  have h4 := pow12 k.H_eq.2
  have htl := tk_lt p s q.1.2.toNat
  exact hu.or (by omega) (by omega)
theorem bd_ext {u v : List Nat} (hu : Bd u) (hv : Bd v) (h0 : u.getD 0 0 = v.getD 0 0) (h1 : u.getD 1 0 = v.getD 1 0) (h2 : u.getD 2 0 = v.getD 2 0) : u = v := by
  match u, v, hu.1, hv.1 with
  | [a, b, c], [d, e, f], _, _ =>
    simp only [List.getD_cons_zero, List.getD_cons_succ] at h0 h1 h2
    rw [h0, h1, h2]
theorem on_tri {p : Pt} {e0 : Int} {more : Nat → Int × Int → Int → Int} {join : Int → Int → Int} {fm fj : Fn} {cm cj : List AV} {i5 i6 im : Nat} (k : Ok p) (T : Tel p e0 more join fm fj cm cj) :
    ∀ (n s : Nat) (u : List Nat) (H : Hp), s + n = p.ps.length → Bd u → H i5 = some (.box 1 1 fun _ => [.map im]) → H i6 = some (.box 1 1 fun _ => [onF p e0 fm fj cm cj i5 i6]) → H im = some (.memo (memT p e0 more join)) →
      PTri Try.prog (onF p e0 fm fj cm cj i5 i6) [.agg (mkC s u)] H (knA (tl p e0 more join n s u)) := by
  have nP := k.nP
  have hFH : p.fs.length * p.H ≤ 3 * 12 := Nat.mul_le_mul k.nF k.H_eq.2
  intro n
  induction n with
  | zero =>
    intro s u H hs hu h5 h6 hm
    refine Tri.drop ?_
    refine tri_m (m := fun _ => false) Try.func101 (by kernel_rfl) rfl (by simp only [List.length_append, List.length_cons, List.length_nil, Try.ntmps101]; decide) ?_
    have es : s = p.ps.length := by omega
    subst es
    simp only [vsAll, boxA, boxZ, opA, dstOk, nilSliceOp, argFr, Nat.reduceAdd, Nat.reduceLT, eq_self, wtAll, Try.ntmps101]
    refine vs_draw2 [0, 0, 0, 0, 0, 0, 0, 0, 0] [] [0, 1, 2, 3, 4, 5, 6, 7, 8] (by decide +kernel) ?_
    simp only [vsAll, binA, binLitA, intA, loadA, loadRow, partA, partOk, fieldAddrA, lenA, nilCheckA, opA, dstOk, nilSliceOp, resA, argFr, retA.eq_2, Nat.reduceLT, Nat.reduceEqDiff, ↓reduceIte, eq_self, wtAll, Try.results101]
    exact dropR_pure rfl (HSub.refl _)
  | succ n ih =>
    intro s u H hs hu h5 h6 hm
    refine Tri.unpack hm fun es ck hes hpw => ?_
    have hkey : ∃ l, keyOf Try.prog 106 (mkU s u) = some l := mkKU (by omega) hu
    obtain ⟨o, hfo, hst, hcase⟩ := found_of und134 key106 hkey (fun e he => memT_key nP (hes e he)) hpw
    have hback : Go.V.HSub (H.set im (.raw (.map es ck))) H := HSub_set' hm (memo_le hes hpw)
    have n5 : ¬ i5 = im := fun q => by rw [q, hm] at h5; cases h5
    have n6 : ¬ i6 = im := fun q => by rw [q, hm] at h6; cases h6
    have n5' : ¬ im = i5 := fun q => n5 q.symm
    have n6' : ¬ im = i6 := fun q => n6 q.symm
    have n56 : ¬ i5 = i6 := fun q => by
      rw [q, h6] at h5
      simp only [Option.some.injEq, Obj.box.injEq, true_and] at h5
      have := congrFun h5 0
      simp at this
    have n65 : ¬ i6 = i5 := fun q => n56 q.symm
    refine Tri.drop ?_
    refine tri_m (m := fun _ => false) Try.func101 (by kernel_rfl) rfl (by simp only [List.length_append, List.length_cons, List.length_nil, Try.ntmps101]; decide) ?_
    skip
    simp only [vsAll, boxA, boxZ, opA, dstOk, nilSliceOp, argFr, Nat.reduceAdd, Nat.reduceLT, eq_self, wtAll, Try.ntmps101]
    refine vs_draw2 [0, 0, 0, 0, 0, 0, 0, 0, 0] [] [0, 1, 2, 3, 4, 5, 6, 7, 8] (by decide +kernel) ?_
    simp only [vsAll, binA, binLitA, intA, loadA, loadRow, partA, partOk, fieldAddrA, lenA, nilCheckA, opA, dstOk, argFr, Nat.reduceLT, Nat.reduceEqDiff, ↓reduceIte, eq_self, wtAll]
    refine condV (fun hc => ?_) (fun hc => ?_)
    · simp only [decide_eq_true_eq] at hc; ((try clear h5); (try clear h6); (try clear hm); (try clear n5); (try clear n6); (try clear n5'); (try clear n6'); (try clear n56); (try clear n65); omega)
    · simp only [vsAll, loadA, loadRow, partA, partOk, extractA, cellsA, opA, allocA, newCells, storeObj, lookA, dstOk, nilSliceOp, argFr, Nat.reduceAdd, Nat.reduceMul, Nat.reduceLT, Nat.reduceEqDiff, ↓reduceIte, eq_self, wtAll, h5, n5, mapZ134]
      refine ⟨o, hfo _, ?_⟩
      rcases hcase with ⟨rfl, hno⟩ | ⟨j, en, rfl, hj, hkn⟩
      · simp only [vsAll, loadA, loadRow, partA, partOk, cellA, okAll, stAll, opsA, opA, allocA, okCells, dstOk, argFr, Nat.reduceAdd, Nat.reduceLT, Nat.reduceEqDiff, ↓reduceIte, eq_self, wtAll]
        intro i8 hh_i8; (try simp only [ite_none] at hh_i8)
        intro i10 hh_i10; (try simp only [ite_none] at hh_i10)
        rw [Hp.set_set]
        have a1 := ne_some hh_i8.2 h5
        have a2 := ne_some hh_i8.2 h6
        have a3 := ne_some hh_i8.2 hm
        have a4 := ne_some hh_i10.2.2.2 h5
        have a5 := ne_some hh_i10.2.2.2 h6
        have a6 := ne_some hh_i10.2.2.2 hm
        skip
        refine callK_pure (steps_tri p s u _) ?_
        simp only [vsAll]
        have hlen := nxt_len (p := p) s u
        generalize hN : nxt p s u = N at hlen
        generalize hf : tl p e0 more join n (s + 1) = f
        have hV : ∀ q ∈ N, ∀ r, f q.2 = some r → T.V n (36 ^ n) r := fun q _ r hr => T.vd.up _ _ _ _ (Nat.pow_le_pow_left hFH n) (tl_V T.vd n (s + 1) q.2 r (by rw [hf]; exact hr))
        have htl : tl p e0 more join (n + 1) s u = tlP more join f s N := by rw [tl_succ, hf, hN]
        have hlt : ∀ q ∈ N, q.1 ∈ places p := fun q hq => (nxt_mem (p := p) (s := s) (u := u) (by rw [hN]; exact hq)).1
        have hpow : 36 ^ n ≤ 36 ^ 3 := Nat.pow_le_pow_right (by decide) (by ((try clear h5); (try clear h6); (try clear hm); (try clear n5); (try clear n6); (try clear n5'); (try clear n6'); (try clear n56); (try clear n65); (try clear hh_i8); (try clear hh_i10); (try clear a1); (try clear a2); (try clear a3); (try clear a4); (try clear a5); (try clear a6); omega))
        generalize hpv : (fun i => tlP more join f s (N.take i)) = pv
        refine vs_rangeS (σ := Unit) (nextL p s u) (fun _ _ => True)
          (fun i _ => H.set i10 (.box 2 1 fun _ => [i64 ((pv i).getD 0), boo (pv i).isSome])) () (fun _ => True) Try.func102 (by kernel_rfl) rfl (by simp only [vsAll, opA, ↓reduceIte, eq_self]) (by simp only [vsAll, opA, ↓reduceIte, eq_self]) (by decide) next_pair
          (fun yf H K hi => steps1_tri p s u k (by ((try clear h5); (try clear h6); (try clear hm); (try clear n5); (try clear n6); (try clear n5'); (try clear n6'); (try clear n56); (try clear n65); (try clear hh_i8); (try clear hh_i10); (try clear a1); (try clear a2); (try clear a3); (try clear a4); (try clear a5); (try clear a6); omega)) hu yf H _ K hi) trivial ?_ ?_ ?_ ?_ ?_
        · have e0 : pv 0 = none := by rw [← hpv]; rfl
          simp only [e0, Option.getD_none, Option.isSome_none]
          exact HSub.set (HSub.drop hback (by rw [Hp.set_ne _ _ hh_i8.1.1]; exact hh_i8.2)) (.refl _)
        · intro i _ _ q hq; simp only [Hp.set_none] at hq ⊢; exact hq
        · intros; trivial
        · rintro i v ⟨⟩ hv _ lid did l lo h1 h2 h3
          simp only [Hp.set_none] at h1 h2
          have h4 : ¬ did = lid := fun e => h3 e.symm
          have b1 := ne_some h1.2 h5
          have b2 := ne_some h1.2 h6
          have b3 := ne_some h1.2 hm
          have b4 := ne_some h2.2 h5
          have b5 := ne_some h2.2 h6
          have b6 := ne_some h2.2 hm
          skip
          obtain ⟨hi, rfl⟩ := next_get hv
          rw [hN] at hi ⊢
          have hmem : N.getD i ((0, 0), []) ∈ N := mem_getD N i _ hi
          have hpn : pv (i + 1) = comb join (pv i) ((f (N.getD i ((0, 0), [])).2).map (more s (N.getD i ((0, 0), [])).1)) := by
            rw [← hpv]; exact tlP_next more join f s N i hi
          have hmem2 : N.getD i ((0, 0), []) ∈ nxt p s u := by rw [hN]; exact hmem
          have hgiv := nxt_bd k hmem2 hu
          have hpl := hlt _ hmem
          clear hmem2
          generalize N.getD i ((0, 0), []) = q at hmem hpn hgiv hpl ⊢
          obtain ⟨x, y⟩ := q
          simp only [] at hgiv hpn hpl ⊢
          have ih' := fun H => ih (s + 1) y H (by ((try clear h5); (try clear h6); (try clear hm); (try clear n5); (try clear n6); (try clear n5'); (try clear n6'); (try clear n56); (try clear n65); (try clear hh_i8); (try clear hh_i10); (try clear a1); (try clear a2); (try clear a3); (try clear a4); (try clear a5); (try clear a6); (try clear h1); (try clear h2); (try clear h3); (try clear h4); (try clear b1); (try clear b2); (try clear b3); (try clear b4); (try clear b5); (try clear b6); omega)) hgiv
          simp only [hf] at ih'
          simp only [vsAll, loadA, loadRow, partA, partOk, cellA, okAll, stAll, opsA, opA, allocA, newCells, okCells, storeObj, dstOk, quietOk, argFr, Nat.reduceAdd, Nat.reduceLT, Nat.reduceEqDiff, ↓reduceIte, eq_self, wtAll, h6, a5, b2, b5]
          intro i11 hh_i11; (try simp only [ite_none] at hh_i11)
          have c1 := ne_some hh_i11.2.2.2 h5
          have c2 := ne_some hh_i11.2.2.2 h6
          have c3 := ne_some hh_i11.2.2.2 hm
          skip
          intro i12 hh_i12; (try simp only [ite_none] at hh_i12)
          have c4 := ne_some hh_i12.2.2.2.2.2 h5
          have c5 := ne_some hh_i12.2.2.2.2.2 h6
          have c6 := ne_some hh_i12.2.2.2.2.2 hm
          skip
          simp only [vsAll, Nat.reduceLT, ↓reduceIte, eq_self, hh_i11, c2, hh_i12, c5]
          refine callK_pure (ih' _ (by simp only [vsAll, ↓reduceIte, eq_self, h5, a4, b1, b4, c1, c4]) (by simp only [vsAll, ↓reduceIte, eq_self, h6, a5, b2, b5, c2, c5]) (by simp only [vsAll, ↓reduceIte, eq_self, hm, hh_i10, b3, b6, c3, c6])) ?_
          generalize hq : f y = q at hpn
          cases q with
          | none =>
            simp only [Option.map_none, comb_none] at hpn
            simp only [vsAll, unA, extractA, opA, dstOk, quietOk, nilSliceOp, Nat.reduceAdd, Nat.reduceLT, Nat.reduceEqDiff, ↓reduceIte, eq_self]
            refine ⟨⟨_, _, rfl⟩, _, ⟨(), rfl⟩, ?_⟩
            rw [hpn]
            (repeat (first | exact HSub_rfl | refine HSub_put_eq (by simp only [vsAll, ↓reduceIte, eq_self, h1, h2, h4, hh_i11, hh_i12]) ?_ | refine HSub_drop2 (by simp only [eq_self, hh_i10, h1, h2, hh_i11, hh_i12]) ?_ | refine HSub_keep_eq (by simp only [vsAll, binA, binLitA, intA, aggA, aggV, boolA, nilA2, isConst, unA, loadA, loadRow, partA, partOk, fieldAddrA, indexAddrA, indexA, fieldA, extractA, lenA, nilCheckA, boxA, boxZ, cellA, cellsA, fillA, okParts, buildSliceA, buildMutA, makeSliceA, partIdx, elemsA, lensA, ifaceA, convA, mmA, pickA, okAll, stAll, opsA, partsA, partsOk, opA, allocA, boxMutA, newCells, okCells, storeObj, appendA, guardV, taA, nM, mapUpA, lookA, sliceA, sliceS, boundsA, opO, okO, copyA, dstOk, nilA, quietOk, nilSliceOp, deferV, panA, resA, argFr, retA.eq_1, retA.eq_2, Nat.reduceAdd, Nat.reduceSub, Nat.reduceMul, Nat.reduceLT, Nat.reduceLeDiff, Nat.reduceEqDiff, Nat.reduceBEq, Int.reduceAdd, Int.reduceSub, Int.reduceMul, Int.reduceNeg, Int.reduceLE, Int.reduceLT, Int.reduceEq, Int.reduceNe, Int.reduceToNat, ↓reduceIte, reduceCtorEq, implies_true, forall_const, eq_self, ne_eq, arrL, wtAll, Try.ntmps101, Try.results101, h5, h6, hm, n5, n6, n5', n6', n56, n65, hh_i8, hh_i10, a1, a2, a3, a4, a5, a6, h1, h2, h3, h4, b1, b2, b3, b4, b5, b6, hh_i11, c1, c2, c3, hh_i12, c4, c5, c6]) ?_))
          | some r =>
            simp only [Option.map_some] at hpn
            have hr := hV _ hmem r hq
            simp only [vsAll, unA, loadA, loadRow, partA, partOk, fieldAddrA, extractA, okAll, stAll, opsA, opA, dstOk, quietOk, nilSliceOp, argFr, Nat.reduceAdd, Nat.reduceLT, Nat.reduceEqDiff, ↓reduceIte, eq_self, wtAll, hh_i11, hh_i12]
            refine callK_pure (T.tM n (36 ^ n) s x r _ (by ((try clear h5); (try clear h6); (try clear hm); (try clear n5); (try clear n6); (try clear n5'); (try clear n6'); (try clear n56); (try clear n65); (try clear hh_i8); (try clear hh_i10); (try clear a1); (try clear a2); (try clear a3); (try clear a4); (try clear a5); (try clear a6); (try clear h1); (try clear h2); (try clear h3); (try clear h4); (try clear b1); (try clear b2); (try clear b3); (try clear b4); (try clear b5); (try clear b6); (try clear hh_i11); (try clear c1); (try clear c2); (try clear c3); (try clear hh_i12); (try clear c4); (try clear c5); (try clear c6); omega)) (by ((try clear h5); (try clear h6); (try clear hm); (try clear n5); (try clear n6); (try clear n5'); (try clear n6'); (try clear n56); (try clear n65); (try clear hh_i8); (try clear hh_i10); (try clear a1); (try clear a2); (try clear a3); (try clear a4); (try clear a5); (try clear a6); (try clear h1); (try clear h2); (try clear h3); (try clear h4); (try clear b1); (try clear b2); (try clear b3); (try clear b4); (try clear b5); (try clear b6); (try clear hh_i11); (try clear c1); (try clear c2); (try clear c3); (try clear hh_i12); (try clear c4); (try clear c5); (try clear c6); omega)) (by ((try clear h5); (try clear h6); (try clear hm); (try clear n5); (try clear n6); (try clear n5'); (try clear n6'); (try clear n56); (try clear n65); (try clear hh_i8); (try clear hh_i10); (try clear a1); (try clear a2); (try clear a3); (try clear a4); (try clear a5); (try clear a6); (try clear h1); (try clear h2); (try clear h3); (try clear h4); (try clear b1); (try clear b2); (try clear b3); (try clear b4); (try clear b5); (try clear b6); (try clear hh_i11); (try clear c1); (try clear c2); (try clear c3); (try clear hh_i12); (try clear c4); (try clear c5); (try clear c6); omega)) hpl hr) ?_
            cases hpi : pv i with
            | none =>
              rw [hpi] at hpn
              simp only [comb] at hpn
              simp only [vsAll, loadA, loadRow, partA, partOk, fieldAddrA, cellA, cellsA, fillA, okParts, partsA, partsOk, opA, newCells, okCells, storeObj, dstOk, quietOk, nilSliceOp, Nat.reduceAdd, Nat.reduceLT, Nat.reduceLeDiff, Nat.reduceEqDiff, ↓reduceIte, eq_self, wtAll, h1, h2, hh_i11, hh_i12]
              refine ⟨⟨_, _, rfl⟩, _, ⟨(), rfl⟩, ?_⟩
              rw [hpn]
              simp only [Option.getD_some, Option.isSome_some]
              (repeat (first | exact HSub_rfl | refine HSub_put_eq (by simp only [vsAll, ↓reduceIte, eq_self, h1, h2, h4, hh_i11, hh_i12]) ?_ | refine HSub_drop2 (by simp only [eq_self, hh_i10, h1, h2, hh_i11, hh_i12]) ?_ | refine HSub_keep_eq (by simp only [vsAll, binA, binLitA, intA, aggA, aggV, boolA, nilA2, isConst, unA, loadA, loadRow, partA, partOk, fieldAddrA, indexAddrA, indexA, fieldA, extractA, lenA, nilCheckA, boxA, boxZ, cellA, cellsA, fillA, okParts, buildSliceA, buildMutA, makeSliceA, partIdx, elemsA, lensA, ifaceA, convA, mmA, pickA, okAll, stAll, opsA, partsA, partsOk, opA, allocA, boxMutA, newCells, okCells, storeObj, appendA, guardV, taA, nM, mapUpA, lookA, sliceA, sliceS, boundsA, opO, okO, copyA, dstOk, nilA, quietOk, nilSliceOp, deferV, panA, resA, argFr, retA.eq_1, retA.eq_2, Nat.reduceAdd, Nat.reduceSub, Nat.reduceMul, Nat.reduceLT, Nat.reduceLeDiff, Nat.reduceEqDiff, Nat.reduceBEq, Int.reduceAdd, Int.reduceSub, Int.reduceMul, Int.reduceNeg, Int.reduceLE, Int.reduceLT, Int.reduceEq, Int.reduceNe, Int.reduceToNat, ↓reduceIte, reduceCtorEq, implies_true, forall_const, eq_self, ne_eq, arrL, wtAll, Try.ntmps101, Try.results101, h5, h6, hm, n5, n6, n5', n6', n56, n65, hh_i8, hh_i10, a1, a2, a3, a4, a5, a6, h1, h2, h3, h4, b1, b2, b3, b4, b5, b6, hh_i11, c1, c2, c3, hh_i12, c4, c5, c6]) ?_))
            | some z =>
              have hz : T.V (n + 1) (i * 36 ^ n) z := tlP_V T.vd (f := f) (s := s) (l := N) hlt hV i (by ((try clear h5); (try clear h6); (try clear hm); (try clear n5); (try clear n6); (try clear n5'); (try clear n6'); (try clear n56); (try clear n65); (try clear hh_i8); (try clear hh_i10); (try clear a1); (try clear a2); (try clear a3); (try clear a4); (try clear a5); (try clear a6); (try clear h1); (try clear h2); (try clear h3); (try clear h4); (try clear b1); (try clear b2); (try clear b3); (try clear b4); (try clear b5); (try clear b6); (try clear hh_i11); (try clear c1); (try clear c2); (try clear c3); (try clear hh_i12); (try clear c4); (try clear c5); (try clear c6); omega)) z (by rw [← hpi, ← hpv])
              have hw : i * 36 ^ n ≤ 36 * 36 ^ 3 := Nat.mul_le_mul (by ((try clear h5); (try clear h6); (try clear hm); (try clear n5); (try clear n6); (try clear n5'); (try clear n6'); (try clear n56); (try clear n65); (try clear hh_i8); (try clear hh_i10); (try clear a1); (try clear a2); (try clear a3); (try clear a4); (try clear a5); (try clear a6); (try clear h1); (try clear h2); (try clear h3); (try clear h4); (try clear b1); (try clear b2); (try clear b3); (try clear b4); (try clear b5); (try clear b6); (try clear hh_i11); (try clear c1); (try clear c2); (try clear c3); (try clear hh_i12); (try clear c4); (try clear c5); (try clear c6); omega)) hpow
              rw [hpi] at hpn
              simp only [comb] at hpn
              simp only [vsAll, loadA, loadRow, partA, partOk, fieldAddrA, okAll, stAll, opsA, opA, dstOk, quietOk, nilSliceOp, argFr, Nat.reduceLT, Nat.reduceEqDiff, ↓reduceIte, eq_self, wtAll, h1, h2, hh_i11, hh_i12, Option.getD_some]
              refine callK_pure (T.tJ (n + 1) (i * 36 ^ n) (36 ^ n) z (more s x r) _ (by ((try clear h5); (try clear h6); (try clear hm); (try clear n5); (try clear n6); (try clear n5'); (try clear n6'); (try clear n56); (try clear n65); (try clear hh_i8); (try clear hh_i10); (try clear a1); (try clear a2); (try clear a3); (try clear a4); (try clear a5); (try clear a6); (try clear h1); (try clear h2); (try clear h3); (try clear h4); (try clear b1); (try clear b2); (try clear b3); (try clear b4); (try clear b5); (try clear b6); (try clear hh_i11); (try clear c1); (try clear c2); (try clear c3); (try clear hh_i12); (try clear c4); (try clear c5); (try clear c6); omega)) (by ((try clear h5); (try clear h6); (try clear hm); (try clear n5); (try clear n6); (try clear n5'); (try clear n6'); (try clear n56); (try clear n65); (try clear hh_i8); (try clear hh_i10); (try clear a1); (try clear a2); (try clear a3); (try clear a4); (try clear a5); (try clear a6); (try clear h1); (try clear h2); (try clear h3); (try clear h4); (try clear b1); (try clear b2); (try clear b3); (try clear b4); (try clear b5); (try clear b6); (try clear hh_i11); (try clear c1); (try clear c2); (try clear c3); (try clear hh_i12); (try clear c4); (try clear c5); (try clear c6); omega)) hz (T.vd.hM n _ s x r hpl hr)) ?_
              simp only [vsAll, fieldAddrA, cellA, cellsA, opA, newCells, okCells, storeObj, dstOk, Nat.reduceLT, Nat.reduceLeDiff, Nat.reduceEqDiff, ↓reduceIte, eq_self, wtAll, h1, h2, hh_i11, hh_i12]
              refine ⟨⟨_, _, rfl⟩, _, ⟨(), rfl⟩, ?_⟩
              rw [hpn]
              simp only [Option.getD_some, Option.isSome_some]
              (repeat (first | exact HSub_rfl | refine HSub_put_eq (by simp only [vsAll, ↓reduceIte, eq_self, h1, h2, h4, hh_i11, hh_i12]) ?_ | refine HSub_drop2 (by simp only [eq_self, hh_i10, h1, h2, hh_i11, hh_i12]) ?_ | refine HSub_keep_eq (by simp only [vsAll, binA, binLitA, intA, aggA, aggV, boolA, nilA2, isConst, unA, loadA, loadRow, partA, partOk, fieldAddrA, indexAddrA, indexA, fieldA, extractA, lenA, nilCheckA, boxA, boxZ, cellA, cellsA, fillA, okParts, buildSliceA, buildMutA, makeSliceA, partIdx, elemsA, lensA, ifaceA, convA, mmA, pickA, okAll, stAll, opsA, partsA, partsOk, opA, allocA, boxMutA, newCells, okCells, storeObj, appendA, guardV, taA, nM, mapUpA, lookA, sliceA, sliceS, boundsA, opO, okO, copyA, dstOk, nilA, quietOk, nilSliceOp, deferV, panA, resA, argFr, retA.eq_1, retA.eq_2, Nat.reduceAdd, Nat.reduceSub, Nat.reduceMul, Nat.reduceLT, Nat.reduceLeDiff, Nat.reduceEqDiff, Nat.reduceBEq, Int.reduceAdd, Int.reduceSub, Int.reduceMul, Int.reduceNeg, Int.reduceLE, Int.reduceLT, Int.reduceEq, Int.reduceNe, Int.reduceToNat, ↓reduceIte, reduceCtorEq, implies_true, forall_const, eq_self, ne_eq, arrL, wtAll, Try.ntmps101, Try.results101, h5, h6, hm, n5, n6, n5', n6', n56, n65, hh_i8, hh_i10, a1, a2, a3, a4, a5, a6, h1, h2, h3, h4, b1, b2, b3, b4, b5, b6, hh_i11, c1, c2, c3, hh_i12, c4, c5, c6]) ?_))
        · rintro ⟨⟩ _ lid did lo h1 h2 h3
          simp only [Hp.set_none] at h1 h2
          have h4 : ¬ did = lid := fun e => h3 e.symm
          have b1 := ne_some h1.2 h5
          have b2 := ne_some h1.2 h6
          have b3 := ne_some h1.2 hm
          have b4 := ne_some h2.2 h5
          have b5 := ne_some h2.2 h6
          have b6 := ne_some h2.2 hm
          skip
          have el : (nextL p s u).length = N.length := by rw [nextL_eq, hN, List.length_map]
          have epv : pv N.length = tl p e0 more join (n + 1) s u := by rw [htl, ← hpv]; simp only [List.take_length]
          rw [el, epv]
          generalize htv : tl p e0 more join (n + 1) s u = tv
          simp only [vsAll, loadA, loadRow, partA, partOk, opA, mapUpA, dstOk, argFr, Nat.reduceLT, Nat.reduceEqDiff, ↓reduceIte, eq_self, wtAll, h5, hm, hh_i10, a4, h1, h2, b1, b3, b4, b6]
          refine ⟨106, 136, und134, key106, hkey, fun q v h => memT_key nP h, ⟨s, u, by ((try clear h5); (try clear h6); (try clear hm); (try clear n5); (try clear n6); (try clear n5'); (try clear n6'); (try clear n56); (try clear n65); (try clear hh_i8); (try clear hh_i10); (try clear a1); (try clear a2); (try clear a3); (try clear a4); (try clear a5); (try clear a6); (try clear h1); (try clear h2); (try clear h3); (try clear h4); (try clear b1); (try clear b2); (try clear b3); (try clear b4); (try clear b5); (try clear b6); omega), hu, rfl, by rw [show p.ps.length - s = n + 1 by ((try clear h5); (try clear h6); (try clear hm); (try clear n5); (try clear n6); (try clear n5'); (try clear n6'); (try clear n56); (try clear n65); (try clear hh_i8); (try clear hh_i10); (try clear a1); (try clear a2); (try clear a3); (try clear a4); (try clear a5); (try clear a6); (try clear h1); (try clear h2); (try clear h3); (try clear h4); (try clear b1); (try clear b2); (try clear b3); (try clear b4); (try clear b5); (try clear b6); omega), htv]⟩, ?_⟩
          refine vs_draw2 [0, 0, 0, 0, 1, 3] [([0, 1, 2, 3], [3], 4), ([], [], 5)] [] (by decide +kernel) ?_
          simp only [vsAll, loadA, loadRow, partA, partOk, fieldAddrA, opA, dstOk, nilSliceOp, resA, retA.eq_2, Nat.reduceLT, Nat.reduceEqDiff, ↓reduceIte, eq_self, wtAll, Try.results101, h1, h2, h4]
          exact dropR_pure rfl (by (repeat (first | exact HSub_rfl | refine HSub_put_eq (by simp only [vsAll, binA, binLitA, intA, aggA, aggV, boolA, nilA2, isConst, unA, loadA, loadRow, partA, partOk, fieldAddrA, indexAddrA, indexA, fieldA, extractA, lenA, nilCheckA, boxA, boxZ, cellA, cellsA, fillA, okParts, buildSliceA, buildMutA, makeSliceA, partIdx, elemsA, lensA, ifaceA, convA, mmA, pickA, okAll, stAll, opsA, partsA, partsOk, opA, allocA, boxMutA, newCells, okCells, storeObj, appendA, guardV, taA, nM, mapUpA, lookA, sliceA, sliceS, boundsA, opO, okO, copyA, dstOk, nilA, quietOk, nilSliceOp, deferV, panA, resA, argFr, retA.eq_1, retA.eq_2, Nat.reduceAdd, Nat.reduceSub, Nat.reduceMul, Nat.reduceLT, Nat.reduceLeDiff, Nat.reduceEqDiff, Nat.reduceBEq, Int.reduceAdd, Int.reduceSub, Int.reduceMul, Int.reduceNeg, Int.reduceLE, Int.reduceLT, Int.reduceEq, Int.reduceNe, Int.reduceToNat, ↓reduceIte, reduceCtorEq, implies_true, forall_const, eq_self, ne_eq, arrL, wtAll, Try.ntmps101, Try.results101, h5, h6, hm, n5, n6, n5', n6', n56, n65, hh_i8, hh_i10, a1, a2, a3, a4, a5, a6, h1, h2, h3, h4, b1, b2, b3, b4, b5, b6]) ?_ | refine HSub_drop2 (by simp only [eq_self, hh_i10, h1, h2]) ?_ | refine HSub_keep_eq (by simp only [vsAll, binA, binLitA, intA, aggA, aggV, boolA, nilA2, isConst, unA, loadA, loadRow, partA, partOk, fieldAddrA, indexAddrA, indexA, fieldA, extractA, lenA, nilCheckA, boxA, boxZ, cellA, cellsA, fillA, okParts, buildSliceA, buildMutA, makeSliceA, partIdx, elemsA, lensA, ifaceA, convA, mmA, pickA, okAll, stAll, opsA, partsA, partsOk, opA, allocA, boxMutA, newCells, okCells, storeObj, appendA, guardV, taA, nM, mapUpA, lookA, sliceA, sliceS, boundsA, opO, okO, copyA, dstOk, nilA, quietOk, nilSliceOp, deferV, panA, resA, argFr, retA.eq_1, retA.eq_2, Nat.reduceAdd, Nat.reduceSub, Nat.reduceMul, Nat.reduceLT, Nat.reduceLeDiff, Nat.reduceEqDiff, Nat.reduceBEq, Int.reduceAdd, Int.reduceSub, Int.reduceMul, Int.reduceNeg, Int.reduceLE, Int.reduceLT, Int.reduceEq, Int.reduceNe, Int.reduceToNat, ↓reduceIte, reduceCtorEq, implies_true, forall_const, eq_self, ne_eq, arrL, wtAll, Try.ntmps101, Try.results101, h5, h6, hm, n5, n6, n5', n6', n56, n65, hh_i8, hh_i10, a1, a2, a3, a4, a5, a6, h1, h2, h3, h4, b1, b2, b3, b4, b5, b6]) ?_)))
      · obtain ⟨s', u', h1, h2, h3, h4⟩ := hes en (by
          have := Array.getElem?_eq_some_iff.1 hj
          obtain ⟨hl, rfl⟩ := this
          simp)
        have hval : en.val = knV (tl p e0 more join (n + 1) s u) := by
          rw [hkn] at h3
          simp only [mkU, mkV, Value.agg.injEq, Array.mk.injEq, List.cons.injEq, Value.int.injEq, true_and, and_true] at h3
          obtain ⟨q1, q2, q3, q4⟩ := h3
          have e1 : s' = s := by ((try clear h5); (try clear h6); (try clear hm); (try clear n5); (try clear n6); (try clear n5'); (try clear n6'); (try clear n56); (try clear n65); omega)
          have e2 : u' = u := bd_ext h2 hu (by ((try clear h5); (try clear h6); (try clear hm); (try clear n5); (try clear n6); (try clear n5'); (try clear n6'); (try clear n56); (try clear n65); omega)) (by ((try clear h5); (try clear h6); (try clear hm); (try clear n5); (try clear n6); (try clear n5'); (try clear n6'); (try clear n56); (try clear n65); omega)) (by ((try clear h5); (try clear h6); (try clear hm); (try clear n5); (try clear n6); (try clear n5'); (try clear n6'); (try clear n56); (try clear n65); omega))
          subst e1 e2
          rw [h4, show p.ps.length - s' = n + 1 by ((try clear h5); (try clear h6); (try clear hm); (try clear n5); (try clear n6); (try clear n5'); (try clear n6'); (try clear n56); (try clear n65); omega)]
        generalize htl : tl p e0 more join (n + 1) s u = tv at hval
        simp only [vsAll, cellA, okCells, Nat.reduceAdd, eq_self, hval]
        intro i8 hh_i8; (try simp only [ite_none] at hh_i8)
        refine vs_draw2 [0, 0, 0, 0, 1, 3] [([0, 1, 2, 3], [3], 4), ([], [], 5)] [] (by decide +kernel) ?_
        simp only [vsAll, loadA, loadRow, partA, partOk, fieldAddrA, opA, dstOk, nilSliceOp, resA, retA.eq_2, Nat.reduceLT, Nat.reduceEqDiff, ↓reduceIte, eq_self, wtAll, Try.results101]
        rw [Hp.set_set]
        exact dropR_pure rfl (HSub.drop hback (by rw [Hp.set_ne _ _ hh_i8.1.1]; exact hh_i8.2))
end Go.Proofs.Ytliomkpmadpibaa
end
section
set_option linter.unusedVariables false
set_option linter.unusedSimpArgs false
namespace Go.Proofs.Ytliomkpmadpibaa
open Go.V
theorem foldJ_max (l : List Int) (d : Int) : (∀ a ∈ l, 0 ≤ a) → ∀ m, (foldJ max l).getD 0 ≤ m ↔ (l = [] → 0 ≤ m) ∧ ∀ a ∈ l, a ≤ m := by
  induction l with
  | nil => intro _ m; simp [foldJ]
  | cons a l ih =>
    intro h m
    have ih := ih (fun b hb => h b (by simp [hb])) m
    simp only [foldJ]
    cases hf : foldJ max l with
    | none =>
      have : l = [] := foldJ_none l |>.1 hf
      subst this
      simp [comb]
    | some b =>
      have hl : l ≠ [] := fun e => by rw [e] at hf; cases hf
      rw [hf] at ih
      simp only [Option.getD_some] at ih
      simp only [comb, Option.getD_some, List.mem_cons, forall_eq_or_imp, reduceCtorEq, false_implies, true_and]
      have : b ≤ m ↔ ∀ a ∈ l, a ≤ m := ⟨fun q => (ih.1 q).2, fun q => ih.2 ⟨fun e => absurd e hl, q⟩⟩
      rw [← this]
      omega
theorem latN_le {L : List (List (Int × Int))} {t : Nat} {m : Int} : ∀ i, i ≤ L.length → (latN L t i ≤ m ↔ 0 ≤ m ∧ ∀ j, j < i → ((L.getD j []).getD t (0, 0)).2 ≤ m) := by
  intro i
  induction i with
  | zero => intro _; simp [latN]
  | succ i ih =>
    intro hi
    have ih := ih (by omega)
    simp only [latN]
    constructor
    · intro h
      obtain ⟨h1, h2⟩ := ih.1 (by omega)
      exact ⟨h1, fun j hj => by
        by_cases e : j = i
        · subst e; omega
        · exact h2 j (by omega)⟩
    · rintro ⟨h1, h2⟩
      have := ih.2 ⟨h1, fun j hj => h2 j (by omega)⟩
      have := h2 i (by omega)
      omega
theorem RightP.nat {p : Pt} {l : List (Int × Int)} (h : RightP p l) (i : Nat) : 0 ≤ (l.getD i (0, 0)).1 ∧ 0 ≤ (l.getD i (0, 0)).2 := by
  by_cases hi : i < l.length
  · have := h.pl i hi
    rw [mem_places] at this
    omega
  · rw [List.getD_eq_getElem?_getD, List.getElem?_eq_none (by omega)]; decide
theorem lat_eq {p : Pt} (k : p.fs.length ≤ 3) {t : Nat} (ht : t < p.ps.length) : (tlL p t).getD 0 = latN (rpl p) t (rpl p).length ∧ (tlL p t).isSome = decide (0 < (rpl p).length) := by
  rw [tlL_eq k ht]
  constructor
  · have h0 : ∀ a ∈ (rpl p).map (fun l => (l.getD t (0, 0)).2), 0 ≤ a := fun a ha => by
      obtain ⟨l, hl, rfl⟩ := List.mem_map.1 ha
      exact ((mem_rpl.1 hl).nat t).2
    have h1 := foldJ_max ((rpl p).map fun l => (l.getD t (0, 0)).2) 0 h0
    have h2 := fun m => latN_le (L := rpl p) (t := t) (m := m) (rpl p).length (Nat.le_refl _)
    have key : ∀ m, (foldJ max ((rpl p).map fun l => (l.getD t (0, 0)).2)).getD 0 ≤ m ↔ latN (rpl p) t (rpl p).length ≤ m := fun m => by
      rw [h1 m, h2 m]
      constructor
      · rintro ⟨a, b⟩
        refine ⟨?_, fun j hj => b _ (List.mem_map.2 ⟨_, mem_getD _ j [] hj, rfl⟩)⟩
        by_cases e : rpl p = []
        · exact a (by rw [e]; rfl)
        · have hl : 0 < (rpl p).length := List.length_pos_iff.2 e
          have hm := mem_getD (rpl p) 0 [] hl
          have := b _ (List.mem_map.2 ⟨_, hm, rfl⟩)
          have := ((mem_rpl.1 hm).nat t).2
          omega
      · rintro ⟨a, b⟩
        refine ⟨fun _ => a, fun x hx => ?_⟩
        obtain ⟨l, hl, rfl⟩ := List.mem_map.1 hx
        obtain ⟨j, hj, rfl⟩ := getD_mem [] hl
        exact b j hj
    have a := (key _).1 (Int.le_refl _)
    have b := (key _).2 (Int.le_refl _)
    omega
  · rw [foldJ_some]
    cases h : rpl p with
    | nil => rfl
    | cons a l => simp
theorem best_eq {p : Pt} (k : p.fs.length ≤ 3) (h : rgtE p true = 0) : tlB p p.ps.length 0 u0 = some (bestV p) ∧ grd p (bestV p) p.ps.length 0 u0 = bestP p := by
  obtain ⟨_, _, h0⟩ := rgtE_zero h
  have eP : bestP p = mnG (lastV p) (rpl p) [] (rpl p).length := if_pos h
  have eV : bestV p = lastV p (bestP p) := if_pos h
  obtain ⟨i, hi, e, h1, h2⟩ := mnG_spec (lastV p) (rpl p) [] h0 (rpl p).length (Nat.le_refl _)
  rw [← eP] at e
  have hc := rpl_cont (p := p) k
  have hL : ∀ l ∈ rpl p, valT (0 : Int) (moreB p) 0 l = lastV p l := fun l _ => valB_last p l
  have hmem : bestP p ∈ rpl p := by rw [e]; exact mem_getD _ i [] hi
  constructor
  · rw [tlB_eq, ← hc]
    have hm := minS_fold ((rpl p).map (valT (0 : Int) (moreB p) 0))
    obtain ⟨m, hm1, hm2⟩ := hm.le (bestV p) (List.mem_map.2 ⟨_, hmem, by rw [eV]; exact valB_last p _⟩)
    obtain ⟨l, hl, hle⟩ := List.mem_map.1 (hm.is m hm1)
    rw [hL l hl] at hle
    obtain ⟨j, hj, rfl⟩ := getD_mem [] hl
    have := h1 j hj
    rw [hm1]
    congr 1
    rw [eV, e]
    rw [eV, e] at hm2
    omega
  · have hf := grd_find (p := p) (m := bestV p) p.ps.length 0 u0 ⟨bestP p, by rw [← hc]; exact hmem, by rw [valB_last, eV]; exact Int.le_refl _⟩
    rw [← hc] at hf
    have h3 : (rpl p).find? (fun t => decide (valT (0 : Int) (moreB p) 0 t ≤ bestV p)) = some (bestP p) := by
      rw [List.find?_eq_some_iff_getElem]
      refine ⟨by rw [decide_eq_true_eq, valB_last, eV]; exact Int.le_refl _, i, hi, ?_, fun j hj => ?_⟩
      · rw [e]; simp [List.getD_eq_getElem?_getD, hi]
      · have h4 := h2 j hj
        have e2 : (rpl p)[j] = (rpl p).getD j [] := by simp [List.getD_eq_getElem?_getD, show j < (rpl p).length by omega]
        rw [Bool.not_eq_true', decide_eq_false_iff_not, valB_last, eV, e, e2]
        omega
    rw [hf] at h3
    exact Option.some.inj h3
theorem best_none {p : Pt} (k : p.fs.length ≤ 3) : (tlB p p.ps.length 0 u0).isSome = decide (0 < (rpl p).length) := by
  rw [tlB_eq, ← rpl_cont k, foldJ_some]
  cases h : rpl p with
  | nil => rfl
  | cons a l => simp
end Go.Proofs.Ytliomkpmadpibaa
end
section
set_option linter.unusedVariables false
set_option linter.unusedSimpArgs false
set_option maxHeartbeats 4000000
set_option maxRecDepth 100000
namespace Go.Proofs.Ytliomkpmadpibaa
open Go.V
theorem azT134 : azT Try.prog 134 = some (1, 1, [.map none]) := by kernel_rfl
theorem azT99 : azT Try.prog 99 = some (1, 1, [.nilFunc]) := by kernel_rfl
/-- The heap behind a teller that is made. -/
abbrev telH (p : Pt) (e0 : Int) (more : Nat → Int × Int → Int → Int) (join : Int → Int → Int) (fm fj : Fn) (cm cj : List AV) (H : Hp) (im i5 i6 : Nat) : Hp :=
  ((H.set im (.memo (memT p e0 more join))).set i5 (.box 1 1 fun _ => [.map im])).set i6 (.box 1 1 fun _ => [onF p e0 fm fj cm cj i5 i6])
def tellR (p : Pt) (e0 : Int) (more : Nat → Int × Int → Int → Int) (join : Int → Int → Int) (fm fj : Fn) (cm cj : List AV) (H : Hp) : Res → Hp → Prop := fun r H' =>
  ∃ i5 i6 im, r = .ret (onF p e0 fm fj cm cj i5 i6) ∧ (H im = none ∧ H i5 = none ∧ H i6 = none) ∧ ((¬ i5 = im ∧ ¬ im = i5) ∧ (¬ i6 = im ∧ ¬ im = i6) ∧ ¬ i6 = i5 ∧ ¬ i5 = i6) ∧ H' = telH p e0 more join fm fj cm cj H im i5 i6
theorem tell_tri (p : Pt) (e0 : Int) (more : Nat → Int × Int → Int → Int) (join : Int → Int → Int) (fm fj : Fn) (cm cj : List AV) (H : Hp) :
    Tri Try.prog (fnA 75) [pP p, talA e0 fm fj cm cj] H (tellR p e0 more join fm fj cm cj H) := by
  refine Tri.drop ?_
  refine tri_v0 (fun _ => false) Try.func75 (by kernel_rfl) rfl (by simp only [List.length_append, List.length_cons, List.length_nil, Try.ntmps75]; decide) ?_
  simp only [vsAll, loadA, loadRow, partA, partOk, boxA, boxZ, cellA, cellsA, okAll, stAll, opsA, opA, allocA, newCells, okCells, storeObj, nM, dstOk, nilSliceOp, resA, argFr, retA.eq_1, Nat.reduceAdd, Nat.reduceLT, Nat.reduceEqDiff, ↓reduceIte, eq_self, wtAll, Try.ntmps75, Try.results75, azT134, azT99]
  intro im hh_im; (try simp only [Hp.set_none, ite_none] at hh_im); intro i5 hh_i5; (try simp only [ite_none] at hh_i5); intro i6 hh_i6; (try simp only [ite_none] at hh_i6)
  rw [Hp.set_set, Hp.set_set]
  refine ⟨telH p e0 more join fm fj cm cj H im i5 i6, HSub.set (HSub.set (HSub.set (HSub.refl _) (memo_le (by simp) (by simp))) (.refl _)) (.refl _), i5, i6, im, rfl, ?_, ?_, rfl⟩
  · refine ⟨?_, ?_, ?_⟩ <;> simp_all
  · refine ⟨⟨?_, ?_⟩, ⟨?_, ?_⟩, ?_, ?_⟩ <;> simp_all
theorem telH_sub {p : Pt} {e0 : Int} {more : Nat → Int × Int → Int → Int} {join : Int → Int → Int} {fm fj : Fn} {cm cj : List AV} {H : Hp} {im i5 i6 : Nat} (h : H im = none ∧ H i5 = none ∧ H i6 = none) : Go.V.HSub (telH p e0 more join fm fj cm cj H im i5 i6) H := fun q o hq => by
  have h1 : ¬ q = i6 := fun e => by rw [e, h.2.2] at hq; cases hq
  have h2 : ¬ q = i5 := fun e => by rw [e, h.2.1] at hq; cases hq
  have h3 : ¬ q = im := fun e => by rw [e, h.1] at hq; cases hq
  exact ⟨o, by rw [telH, Hp.set_ne _ _ h1, Hp.set_ne _ _ h2, Hp.set_ne _ _ h3]; exact hq, .refl _⟩
/-- What is told of all plans, by a teller that was made just now. -/
theorem told_tri {p : Pt} {e0 : Int} {more : Nat → Int × Int → Int → Int} {join : Int → Int → Int} {fm fj : Fn} {cm cj : List AV} {H : Hp} {im i5 i6 : Nat} (k : Ok p) (T : Tel p e0 more join fm fj cm cj)
    (hd : (¬ i5 = im ∧ ¬ im = i5) ∧ (¬ i6 = im ∧ ¬ im = i6) ∧ ¬ i6 = i5 ∧ ¬ i5 = i6) (n s : Nat) (u : List Nat) (hn : s + n = p.ps.length) (hu : Bd u) :
    PTri Try.prog (onF p e0 fm fj cm cj i5 i6) [.agg (mkC s u)] (telH p e0 more join fm fj cm cj H im i5 i6) (knA (tl p e0 more join n s u)) :=
  on_tri k T n s u _ hn hu (by rw [telH, Hp.set_ne _ _ hd.2.2.2, Hp.set_same]) (by rw [telH, Hp.set_same]) (by rw [telH, Hp.set_ne _ _ hd.2.1.2, Hp.set_ne _ _ hd.1.2, Hp.set_same])
theorem rest_tri (s r : Int) (x : Int × Int) (H : Hp) : PTri Try.prog (.func (.func 98) [] []) [i64 s, plA x, i64 r] H (i64 r) := by
  refine tri_v0 (fun _ => false) Try.func98 (by kernel_rfl) rfl (by simp only [List.length_append, List.length_cons, List.length_nil, Try.ntmps98]; decide) ?_
  simp only [vsAll, boxA, boxZ, opA, dstOk, nilSliceOp, resA, argFr, retA.eq_1, Nat.reduceAdd, Nat.reduceLT, Nat.reduceEqDiff, ↓reduceIte, eq_self, wtAll, Try.ntmps98, Try.results98]
theorem add_tri (a b : Int) (H : Hp) (h : InR .i64 (a + b)) : PTri Try.prog (.func (.func 99) [] []) [i64 a, i64 b] H (i64 (a + b)) := by
  refine tri_v0 (fun _ => false) Try.func99 (by kernel_rfl) rfl (by simp only [List.length_append, List.length_cons, List.length_nil, Try.ntmps99]; decide) ?_
  simp only [vsAll, binA, binLitA, intA, opA, dstOk, nilSliceOp, resA, argFr, retA.eq_1, Nat.reduceLT, Nat.reduceEqDiff, ↓reduceIte, reduceCtorEq, eq_self, Try.ntmps99, Try.results99]
  exact h
def waysT (p : Pt) : Tel p 1 moreN joinN (.func 98) (.func 99) [] [] where
  V := vN
  vd := vdN p
  tM := fun n k s x r H _ _ _ _ _ => rest_tri s r x H
  tJ := fun n j k a b H _ hk ha hb => by
    obtain ⟨h1, h2⟩ := ha
    obtain ⟨h3, h4⟩ := hb
    exact add_tri a b H (by simp only [InR_i64]; omega)
theorem u0_bd : Bd u0 := ⟨rfl, fun q hq => by have := lt3 hq; rcases this with rfl | rfl | rfl <;> decide⟩
theorem ways_tri (p : Pt) (H : Hp) (k : Ok p) : PTri Try.prog (fnA 72) [pP p] H (i64 ((rpl p).length : Nat)) := by
  have e := tlN_len k.nF
  refine Tri.drop ?_
  refine tri_v0 (fun _ => false) Try.func72 (by kernel_rfl) rfl (by simp only [List.length_append, List.length_cons, List.length_nil, Try.ntmps72]; decide) ?_
  simp only [vsAll, cellA, cellsA, fillA, okParts, okAll, stAll, opsA, partsA, partsOk, opA, dstOk, nilSliceOp, argFr, Nat.reduceAdd, Nat.reduceLT, Nat.reduceLeDiff, Nat.reduceEqDiff, ↓reduceIte, reduceCtorEq, eq_self, wtAll, Try.ntmps72]
  refine callK (tell_tri p 1 moreN joinN (.func 98) (.func 99) [] [] _) ?_
  rintro r H' ⟨i5, i6, im, rfl, hfr, hd, rfl⟩
  simp only [vsAll, fillA, okParts, okAll, stAll, opsA, partsA, partsOk, opA, dstOk, Nat.reduceLT, Nat.reduceEqDiff, ↓reduceIte, eq_self, wtAll]
  refine callK_pure (told_tri k (waysT p) hd p.ps.length 0 u0 (by omega) u0_bd) ?_
  have e2 : tl p 1 moreN joinN p.ps.length 0 u0 = tlN p := rfl
  rw [e2]
  simp only [vsAll, extractA, opA, dstOk, nilSliceOp, resA, retA.eq_1, Nat.reduceAdd, Nat.reduceLT, Nat.reduceEqDiff, ↓reduceIte, eq_self, Try.results72, e]
  exact dropR_pure rfl (telH_sub hfr)
theorem always_tri (y : AV) (H : Hp) : PTri Try.prog (fnA 71) [y] H (boo true) := by
  refine tri_v0 (fun _ => false) Try.func71 (by kernel_rfl) rfl (by simp only [List.length_append, List.length_cons, List.length_nil, Try.ntmps71]; decide) ?_
  simp only [vsAll, opA, dstOk, nilSliceOp, resA, retA.eq_1, Nat.reduceLT, ↓reduceIte, eq_self, Try.ntmps71, Try.results71]
theorem wcount_tri (p : Pt) (H : Hp) (kn : Near p) : PTri Try.prog (fnA 22) [p.av] H (.tuple [i64 (cntV p : Nat), i64 (cntE p)]) := by
  refine Tri.drop ?_
  refine tri_a (m := fun _ => false) ans46 Try.func22 (by kernel_rfl) rfl (by simp only [List.length_append, List.length_cons, List.length_nil, Try.ntmps22]; decide) ?_
  simp only [vsAll, loadA, loadRow, partA, partOk, boxA, boxZ, okAll, stAll, opsA, opA, allocA, dstOk, nilSliceOp, argFr, Nat.reduceAdd, Nat.reduceLT, Nat.reduceEqDiff, ↓reduceIte, eq_self, wtAll, Try.ntmps22]
  intro i3 hh_i3; (try simp only [Hp.set_none, ite_none] at hh_i3)
  refine open_call (open_tri p (fnA 71) true _ kn trivial rfl (fun k H' => always_tri _ H')) (fun he => ?_) (fun k hv => ?_)
  · have e : cntE p = errE p true := rfl
    have e2 : cntV p = 0 := if_neg he
    simp only [vsAll]
    refine ⟨errE p true, i3, _, rfl, rfl, by simp only [vsAll, ↓reduceIte, eq_self]; try rfl, ?_⟩
    simp only [vsAll, loadA, loadRow, partA, partOk, resA, retA.eq_2, Nat.reduceLT, Nat.reduceEqDiff, ↓reduceIte, eq_self, wtAll, Try.results22]
    refine dropR_pure ?_ (by (repeat (first | exact HSub_rfl | refine HSub_put_eq (by simp only [vsAll, binA, binLitA, intA, aggA, aggV, boolA, nilA2, isConst, unA, loadA, loadRow, partA, partOk, fieldAddrA, indexAddrA, indexA, fieldA, extractA, lenA, nilCheckA, boxA, boxZ, cellA, cellsA, fillA, okParts, buildSliceA, buildMutA, makeSliceA, partIdx, elemsA, lensA, ifaceA, convA, mmA, pickA, okAll, stAll, opsA, partsA, partsOk, opA, allocA, boxMutA, newCells, okCells, storeObj, appendA, guardV, taA, nM, mapUpA, lookA, sliceA, sliceS, boundsA, opO, okO, copyA, dstOk, nilA, quietOk, nilSliceOp, deferV, panA, resA, argFr, retA.eq_1, retA.eq_2, Nat.reduceAdd, Nat.reduceSub, Nat.reduceMul, Nat.reduceLT, Nat.reduceLeDiff, Nat.reduceEqDiff, Nat.reduceBEq, Int.reduceAdd, Int.reduceSub, Int.reduceMul, Int.reduceNeg, Int.reduceLE, Int.reduceLT, Int.reduceEq, Int.reduceNe, Int.reduceToNat, ↓reduceIte, reduceCtorEq, implies_true, forall_const, eq_self, ne_eq, arrL, wtAll, Try.ntmps22, Try.results22, hh_i3]) ?_ | refine HSub_drop2 (by simp only [eq_self, hh_i3]) ?_ | refine HSub_keep_eq (by simp only [vsAll, binA, binLitA, intA, aggA, aggV, boolA, nilA2, isConst, unA, loadA, loadRow, partA, partOk, fieldAddrA, indexAddrA, indexA, fieldA, extractA, lenA, nilCheckA, boxA, boxZ, cellA, cellsA, fillA, okParts, buildSliceA, buildMutA, makeSliceA, partIdx, elemsA, lensA, ifaceA, convA, mmA, pickA, okAll, stAll, opsA, partsA, partsOk, opA, allocA, boxMutA, newCells, okCells, storeObj, appendA, guardV, taA, nM, mapUpA, lookA, sliceA, sliceS, boundsA, opO, okO, copyA, dstOk, nilA, quietOk, nilSliceOp, deferV, panA, resA, argFr, retA.eq_1, retA.eq_2, Nat.reduceAdd, Nat.reduceSub, Nat.reduceMul, Nat.reduceLT, Nat.reduceLeDiff, Nat.reduceEqDiff, Nat.reduceBEq, Int.reduceAdd, Int.reduceSub, Int.reduceMul, Int.reduceNeg, Int.reduceLE, Int.reduceLT, Int.reduceEq, Int.reduceNe, Int.reduceToNat, ↓reduceIte, reduceCtorEq, implies_true, forall_const, eq_self, ne_eq, arrL, wtAll, Try.ntmps22, Try.results22, hh_i3]) ?_)))
    simp only [eq_self, e, e2, Int.natCast_zero]
  · have he : cntE p = 0 := errE_ok k
    have e2 : cntV p = (rpl p).length := if_pos he
    simp only [vsAll, okAll, stAll, opsA, opA, dstOk, Nat.reduceLT, ↓reduceIte, eq_self]
    refine callK_pure (ways_tri p _ k) ?_
    simp only [vsAll, cellA, cellsA, opA, newCells, okCells, storeObj, dstOk, nilSliceOp, Nat.reduceLT, Nat.reduceEqDiff, ↓reduceIte, eq_self, wtAll]
    refine Ent.ret ⟨i3, _, rfl, by simp only [vsAll, ↓reduceIte, eq_self]; try rfl, ?_⟩
    simp only [vsAll, loadA, loadRow, partA, partOk, resA, retA.eq_2, Nat.reduceLT, Nat.reduceEqDiff, ↓reduceIte, eq_self, wtAll, Try.results22]
    refine dropR_pure ?_ (by (repeat (first | exact HSub_rfl | refine HSub_put_eq (by simp only [vsAll, binA, binLitA, intA, aggA, aggV, boolA, nilA2, isConst, unA, loadA, loadRow, partA, partOk, fieldAddrA, indexAddrA, indexA, fieldA, extractA, lenA, nilCheckA, boxA, boxZ, cellA, cellsA, fillA, okParts, buildSliceA, buildMutA, makeSliceA, partIdx, elemsA, lensA, ifaceA, convA, mmA, pickA, okAll, stAll, opsA, partsA, partsOk, opA, allocA, boxMutA, newCells, okCells, storeObj, appendA, guardV, taA, nM, mapUpA, lookA, sliceA, sliceS, boundsA, opO, okO, copyA, dstOk, nilA, quietOk, nilSliceOp, deferV, panA, resA, argFr, retA.eq_1, retA.eq_2, Nat.reduceAdd, Nat.reduceSub, Nat.reduceMul, Nat.reduceLT, Nat.reduceLeDiff, Nat.reduceEqDiff, Nat.reduceBEq, Int.reduceAdd, Int.reduceSub, Int.reduceMul, Int.reduceNeg, Int.reduceLE, Int.reduceLT, Int.reduceEq, Int.reduceNe, Int.reduceToNat, ↓reduceIte, reduceCtorEq, implies_true, forall_const, eq_self, ne_eq, arrL, wtAll, Try.ntmps22, Try.results22, hh_i3]) ?_ | refine HSub_drop2 (by simp only [eq_self, hh_i3]) ?_ | refine HSub_keep_eq (by simp only [vsAll, binA, binLitA, intA, aggA, aggV, boolA, nilA2, isConst, unA, loadA, loadRow, partA, partOk, fieldAddrA, indexAddrA, indexA, fieldA, extractA, lenA, nilCheckA, boxA, boxZ, cellA, cellsA, fillA, okParts, buildSliceA, buildMutA, makeSliceA, partIdx, elemsA, lensA, ifaceA, convA, mmA, pickA, okAll, stAll, opsA, partsA, partsOk, opA, allocA, boxMutA, newCells, okCells, storeObj, appendA, guardV, taA, nM, mapUpA, lookA, sliceA, sliceS, boundsA, opO, okO, copyA, dstOk, nilA, quietOk, nilSliceOp, deferV, panA, resA, argFr, retA.eq_1, retA.eq_2, Nat.reduceAdd, Nat.reduceSub, Nat.reduceMul, Nat.reduceLT, Nat.reduceLeDiff, Nat.reduceEqDiff, Nat.reduceBEq, Int.reduceAdd, Int.reduceSub, Int.reduceMul, Int.reduceNeg, Int.reduceLE, Int.reduceLT, Int.reduceEq, Int.reduceNe, Int.reduceToNat, ↓reduceIte, reduceCtorEq, implies_true, forall_const, eq_self, ne_eq, arrL, wtAll, Try.ntmps22, Try.results22, hh_i3]) ?_)))
    simp only [eq_self, he, e2]
theorem latF_tri (p : Pt) (n : Int) (H : Hp) (kn : Near p) : PTri Try.prog (.func (.func 80) [] [bx n]) [pP p] H (boo (isPot p n)) := by
  refine tri_v0 (fun _ => false) Try.func80 (by kernel_rfl) rfl (by simp only [List.length_append, List.length_cons, List.length_nil, Try.ntmps80]; decide) ?_
  simp only [vsAll, loadA, loadRow, partA, partOk, okAll, stAll, opsA, opA, dstOk, nilSliceOp, argFr, Nat.reduceLT, Nat.reduceEqDiff, ↓reduceIte, reduceCtorEq, eq_self, wtAll, Try.ntmps80]
  refine callK_pure (wpot_tri p n _ kn) ?_
  simp only [vsAll, opA, dstOk, nilSliceOp, resA, retA.eq_1, Nat.reduceLT, ↓reduceIte, eq_self, Try.results80]
theorem lat1_tri (t : Nat) (s : Nat) (r : Int) (x : Int × Int) (H : Hp) : PTri Try.prog (.func (.func 81) [] [bx t]) [i64 s, plA x, i64 r] H (i64 (moreL t s x r)) := by
  refine tri_v0 (fun _ => false) Try.func81 (by kernel_rfl) rfl (by simp only [List.length_append, List.length_cons, List.length_nil, Try.ntmps81]; decide) ?_
  simp only [vsAll, binA, binLitA, intA, loadA, loadRow, partA, partOk, boxA, boxZ, opA, dstOk, nilSliceOp, argFr, Nat.reduceAdd, Nat.reduceLT, Nat.reduceEqDiff, ↓reduceIte, reduceCtorEq, eq_self, wtAll, Try.ntmps81]
  refine condV (fun hc => ?_) (fun hc => ?_)
  · have e : moreL t s x r = x.2 := if_pos (by have := of_decide_eq_true hc; omega)
    simp only [vsAll, loadA, loadRow, partA, partOk, fieldAddrA, opA, dstOk, nilSliceOp, resA, retA.eq_1, Nat.reduceLT, Nat.reduceEqDiff, ↓reduceIte, eq_self, wtAll, Try.results81, e]
  · have e : moreL t s x r = r := if_neg (by have := of_decide_eq_false hc; omega)
    simp only [vsAll, opA, dstOk, nilSliceOp, resA, argFr, retA.eq_1, Nat.reduceLT, Nat.reduceEqDiff, ↓reduceIte, eq_self, Try.results81, e]
theorem lat2_tri (a b : Int) (H : Hp) : PTri Try.prog (.func (.func 82) [] []) [i64 a, i64 b] H (i64 (max a b)) := by
  refine tri_v0 (fun _ => false) Try.func82 (by kernel_rfl) rfl (by simp only [List.length_append, List.length_cons, List.length_nil, Try.ntmps82]; decide) ?_
  simp only [vsAll, mmA, okAll, stAll, opsA, opA, dstOk, nilSliceOp, resA, argFr, retA.eq_1, Nat.reduceLT, Nat.reduceEqDiff, ↓reduceIte, reduceCtorEq, eq_self, Try.ntmps82, Try.results82]
def latT (p : Pt) (t : Nat) : Tel p 0 (moreL t) joinL (.func 81) (.func 82) [bx t] [] where
  V := fun _ _ _ => True
  vd := ⟨fun _ _ _ _ _ _ => trivial, trivial, fun _ _ _ _ _ _ _ => trivial, fun _ _ _ _ _ _ _ => trivial⟩
  tM := fun n k s x r H _ _ _ _ _ => lat1_tri t s r x H
  tJ := fun n j k a b H _ _ _ _ => lat2_tri a b H
theorem wlatest_tri (p : Pt) (n : Int) (H : Hp) (kn : Near p) : PTri Try.prog (fnA 26) [p.av, i64 n] H (.tuple [i64 (latV p n), i64 (latE p n)]) := by
  refine Tri.drop ?_
  refine tri_a (m := fun _ => false) ans46 Try.func26 (by kernel_rfl) rfl (by simp only [List.length_append, List.length_cons, List.length_nil, Try.ntmps26]; decide) ?_
  simp only [vsAll, loadA, loadRow, partA, partOk, boxA, boxZ, cellA, okAll, stAll, opsA, opA, allocA, dstOk, nilSliceOp, argFr, Nat.reduceAdd, Nat.reduceLT, Nat.reduceEqDiff, ↓reduceIte, eq_self, wtAll, Try.ntmps26]
  intro i5 hh_i5; (try simp only [Hp.set_none, ite_none] at hh_i5)
  refine open_call (open_tri p _ (isPot p n) _ kn trivial rfl (fun k H' => latF_tri p n H' kn)) (fun he => ?_) (fun k hv => ?_)
  · have e : latE p n = errE p (isPot p n) := if_neg he
    have e2 : latV p n = 0 := if_neg (by rw [e]; exact he)
    simp only [vsAll]
    refine ⟨errE p (isPot p n), i5, _, rfl, rfl, by simp only [vsAll, ↓reduceIte, eq_self]; try rfl, ?_⟩
    simp only [vsAll, loadA, loadRow, partA, partOk, resA, retA.eq_2, Nat.reduceLT, Nat.reduceEqDiff, ↓reduceIte, eq_self, wtAll, Try.results26]
    refine dropR_pure ?_ (by (repeat (first | exact HSub_rfl | refine HSub_put_eq (by simp only [vsAll, binA, binLitA, intA, aggA, aggV, boolA, nilA2, isConst, unA, loadA, loadRow, partA, partOk, fieldAddrA, indexAddrA, indexA, fieldA, extractA, lenA, nilCheckA, boxA, boxZ, cellA, cellsA, fillA, okParts, buildSliceA, buildMutA, makeSliceA, partIdx, elemsA, lensA, ifaceA, convA, mmA, pickA, okAll, stAll, opsA, partsA, partsOk, opA, allocA, boxMutA, newCells, okCells, storeObj, appendA, guardV, taA, nM, mapUpA, lookA, sliceA, sliceS, boundsA, opO, okO, copyA, dstOk, nilA, quietOk, nilSliceOp, deferV, panA, resA, argFr, retA.eq_1, retA.eq_2, Nat.reduceAdd, Nat.reduceSub, Nat.reduceMul, Nat.reduceLT, Nat.reduceLeDiff, Nat.reduceEqDiff, Nat.reduceBEq, Int.reduceAdd, Int.reduceSub, Int.reduceMul, Int.reduceNeg, Int.reduceLE, Int.reduceLT, Int.reduceEq, Int.reduceNe, Int.reduceToNat, ↓reduceIte, reduceCtorEq, implies_true, forall_const, eq_self, ne_eq, arrL, wtAll, Try.ntmps26, Try.results26, hh_i5]) ?_ | refine HSub_drop2 (by simp only [eq_self, hh_i5]) ?_ | refine HSub_keep_eq (by simp only [vsAll, binA, binLitA, intA, aggA, aggV, boolA, nilA2, isConst, unA, loadA, loadRow, partA, partOk, fieldAddrA, indexAddrA, indexA, fieldA, extractA, lenA, nilCheckA, boxA, boxZ, cellA, cellsA, fillA, okParts, buildSliceA, buildMutA, makeSliceA, partIdx, elemsA, lensA, ifaceA, convA, mmA, pickA, okAll, stAll, opsA, partsA, partsOk, opA, allocA, boxMutA, newCells, okCells, storeObj, appendA, guardV, taA, nM, mapUpA, lookA, sliceA, sliceS, boundsA, opO, okO, copyA, dstOk, nilA, quietOk, nilSliceOp, deferV, panA, resA, argFr, retA.eq_1, retA.eq_2, Nat.reduceAdd, Nat.reduceSub, Nat.reduceMul, Nat.reduceLT, Nat.reduceLeDiff, Nat.reduceEqDiff, Nat.reduceBEq, Int.reduceAdd, Int.reduceSub, Int.reduceMul, Int.reduceNeg, Int.reduceLE, Int.reduceLT, Int.reduceEq, Int.reduceNe, Int.reduceToNat, ↓reduceIte, reduceCtorEq, implies_true, forall_const, eq_self, ne_eq, arrL, wtAll, Try.ntmps26, Try.results26, hh_i5]) ?_)))
    simp only [eq_self, e, e2]
  · have he : errE p (isPot p n) = 0 := by rw [hv]; exact errE_ok k
    rw [isPot_iff] at hv
    obtain ⟨t, rfl⟩ : ∃ t : Nat, n = (t : Int) := ⟨n.toNat, by ((try clear hh_i5); omega)⟩
    have ht : t < p.ps.length := by ((try clear hh_i5); omega)
    obtain ⟨e1, e2⟩ := lat_eq k.nF ht
    simp only [vsAll, cellA, cellsA, fillA, okParts, okAll, stAll, opsA, partsA, partsOk, opA, dstOk, nilSliceOp, Nat.reduceAdd, Nat.reduceLT, Nat.reduceLeDiff, Nat.reduceEqDiff, ↓reduceIte, eq_self, wtAll]
    refine callK (tell_tri p 0 (moreL t) joinL (.func 81) (.func 82) [bx t] [] _) ?_
    rintro r H' ⟨i8, i6, im, rfl, hfr, hd, rfl⟩
    simp only [vsAll, fillA, okParts, okAll, stAll, opsA, partsA, partsOk, opA, dstOk, Nat.reduceLT, Nat.reduceEqDiff, ↓reduceIte, eq_self, wtAll]
    refine callK_pure (told_tri k (latT p t) hd p.ps.length 0 u0 (by ((try clear hh_i5); omega)) u0_bd) ?_
    have e3 : tl p 0 (moreL t) joinL p.ps.length 0 u0 = tlL p t := rfl
    rw [e3]
    simp only [vsAll, extractA, okAll, stAll, opsA, opA, dstOk, nilSliceOp, Nat.reduceAdd, Nat.reduceLT, Nat.reduceEqDiff, ↓reduceIte, eq_self, e1, e2]
    have hg : ∀ o, Go.V.HSub ((telH p 0 (moreL t) joinL (.func 81) (.func 82) [bx t] [] (H.set i5 (.box 1 1 fun _ => [i64 0])) im i8 i6).set i5 o) H := fun o => by
      refine HSub_drop2 hh_i5 (HSub.trans (telH_sub hfr) ?_)
      (repeat (first | exact HSub_rfl | refine HSub_put_eq (by simp only [vsAll, binA, binLitA, intA, aggA, aggV, boolA, nilA2, isConst, unA, loadA, loadRow, partA, partOk, fieldAddrA, indexAddrA, indexA, fieldA, extractA, lenA, nilCheckA, boxA, boxZ, cellA, cellsA, fillA, okParts, buildSliceA, buildMutA, makeSliceA, partIdx, elemsA, lensA, ifaceA, convA, mmA, pickA, okAll, stAll, opsA, partsA, partsOk, opA, allocA, boxMutA, newCells, okCells, storeObj, appendA, guardV, taA, nM, mapUpA, lookA, sliceA, sliceS, boundsA, opO, okO, copyA, dstOk, nilA, quietOk, nilSliceOp, deferV, panA, resA, argFr, retA.eq_1, retA.eq_2, Nat.reduceAdd, Nat.reduceSub, Nat.reduceMul, Nat.reduceLT, Nat.reduceLeDiff, Nat.reduceEqDiff, Nat.reduceBEq, Int.reduceAdd, Int.reduceSub, Int.reduceMul, Int.reduceNeg, Int.reduceLE, Int.reduceLT, Int.reduceEq, Int.reduceNe, Int.reduceToNat, ↓reduceIte, reduceCtorEq, implies_true, forall_const, eq_self, ne_eq, arrL, wtAll, Try.ntmps26, Try.results26, hh_i5]) ?_ | refine HSub_drop2 (by simp only [eq_self, hh_i5]) ?_ | refine HSub_keep_eq (by simp only [vsAll, binA, binLitA, intA, aggA, aggV, boolA, nilA2, isConst, unA, loadA, loadRow, partA, partOk, fieldAddrA, indexAddrA, indexA, fieldA, extractA, lenA, nilCheckA, boxA, boxZ, cellA, cellsA, fillA, okParts, buildSliceA, buildMutA, makeSliceA, partIdx, elemsA, lensA, ifaceA, convA, mmA, pickA, okAll, stAll, opsA, partsA, partsOk, opA, allocA, boxMutA, newCells, okCells, storeObj, appendA, guardV, taA, nM, mapUpA, lookA, sliceA, sliceS, boundsA, opO, okO, copyA, dstOk, nilA, quietOk, nilSliceOp, deferV, panA, resA, argFr, retA.eq_1, retA.eq_2, Nat.reduceAdd, Nat.reduceSub, Nat.reduceMul, Nat.reduceLT, Nat.reduceLeDiff, Nat.reduceEqDiff, Nat.reduceBEq, Int.reduceAdd, Int.reduceSub, Int.reduceMul, Int.reduceNeg, Int.reduceLE, Int.reduceLT, Int.reduceEq, Int.reduceNe, Int.reduceToNat, ↓reduceIte, reduceCtorEq, implies_true, forall_const, eq_self, ne_eq, arrL, wtAll, Try.ntmps26, Try.results26, hh_i5]) ?_))
    have q1 : ¬ i5 = i6 := fun e => by rw [← e, Hp.set_same] at hfr; cases hfr.2.2
    have q2 : ¬ i5 = i8 := fun e => by rw [← e, Hp.set_same] at hfr; cases hfr.2.1
    have q3 : ¬ i5 = im := fun e => by rw [← e, Hp.set_same] at hfr; cases hfr.1
    have h5 : (telH p 0 (moreL t) joinL (.func 81) (.func 82) [bx t] [] (H.set i5 (.box 1 1 fun _ => [i64 0])) im i8 i6) i5 = some (.box 1 1 fun _ => [i64 0]) := by
      rw [telH, Hp.set_ne _ _ q1, Hp.set_ne _ _ q2, Hp.set_ne _ _ q3, Hp.set_same]
    refine ask_call (fun hc => ?_) (fun hc => ?_)
    · have e : latE p t = 0 := by
        show rgtE p (isPot p t) = 0
        rw [rgtE, if_pos he, if_neg (by have := of_decide_eq_true hc; ((try clear hh_i5); omega))]
      have ev : latV p t = latN (rpl p) t (rpl p).length := by rw [latV, if_pos e, Int.toNat_natCast]
      simp only [vsAll, cellA, cellsA, opA, newCells, okCells, storeObj, dstOk, nilSliceOp, Nat.reduceLT, Nat.reduceEqDiff, ↓reduceIte, eq_self, wtAll, q1, q2, q3]
      refine Ent.ret ⟨i5, _, rfl, by simp only [vsAll, ↓reduceIte, eq_self]; try rfl, ?_⟩
      simp only [vsAll, loadA, loadRow, partA, partOk, resA, retA.eq_2, Nat.reduceLT, Nat.reduceEqDiff, ↓reduceIte, eq_self, wtAll, Try.results26]
      refine dropR_pure ?_ (hg _)
      simp only [eq_self, e, ev]
    · have e : latE p t = 4 := by
        show rgtE p (isPot p t) = 4
        rw [rgtE, if_pos he, if_pos (by have := of_decide_eq_false hc; ((try clear hh_i5); omega))]
      have ev : latV p t = 0 := if_neg (by rw [e]; decide)
      simp only [vsAll]
      refine ⟨4, i5, _, rfl, rfl, h5, ?_⟩
      simp only [vsAll, loadA, loadRow, partA, partOk, resA, retA.eq_2, Nat.reduceLT, Nat.reduceEqDiff, ↓reduceIte, eq_self, wtAll, Try.results26]
      refine dropR_pure ?_ (hg _)
      simp only [eq_self, e, ev]
end Go.Proofs.Ytliomkpmadpibaa
end
