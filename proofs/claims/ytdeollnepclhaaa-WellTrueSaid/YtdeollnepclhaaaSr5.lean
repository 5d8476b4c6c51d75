/- WHAT IS PROVED: the given statement of this claim. Conditions: none beyond the given row. -/
import Derived.Test.YtdeollnepclhaaaSr4
section
set_option linter.unusedVariables false
set_option linter.unusedSimpArgs false
set_option maxHeartbeats 8000000
set_option maxRecDepth 100000
namespace Go.Proofs.Ytdeollnepclhaaa
open Go.V
theorem true_law (N : Nat) (b : Nat → Int) (H : Hp) (hN : N ≤ 9223372036854775807) (hb : ∀ i, i < N → 0 ≤ b i ∧ b i ≤ 65535) : PTri Try.prog (fnA 7) [.rsl N 1 (byF b)] H (boo true) := by
  refine tri_vs (m := fun _ => false) Try.func7 (by kernel_rfl) rfl (by simp only [List.length_append, List.length_cons, List.length_nil, Try.ntmps7]; decide) ?_
  simp only [vsAll, okAll, stAll, opsA, opA, dstOk, nilSliceOp, argFr, Nat.reduceLT, Int.reduceNeg, ↓reduceIte, reduceCtorEq, eq_self, Try.ntmps7]
  refine callK (lmade_tri N b _ hN hb) ?_
  rintro r H' ⟨h, w, ls, hP, rfl, hH⟩
  have hH2 := hH.symm
  clear hH
  subst hH2
  have k := hP.ok
  have kn := k.near
  have hn3 := k.n
  have hm6 := k.m
  have hw := hP.water
  have hlm := hP.len
  obtain ⟨W, hW1, hW⟩ := made_mem hP
  have hne : 0 < (allA h).length := List.length_pos_of_mem hW
  have e1 : waterE h = 0 := by rw [waterE_full2 k, if_neg (by omega)]
  have e2 : clashE h = 4 := (clashE_ok k).2 hne
  have w1 : waterV h = spA h := by simp only [waterV, e1, if_true]
  have sl : (spA h).length ≤ (allA h).length := spansL_len _
  have sl2 := allA_len h
  have sl3 := (spA_last hne).1
  have hin : inS (spA h) w = true := (inS_spA h _).2 ⟨W, hW, hW1⟩
  simp only [vsAll, loadA, loadRow, partA, partOk, extractA, cellA, cellsA, okAll, stAll, opsA, opA, allocA, newCells, okCells, storeObj, dstOk, nilSliceOp, Nat.reduceAdd, Nat.reduceLT, Nat.reduceEqDiff, Int.reduceNeg, ↓reduceIte, eq_self, wtAll]
  intro i3 hh_i3; (try simp only [Hp.set_none, ite_none] at hh_i3)
  simp only [Int.reduceNeg, Hp.set_set]
  refine callK_pure (wwater_tri h _ kn) ?_
  simp only [vsAll, loadA, loadRow, partA, partOk, extractA, okAll, stAll, opsA, opA, dstOk, nilSliceOp, Nat.reduceAdd, Nat.reduceLT, Nat.reduceEqDiff, Int.reduceNeg, ↓reduceIte, eq_self, wtAll, e1, w1]
  refine callK_pure (wclash_tri h _ kn) ?_
  simp only [vsAll, binA, binLitA, intA, extractA, opA, guardV, dstOk, nilSliceOp, Nat.reduceAdd, Nat.reduceLT, Nat.reduceEqDiff, Int.reduceNeg, ↓reduceIte, eq_self, e2]
  refine gcall (boo true) (fun hg => ⟨by simp only [vsAll, opA], by simp only [vsAll, okAll, opsA, opA, Nat.reduceEqDiff, ↓reduceIte, eq_self], ?_⟩) ?_
  · simp only [vsAll, stAll, opsA, opA, Nat.reduceEqDiff, ↓reduceIte, eq_self]
    have := lwithin_tri (spA h) w ((H.set i3 (.box 2 1 fun _ => [flAV h.n h.fl, sdAV h.m h.sd]))) (by ((try clear hh_i3); omega))
    rwa [hin] at this
  simp only [vsAll, binA, binLitA, intA, unA, lenA, pickA, opA, guardV, dstOk, Nat.reduceLT, Nat.reduceEqDiff, Int.reduceNeg, ↓reduceIte, implies_true, eq_self, wtAll]
  refine vs_loop (σ := Nat) (fun i => i ≤ (spA h).length) (fun i => [(3, .ref i3 0 2 0 0), (4, i64 w), (5, intsAV ls), (6, spansAV (spA h)), (60, spansAV (spA h)), (61, i64 (spA h).length), (62, i64 i)])
    (fun _ => H.set i3 (.box 2 1 fun _ => h.cs)) (fun i => (spA h).length - i) 0 (Nat.zero_le _) ?_ ?_ fun i hi => ?_
  · simp only [vsAll, Nat.reduceEqDiff, ↓reduceIte, eq_self, Int.natCast_zero]
  · (repeat (first | exact HSub_rfl | refine HSub_put_eq (by simp only [vsAll, binA, binLitA, intA, aggA, boolA, nilA2, isConst, unA, loadA, loadRow, partA, partOk, fieldAddrA, indexAddrA, indexA, fieldA, extractA, lenA, nilCheckA, boxA, cellA, cellsA, fillA, okParts, buildSliceA, buildMutA, makeSliceA, partIdx, elemsA, lensA, ifaceA, convA, mmA, pickA, okAll, stAll, opsA, partsA, partsOk, opA, allocA, boxMutA, newCells, okCells, storeObj, appendA, guardV, taA, nM, mapUpA, lookA, sliceA, boundsA, opO, okO, copyA, dstOk, nilA, quietOk, nilSliceOp, panA, resA, argFr, retA.eq_1, retA.eq_2, Nat.reduceAdd, Nat.reduceSub, Nat.reduceMul, Nat.reduceLT, Nat.reduceLeDiff, Nat.reduceEqDiff, Nat.reduceBEq, Int.reduceAdd, Int.reduceSub, Int.reduceMul, Int.reduceNeg, Int.reduceLE, Int.reduceLT, Int.reduceEq, Int.reduceNe, Int.reduceToNat, ↓reduceIte, reduceCtorEq, implies_true, forall_const, eq_self, ne_eq, wtAll, Try.ntmps7, Try.results7, hh_i3]) ?_ | refine HSub_drop2 (by simp only [vsAll, binA, binLitA, intA, aggA, boolA, nilA2, isConst, unA, loadA, loadRow, partA, partOk, fieldAddrA, indexAddrA, indexA, fieldA, extractA, lenA, nilCheckA, boxA, cellA, cellsA, fillA, okParts, buildSliceA, buildMutA, makeSliceA, partIdx, elemsA, lensA, ifaceA, convA, mmA, pickA, okAll, stAll, opsA, partsA, partsOk, opA, allocA, boxMutA, newCells, okCells, storeObj, appendA, guardV, taA, nM, mapUpA, lookA, sliceA, boundsA, opO, okO, copyA, dstOk, nilA, quietOk, nilSliceOp, panA, resA, argFr, retA.eq_1, retA.eq_2, Nat.reduceAdd, Nat.reduceSub, Nat.reduceMul, Nat.reduceLT, Nat.reduceLeDiff, Nat.reduceEqDiff, Nat.reduceBEq, Int.reduceAdd, Int.reduceSub, Int.reduceMul, Int.reduceNeg, Int.reduceLE, Int.reduceLT, Int.reduceEq, Int.reduceNe, Int.reduceToNat, ↓reduceIte, reduceCtorEq, implies_true, forall_const, eq_self, ne_eq, wtAll, Try.ntmps7, Try.results7, hh_i3]) ?_ | refine HSub_keep_eq (by simp only [vsAll, binA, binLitA, intA, aggA, boolA, nilA2, isConst, unA, loadA, loadRow, partA, partOk, fieldAddrA, indexAddrA, indexA, fieldA, extractA, lenA, nilCheckA, boxA, cellA, cellsA, fillA, okParts, buildSliceA, buildMutA, makeSliceA, partIdx, elemsA, lensA, ifaceA, convA, mmA, pickA, okAll, stAll, opsA, partsA, partsOk, opA, allocA, boxMutA, newCells, okCells, storeObj, appendA, guardV, taA, nM, mapUpA, lookA, sliceA, boundsA, opO, okO, copyA, dstOk, nilA, quietOk, nilSliceOp, panA, resA, argFr, retA.eq_1, retA.eq_2, Nat.reduceAdd, Nat.reduceSub, Nat.reduceMul, Nat.reduceLT, Nat.reduceLeDiff, Nat.reduceEqDiff, Nat.reduceBEq, Int.reduceAdd, Int.reduceSub, Int.reduceMul, Int.reduceNeg, Int.reduceLE, Int.reduceLT, Int.reduceEq, Int.reduceNe, Int.reduceToNat, ↓reduceIte, reduceCtorEq, implies_true, forall_const, eq_self, ne_eq, wtAll, Try.ntmps7, Try.results7, hh_i3]) ?_))
  · simp only [vsAll, binA, binLitA, intA, opA, dstOk, Nat.reduceLT, Nat.reduceEqDiff, Int.reduceNeg, ↓reduceIte, eq_self]
    refine condD (fun hd => ?_) (fun hd => ?_)
    · have hr := spA_rng h (i := i) (by ((try clear hh_i3); omega))
      simp only [vsAll, loadA, loadRow, partA, partOk, indexAddrA, cellA, cellsA, opA, allocA, newCells, okCells, storeObj, dstOk, nilSliceOp, Nat.reduceAdd, Nat.reduceLT, Nat.reduceEqDiff, Int.reduceNeg, ↓reduceIte, eq_self, wtAll, spanF_at]
      refine ⟨by ((try clear hh_i3); omega), by ((try clear hh_i3); omega), ?_⟩
      intro i11 hh_i11; (try simp only [ite_none] at hh_i11)
      rw [Hp.set_set]
      refine vs_draw 31 (by decide +kernel) ?_
      have o1 : decide (((spA h).getD i (0, 0)).2 < ((spA h).getD i (0, 0)).1) = false := decide_eq_false (by ((try clear hh_i3); (try clear hh_i11); omega))
      have o2 : decide (((spA h).getD i (0, 0)).1 < 0) = false := decide_eq_false (by ((try clear hh_i3); (try clear hh_i11); omega))
      have o3 : decide (100 < ((spA h).getD i (0, 0)).2) = false := decide_eq_false (by ((try clear hh_i3); (try clear hh_i11); omega))
      simp only [vsAll, binA, binLitA, intA, loadA, loadRow, partA, partOk, fieldAddrA, indexAddrA, pickA, opA, guardV, dstOk, Nat.reduceLT, Nat.reduceEqDiff, Int.reduceNeg, ↓reduceIte, implies_true, eq_self, wtAll, spanF_at, o1, o2, o3]
      have hp1 : decide (0 < (i : Int)) = true → 1 ≤ i ∧ ((i : Int) - 1).toNat = i - 1 := fun g => by
        have := of_decide_eq_true g; ((try clear hh_i3); (try clear hh_i11); omega)
      have hp2 : decide (0 < (i : Int)) = true → ((spA h).getD ((i : Int) - 1).toNat (0, 0)).2 ≤ 100 ∧ 0 ≤ ((spA h).getD ((i : Int) - 1).toNat (0, 0)).2 := fun g => by
        have := hp1 g
        have := spA_rng h (i := ((i : Int) - 1).toNat) (by ((try clear hh_i3); (try clear hh_i11); omega))
        ((try clear hh_i3); (try clear hh_i11); omega)
      have o4 : (decide (0 < (i : Int)) && decide (((spA h).getD i (0, 0)).1 ≤ ((spA h).getD ((i : Int) - 1).toNat (0, 0)).2 + 1)) = false := by
        rw [Bool.eq_false_iff]
        intro g
        simp only [Bool.and_eq_true] at g
        have q := hp1 g.1
        have q2 := of_decide_eq_true g.2
        rw [q.2] at q2
        have := spA_gap h (i := i - 1) (j := i) (by ((try clear hh_i3); (try clear hh_i11); omega)) (by ((try clear hh_i3); (try clear hh_i11); omega))
        ((try clear hh_i3); (try clear hh_i11); omega)
      refine ⟨fun g => ⟨g, by simp only [InR_i64]; ((try clear hh_i3); (try clear hh_i11); omega)⟩, fun g => ⟨g, g, by have := hp1 g; ((try clear hh_i3); (try clear hh_i11); omega), by ((try clear hh_i3); (try clear hh_i11); omega)⟩, fun g => ⟨g, by ((try clear hh_i3); (try clear hh_i11); omega)⟩, fun g => ⟨g, by have := hp2 g; simp only [InR_i64]; ((try clear hh_i3); (try clear hh_i11); omega)⟩, ?_⟩
      rw [o4]
      refine condV (fun g => Bool.noConfusion g) fun _ => ?_
      simp only [vsAll, binA, binLitA, intA, opA, dstOk, Nat.reduceLT, Nat.reduceEqDiff, Int.reduceNeg, ↓reduceIte, eq_self]
      refine ⟨by simp only [InR_i64]; ((try clear hh_i3); (try clear hh_i11); omega), loop_next (i + 1) (by ((try clear hh_i3); (try clear hh_i11); omega)) (by ((try clear hh_i3); (try clear hh_i11); omega)) ?_ ?_⟩
      · simp only [vsAll, Nat.reduceEqDiff, ↓reduceIte, eq_self, Int.natCast_add, Int.natCast_one]
      · (repeat (first | exact HSub_rfl | refine HSub_put_eq (by simp only [vsAll, ↓reduceIte, eq_self, hh_i11]) ?_ | refine HSub_drop2 (by simp only [eq_self, hh_i3, hh_i11]) ?_ | refine HSub_keep_eq (by simp only [vsAll, binA, binLitA, intA, aggA, boolA, nilA2, isConst, unA, loadA, loadRow, partA, partOk, fieldAddrA, indexAddrA, indexA, fieldA, extractA, lenA, nilCheckA, boxA, cellA, cellsA, fillA, okParts, buildSliceA, buildMutA, makeSliceA, partIdx, elemsA, lensA, ifaceA, convA, mmA, pickA, okAll, stAll, opsA, partsA, partsOk, opA, allocA, boxMutA, newCells, okCells, storeObj, appendA, guardV, taA, nM, mapUpA, lookA, sliceA, boundsA, opO, okO, copyA, dstOk, nilA, quietOk, nilSliceOp, panA, resA, argFr, retA.eq_1, retA.eq_2, Nat.reduceAdd, Nat.reduceSub, Nat.reduceMul, Nat.reduceLT, Nat.reduceLeDiff, Nat.reduceEqDiff, Nat.reduceBEq, Int.reduceAdd, Int.reduceSub, Int.reduceMul, Int.reduceNeg, Int.reduceLE, Int.reduceLT, Int.reduceEq, Int.reduceNe, Int.reduceToNat, ↓reduceIte, reduceCtorEq, implies_true, forall_const, eq_self, ne_eq, wtAll, Try.ntmps7, Try.results7, hh_i3, hh_i11]) ?_))
    · have ei : i = (spA h).length := by ((try clear hh_i3); omega)
      clear hi hd
      subst ei
      simp only [vsAll, binA, binLitA, intA, lenA, cellA, cellsA, okParts, buildSliceA, partIdx, elemsA, lensA, mmA, okAll, stAll, opsA, partsA, partsOk, opA, dstOk, Nat.reduceAdd, Nat.reduceMul, Nat.reduceLT, Nat.reduceLeDiff, Nat.reduceEqDiff, Int.reduceNeg, ↓reduceIte, eq_self, wtAll]
      simp only [InR_i64]
      refine ⟨by ((try clear hh_i3); omega), by ((try clear hh_i3); omega), ?_⟩
      refine vs_loop (σ := Nat) (fun i => i ≤ 3) (fun i => [(3, .ref i3 0 2 0 0), (4, i64 w), (5, intsAV ls), (6, spansAV (spA h)), (105, intsAV [max 0 (w - 1), w, w + 1]), (106, i64 3), (107, i64 i)])
        (fun _ => H.set i3 (.box 2 1 fun _ => h.cs)) (fun i => 3 - i) 0 (by ((try clear hh_i3); omega)) ?_ ?_ fun i hi => ?_
      · simp only [vsAll, Nat.reduceEqDiff, ↓reduceIte, eq_self, Int.natCast_zero]
        exact ⟨AV.Le.rsl fun i hi => (match i, hi with | 0, _ => rfl | 1, _ => rfl | 2, _ => rfl), AV.Le.of_eq rfl⟩
      · (repeat (first | exact HSub_rfl | refine HSub_put_eq (by simp only [vsAll, binA, binLitA, intA, aggA, boolA, nilA2, isConst, unA, loadA, loadRow, partA, partOk, fieldAddrA, indexAddrA, indexA, fieldA, extractA, lenA, nilCheckA, boxA, cellA, cellsA, fillA, okParts, buildSliceA, buildMutA, makeSliceA, partIdx, elemsA, lensA, ifaceA, convA, mmA, pickA, okAll, stAll, opsA, partsA, partsOk, opA, allocA, boxMutA, newCells, okCells, storeObj, appendA, guardV, taA, nM, mapUpA, lookA, sliceA, boundsA, opO, okO, copyA, dstOk, nilA, quietOk, nilSliceOp, panA, resA, argFr, retA.eq_1, retA.eq_2, Nat.reduceAdd, Nat.reduceSub, Nat.reduceMul, Nat.reduceLT, Nat.reduceLeDiff, Nat.reduceEqDiff, Nat.reduceBEq, Int.reduceAdd, Int.reduceSub, Int.reduceMul, Int.reduceNeg, Int.reduceLE, Int.reduceLT, Int.reduceEq, Int.reduceNe, Int.reduceToNat, ↓reduceIte, reduceCtorEq, implies_true, forall_const, eq_self, ne_eq, wtAll, Try.ntmps7, Try.results7, hh_i3]) ?_ | refine HSub_drop2 (by simp only [vsAll, binA, binLitA, intA, aggA, boolA, nilA2, isConst, unA, loadA, loadRow, partA, partOk, fieldAddrA, indexAddrA, indexA, fieldA, extractA, lenA, nilCheckA, boxA, cellA, cellsA, fillA, okParts, buildSliceA, buildMutA, makeSliceA, partIdx, elemsA, lensA, ifaceA, convA, mmA, pickA, okAll, stAll, opsA, partsA, partsOk, opA, allocA, boxMutA, newCells, okCells, storeObj, appendA, guardV, taA, nM, mapUpA, lookA, sliceA, boundsA, opO, okO, copyA, dstOk, nilA, quietOk, nilSliceOp, panA, resA, argFr, retA.eq_1, retA.eq_2, Nat.reduceAdd, Nat.reduceSub, Nat.reduceMul, Nat.reduceLT, Nat.reduceLeDiff, Nat.reduceEqDiff, Nat.reduceBEq, Int.reduceAdd, Int.reduceSub, Int.reduceMul, Int.reduceNeg, Int.reduceLE, Int.reduceLT, Int.reduceEq, Int.reduceNe, Int.reduceToNat, ↓reduceIte, reduceCtorEq, implies_true, forall_const, eq_self, ne_eq, wtAll, Try.ntmps7, Try.results7, hh_i3]) ?_ | refine HSub_keep_eq (by simp only [vsAll, binA, binLitA, intA, aggA, boolA, nilA2, isConst, unA, loadA, loadRow, partA, partOk, fieldAddrA, indexAddrA, indexA, fieldA, extractA, lenA, nilCheckA, boxA, cellA, cellsA, fillA, okParts, buildSliceA, buildMutA, makeSliceA, partIdx, elemsA, lensA, ifaceA, convA, mmA, pickA, okAll, stAll, opsA, partsA, partsOk, opA, allocA, boxMutA, newCells, okCells, storeObj, appendA, guardV, taA, nM, mapUpA, lookA, sliceA, boundsA, opO, okO, copyA, dstOk, nilA, quietOk, nilSliceOp, panA, resA, argFr, retA.eq_1, retA.eq_2, Nat.reduceAdd, Nat.reduceSub, Nat.reduceMul, Nat.reduceLT, Nat.reduceLeDiff, Nat.reduceEqDiff, Nat.reduceBEq, Int.reduceAdd, Int.reduceSub, Int.reduceMul, Int.reduceNeg, Int.reduceLE, Int.reduceLT, Int.reduceEq, Int.reduceNe, Int.reduceToNat, ↓reduceIte, reduceCtorEq, implies_true, forall_const, eq_self, ne_eq, wtAll, Try.ntmps7, Try.results7, hh_i3]) ?_))
      · simp only [vsAll, binA, binLitA, intA, opA, dstOk, Nat.reduceLT, Nat.reduceEqDiff, Int.reduceNeg, ↓reduceIte, eq_self]
        refine condD (fun hd => ?_) (fun hd => ?_)
        · have l3 : [max 0 (w - 1), w, w + 1].length = 3 := rfl
          have hnn : 0 ≤ [max 0 (w - 1), w, w + 1].getD i 0 ∧ [max 0 (w - 1), w, w + 1].getD i 0 ≤ 100 := by
            have : i = 0 ∨ i = 1 ∨ i = 2 := by ((try clear hh_i3); omega)
            rcases this with rfl | rfl | rfl <;> simp <;> ((try clear hh_i3); omega)
          have o0 := overE_full k hnn
          rw [if_neg (by ((try clear hh_i3); omega))] at o0
          obtain ⟨o1, o2, o3, o4⟩ := over_true k hW hnn
          rw [hW1] at o1 o2
          rw [show (spA h).length - 1 = (((spA h).length : Int) - 1).toNat by ((try clear hh_i3); omega)] at o4
          simp only [vsAll, loadA, loadRow, partA, partOk, indexAddrA, okAll, stAll, opsA, opA, dstOk, nilSliceOp, Nat.reduceLT, Nat.reduceEqDiff, Int.reduceNeg, ↓reduceIte, eq_self, wtAll, intF_at, l3]
          generalize [max 0 (w - 1), w, w + 1].getD i 0 = n at *
          refine ⟨by ((try clear hh_i3); omega), by ((try clear hh_i3); omega), ?_⟩
          refine callK_pure (wover_tri h n _ kn) ?_
          simp only [vsAll, binA, binLitA, intA, loadA, loadRow, partA, partOk, fieldAddrA, indexAddrA, extractA, lenA, pickA, opA, guardV, dstOk, nilSliceOp, Nat.reduceAdd, Nat.reduceLT, Nat.reduceEqDiff, Int.reduceNeg, Int.reduceLE, Int.reduceToNat, ↓reduceIte, implies_true, eq_self, wtAll, o0, spanF_at, o1, o2, o3, o4]
          refine ⟨fun g => ⟨g, by ((try clear hh_i3); omega)⟩, fun g => ⟨g, by ((try clear hh_i3); omega)⟩, fun g => ⟨g, by simp only [InR_i64]; ((try clear hh_i3); omega)⟩, fun g => ⟨g, g, by ((try clear hh_i3); omega), by ((try clear hh_i3); omega)⟩, fun g => ⟨g, by ((try clear hh_i3); omega)⟩, by simp only [InR_i64]; ((try clear hh_i3); omega), loop_next (i + 1) (by ((try clear hh_i3); omega)) (by ((try clear hh_i3); omega)) ?_ ?_⟩
          · simp only [vsAll, Nat.reduceEqDiff, ↓reduceIte, eq_self, Int.natCast_add, Int.natCast_one]
          · (repeat (first | exact HSub_rfl | refine HSub_put_eq (by simp only [vsAll, binA, binLitA, intA, aggA, boolA, nilA2, isConst, unA, loadA, loadRow, partA, partOk, fieldAddrA, indexAddrA, indexA, fieldA, extractA, lenA, nilCheckA, boxA, cellA, cellsA, fillA, okParts, buildSliceA, buildMutA, makeSliceA, partIdx, elemsA, lensA, ifaceA, convA, mmA, pickA, okAll, stAll, opsA, partsA, partsOk, opA, allocA, boxMutA, newCells, okCells, storeObj, appendA, guardV, taA, nM, mapUpA, lookA, sliceA, boundsA, opO, okO, copyA, dstOk, nilA, quietOk, nilSliceOp, panA, resA, argFr, retA.eq_1, retA.eq_2, Nat.reduceAdd, Nat.reduceSub, Nat.reduceMul, Nat.reduceLT, Nat.reduceLeDiff, Nat.reduceEqDiff, Nat.reduceBEq, Int.reduceAdd, Int.reduceSub, Int.reduceMul, Int.reduceNeg, Int.reduceLE, Int.reduceLT, Int.reduceEq, Int.reduceNe, Int.reduceToNat, ↓reduceIte, reduceCtorEq, implies_true, forall_const, eq_self, ne_eq, wtAll, Try.ntmps7, Try.results7, hh_i3]) ?_ | refine HSub_drop2 (by simp only [vsAll, binA, binLitA, intA, aggA, boolA, nilA2, isConst, unA, loadA, loadRow, partA, partOk, fieldAddrA, indexAddrA, indexA, fieldA, extractA, lenA, nilCheckA, boxA, cellA, cellsA, fillA, okParts, buildSliceA, buildMutA, makeSliceA, partIdx, elemsA, lensA, ifaceA, convA, mmA, pickA, okAll, stAll, opsA, partsA, partsOk, opA, allocA, boxMutA, newCells, okCells, storeObj, appendA, guardV, taA, nM, mapUpA, lookA, sliceA, boundsA, opO, okO, copyA, dstOk, nilA, quietOk, nilSliceOp, panA, resA, argFr, retA.eq_1, retA.eq_2, Nat.reduceAdd, Nat.reduceSub, Nat.reduceMul, Nat.reduceLT, Nat.reduceLeDiff, Nat.reduceEqDiff, Nat.reduceBEq, Int.reduceAdd, Int.reduceSub, Int.reduceMul, Int.reduceNeg, Int.reduceLE, Int.reduceLT, Int.reduceEq, Int.reduceNe, Int.reduceToNat, ↓reduceIte, reduceCtorEq, implies_true, forall_const, eq_self, ne_eq, wtAll, Try.ntmps7, Try.results7, hh_i3]) ?_ | refine HSub_keep_eq (by simp only [vsAll, binA, binLitA, intA, aggA, boolA, nilA2, isConst, unA, loadA, loadRow, partA, partOk, fieldAddrA, indexAddrA, indexA, fieldA, extractA, lenA, nilCheckA, boxA, cellA, cellsA, fillA, okParts, buildSliceA, buildMutA, makeSliceA, partIdx, elemsA, lensA, ifaceA, convA, mmA, pickA, okAll, stAll, opsA, partsA, partsOk, opA, allocA, boxMutA, newCells, okCells, storeObj, appendA, guardV, taA, nM, mapUpA, lookA, sliceA, boundsA, opO, okO, copyA, dstOk, nilA, quietOk, nilSliceOp, panA, resA, argFr, retA.eq_1, retA.eq_2, Nat.reduceAdd, Nat.reduceSub, Nat.reduceMul, Nat.reduceLT, Nat.reduceLeDiff, Nat.reduceEqDiff, Nat.reduceBEq, Int.reduceAdd, Int.reduceSub, Int.reduceMul, Int.reduceNeg, Int.reduceLE, Int.reduceLT, Int.reduceEq, Int.reduceNe, Int.reduceToNat, ↓reduceIte, reduceCtorEq, implies_true, forall_const, eq_self, ne_eq, wtAll, Try.ntmps7, Try.results7, hh_i3]) ?_))
        · simp only [vsAll, lenA, opA, dstOk, Nat.reduceLT, Nat.reduceEqDiff, Int.reduceNeg, ↓reduceIte, eq_self, wtAll]
          refine vs_loop (σ := Nat) (fun i => i ≤ ls.length) (fun i => [(3, .ref i3 0 2 0 0), (4, i64 w), (165, intsAV ls), (166, i64 ls.length), (167, i64 i)])
            (fun _ => H.set i3 (.box 2 1 fun _ => h.cs)) (fun i => ls.length - i) 0 (Nat.zero_le _) ?_ ?_ fun i hi => ?_
          · simp only [vsAll, Nat.reduceEqDiff, ↓reduceIte, eq_self, Int.natCast_zero]
          · (repeat (first | exact HSub_rfl | refine HSub_put_eq (by simp only [vsAll, binA, binLitA, intA, aggA, boolA, nilA2, isConst, unA, loadA, loadRow, partA, partOk, fieldAddrA, indexAddrA, indexA, fieldA, extractA, lenA, nilCheckA, boxA, cellA, cellsA, fillA, okParts, buildSliceA, buildMutA, makeSliceA, partIdx, elemsA, lensA, ifaceA, convA, mmA, pickA, okAll, stAll, opsA, partsA, partsOk, opA, allocA, boxMutA, newCells, okCells, storeObj, appendA, guardV, taA, nM, mapUpA, lookA, sliceA, boundsA, opO, okO, copyA, dstOk, nilA, quietOk, nilSliceOp, panA, resA, argFr, retA.eq_1, retA.eq_2, Nat.reduceAdd, Nat.reduceSub, Nat.reduceMul, Nat.reduceLT, Nat.reduceLeDiff, Nat.reduceEqDiff, Nat.reduceBEq, Int.reduceAdd, Int.reduceSub, Int.reduceMul, Int.reduceNeg, Int.reduceLE, Int.reduceLT, Int.reduceEq, Int.reduceNe, Int.reduceToNat, ↓reduceIte, reduceCtorEq, implies_true, forall_const, eq_self, ne_eq, wtAll, Try.ntmps7, Try.results7, hh_i3]) ?_ | refine HSub_drop2 (by simp only [vsAll, binA, binLitA, intA, aggA, boolA, nilA2, isConst, unA, loadA, loadRow, partA, partOk, fieldAddrA, indexAddrA, indexA, fieldA, extractA, lenA, nilCheckA, boxA, cellA, cellsA, fillA, okParts, buildSliceA, buildMutA, makeSliceA, partIdx, elemsA, lensA, ifaceA, convA, mmA, pickA, okAll, stAll, opsA, partsA, partsOk, opA, allocA, boxMutA, newCells, okCells, storeObj, appendA, guardV, taA, nM, mapUpA, lookA, sliceA, boundsA, opO, okO, copyA, dstOk, nilA, quietOk, nilSliceOp, panA, resA, argFr, retA.eq_1, retA.eq_2, Nat.reduceAdd, Nat.reduceSub, Nat.reduceMul, Nat.reduceLT, Nat.reduceLeDiff, Nat.reduceEqDiff, Nat.reduceBEq, Int.reduceAdd, Int.reduceSub, Int.reduceMul, Int.reduceNeg, Int.reduceLE, Int.reduceLT, Int.reduceEq, Int.reduceNe, Int.reduceToNat, ↓reduceIte, reduceCtorEq, implies_true, forall_const, eq_self, ne_eq, wtAll, Try.ntmps7, Try.results7, hh_i3]) ?_ | refine HSub_keep_eq (by simp only [vsAll, binA, binLitA, intA, aggA, boolA, nilA2, isConst, unA, loadA, loadRow, partA, partOk, fieldAddrA, indexAddrA, indexA, fieldA, extractA, lenA, nilCheckA, boxA, cellA, cellsA, fillA, okParts, buildSliceA, buildMutA, makeSliceA, partIdx, elemsA, lensA, ifaceA, convA, mmA, pickA, okAll, stAll, opsA, partsA, partsOk, opA, allocA, boxMutA, newCells, okCells, storeObj, appendA, guardV, taA, nM, mapUpA, lookA, sliceA, boundsA, opO, okO, copyA, dstOk, nilA, quietOk, nilSliceOp, panA, resA, argFr, retA.eq_1, retA.eq_2, Nat.reduceAdd, Nat.reduceSub, Nat.reduceMul, Nat.reduceLT, Nat.reduceLeDiff, Nat.reduceEqDiff, Nat.reduceBEq, Int.reduceAdd, Int.reduceSub, Int.reduceMul, Int.reduceNeg, Int.reduceLE, Int.reduceLT, Int.reduceEq, Int.reduceNe, Int.reduceToNat, ↓reduceIte, reduceCtorEq, implies_true, forall_const, eq_self, ne_eq, wtAll, Try.ntmps7, Try.results7, hh_i3]) ?_))
          · simp only [vsAll, binA, binLitA, intA, opA, dstOk, Nat.reduceLT, Nat.reduceEqDiff, Int.reduceNeg, ↓reduceIte, eq_self]
            refine condD (fun hd => ?_) (fun hd => ?_)
            · have him : i < h.m := by ((try clear hh_i3); omega)
              obtain ⟨ht, hrt⟩ := hP.right i him
              have le0 : listsE h (i : Nat) = 0 := by rw [listsE_full k (by ((try clear hh_i3); omega)), if_neg (by ((try clear hh_i3); omega))]
              have hmem : ls.getD i 0 ∈ listsV h (i : Nat) := (lists_mem le0 _).2 ⟨ht, W, hW, by rw [hW1]; exact hrt⟩
              have hsrt := fun y => @lists_sorted h (i : Nat) y
              have hlin := fun y => @lists_in h i y le0
              have hrng := lists_rng h (i : Nat)
              have ll := lists_le h (i : Nat)
              have hls := k.l i him
              simp only [vsAll, loadA, loadRow, partA, partOk, indexAddrA, okAll, stAll, opsA, opA, dstOk, nilSliceOp, Nat.reduceLT, Nat.reduceEqDiff, Int.reduceNeg, ↓reduceIte, eq_self, wtAll, intF_at]
              generalize ls.getD i 0 = t at *
              refine ⟨by ((try clear hh_i3); omega), by ((try clear hh_i3); omega), ?_⟩
              refine callK_pure (wlists_tri h i _ kn) ?_
              simp only [vsAll, extractA, lenA, opA, dstOk, nilSliceOp, Nat.reduceAdd, Nat.reduceLT, Nat.reduceEqDiff, Int.reduceNeg, ↓reduceIte, eq_self, wtAll, le0]
              generalize listsV h (i : Nat) = L at *
              refine vs_loop (σ := Nat) (fun y => y ≤ L.length) (fun y => [(3, .ref i3 0 2 0 0), (4, i64 w), (16, i64 i), (17, i64 t), (18, intsAV L), (19, i64 0), (20, boo (hasN L t y)), (165, intsAV ls), (166, i64 ls.length), (167, i64 i), (178, intsAV L), (179, i64 L.length), (180, i64 y)])
                (fun _ => H.set i3 (.box 2 1 fun _ => h.cs)) (fun y => L.length - y) 0 (Nat.zero_le _) ?_ ?_ fun y hy => ?_
              · simp only [vsAll, Nat.reduceEqDiff, ↓reduceIte, eq_self, Int.natCast_zero, hasN_zero]
              · (repeat (first | exact HSub_rfl | refine HSub_put_eq (by simp only [vsAll, binA, binLitA, intA, aggA, boolA, nilA2, isConst, unA, loadA, loadRow, partA, partOk, fieldAddrA, indexAddrA, indexA, fieldA, extractA, lenA, nilCheckA, boxA, cellA, cellsA, fillA, okParts, buildSliceA, buildMutA, makeSliceA, partIdx, elemsA, lensA, ifaceA, convA, mmA, pickA, okAll, stAll, opsA, partsA, partsOk, opA, allocA, boxMutA, newCells, okCells, storeObj, appendA, guardV, taA, nM, mapUpA, lookA, sliceA, boundsA, opO, okO, copyA, dstOk, nilA, quietOk, nilSliceOp, panA, resA, argFr, retA.eq_1, retA.eq_2, Nat.reduceAdd, Nat.reduceSub, Nat.reduceMul, Nat.reduceLT, Nat.reduceLeDiff, Nat.reduceEqDiff, Nat.reduceBEq, Int.reduceAdd, Int.reduceSub, Int.reduceMul, Int.reduceNeg, Int.reduceLE, Int.reduceLT, Int.reduceEq, Int.reduceNe, Int.reduceToNat, ↓reduceIte, reduceCtorEq, implies_true, forall_const, eq_self, ne_eq, wtAll, Try.ntmps7, Try.results7, hh_i3]) ?_ | refine HSub_drop2 (by simp only [vsAll, binA, binLitA, intA, aggA, boolA, nilA2, isConst, unA, loadA, loadRow, partA, partOk, fieldAddrA, indexAddrA, indexA, fieldA, extractA, lenA, nilCheckA, boxA, cellA, cellsA, fillA, okParts, buildSliceA, buildMutA, makeSliceA, partIdx, elemsA, lensA, ifaceA, convA, mmA, pickA, okAll, stAll, opsA, partsA, partsOk, opA, allocA, boxMutA, newCells, okCells, storeObj, appendA, guardV, taA, nM, mapUpA, lookA, sliceA, boundsA, opO, okO, copyA, dstOk, nilA, quietOk, nilSliceOp, panA, resA, argFr, retA.eq_1, retA.eq_2, Nat.reduceAdd, Nat.reduceSub, Nat.reduceMul, Nat.reduceLT, Nat.reduceLeDiff, Nat.reduceEqDiff, Nat.reduceBEq, Int.reduceAdd, Int.reduceSub, Int.reduceMul, Int.reduceNeg, Int.reduceLE, Int.reduceLT, Int.reduceEq, Int.reduceNe, Int.reduceToNat, ↓reduceIte, reduceCtorEq, implies_true, forall_const, eq_self, ne_eq, wtAll, Try.ntmps7, Try.results7, hh_i3]) ?_ | refine HSub_keep_eq (by simp only [vsAll, binA, binLitA, intA, aggA, boolA, nilA2, isConst, unA, loadA, loadRow, partA, partOk, fieldAddrA, indexAddrA, indexA, fieldA, extractA, lenA, nilCheckA, boxA, cellA, cellsA, fillA, okParts, buildSliceA, buildMutA, makeSliceA, partIdx, elemsA, lensA, ifaceA, convA, mmA, pickA, okAll, stAll, opsA, partsA, partsOk, opA, allocA, boxMutA, newCells, okCells, storeObj, appendA, guardV, taA, nM, mapUpA, lookA, sliceA, boundsA, opO, okO, copyA, dstOk, nilA, quietOk, nilSliceOp, panA, resA, argFr, retA.eq_1, retA.eq_2, Nat.reduceAdd, Nat.reduceSub, Nat.reduceMul, Nat.reduceLT, Nat.reduceLeDiff, Nat.reduceEqDiff, Nat.reduceBEq, Int.reduceAdd, Int.reduceSub, Int.reduceMul, Int.reduceNeg, Int.reduceLE, Int.reduceLT, Int.reduceEq, Int.reduceNe, Int.reduceToNat, ↓reduceIte, reduceCtorEq, implies_true, forall_const, eq_self, ne_eq, wtAll, Try.ntmps7, Try.results7, hh_i3]) ?_))
              · simp only [vsAll, binA, binLitA, intA, opA, dstOk, Nat.reduceLT, Nat.reduceEqDiff, Int.reduceNeg, ↓reduceIte, eq_self]
                refine condD (fun hd2 => ?_) (fun hd2 => ?_)
                · have hs := hasN_succ (n := t) (l := L) (k := y) (by ((try clear hh_i3); omega))
                  have q1 := hlin y (by ((try clear hh_i3); omega))
                  have q2 := hrng y (by ((try clear hh_i3); omega))
                  have o1 : decide (L.getD y 0 < (h.sd i).a) = false := decide_eq_false (by ((try clear hh_i3); omega))
                  have o2 : decide ((h.sd i).b < L.getD y 0) = false := decide_eq_false (by ((try clear hh_i3); omega))
                  simp only [vsAll, binA, binLitA, intA, loadA, loadRow, partA, partOk, fieldAddrA, indexAddrA, pickA, opA, guardV, dstOk, nilSliceOp, Nat.reduceAdd, Nat.reduceLT, Nat.reduceEqDiff, Int.reduceNeg, ↓reduceIte, implies_true, forall_const, eq_self, wtAll, intF_at, o1, o2]
                  have hp1 : decide (0 < (y : Int)) = true → 1 ≤ y ∧ ((y : Int) - 1).toNat = y - 1 := fun g => by
                    have := of_decide_eq_true g; ((try clear hh_i3); omega)
                  have o4 : (decide (0 < (y : Int)) && decide (L.getD y 0 ≤ L.getD ((y : Int) - 1).toNat 0)) = false := by
                    rw [Bool.eq_false_iff]
                    intro g
                    simp only [Bool.and_eq_true] at g
                    have q := hp1 g.1
                    have q2 := of_decide_eq_true g.2
                    rw [q.2] at q2
                    have := hsrt (y - 1) (by ((try clear hh_i3); omega))
                    rw [show y - 1 + 1 = y by ((try clear hh_i3); omega)] at this
                    ((try clear hh_i3); omega)
                  rw [o4]
                  refine ⟨⟨by ((try clear hh_i3); omega), by ((try clear hh_i3); omega)⟩, by ((try clear hh_i3); omega), ⟨by ((try clear hh_i3); omega), by ((try clear hh_i3); omega)⟩, him, ⟨by ((try clear hh_i3); omega), by ((try clear hh_i3); omega)⟩, him, fun g => ⟨g, by simp only [InR_i64]; ((try clear hh_i3); omega)⟩, fun g => ⟨g, g, by have := hp1 g; ((try clear hh_i3); omega), by ((try clear hh_i3); omega)⟩, fun g => ⟨g, by ((try clear hh_i3); omega)⟩, ?_⟩
                  refine condV (fun g => Bool.noConfusion g) fun _ => ?_
                  simp only [vsAll, binA, binLitA, intA, opA, dstOk, Nat.reduceLT, Nat.reduceEqDiff, Int.reduceNeg, ↓reduceIte, eq_self]
                  refine ⟨by simp only [InR_i64]; ((try clear hh_i3); omega), loop_next (y + 1) (by ((try clear hh_i3); omega)) (by ((try clear hh_i3); omega)) ?_ ?_⟩
                  · simp only [vsAll, Nat.reduceEqDiff, ↓reduceIte, eq_self, Int.natCast_add, Int.natCast_one, hs]
                  · (repeat (first | exact HSub_rfl | refine HSub_put_eq (by simp only [vsAll, binA, binLitA, intA, aggA, boolA, nilA2, isConst, unA, loadA, loadRow, partA, partOk, fieldAddrA, indexAddrA, indexA, fieldA, extractA, lenA, nilCheckA, boxA, cellA, cellsA, fillA, okParts, buildSliceA, buildMutA, makeSliceA, partIdx, elemsA, lensA, ifaceA, convA, mmA, pickA, okAll, stAll, opsA, partsA, partsOk, opA, allocA, boxMutA, newCells, okCells, storeObj, appendA, guardV, taA, nM, mapUpA, lookA, sliceA, boundsA, opO, okO, copyA, dstOk, nilA, quietOk, nilSliceOp, panA, resA, argFr, retA.eq_1, retA.eq_2, Nat.reduceAdd, Nat.reduceSub, Nat.reduceMul, Nat.reduceLT, Nat.reduceLeDiff, Nat.reduceEqDiff, Nat.reduceBEq, Int.reduceAdd, Int.reduceSub, Int.reduceMul, Int.reduceNeg, Int.reduceLE, Int.reduceLT, Int.reduceEq, Int.reduceNe, Int.reduceToNat, ↓reduceIte, reduceCtorEq, implies_true, forall_const, eq_self, ne_eq, wtAll, Try.ntmps7, Try.results7, hh_i3]) ?_ | refine HSub_drop2 (by simp only [vsAll, binA, binLitA, intA, aggA, boolA, nilA2, isConst, unA, loadA, loadRow, partA, partOk, fieldAddrA, indexAddrA, indexA, fieldA, extractA, lenA, nilCheckA, boxA, cellA, cellsA, fillA, okParts, buildSliceA, buildMutA, makeSliceA, partIdx, elemsA, lensA, ifaceA, convA, mmA, pickA, okAll, stAll, opsA, partsA, partsOk, opA, allocA, boxMutA, newCells, okCells, storeObj, appendA, guardV, taA, nM, mapUpA, lookA, sliceA, boundsA, opO, okO, copyA, dstOk, nilA, quietOk, nilSliceOp, panA, resA, argFr, retA.eq_1, retA.eq_2, Nat.reduceAdd, Nat.reduceSub, Nat.reduceMul, Nat.reduceLT, Nat.reduceLeDiff, Nat.reduceEqDiff, Nat.reduceBEq, Int.reduceAdd, Int.reduceSub, Int.reduceMul, Int.reduceNeg, Int.reduceLE, Int.reduceLT, Int.reduceEq, Int.reduceNe, Int.reduceToNat, ↓reduceIte, reduceCtorEq, implies_true, forall_const, eq_self, ne_eq, wtAll, Try.ntmps7, Try.results7, hh_i3]) ?_ | refine HSub_keep_eq (by simp only [vsAll, binA, binLitA, intA, aggA, boolA, nilA2, isConst, unA, loadA, loadRow, partA, partOk, fieldAddrA, indexAddrA, indexA, fieldA, extractA, lenA, nilCheckA, boxA, cellA, cellsA, fillA, okParts, buildSliceA, buildMutA, makeSliceA, partIdx, elemsA, lensA, ifaceA, convA, mmA, pickA, okAll, stAll, opsA, partsA, partsOk, opA, allocA, boxMutA, newCells, okCells, storeObj, appendA, guardV, taA, nM, mapUpA, lookA, sliceA, boundsA, opO, okO, copyA, dstOk, nilA, quietOk, nilSliceOp, panA, resA, argFr, retA.eq_1, retA.eq_2, Nat.reduceAdd, Nat.reduceSub, Nat.reduceMul, Nat.reduceLT, Nat.reduceLeDiff, Nat.reduceEqDiff, Nat.reduceBEq, Int.reduceAdd, Int.reduceSub, Int.reduceMul, Int.reduceNeg, Int.reduceLE, Int.reduceLT, Int.reduceEq, Int.reduceNe, Int.reduceToNat, ↓reduceIte, reduceCtorEq, implies_true, forall_const, eq_self, ne_eq, wtAll, Try.ntmps7, Try.results7, hh_i3]) ?_))
                · have ey : y = L.length := by ((try clear hh_i3); omega)
                  clear hy hd2
                  subst ey
                  rw [hasN_all]
                  have o3 : decide (t ∈ L) = true := decide_eq_true hmem
                  simp only [vsAll, binA, binLitA, intA, unA, pickA, opA, guardV, dstOk, Nat.reduceLT, Nat.reduceEqDiff, Int.reduceNeg, ↓reduceIte, implies_true, eq_self, o3]
                  refine ⟨by simp only [InR_i64]; ((try clear hh_i3); omega), loop_next (i + 1) (by ((try clear hh_i3); omega)) (by ((try clear hh_i3); omega)) ?_ ?_⟩
                  · simp only [vsAll, Nat.reduceEqDiff, ↓reduceIte, eq_self, Int.natCast_add, Int.natCast_one]
                  · (repeat (first | exact HSub_rfl | refine HSub_put_eq (by simp only [vsAll, binA, binLitA, intA, aggA, boolA, nilA2, isConst, unA, loadA, loadRow, partA, partOk, fieldAddrA, indexAddrA, indexA, fieldA, extractA, lenA, nilCheckA, boxA, cellA, cellsA, fillA, okParts, buildSliceA, buildMutA, makeSliceA, partIdx, elemsA, lensA, ifaceA, convA, mmA, pickA, okAll, stAll, opsA, partsA, partsOk, opA, allocA, boxMutA, newCells, okCells, storeObj, appendA, guardV, taA, nM, mapUpA, lookA, sliceA, boundsA, opO, okO, copyA, dstOk, nilA, quietOk, nilSliceOp, panA, resA, argFr, retA.eq_1, retA.eq_2, Nat.reduceAdd, Nat.reduceSub, Nat.reduceMul, Nat.reduceLT, Nat.reduceLeDiff, Nat.reduceEqDiff, Nat.reduceBEq, Int.reduceAdd, Int.reduceSub, Int.reduceMul, Int.reduceNeg, Int.reduceLE, Int.reduceLT, Int.reduceEq, Int.reduceNe, Int.reduceToNat, ↓reduceIte, reduceCtorEq, implies_true, forall_const, eq_self, ne_eq, wtAll, Try.ntmps7, Try.results7, hh_i3]) ?_ | refine HSub_drop2 (by simp only [vsAll, binA, binLitA, intA, aggA, boolA, nilA2, isConst, unA, loadA, loadRow, partA, partOk, fieldAddrA, indexAddrA, indexA, fieldA, extractA, lenA, nilCheckA, boxA, cellA, cellsA, fillA, okParts, buildSliceA, buildMutA, makeSliceA, partIdx, elemsA, lensA, ifaceA, convA, mmA, pickA, okAll, stAll, opsA, partsA, partsOk, opA, allocA, boxMutA, newCells, okCells, storeObj, appendA, guardV, taA, nM, mapUpA, lookA, sliceA, boundsA, opO, okO, copyA, dstOk, nilA, quietOk, nilSliceOp, panA, resA, argFr, retA.eq_1, retA.eq_2, Nat.reduceAdd, Nat.reduceSub, Nat.reduceMul, Nat.reduceLT, Nat.reduceLeDiff, Nat.reduceEqDiff, Nat.reduceBEq, Int.reduceAdd, Int.reduceSub, Int.reduceMul, Int.reduceNeg, Int.reduceLE, Int.reduceLT, Int.reduceEq, Int.reduceNe, Int.reduceToNat, ↓reduceIte, reduceCtorEq, implies_true, forall_const, eq_self, ne_eq, wtAll, Try.ntmps7, Try.results7, hh_i3]) ?_ | refine HSub_keep_eq (by simp only [vsAll, binA, binLitA, intA, aggA, boolA, nilA2, isConst, unA, loadA, loadRow, partA, partOk, fieldAddrA, indexAddrA, indexA, fieldA, extractA, lenA, nilCheckA, boxA, cellA, cellsA, fillA, okParts, buildSliceA, buildMutA, makeSliceA, partIdx, elemsA, lensA, ifaceA, convA, mmA, pickA, okAll, stAll, opsA, partsA, partsOk, opA, allocA, boxMutA, newCells, okCells, storeObj, appendA, guardV, taA, nM, mapUpA, lookA, sliceA, boundsA, opO, okO, copyA, dstOk, nilA, quietOk, nilSliceOp, panA, resA, argFr, retA.eq_1, retA.eq_2, Nat.reduceAdd, Nat.reduceSub, Nat.reduceMul, Nat.reduceLT, Nat.reduceLeDiff, Nat.reduceEqDiff, Nat.reduceBEq, Int.reduceAdd, Int.reduceSub, Int.reduceMul, Int.reduceNeg, Int.reduceLE, Int.reduceLT, Int.reduceEq, Int.reduceNe, Int.reduceToNat, ↓reduceIte, reduceCtorEq, implies_true, forall_const, eq_self, ne_eq, wtAll, Try.ntmps7, Try.results7, hh_i3]) ?_))
            · simp only [vsAll, opA, dstOk, nilSliceOp, Nat.reduceLT, Int.reduceNeg, ↓reduceIte, eq_self]
              refine vs_loop (σ := Nat) (fun j => j ≤ 5) (fun j => [(3, .ref i3 0 2 0 0), (4, i64 w), (23, i64 (-2 + (j : Int)))]) (fun _ => H.set i3 (.box 2 1 fun _ => h.cs)) (fun j => 5 - j) 0 (by ((try clear hh_i3); omega)) ?_ ?_ fun j hj => ?_
              · simp only [vsAll, Nat.reduceEqDiff, Int.reduceAdd, Int.reduceNeg, ↓reduceIte, eq_self, Int.natCast_zero]
              · (repeat (first | exact HSub_rfl | refine HSub_put_eq (by simp only [vsAll, binA, binLitA, intA, aggA, boolA, nilA2, isConst, unA, loadA, loadRow, partA, partOk, fieldAddrA, indexAddrA, indexA, fieldA, extractA, lenA, nilCheckA, boxA, cellA, cellsA, fillA, okParts, buildSliceA, buildMutA, makeSliceA, partIdx, elemsA, lensA, ifaceA, convA, mmA, pickA, okAll, stAll, opsA, partsA, partsOk, opA, allocA, boxMutA, newCells, okCells, storeObj, appendA, guardV, taA, nM, mapUpA, lookA, sliceA, boundsA, opO, okO, copyA, dstOk, nilA, quietOk, nilSliceOp, panA, resA, argFr, retA.eq_1, retA.eq_2, Nat.reduceAdd, Nat.reduceSub, Nat.reduceMul, Nat.reduceLT, Nat.reduceLeDiff, Nat.reduceEqDiff, Nat.reduceBEq, Int.reduceAdd, Int.reduceSub, Int.reduceMul, Int.reduceNeg, Int.reduceLE, Int.reduceLT, Int.reduceEq, Int.reduceNe, Int.reduceToNat, ↓reduceIte, reduceCtorEq, implies_true, forall_const, eq_self, ne_eq, wtAll, Try.ntmps7, Try.results7, hh_i3]) ?_ | refine HSub_drop2 (by simp only [vsAll, binA, binLitA, intA, aggA, boolA, nilA2, isConst, unA, loadA, loadRow, partA, partOk, fieldAddrA, indexAddrA, indexA, fieldA, extractA, lenA, nilCheckA, boxA, cellA, cellsA, fillA, okParts, buildSliceA, buildMutA, makeSliceA, partIdx, elemsA, lensA, ifaceA, convA, mmA, pickA, okAll, stAll, opsA, partsA, partsOk, opA, allocA, boxMutA, newCells, okCells, storeObj, appendA, guardV, taA, nM, mapUpA, lookA, sliceA, boundsA, opO, okO, copyA, dstOk, nilA, quietOk, nilSliceOp, panA, resA, argFr, retA.eq_1, retA.eq_2, Nat.reduceAdd, Nat.reduceSub, Nat.reduceMul, Nat.reduceLT, Nat.reduceLeDiff, Nat.reduceEqDiff, Nat.reduceBEq, Int.reduceAdd, Int.reduceSub, Int.reduceMul, Int.reduceNeg, Int.reduceLE, Int.reduceLT, Int.reduceEq, Int.reduceNe, Int.reduceToNat, ↓reduceIte, reduceCtorEq, implies_true, forall_const, eq_self, ne_eq, wtAll, Try.ntmps7, Try.results7, hh_i3]) ?_ | refine HSub_keep_eq (by simp only [vsAll, binA, binLitA, intA, aggA, boolA, nilA2, isConst, unA, loadA, loadRow, partA, partOk, fieldAddrA, indexAddrA, indexA, fieldA, extractA, lenA, nilCheckA, boxA, cellA, cellsA, fillA, okParts, buildSliceA, buildMutA, makeSliceA, partIdx, elemsA, lensA, ifaceA, convA, mmA, pickA, okAll, stAll, opsA, partsA, partsOk, opA, allocA, boxMutA, newCells, okCells, storeObj, appendA, guardV, taA, nM, mapUpA, lookA, sliceA, boundsA, opO, okO, copyA, dstOk, nilA, quietOk, nilSliceOp, panA, resA, argFr, retA.eq_1, retA.eq_2, Nat.reduceAdd, Nat.reduceSub, Nat.reduceMul, Nat.reduceLT, Nat.reduceLeDiff, Nat.reduceEqDiff, Nat.reduceBEq, Int.reduceAdd, Int.reduceSub, Int.reduceMul, Int.reduceNeg, Int.reduceLE, Int.reduceLT, Int.reduceEq, Int.reduceNe, Int.reduceToNat, ↓reduceIte, reduceCtorEq, implies_true, forall_const, eq_self, ne_eq, wtAll, Try.ntmps7, Try.results7, hh_i3]) ?_))
              · simp only [vsAll, binA, binLitA, intA, opA, dstOk, Nat.reduceLT, Nat.reduceEqDiff, Int.reduceNeg, ↓reduceIte, eq_self]
                refine condD (fun hd => ?_) (fun hd => ?_)
                · have ht : -2 ≤ -2 + (j : Int) ∧ -2 + (j : Int) ≤ 2 := by ((try clear hh_i3); omega)
                  have tk : -2 + (j : Int) + 1 = -2 + ((j + 1 : Nat) : Int) := by ((try clear hh_i3); omega)
                  simp only [vsAll, loadA, loadRow, partA, partOk, okAll, stAll, opsA, opA, dstOk, Nat.reduceLT, Nat.reduceEqDiff, Int.reduceNeg, ↓reduceIte, eq_self, wtAll]
                  generalize ht0 : -2 + (j : Int) = t at *
                  refine callK_pure (wdry_tri h t _ kn) ?_
                  have d0 : dryE h t = 0 := by rw [dryE_full k ht, if_neg (by ((try clear hh_i3); omega))]
                  have d1 : dryV h t = dryN h t h.n := by simp only [dryV, d0, if_true]
                  have d2 := dry_sub k ht hne
                  have d3 := @dry_shr h t
                  have d4 := dryV_lt h k t
                  have d5 := fun p => @dry_bits h k t ht hne p
                  rw [d1] at d4
                  have d6 : decide (((dryN h t h.n).1 : Int) < 0) = false := decide_eq_false (by ((try clear hh_i3); omega))
                  simp only [vsAll, binA, binLitA, intA, loadA, loadRow, partA, partOk, fieldAddrA, extractA, lenA, pickA, opA, guardV, dstOk, nilSliceOp, Nat.reduceAdd, Nat.reduceLT, Nat.reduceEqDiff, Int.reduceNeg, ↓reduceIte, implies_true, forall_const, eq_self, wtAll, d0, d1, d2, d3, d6, Int.natCast_zero]
                  generalize dryN h t h.n = Q at *
                  refine ⟨⟨by ((try clear hh_i3); omega), by ((try clear hh_i3); omega), by simp only [InR_i64]; ((try clear hh_i3); omega), by simp only [InR_i64]; ((try clear hh_i3); omega)⟩, ⟨by ((try clear hh_i3); omega), by ((try clear hh_i3); omega), rfl⟩, ?_⟩
                  refine vs_loop (σ := Nat) (fun p => p ≤ h.n) (fun p => [(3, .ref i3 0 2 0 0), (4, i64 w), (23, i64 t), (24, i64 Q.1), (25, i64 Q.2), (265, i64 h.n), (266, i64 p)]) (fun _ => H.set i3 (.box 2 1 fun _ => h.cs)) (fun p => h.n - p) 0 (Nat.zero_le _) ?_ ?_ fun p hp => ?_
                  · simp only [vsAll, Nat.reduceEqDiff, ↓reduceIte, eq_self, Int.natCast_zero]
                  · (repeat (first | exact HSub_rfl | refine HSub_put_eq (by simp only [vsAll, binA, binLitA, intA, aggA, boolA, nilA2, isConst, unA, loadA, loadRow, partA, partOk, fieldAddrA, indexAddrA, indexA, fieldA, extractA, lenA, nilCheckA, boxA, cellA, cellsA, fillA, okParts, buildSliceA, buildMutA, makeSliceA, partIdx, elemsA, lensA, ifaceA, convA, mmA, pickA, okAll, stAll, opsA, partsA, partsOk, opA, allocA, boxMutA, newCells, okCells, storeObj, appendA, guardV, taA, nM, mapUpA, lookA, sliceA, boundsA, opO, okO, copyA, dstOk, nilA, quietOk, nilSliceOp, panA, resA, argFr, retA.eq_1, retA.eq_2, Nat.reduceAdd, Nat.reduceSub, Nat.reduceMul, Nat.reduceLT, Nat.reduceLeDiff, Nat.reduceEqDiff, Nat.reduceBEq, Int.reduceAdd, Int.reduceSub, Int.reduceMul, Int.reduceNeg, Int.reduceLE, Int.reduceLT, Int.reduceEq, Int.reduceNe, Int.reduceToNat, ↓reduceIte, reduceCtorEq, implies_true, forall_const, eq_self, ne_eq, wtAll, Try.ntmps7, Try.results7, hh_i3]) ?_ | refine HSub_drop2 (by simp only [vsAll, binA, binLitA, intA, aggA, boolA, nilA2, isConst, unA, loadA, loadRow, partA, partOk, fieldAddrA, indexAddrA, indexA, fieldA, extractA, lenA, nilCheckA, boxA, cellA, cellsA, fillA, okParts, buildSliceA, buildMutA, makeSliceA, partIdx, elemsA, lensA, ifaceA, convA, mmA, pickA, okAll, stAll, opsA, partsA, partsOk, opA, allocA, boxMutA, newCells, okCells, storeObj, appendA, guardV, taA, nM, mapUpA, lookA, sliceA, boundsA, opO, okO, copyA, dstOk, nilA, quietOk, nilSliceOp, panA, resA, argFr, retA.eq_1, retA.eq_2, Nat.reduceAdd, Nat.reduceSub, Nat.reduceMul, Nat.reduceLT, Nat.reduceLeDiff, Nat.reduceEqDiff, Nat.reduceBEq, Int.reduceAdd, Int.reduceSub, Int.reduceMul, Int.reduceNeg, Int.reduceLE, Int.reduceLT, Int.reduceEq, Int.reduceNe, Int.reduceToNat, ↓reduceIte, reduceCtorEq, implies_true, forall_const, eq_self, ne_eq, wtAll, Try.ntmps7, Try.results7, hh_i3]) ?_ | refine HSub_keep_eq (by simp only [vsAll, binA, binLitA, intA, aggA, boolA, nilA2, isConst, unA, loadA, loadRow, partA, partOk, fieldAddrA, indexAddrA, indexA, fieldA, extractA, lenA, nilCheckA, boxA, cellA, cellsA, fillA, okParts, buildSliceA, buildMutA, makeSliceA, partIdx, elemsA, lensA, ifaceA, convA, mmA, pickA, okAll, stAll, opsA, partsA, partsOk, opA, allocA, boxMutA, newCells, okCells, storeObj, appendA, guardV, taA, nM, mapUpA, lookA, sliceA, boundsA, opO, okO, copyA, dstOk, nilA, quietOk, nilSliceOp, panA, resA, argFr, retA.eq_1, retA.eq_2, Nat.reduceAdd, Nat.reduceSub, Nat.reduceMul, Nat.reduceLT, Nat.reduceLeDiff, Nat.reduceEqDiff, Nat.reduceBEq, Int.reduceAdd, Int.reduceSub, Int.reduceMul, Int.reduceNeg, Int.reduceLE, Int.reduceLT, Int.reduceEq, Int.reduceNe, Int.reduceToNat, ↓reduceIte, reduceCtorEq, implies_true, forall_const, eq_self, ne_eq, wtAll, Try.ntmps7, Try.results7, hh_i3]) ?_))
                  · simp only [vsAll, binA, binLitA, intA, opA, dstOk, Nat.reduceLT, Nat.reduceEqDiff, Int.reduceNeg, ↓reduceIte, eq_self]
                    refine condD (fun hd2 => ?_) (fun hd2 => ?_)
                    · have l1 := depthE_ok k (n := w) (t := t) (p := (p : Int)) (by ((try clear hh_i3); omega)) ht (by ((try clear hh_i3); omega))
                      have l2 := depthV_ok k (n := w) (t := t) (p := (p : Int)) (by ((try clear hh_i3); omega)) ht (by ((try clear hh_i3); omega))
                      have l3 : uz h (hz h w t) t p = dz h w t p := rfl
                      rw [l3] at l2
                      have r0 := rodE_full k (t := t) (p := (p : Int)) ht (by ((try clear hh_i3); omega))
                      rw [if_neg (by ((try clear hh_i3); omega))] at r0
                      obtain ⟨c1, _, _⟩ := rod_spec k ht (p := (p : Int)) (by ((try clear hh_i3); omega)) hne
                      have c2 := c1 W hW
                      rw [hW1] at c2
                      have c3 : 0 ≤ dz h w t p := uz_nn _ _ _ _
                      obtain ⟨b1, b2⟩ := d5 p (by ((try clear hh_i3); omega))
                      have eb1 : decide (((((Q.1 : Nat) : Int) / 2 ^ p).toNat &&& 1 : Nat) = (1 : Int)) = Q.1.testBit p := bit_eq Q.1 p
                      have eb2 : decide (((((Q.2 : Nat) : Int) / 2 ^ p).toNat &&& 1 : Nat) = (1 : Int)) = Q.2.testBit p := bit_eq Q.2 p
                      rw [b1] at eb1
                      rw [b2] at eb2
                      simp only [vsAll, loadA, loadRow, partA, partOk, okAll, stAll, opsA, opA, dstOk, nilSliceOp, Nat.reduceLT, Nat.reduceEqDiff, Int.reduceNeg, ↓reduceIte, eq_self, wtAll]
                      refine callK_pure (wdepth_tri h w t p _ kn) ?_
                      simp only [vsAll, loadA, loadRow, partA, partOk, extractA, okAll, stAll, opsA, opA, dstOk, nilSliceOp, Nat.reduceAdd, Nat.reduceLT, Nat.reduceEqDiff, Int.reduceNeg, ↓reduceIte, eq_self, wtAll, l1, l2]
                      refine callK_pure (wrod_tri h t p _ kn) ?_
                      simp only [vsAll, extractA, cellA, cellsA, opA, allocA, newCells, okCells, storeObj, dstOk, nilSliceOp, Nat.reduceAdd, Nat.reduceLT, Nat.reduceEqDiff, Int.reduceNeg, ↓reduceIte, eq_self, wtAll, r0]
                      generalize rodV h t p = R at *
                      generalize dz h w t p = D at *
                      intro i30 hh_i30; (try simp only [ite_none] at hh_i30)
                      rw [Hp.set_set]
                      have o1 : decide (D < R.1) = false := decide_eq_false (by ((try clear hh_i3); (try clear hh_i30); omega))
                      have o2 : decide (R.2 < D) = false := decide_eq_false (by ((try clear hh_i3); (try clear hh_i30); omega))
                      have o3 : (decide (R.2 = 0) && decide (0 < D)) = false := by
                        rw [Bool.eq_false_iff]; intro g
                        simp only [Bool.and_eq_true, decide_eq_true_eq] at g
                        ((try clear hh_i3); (try clear hh_i30); omega)
                      refine vs_draw 51 (by decide +kernel) ?_
                      simp only [vsAll, binA, binLitA, intA, boolA, loadA, loadRow, partA, partOk, fieldAddrA, pickA, opA, guardV, dstOk, Nat.reduceLT, Nat.reduceEqDiff, Int.reduceNeg, Int.reduceLE, Int.reduceToNat, ↓reduceIte, implies_true, forall_const, eq_self, wtAll, o1, o2, eb1, eb2, o3, beq_self_eq_true]
                      simp only [InR_i64]
                      refine ⟨⟨by ((try clear hh_i3); (try clear hh_i30); omega), by ((try clear hh_i3); (try clear hh_i30); omega), rfl⟩, ⟨(shr_ok _ _ d4.1).1, (shr_ok _ _ d4.1).2, by ((try clear hh_i3); (try clear hh_i30); omega)⟩, ⟨by ((try clear hh_i3); (try clear hh_i30); omega), by ((try clear hh_i3); (try clear hh_i30); omega), rfl⟩, ⟨(shr_ok _ _ d4.2).1, (shr_ok _ _ d4.2).2, by ((try clear hh_i3); (try clear hh_i30); omega)⟩, ⟨by ((try clear hh_i3); (try clear hh_i30); omega), by ((try clear hh_i3); (try clear hh_i30); omega), rfl⟩, ⟨(shr_ok _ _ d4.1).1, (shr_ok _ _ d4.1).2, by ((try clear hh_i3); (try clear hh_i30); omega)⟩, by ((try clear hh_i3); (try clear hh_i30); omega), loop_next (p + 1) (by ((try clear hh_i3); (try clear hh_i30); omega)) (by ((try clear hh_i3); (try clear hh_i30); omega)) ?_ ?_⟩
                      · simp only [vsAll, Nat.reduceEqDiff, ↓reduceIte, eq_self, Int.natCast_add, Int.natCast_one]
                      · (repeat (first | exact HSub_rfl | refine HSub_put_eq (by simp only [vsAll, ↓reduceIte, eq_self, hh_i30]) ?_ | refine HSub_drop2 (by simp only [eq_self, hh_i3, hh_i30]) ?_ | refine HSub_keep_eq (by simp only [vsAll, binA, binLitA, intA, aggA, boolA, nilA2, isConst, unA, loadA, loadRow, partA, partOk, fieldAddrA, indexAddrA, indexA, fieldA, extractA, lenA, nilCheckA, boxA, cellA, cellsA, fillA, okParts, buildSliceA, buildMutA, makeSliceA, partIdx, elemsA, lensA, ifaceA, convA, mmA, pickA, okAll, stAll, opsA, partsA, partsOk, opA, allocA, boxMutA, newCells, okCells, storeObj, appendA, guardV, taA, nM, mapUpA, lookA, sliceA, boundsA, opO, okO, copyA, dstOk, nilA, quietOk, nilSliceOp, panA, resA, argFr, retA.eq_1, retA.eq_2, Nat.reduceAdd, Nat.reduceSub, Nat.reduceMul, Nat.reduceLT, Nat.reduceLeDiff, Nat.reduceEqDiff, Nat.reduceBEq, Int.reduceAdd, Int.reduceSub, Int.reduceMul, Int.reduceNeg, Int.reduceLE, Int.reduceLT, Int.reduceEq, Int.reduceNe, Int.reduceToNat, ↓reduceIte, reduceCtorEq, implies_true, forall_const, eq_self, ne_eq, wtAll, Try.ntmps7, Try.results7, hh_i3, hh_i30]) ?_))
                    · simp only [vsAll, binA, binLitA, intA, opA, dstOk, nilSliceOp, Nat.reduceLT, Nat.reduceEqDiff, Int.reduceNeg, ↓reduceIte, eq_self]
                      rw [← ht0]
                      refine ⟨by simp only [InR_i64]; ((try clear hh_i3); omega), loop_next (j + 1) (by ((try clear hh_i3); omega)) (by ((try clear hh_i3); omega)) ?_ ?_⟩
                      · have tk2 : -2 + (j : Int) + 1 = -2 + ((j + 1 : Nat) : Int) := by ((try clear hh_i3); omega)
                        simp only [vsAll, Nat.reduceEqDiff, Int.reduceNeg, ↓reduceIte, eq_self, tk2]
                      · (repeat (first | exact HSub_rfl | refine HSub_put_eq (by simp only [vsAll, binA, binLitA, intA, aggA, boolA, nilA2, isConst, unA, loadA, loadRow, partA, partOk, fieldAddrA, indexAddrA, indexA, fieldA, extractA, lenA, nilCheckA, boxA, cellA, cellsA, fillA, okParts, buildSliceA, buildMutA, makeSliceA, partIdx, elemsA, lensA, ifaceA, convA, mmA, pickA, okAll, stAll, opsA, partsA, partsOk, opA, allocA, boxMutA, newCells, okCells, storeObj, appendA, guardV, taA, nM, mapUpA, lookA, sliceA, boundsA, opO, okO, copyA, dstOk, nilA, quietOk, nilSliceOp, panA, resA, argFr, retA.eq_1, retA.eq_2, Nat.reduceAdd, Nat.reduceSub, Nat.reduceMul, Nat.reduceLT, Nat.reduceLeDiff, Nat.reduceEqDiff, Nat.reduceBEq, Int.reduceAdd, Int.reduceSub, Int.reduceMul, Int.reduceNeg, Int.reduceLE, Int.reduceLT, Int.reduceEq, Int.reduceNe, Int.reduceToNat, ↓reduceIte, reduceCtorEq, implies_true, forall_const, eq_self, ne_eq, wtAll, Try.ntmps7, Try.results7, hh_i3]) ?_ | refine HSub_drop2 (by simp only [vsAll, binA, binLitA, intA, aggA, boolA, nilA2, isConst, unA, loadA, loadRow, partA, partOk, fieldAddrA, indexAddrA, indexA, fieldA, extractA, lenA, nilCheckA, boxA, cellA, cellsA, fillA, okParts, buildSliceA, buildMutA, makeSliceA, partIdx, elemsA, lensA, ifaceA, convA, mmA, pickA, okAll, stAll, opsA, partsA, partsOk, opA, allocA, boxMutA, newCells, okCells, storeObj, appendA, guardV, taA, nM, mapUpA, lookA, sliceA, boundsA, opO, okO, copyA, dstOk, nilA, quietOk, nilSliceOp, panA, resA, argFr, retA.eq_1, retA.eq_2, Nat.reduceAdd, Nat.reduceSub, Nat.reduceMul, Nat.reduceLT, Nat.reduceLeDiff, Nat.reduceEqDiff, Nat.reduceBEq, Int.reduceAdd, Int.reduceSub, Int.reduceMul, Int.reduceNeg, Int.reduceLE, Int.reduceLT, Int.reduceEq, Int.reduceNe, Int.reduceToNat, ↓reduceIte, reduceCtorEq, implies_true, forall_const, eq_self, ne_eq, wtAll, Try.ntmps7, Try.results7, hh_i3]) ?_ | refine HSub_keep_eq (by simp only [vsAll, binA, binLitA, intA, aggA, boolA, nilA2, isConst, unA, loadA, loadRow, partA, partOk, fieldAddrA, indexAddrA, indexA, fieldA, extractA, lenA, nilCheckA, boxA, cellA, cellsA, fillA, okParts, buildSliceA, buildMutA, makeSliceA, partIdx, elemsA, lensA, ifaceA, convA, mmA, pickA, okAll, stAll, opsA, partsA, partsOk, opA, allocA, boxMutA, newCells, okCells, storeObj, appendA, guardV, taA, nM, mapUpA, lookA, sliceA, boundsA, opO, okO, copyA, dstOk, nilA, quietOk, nilSliceOp, panA, resA, argFr, retA.eq_1, retA.eq_2, Nat.reduceAdd, Nat.reduceSub, Nat.reduceMul, Nat.reduceLT, Nat.reduceLeDiff, Nat.reduceEqDiff, Nat.reduceBEq, Int.reduceAdd, Int.reduceSub, Int.reduceMul, Int.reduceNeg, Int.reduceLE, Int.reduceLT, Int.reduceEq, Int.reduceNe, Int.reduceToNat, ↓reduceIte, reduceCtorEq, implies_true, forall_const, eq_self, ne_eq, wtAll, Try.ntmps7, Try.results7, hh_i3]) ?_))
                · simp only [vsAll, okAll, stAll, opsA, opA, dstOk, Nat.reduceLT, Int.reduceNeg, ↓reduceIte, eq_self]
                  refine callK_pure (awake_tri _) ?_
                  simp only [vsAll, opA, dstOk, nilSliceOp, Nat.reduceLT, Int.reduceNeg, ↓reduceIte, eq_self]
                  refine ret0 ?_
                  simp only [vsAll, resA, retA.eq_1, Int.reduceNeg, ↓reduceIte, eq_self, Try.results7]
                  exact dropR_pure rfl (by (repeat (first | exact HSub_rfl | refine HSub_put_eq (by simp only [vsAll, binA, binLitA, intA, aggA, boolA, nilA2, isConst, unA, loadA, loadRow, partA, partOk, fieldAddrA, indexAddrA, indexA, fieldA, extractA, lenA, nilCheckA, boxA, cellA, cellsA, fillA, okParts, buildSliceA, buildMutA, makeSliceA, partIdx, elemsA, lensA, ifaceA, convA, mmA, pickA, okAll, stAll, opsA, partsA, partsOk, opA, allocA, boxMutA, newCells, okCells, storeObj, appendA, guardV, taA, nM, mapUpA, lookA, sliceA, boundsA, opO, okO, copyA, dstOk, nilA, quietOk, nilSliceOp, panA, resA, argFr, retA.eq_1, retA.eq_2, Nat.reduceAdd, Nat.reduceSub, Nat.reduceMul, Nat.reduceLT, Nat.reduceLeDiff, Nat.reduceEqDiff, Nat.reduceBEq, Int.reduceAdd, Int.reduceSub, Int.reduceMul, Int.reduceNeg, Int.reduceLE, Int.reduceLT, Int.reduceEq, Int.reduceNe, Int.reduceToNat, ↓reduceIte, reduceCtorEq, implies_true, forall_const, eq_self, ne_eq, wtAll, Try.ntmps7, Try.results7, hh_i3]) ?_ | refine HSub_drop2 (by simp only [eq_self, hh_i3]) ?_ | refine HSub_keep_eq (by simp only [vsAll, binA, binLitA, intA, aggA, boolA, nilA2, isConst, unA, loadA, loadRow, partA, partOk, fieldAddrA, indexAddrA, indexA, fieldA, extractA, lenA, nilCheckA, boxA, cellA, cellsA, fillA, okParts, buildSliceA, buildMutA, makeSliceA, partIdx, elemsA, lensA, ifaceA, convA, mmA, pickA, okAll, stAll, opsA, partsA, partsOk, opA, allocA, boxMutA, newCells, okCells, storeObj, appendA, guardV, taA, nM, mapUpA, lookA, sliceA, boundsA, opO, okO, copyA, dstOk, nilA, quietOk, nilSliceOp, panA, resA, argFr, retA.eq_1, retA.eq_2, Nat.reduceAdd, Nat.reduceSub, Nat.reduceMul, Nat.reduceLT, Nat.reduceLeDiff, Nat.reduceEqDiff, Nat.reduceBEq, Int.reduceAdd, Int.reduceSub, Int.reduceMul, Int.reduceNeg, Int.reduceLE, Int.reduceLT, Int.reduceEq, Int.reduceNe, Int.reduceToNat, ↓reduceIte, reduceCtorEq, implies_true, forall_const, eq_self, ne_eq, wtAll, Try.ntmps7, Try.results7, hh_i3]) ?_)))

end Go.Proofs.Ytdeollnepclhaaa
end
section
set_option linter.unusedVariables false
set_option linter.unusedSimpArgs false
set_option maxRecDepth 100000
namespace Go.Proofs.Ytdeollnepclhaaa
open Go.V Go.ChangeShapes Go.WideShapes Go.ChangeAt Go.RowKit
theorem true_u53 : Try.prog.underlying 53 = some (.slice 123) := by kernel_rfl
theorem by_rel {H : Type} {enc : TypeId × Value → H} {W : World} {sp : Nat → Bool} {held : Bool} {v : Value} {d : DataW H} {ps : List MemPlace} {base : Nat}
    (hv : Value.okWide Try.prog W .any base 53 v) (h : DataW.Trod enc Try.prog W 0 sp held 53 v d ps) : ∃ (N : Nat) (b : Nat → Int), N ≤ 9223372036854775807 ∧ (∀ i, i < N → 0 ≤ b i ∧ b i ≤ 65535) ∧ VRel (st0 W) (.rsl N 1 (byF b)) v := by
  obtain ⟨a, len, cap, rfl⟩ := okWide_slice true_u53 hv
  obtain ⟨fuel, h⟩ := h
  obtain ⟨n, g, hn, hl, hr⟩ := trod_slice_rel (d := 4) (e := 123) (ks := [.int .u16]) true_u53 (by decide +kernel) (by decide +kernel) (by decide) (show DataW.trod enc Try.prog W 0 sp held fuel 53 [.slice a len cap] = some (d, ps) from h)
  have key : ∀ i, i < n → ∃ z : Int, g i = [.int .u16 z] ∧ 0 ≤ z ∧ z ≤ 65535 := fun i hi => by
    obtain ⟨h1, h2⟩ := hl i hi
    match hg : g i, h1 with
    | [x], _ =>
      obtain ⟨z, rfl, hz⟩ := h2 0 (.int .u16) x rfl (by rw [hg]; rfl)
      refine ⟨z, rfl, ?_⟩
      simp [Lit.wf, IntKind.min, IntKind.max, IntKind.signed, IntKind.bits] at hz
      omega
  refine ⟨n, fun i => iz ((g i).getD 0 undef), hn, fun i hi => ?_, AV.Le.rsl (fun i hi => ?_) _ _ hr⟩
  · obtain ⟨z, e, hz⟩ := key i hi
    simp only [e]; exact hz
  · obtain ⟨z, e, hz⟩ := key i hi
    simp only [e]; simp only [byF, e]; rfl

theorem wellTrue_lifted (os : Os) (started : os.Started) (H : Type) (enc : TypeId × Value → H) :
    ReturnsInHanded {} Try.checked os 7 .any (Rows.wellTrueSpec.pre6 enc Try.prog Try.f7 Rows.wellTrueRow.domain false) (Rows.wellTrueSpec.post enc Try.prog Try.f7 false true false false) := by
  refine returnsInHanded_of_change (C := Try.checked) Try.own started (by kernel_rfl) Try.func7
    (ChangeSpec.witness6 (enc := enc) (C := Try.checked) false ⟨#[], #[.slice none 0 0], []⟩ 8 (by kernel_rfl) (by kernel_rfl) (by kernel_rfl) (by kernel_rfl)) ?_
  intro W base args ds gs before hval hW hcnd _
  have hW' := hW
  obtain ⟨p, q, hA, hV, rfl, hfz, hnd⟩ := hW
  obtain ⟨rfl, rfl⟩ := trodVars_none hV
  rw [show Try.f7.params.toList = [53] from by kernel_rfl] at hA
  obtain ⟨v0, d0, rfl, rfl, h0⟩ := trodAll_one hA
  have hval : ∀ (j : Nat) t v, Try.f7.params[j]? = some t → (#[v0] : Array Value)[j]? = some v → Value.okWide Try.prog W .any base t v := hval
  rw [show Try.f7.params = #[53] from by kernel_rfl] at hval
  obtain ⟨N, b, hN, hb, hr⟩ := by_rel (hval 0 53 v0 rfl rfl) h0
  refine (law_calls Try.func7 (by kernel_rfl) rfl (Tri.mono (true_law N b H0 hN hb) ?_) ⟨rfl, fun k hk => match k, hk with | 0, _ => hr⟩).mono fun e W' he => ?_
  · rintro r H' ⟨rfl, _⟩; rfl
  · obtain ⟨rfl, hh, ho, hp⟩ := he
    exact ⟨_, rfl, law_post (d := 6) rfl (tb := 4) (by kernel_rfl) u4 (by decide +kernel) hW' rfl hh ho hp⟩

theorem wellTrue_holds : Rows.WellTrueSaid :=
  OpenClaim.holds_of_wide (p := Try.pinned) (s := Rows.wellTrueSpec) (c := Rows.wellTrueRow) 7 Try.f7 rfl rfl rfl rfl rfl rfl rfl ⟨rfl, rfl, rfl, rfl, rfl⟩ rfl rfl rfl rfl rfl (by kernel_rfl) Try.func7 (by kernel_rfl)
    (of_decide_eq_true (by kernel_rfl)) (by unfold Func.isWrapper; first | (rw [if_pos (by decide +kernel)]; kernel_rfl) | (rw [if_neg (by decide +kernel)]; exact ⟨rfl, rfl⟩))
    (fun os started H enc _ => wellTrue_lifted os started H enc)

end Go.Proofs.Ytdeollnepclhaaa
end
