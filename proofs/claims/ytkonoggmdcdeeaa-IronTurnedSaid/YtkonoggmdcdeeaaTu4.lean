/- Helper lemmas of this claim, part 4. -/
import Derived.Test.YtkonoggmdcdeeaaTu3
section
set_option linter.unusedVariables false
set_option linter.unusedSimpArgs false
set_option maxHeartbeats 4000000
set_option maxRecDepth 100000
namespace Go.Proofs.Ytkonoggmdcdeeaa
open Go.V
/-- The claims about a strake that are false when it has this owner: how many, and as a set. -/
def wrB (x : Ir) (C : Nat) (s : Nat) (o : Int) (k : Nat) : Bool := decide ((x.cl.getD k cl0).s = (s : Int)) && C.testBit k && !rightO (x.cl.getD k cl0) o
def wrO (x : Ir) (C : Nat) (s : Nat) (o : Int) : Nat → Nat × Nat
  | 0 => (0, 0)
  | k + 1 => if wrB x C s o k then ((wrO x C s o k).1 + 1, (wrO x C s o k).2 + 2 ^ k) else wrO x C s o k
theorem wrO_lt (x : Ir) (C : Nat) (s : Nat) (o : Int) (k : Nat) : (wrO x C s o k).1 ≤ k ∧ (wrO x C s o k).2 < 2 ^ k := by
  induction k with
  | zero => simp [wrO]
  | succ k ih => simp only [wrO, Nat.pow_succ]; split <;> (try simp only) <;> omega
theorem bit_eq (C i : Nat) : decide ((((((C : Int) / 2 ^ i).toNat &&& 1 : Nat) : Int)) = 1) = C.testBit i := by
  have e : (C : Int) / 2 ^ i = ((C / 2 ^ i : Nat) : Int) := by simp
  rw [e, Int.toNat_natCast, Nat.and_one_is_mod, Nat.testBit_eq_decide_div_mod_eq]
  exact decide_eq_decide.2 (by omega)
theorem wrong_tri (x : Ir) (S C : Nat) (m : Bool) (s : Nat) (o : Int) (H : Hp) (k : Gd x) (hC : C < 2 ^ 60) : PTri Try.prog (fnA 88) [irP x S C m, i64 s, i64 o] H (wrA (wrO x C s o x.cl.length)) := by
  have nC := k.nC
  refine Tri.drop ?_
  refine tri_v0 (mset [6]) Try.func88 (by kernel_rfl) rfl (by simp only [List.length_append, List.length_cons, List.length_nil, Try.ntmps88]; decide) ?_
  simp only [vsAll, loadA, loadRow, partA, partOk, fieldAddrA, lenA, nilCheckA, opA, allocA, dstOk, nilSliceOp, argFr, Nat.reduceAdd, Nat.reduceLT, Nat.reduceBEq, ↓reduceIte, reduceCtorEq, eq_self, wtAll, Try.ntmps88]
  intro i6 hh_i6; (try simp only [Hp.set_none, ite_none] at hh_i6)
  refine vs_loop (σ := Nat) (fun i => i ≤ x.cl.length) (fun i => [(0, irP x S C m), (1, i64 s), (2, i64 o), (6, .ref i6 0 2 0 0), (7, fnA 87), (14, clAV x.cl), (15, i64 x.cl.length), (16, i64 i)]) (fun i => H.set i6 (.box 2 1 fun _ => [i64 ((wrO x C s o i).1 : Nat), i64 ((wrO x C s o i).2 : Nat)])) (fun i => x.cl.length - i) 0 (by ((try clear hh_i6); omega)) ?_ ?_ fun i hi => ?_
  · simp only [vsAll, argFr, Nat.reduceEqDiff, ↓reduceIte, reduceCtorEq, eq_self, Int.natCast_zero]
  · (repeat (first | exact HSub_rfl | refine HSub_put_eq (by simp only [vsAll, binA, binLitA, intA, aggA, boolA, nilA2, isConst, unA, loadA, loadRow, partA, partOk, fieldAddrA, indexAddrA, indexA, fieldA, extractA, lenA, nilCheckA, boxA, cellA, cellsA, fillA, okParts, buildSliceA, buildMutA, makeSliceA, partIdx, elemsA, lensA, ifaceA, convA, mmA, pickA, okAll, stAll, opsA, partsA, partsOk, opA, allocA, boxMutA, newCells, okCells, storeObj, appendA, guardV, taA, nM, mapUpA, lookA, sliceA, boundsA, opO, okO, copyA, dstOk, nilA, quietOk, nilSliceOp, panA, resA, argFr, retA.eq_1, retA.eq_2, Nat.reduceAdd, Nat.reduceSub, Nat.reduceMul, Nat.reduceLT, Nat.reduceLeDiff, Nat.reduceEqDiff, Nat.reduceBEq, Int.reduceAdd, Int.reduceSub, Int.reduceMul, Int.reduceNeg, Int.reduceLE, Int.reduceLT, Int.reduceEq, Int.reduceNe, Int.reduceToNat, ↓reduceIte, reduceCtorEq, implies_true, forall_const, eq_self, ne_eq, wtAll, Try.ntmps88, Try.results88, hh_i6]) ?_ | refine HSub_drop2 (by simp only [vsAll, binA, binLitA, intA, aggA, boolA, nilA2, isConst, unA, loadA, loadRow, partA, partOk, fieldAddrA, indexAddrA, indexA, fieldA, extractA, lenA, nilCheckA, boxA, cellA, cellsA, fillA, okParts, buildSliceA, buildMutA, makeSliceA, partIdx, elemsA, lensA, ifaceA, convA, mmA, pickA, okAll, stAll, opsA, partsA, partsOk, opA, allocA, boxMutA, newCells, okCells, storeObj, appendA, guardV, taA, nM, mapUpA, lookA, sliceA, boundsA, opO, okO, copyA, dstOk, nilA, quietOk, nilSliceOp, panA, resA, argFr, retA.eq_1, retA.eq_2, Nat.reduceAdd, Nat.reduceSub, Nat.reduceMul, Nat.reduceLT, Nat.reduceLeDiff, Nat.reduceEqDiff, Nat.reduceBEq, Int.reduceAdd, Int.reduceSub, Int.reduceMul, Int.reduceNeg, Int.reduceLE, Int.reduceLT, Int.reduceEq, Int.reduceNe, Int.reduceToNat, ↓reduceIte, reduceCtorEq, implies_true, forall_const, eq_self, ne_eq, wtAll, Try.ntmps88, Try.results88, hh_i6]) ?_ | refine HSub_keep_eq (by simp only [vsAll, binA, binLitA, intA, aggA, boolA, nilA2, isConst, unA, loadA, loadRow, partA, partOk, fieldAddrA, indexAddrA, indexA, fieldA, extractA, lenA, nilCheckA, boxA, cellA, cellsA, fillA, okParts, buildSliceA, buildMutA, makeSliceA, partIdx, elemsA, lensA, ifaceA, convA, mmA, pickA, okAll, stAll, opsA, partsA, partsOk, opA, allocA, boxMutA, newCells, okCells, storeObj, appendA, guardV, taA, nM, mapUpA, lookA, sliceA, boundsA, opO, okO, copyA, dstOk, nilA, quietOk, nilSliceOp, panA, resA, argFr, retA.eq_1, retA.eq_2, Nat.reduceAdd, Nat.reduceSub, Nat.reduceMul, Nat.reduceLT, Nat.reduceLeDiff, Nat.reduceEqDiff, Nat.reduceBEq, Int.reduceAdd, Int.reduceSub, Int.reduceMul, Int.reduceNeg, Int.reduceLE, Int.reduceLT, Int.reduceEq, Int.reduceNe, Int.reduceToNat, ↓reduceIte, reduceCtorEq, implies_true, forall_const, eq_self, ne_eq, wtAll, Try.ntmps88, Try.results88, hh_i6]) ?_))
  · simp only [vsAll, binA, binLitA, intA, opA, dstOk, Nat.reduceLT, Nat.reduceEqDiff, ↓reduceIte, reduceCtorEq, eq_self]
    refine condD (fun hd => ?_) (fun hd => ?_)
    · have hl := wrO_lt x C s o i
      have hp : 2 ^ i ≤ 2 ^ 8 := Nat.pow_le_pow_right (by decide) (by ((try clear hh_i6); omega))
      simp only [vsAll, binA, binLitA, intA, loadA, loadRow, partA, partOk, fieldAddrA, indexAddrA, nilCheckA, cellA, cellsA, pickA, opA, allocA, newCells, okCells, storeObj, guardV, dstOk, nilSliceOp, Nat.reduceAdd, Nat.reduceLT, Nat.reduceEqDiff, Nat.reduceBEq, Int.reduceLE, Int.reduceToNat, ↓reduceIte, reduceCtorEq, implies_true, eq_self, wtAll, clF_at]
      refine ⟨by ((try clear hh_i6); omega), by ((try clear hh_i6); omega), ?_⟩
      intro i9 hh_i9; (try simp only [ite_none] at hh_i9)
      rw [Hp.set_set]
      have hd0 : 0 ≤ (C : Int) / 2 ^ i ∧ (C : Int) / 2 ^ i ≤ C := ⟨Int.ediv_nonneg (by ((try clear hh_i6); (try clear hh_i9); omega)) (Int.le_of_lt (Int.pow_pos (by decide))), Int.ediv_le_self _ (by ((try clear hh_i6); (try clear hh_i9); omega))⟩
      refine ⟨fun g => ⟨g, g, by ((try clear hh_i6); (try clear hh_i9); omega), by ((try clear hh_i6); (try clear hh_i9); omega), rfl⟩, fun g => ⟨g, hd0.1, by simp only [InR_u64]; ((try clear hh_i6); (try clear hh_i9); omega), by simp only [InR_u64]; ((try clear hh_i6); (try clear hh_i9); omega)⟩, ?_⟩
      rw [bit_eq]
      refine gcall _ (fun g => ⟨by simp only [vsAll, opA], by simp only [vsAll, okAll, opsA, opA, ↓reduceIte, eq_self, g], claimOf_tri (x.cl.getD i cl0) _⟩) ?_
      simp only [vsAll, opA, guardV, dstOk, Nat.reduceLT, Nat.reduceEqDiff, ↓reduceIte, reduceCtorEq, implies_true, eq_self]
      refine gcall _ (fun g => ⟨by simp only [vsAll, opA, Nat.reduceEqDiff, ↓reduceIte, eq_self, g], by simp only [vsAll, okAll, opsA, opA, ↓reduceIte, eq_self, g], right_tri (x.cl.getD i cl0) o _⟩) ?_
      simp only [vsAll, unA, pickA, opA, guardV, dstOk, Nat.reduceLT, Nat.reduceEqDiff, ↓reduceIte, implies_true, eq_self]
      have ew : (decide ((x.cl.getD i cl0).s = (s : Int)) && C.testBit i && !rightO (x.cl.getD i cl0) o) = wrB x C s o i := rfl
      refine condV (fun hc => ?_) (fun hc => ?_)
      · rw [ew] at hc
        refine vs_draw2 [0, 0, 0, 0, 0, 1, 3, 5] [([0, 1, 2, 3, 4], [1], 5), ([], [], 6), ([], [], 7)] [] (by decide +kernel) ?_
        simp only [vsAll, binA, binLitA, intA, loadA, loadRow, partA, partOk, cellA, cellsA, fillA, okParts, buildSliceA, partIdx, elemsA, lensA, okAll, stAll, opsA, partsA, partsOk, opA, dstOk, Nat.reduceAdd, Nat.reduceMul, Nat.reduceLT, Nat.reduceLeDiff, Nat.reduceEqDiff, Nat.reduceBEq, ↓reduceIte, reduceCtorEq, eq_self, wtAll, hh_i9]
        have ep : (1 : Int) * 2 ^ i = ((2 ^ i : Nat) : Int) := by rw [Int.one_mul]; simp
        have e : wrO x C s o (i + 1) = ((wrO x C s o i).1 + 1, (wrO x C s o i).2 + 2 ^ i) := by simp only [wrO, hc, if_true]
        refine ⟨⟨by ((try clear hh_i6); (try clear hh_i9); omega), by ((try clear hh_i6); (try clear hh_i9); omega), by rw [ep]; simp only [InR_i64]; ((try clear hh_i6); (try clear hh_i9); omega)⟩, ?_⟩
        refine callK_pure (plus_tri (wrO x C s o i) (1, 2 ^ i) _ (by rw [ep]; rfl) _ ⟨by ((try clear hh_i6); (try clear hh_i9); omega), by ((try clear hh_i6); (try clear hh_i9); omega)⟩ ⟨by simp only; ((try clear hh_i6); (try clear hh_i9); omega), by simp only; ((try clear hh_i6); (try clear hh_i9); omega)⟩) ?_
        simp only [vsAll, binA, binLitA, intA, cellA, cellsA, opA, newCells, okCells, storeObj, dstOk, Nat.reduceAdd, Nat.reduceLT, Nat.reduceEqDiff, ↓reduceIte, reduceCtorEq, eq_self, wtAll, hh_i9]
        refine ⟨by simp only [InR_i64]; ((try clear hh_i6); (try clear hh_i9); omega), loop_next (i + 1) (by ((try clear hh_i6); (try clear hh_i9); omega)) (by ((try clear hh_i6); (try clear hh_i9); omega)) ?_ ?_⟩
        · simp only [vsAll, Nat.reduceEqDiff, ↓reduceIte, reduceCtorEq, eq_self, Int.natCast_add, Int.natCast_one]
        · rw [e]
          (repeat (first | exact HSub_rfl | refine HSub_put_eq (by simp only [vsAll, ↓reduceIte, eq_self]) ?_ | refine HSub_drop2 (by simp only [eq_self, hh_i6, hh_i9]) ?_ | refine HSub_keep_eq (by simp only [vsAll, binA, binLitA, intA, aggA, boolA, nilA2, isConst, unA, loadA, loadRow, partA, partOk, fieldAddrA, indexAddrA, indexA, fieldA, extractA, lenA, nilCheckA, boxA, cellA, cellsA, fillA, okParts, buildSliceA, buildMutA, makeSliceA, partIdx, elemsA, lensA, ifaceA, convA, mmA, pickA, okAll, stAll, opsA, partsA, partsOk, opA, allocA, boxMutA, newCells, okCells, storeObj, appendA, guardV, taA, nM, mapUpA, lookA, sliceA, boundsA, opO, okO, copyA, dstOk, nilA, quietOk, nilSliceOp, panA, resA, argFr, retA.eq_1, retA.eq_2, Nat.reduceAdd, Nat.reduceSub, Nat.reduceMul, Nat.reduceLT, Nat.reduceLeDiff, Nat.reduceEqDiff, Nat.reduceBEq, Int.reduceAdd, Int.reduceSub, Int.reduceMul, Int.reduceNeg, Int.reduceLE, Int.reduceLT, Int.reduceEq, Int.reduceNe, Int.reduceToNat, ↓reduceIte, reduceCtorEq, implies_true, forall_const, eq_self, ne_eq, wtAll, Try.ntmps88, Try.results88, hh_i6, hh_i9]) ?_))
      · rw [ew] at hc
        have e : wrO x C s o (i + 1) = wrO x C s o i := by simp only [wrO, hc, Bool.false_eq_true, if_false]
        simp only [vsAll, binA, binLitA, intA, opA, dstOk, Nat.reduceLT, Nat.reduceEqDiff, ↓reduceIte, reduceCtorEq, eq_self]
        refine ⟨by simp only [InR_i64]; ((try clear hh_i6); (try clear hh_i9); omega), loop_next (i + 1) (by ((try clear hh_i6); (try clear hh_i9); omega)) (by ((try clear hh_i6); (try clear hh_i9); omega)) ?_ ?_⟩
        · simp only [vsAll, Nat.reduceEqDiff, ↓reduceIte, reduceCtorEq, eq_self, Int.natCast_add, Int.natCast_one]
        · rw [e]
          (repeat (first | exact HSub_rfl | refine HSub_put_eq (by simp only [vsAll, ↓reduceIte, eq_self, hh_i9]) ?_ | refine HSub_drop2 (by simp only [eq_self, hh_i6, hh_i9]) ?_ | refine HSub_keep_eq (by simp only [vsAll, binA, binLitA, intA, aggA, boolA, nilA2, isConst, unA, loadA, loadRow, partA, partOk, fieldAddrA, indexAddrA, indexA, fieldA, extractA, lenA, nilCheckA, boxA, cellA, cellsA, fillA, okParts, buildSliceA, buildMutA, makeSliceA, partIdx, elemsA, lensA, ifaceA, convA, mmA, pickA, okAll, stAll, opsA, partsA, partsOk, opA, allocA, boxMutA, newCells, okCells, storeObj, appendA, guardV, taA, nM, mapUpA, lookA, sliceA, boundsA, opO, okO, copyA, dstOk, nilA, quietOk, nilSliceOp, panA, resA, argFr, retA.eq_1, retA.eq_2, Nat.reduceAdd, Nat.reduceSub, Nat.reduceMul, Nat.reduceLT, Nat.reduceLeDiff, Nat.reduceEqDiff, Nat.reduceBEq, Int.reduceAdd, Int.reduceSub, Int.reduceMul, Int.reduceNeg, Int.reduceLE, Int.reduceLT, Int.reduceEq, Int.reduceNe, Int.reduceToNat, ↓reduceIte, reduceCtorEq, implies_true, forall_const, eq_self, ne_eq, wtAll, Try.ntmps88, Try.results88, hh_i6, hh_i9]) ?_))
    · have ei : i = x.cl.length := by ((try clear hh_i6); omega)
      subst ei
      simp only [vsAll, loadA, loadRow, partA, partOk, cellA, cellsA, opA, newCells, okCells, storeObj, dstOk, resA, retA.eq_1, Nat.reduceAdd, Nat.reduceLT, Nat.reduceEqDiff, ↓reduceIte, reduceCtorEq, eq_self, wtAll, Try.results88]
      refine dropR_pure ?_ (by (repeat (first | exact HSub_rfl | refine HSub_put_eq (by simp only [vsAll, binA, binLitA, intA, aggA, boolA, nilA2, isConst, unA, loadA, loadRow, partA, partOk, fieldAddrA, indexAddrA, indexA, fieldA, extractA, lenA, nilCheckA, boxA, cellA, cellsA, fillA, okParts, buildSliceA, buildMutA, makeSliceA, partIdx, elemsA, lensA, ifaceA, convA, mmA, pickA, okAll, stAll, opsA, partsA, partsOk, opA, allocA, boxMutA, newCells, okCells, storeObj, appendA, guardV, taA, nM, mapUpA, lookA, sliceA, boundsA, opO, okO, copyA, dstOk, nilA, quietOk, nilSliceOp, panA, resA, argFr, retA.eq_1, retA.eq_2, Nat.reduceAdd, Nat.reduceSub, Nat.reduceMul, Nat.reduceLT, Nat.reduceLeDiff, Nat.reduceEqDiff, Nat.reduceBEq, Int.reduceAdd, Int.reduceSub, Int.reduceMul, Int.reduceNeg, Int.reduceLE, Int.reduceLT, Int.reduceEq, Int.reduceNe, Int.reduceToNat, ↓reduceIte, reduceCtorEq, implies_true, forall_const, eq_self, ne_eq, wtAll, Try.ntmps88, Try.results88, hh_i6]) ?_ | refine HSub_drop2 (by simp only [eq_self, hh_i6]) ?_ | refine HSub_keep_eq (by simp only [vsAll, binA, binLitA, intA, aggA, boolA, nilA2, isConst, unA, loadA, loadRow, partA, partOk, fieldAddrA, indexAddrA, indexA, fieldA, extractA, lenA, nilCheckA, boxA, cellA, cellsA, fillA, okParts, buildSliceA, buildMutA, makeSliceA, partIdx, elemsA, lensA, ifaceA, convA, mmA, pickA, okAll, stAll, opsA, partsA, partsOk, opA, allocA, boxMutA, newCells, okCells, storeObj, appendA, guardV, taA, nM, mapUpA, lookA, sliceA, boundsA, opO, okO, copyA, dstOk, nilA, quietOk, nilSliceOp, panA, resA, argFr, retA.eq_1, retA.eq_2, Nat.reduceAdd, Nat.reduceSub, Nat.reduceMul, Nat.reduceLT, Nat.reduceLeDiff, Nat.reduceEqDiff, Nat.reduceBEq, Int.reduceAdd, Int.reduceSub, Int.reduceMul, Int.reduceNeg, Int.reduceLE, Int.reduceLT, Int.reduceEq, Int.reduceNe, Int.reduceToNat, ↓reduceIte, reduceCtorEq, implies_true, forall_const, eq_self, ne_eq, wtAll, Try.ntmps88, Try.results88, hh_i6]) ?_)))
      simp only [eq_self]
end Go.Proofs.Ytkonoggmdcdeeaa
end
section
set_option linter.unusedVariables false
set_option linter.unusedSimpArgs false
set_option maxHeartbeats 4000000
set_option maxRecDepth 100000
namespace Go.Proofs.Ytkonoggmdcdeeaa
open Go.V
/-- What is given: the strake that is next, and how many strakes each owner has so far. -/
abbrev givC (s : Int) (u : List Int) : List AV := i64 s :: u.map i64
theorem next_tri (x : Ir) (S C : Nat) (m : Bool) (s a b c d e : Int) (H : Hp) : PTri Try.prog (fnA 94) [irP x S C m, .agg (givC s [a, b, c, d, e])] H (.func (.func 98) [] [.rptr 1 6 (fun _ => givC s [a, b, c, d, e]) 0 0, .rptr 1 1 (fun _ => [irP x S C m]) 0 0]) := by
  refine tri_v0 (fun _ => false) Try.func94 (by kernel_rfl) rfl (by simp only [List.length_append, List.length_cons, List.length_nil, Try.ntmps94]; decide) ?_
  simp only [vsAll, binA, binLitA, intA, aggA, boolA, nilA2, isConst, unA, loadA, loadRow, partA, partOk, fieldAddrA, indexAddrA, indexA, fieldA, extractA, lenA, nilCheckA, boxA, cellA, cellsA, fillA, okParts, buildSliceA, buildMutA, makeSliceA, partIdx, elemsA, lensA, ifaceA, convA, mmA, pickA, okAll, stAll, opsA, partsA, partsOk, opA, allocA, boxMutA, newCells, okCells, storeObj, appendA, guardV, taA, nM, mapUpA, lookA, sliceA, boundsA, opO, okO, copyA, dstOk, nilA, quietOk, nilSliceOp, panA, resA, argFr, retA.eq_1, retA.eq_2, Nat.reduceAdd, Nat.reduceSub, Nat.reduceMul, Nat.reduceLT, Nat.reduceLeDiff, Nat.reduceEqDiff, Nat.reduceBEq, Int.reduceAdd, Int.reduceSub, Int.reduceMul, Int.reduceNeg, Int.reduceLE, Int.reduceLT, Int.reduceEq, Int.reduceNe, Int.reduceToNat, ↓reduceIte, reduceCtorEq, implies_true, forall_const, eq_self, ne_eq, wtAll, Try.ntmps94, Try.results94]
end Go.Proofs.Ytkonoggmdcdeeaa
end
section
set_option linter.unusedVariables false
namespace Go.V
theorem frz_stepB {S : St} {H : Hp} {id st n : Nat} {f : Nat → List AV} (hH : HRel S H) (ho : H id = some (.box st n f)) :
    ∃ S2, S2.w = S.w ∧ Le S S2 ∧ HRel S2 (H.del id) ∧ ∀ i j v, VRel S (.ref id 0 st i j) v → VRel S2 (.rptr n st f i j) v := by
  obtain ⟨b, c, e, hl, hb, hni, hc⟩ := hH.obj id _ ho
  have hle := S.frz_le b
  refine ⟨S.frz b, rfl, hle, ?_, ?_⟩
  · refine ⟨fun i hi => ⟨?_, (hH.fresh i hi).2⟩, ?_, ?_, ?_⟩
    · simp only [Hp.del]; split
      · rfl
      · exact (hH.fresh i hi).1
    · rintro x (hx | rfl)
      · exact hH.immlt x hx
      · exact (Array.getElem?_eq_some_iff.1 hb).1
    · intro i o hi
      have ne : i ≠ id := by intro e; simp [Hp.del, e] at hi
      rw [Hp.del_ne _ ne] at hi
      have old := hH.obj i o hi
      have hne : ∀ x, S.loc i o.gen = .blk x → x ≠ b := fun x hx e => ne (hH.inj i id o _ x hi ho hx (by subst e; exact hl))
      cases o with
      | box st' n' f' =>
        obtain ⟨b', c', e', h1, h2, h3, h4⟩ := old
        exact ⟨b', c', e', h1, h2, fun hx => hx.elim h3 (hne b' h1), h4.1, h4.2.1, fun i j hi hj => (h4.2.2 i j hi hj).mono hle⟩
      | row st' n' f' =>
        obtain ⟨g1, old⟩ := old
        refine ⟨g1, old.imp (fun x => x) ?_⟩
        rintro ⟨b', c', e', h1, h2, h3, h4⟩
        exact ⟨b', c', e', h1, h2, fun hx => hx.elim h3 (hne b' h1), h4.1, h4.2.1, fun i j hi hj => (h4.2.2 i j hi hj).mono hle⟩
      | memo F =>
        obtain ⟨b', es, k, h1, h2, h3, h4⟩ := old
        exact ⟨b', es, k, h1, h2, fun hx => hx.elim h3 (hne b' h1), h4⟩
      | raw o =>
        obtain ⟨b', h1, h2, h3, h4⟩ := old
        exact ⟨b', h1, h2, h3, fun hx => hx.elim h4 (hne b' h1)⟩
      | loop l n s ps assign body st pend did =>
        obtain ⟨h1, h2, fn, tmps, D, h3, h4, h5, h6⟩ := old
        exact ⟨h1, fun hx => hx.elim h2 (hne l h1), fn, tmps, D, h3, h4, h5.mono hle, h6⟩
    · intro i j o o' x hi hj
      have ne : i ≠ id := by intro e; simp [Hp.del, e] at hi
      have ne' : j ≠ id := by intro e; simp [Hp.del, e] at hj
      rw [Hp.del_ne _ ne] at hi
      rw [Hp.del_ne _ ne'] at hj
      exact hH.inj i j o o' x hi hj
  · intro i j v this
    cases this with
    | ref hl' =>
      rw [hl] at hl'; cases hl'
      have := VRel.rptr (S := S.frz b) (i := i) (j := j) (off := 0) (.inr rfl) hb (by rw [Nat.zero_add]; exact hc.1) hc.2.1 (fun i j hi hj => by rw [Nat.zero_add]; exact (hc.2.2 i j hi hj).mono hle)
      rw [Nat.zero_add] at this
      exact this

/-- The box becomes its data in every slot that points to it. -/
theorem Ent.freezeB {s s' : Fr} {ds : List AD} {H : Hp} {K : Fr → List AD → Hp → Prop} {id st n : Nat} {f : Nat → List AV} (ho : H id = some (.box st n f))
    (hs : ∀ t, s' t = s t ∨ ∃ i j, s t = .ref id 0 st i j ∧ s' t = .rptr n st f i j) (h : K s' ds (H.del id)) : Ent s ds H K := by
  intro S a hH hF hD
  obtain ⟨S2, hw, hle, h2, hc⟩ := frz_stepB hH ho
  refine ⟨S2, s', ds, H.del id, hw, hle, h2, fun t => ?_, hD.mono hle, h⟩
  rcases hs t with e | ⟨i, j, e1, e2⟩
  · rw [e]; exact (hF t).mono hle
  · rw [e2]
    have := hF t
    rw [e1] at this
    exact hc _ _ _ this

/-- A rule for a smaller heap holds for the larger one. -/
theorem Tri.less {P : Program} {fv : AV} {args : List AV} {H H' : Hp} {R : Res → Hp → Prop} (hs : HSub H H') (h : Tri P fv args H' R) : Tri P fv args H R :=
  fun S vf vs hH => h S vf vs (hH.sub hs)
end Go.V
end
section
namespace Go.V
variable {α : Type}
/-- What is told of two, where either may be missing. -/
def comb (join : α → α → α) : Option α → Option α → Option α
  | none, y => y
  | some a, none => some a
  | some a, some b => some (join a b)
theorem comb_none (join : α → α → α) (x : Option α) : comb join x none = x := by cases x <;> rfl
theorem none_comb (join : α → α → α) (x : Option α) : comb join none x = x := rfl
theorem comb_assoc {join : α → α → α} (hj : ∀ a b c, join (join a b) c = join a (join b c)) (x y z : Option α) : comb join (comb join x y) z = comb join x (comb join y z) := by
  cases x <;> cases y <;> cases z <;> simp [comb, hj]
/-- Of all of a list. -/
def foldJ (join : α → α → α) : List α → Option α
  | [] => none
  | a :: l => comb join (some a) (foldJ join l)
theorem foldJ_append {join : α → α → α} (hj : ∀ a b c, join (join a b) c = join a (join b c)) (l l' : List α) : foldJ join (l ++ l') = comb join (foldJ join l) (foldJ join l') := by
  induction l with
  | nil => rfl
  | cons a l ih => simp only [List.cons_append, foldJ, ih, comb_assoc hj]
theorem foldJ_map {join : α → α → α} {f : α → α} (hf : ∀ a b, f (join a b) = join (f a) (f b)) (l : List α) : foldJ join (l.map f) = (foldJ join l).map f := by
  induction l with
  | nil => rfl
  | cons a l ih =>
    simp only [List.map_cons, foldJ, ih]
    cases foldJ join l with
    | none => rfl
    | some b => simp only [comb, Option.map_some, hf]
theorem foldJ_none {join : α → α → α} (l : List α) : foldJ join l = none ↔ l = [] := by
  cases l with
  | nil => simp [foldJ]
  | cons a l => simp only [foldJ]; cases foldJ join l <;> simp [comb]
theorem foldJ_flat {β : Type} {join : α → α → α} (hj : ∀ a b c, join (join a b) c = join a (join b c)) (f : β → List α) (l : List β) (acc : Option α) :
    l.foldl (fun z p => comb join z (foldJ join (f p))) acc = comb join acc (foldJ join (l.flatMap f)) := by
  induction l generalizing acc with
  | nil => simp [foldJ, comb_none]
  | cons p l ih =>
    simp only [List.foldl_cons, ih, List.flatMap_cons, foldJ_append hj, comb_assoc hj]
end Go.V
end
section
set_option linter.unusedVariables false
set_option linter.unusedSimpArgs false
namespace Go.Proofs.Ytkonoggmdcdeeaa
open Go.V
/-- The owner may go to the strake that is next. -/
def goB (x : Ir) (C : Nat) (m : Bool) (s : Nat) (u : List Int) (o : Nat) : Bool := !decide (u.getD o 0 = x.mo.getD o 0) && fitB x o s && !(m && decide (0 < (wrO x C s o x.cl.length).1))
/-- Who is next, and what is given then. -/
def nxt (x : Ir) (S C : Nat) (m : Bool) (s : Nat) (u : List Int) : List (Int × List Int) :=
  if S.testBit s then ((List.range x.ow.length).filter (goB x C m s u)).map fun o : Nat => ((o : Int), u.set o (u.getD o 0 + 1)) else [(-1, u)]
section
variable {α : Type} (x : Ir) (S C : Nat) (m : Bool) (e : α) (more : Nat → Int → α → α) (join : α → α → α)
/-- What is told of all truths that go on from something; none: there is no truth. -/
def tl : Nat → Nat → List Int → Option α
  | 0, _, _ => some e
  | n + 1, s, u => (nxt x S C m s u).foldl (fun z p => comb join z ((tl n (s + 1) p.2).map (more s p.1))) none
/-- The truths that go on from something, from this strake on. -/
def cont : Nat → Nat → List Int → List (List Int)
  | 0, _, _ => [[]]
  | n + 1, s, u => (nxt x S C m s u).flatMap fun p => (cont n (s + 1) p.2).map (p.1 :: ·)
def valT : Nat → List Int → α
  | _, [] => e
  | s, o :: t => more s o (valT (s + 1) t)
theorem tl_eq (hj : ∀ a b c, join (join a b) c = join a (join b c)) (hm : ∀ s o a b, more s o (join a b) = join (more s o a) (more s o b)) :
    ∀ n s u, tl x S C m e more join n s u = foldJ join ((cont x S C m n s u).map (valT e more s)) := by
  intro n
  induction n with
  | zero => intro s u; rfl
  | succ n ih =>
    intro s u
    simp only [tl, cont]
    have h1 : (fun (z : Option α) (p : Int × List Int) => comb join z ((tl x S C m e more join n (s + 1) p.2).map (more s p.1))) = fun z p => comb join z (foldJ join (((cont x S C m n (s + 1) p.2).map (p.1 :: ·)).map (valT e more s))) := by
      funext z p
      rw [ih, ← foldJ_map (hm s p.1)]
      simp only [List.map_map]
      rfl
    rw [h1, foldJ_flat hj, none_comb, List.map_flatMap]
end
theorem cntB_snoc (b : List Int) (z o : Int) : cntB (b ++ [z]) o = cntB b o + if z = o then 1 else 0 := by
  simp only [cntB, List.countP_append, List.countP_cons, List.countP_nil, Nat.zero_add]
  congr 1
  split <;> simp_all
/-- Without what must be, these are the truths of the document. -/
theorem tru_cont (x : Ir) (S C : Nat) (hO : x.ow.length ≤ 5) : ∀ n b u, u.length = 5 → (∀ o : Nat, o < x.ow.length → u.getD o 0 = (cntB b o : Int) ∧ (cntB b o : Int) ≤ x.mo.getD o 0) →
    tru x S n b = (cont x S C false n b.length u).map (b ++ ·) := by
  intro n
  induction n with
  | zero => intro b u _ _; simp [tru, cont]
  | succ n ih =>
    intro b u h5 hu
    simp only [tru, cont, nxt]
    by_cases hb : S.testBit b.length = true
    · simp only [hb, if_true, List.flatMap_map, List.map_flatMap, List.map_map]
      have e1 : ∀ (l : List Nat), (∀ o ∈ l, o < x.ow.length) → (l.flatMap fun o : Nat => if canO x b o = true then tru x S n (b ++ [(o : Int)]) else []) =
          (l.filter (goB x C false b.length u)).flatMap fun o : Nat => (cont x S C false n (b.length + 1) (u.set o (u.getD o 0 + 1))).map ((b ++ ·) ∘ ((o : Int) :: ·)) := by
        intro l hl
        induction l with
        | nil => rfl
        | cons o l ihl =>
          have ho := hl o (by simp)
          have h2 := hu o ho
          have hg : goB x C false b.length u o = canO x b o := by
            simp only [goB, canO, Bool.false_and, Bool.not_false, Bool.and_true, h2.1]
            rw [Bool.and_comm]
            congr 1
            rw [← decide_not]
            exact decide_eq_decide.2 (by omega)
          simp only [List.flatMap_cons, List.filter_cons, hg]
          rw [ihl (fun q hq => hl q (by simp [hq]))]
          by_cases hc : canO x b o = true
          · simp only [hc, if_true, List.flatMap_cons]
            congr 1
            rw [ih (b ++ [(o : Int)]) (u.set o (u.getD o 0 + 1)) (by simpa using h5) (fun q hq => ?_)]
            · simp only [List.length_append, List.length_cons, List.length_nil, Nat.zero_add]
              congr 1
              funext t
              simp
            · have h3 := hu q hq
              rw [cntB_snoc]
              simp only [canO, Bool.and_eq_true, decide_eq_true_eq] at hc
              by_cases eq : o = q
              · subst eq
                rw [if_pos rfl]
                have : (u.set o (u.getD o 0 + 1)).getD o 0 = u.getD o 0 + 1 := by
                  simp [List.getD, h5, show o < 5 by omega]
                rw [this]
                omega
              · rw [if_neg (by omega)]
                have : (u.set o (u.getD o 0 + 1)).getD q 0 = u.getD q 0 := by
                  simp [List.getD, List.getElem?_set_ne eq]
                rw [this]
                omega
          · simp only [hc, if_false, List.nil_append]; rfl
      rw [e1 _ (fun o ho => List.mem_range.1 ho)]
    · simp only [hb, if_false, List.flatMap_cons, List.flatMap_nil, List.append_nil, List.map_map]
      rw [Bool.not_eq_true] at hb
      simp only [Bool.false_eq_true, if_false, List.flatMap_cons, List.flatMap_nil, List.append_nil, List.map_map]
      rw [ih (b ++ [-1]) u h5 (fun o ho => by rw [cntB_snoc, if_neg (by omega)]; exact hu o ho)]
      simp only [List.length_append, List.length_cons, List.length_nil, Nat.zero_add]
      congr 1
      funext t
      simp
/-- Nothing given yet. -/
def u0 : List Int := [0, 0, 0, 0, 0]
theorem truS_cont (x : Ir) (S C : Nat) (k : Gd x) : truS x S = cont x S C false x.st.length 0 u0 := by
  have := tru_cont x S C k.nO x.st.length [] u0 rfl (fun o ho => by
    have h1 := k.mo o ho
    have h2 := k.nO
    have : o = 0 ∨ o = 1 ∨ o = 2 ∨ o = 3 ∨ o = 4 := by omega
    refine ⟨?_, by simpa [cntB] using h1.1⟩
    rcases this with rfl | rfl | rfl | rfl | rfl <;> rfl)
  rw [truS, this]
  simp

def moreN (_ : Nat) (_ : Int) (r : Nat) : Nat := r
def joinN (a b : Nat) : Nat := a + b
def moreO (t : Nat) (s : Nat) (o : Int) (r : Nat) : Nat := if s = t then 2 ^ o.toNat else r
def joinO (a b : Nat) : Nat := a ||| b
theorem foldN (l : List Nat) (h : ∀ a ∈ l, a = 1) : (foldJ joinN l).getD 0 = l.length := by
  induction l with
  | nil => rfl
  | cons a l ih =>
    have h1 := h a (by simp)
    have h2 := ih (fun b hb => h b (by simp [hb]))
    simp only [foldJ]
    cases hf : foldJ joinN l with
    | none => rw [hf] at h2; simp only [Option.getD_none] at h2; simp [comb, h1, ← h2]
    | some b => rw [hf] at h2; simp only [Option.getD_some] at h2; simp [comb, joinN, h1, h2]; omega
theorem foldO_bit (l : List Nat) (o : Nat) : ((foldJ joinO l).getD 0).testBit o = true ↔ ∃ a ∈ l, a.testBit o = true := by
  induction l with
  | nil => simp [foldJ]
  | cons a l ih =>
    simp only [foldJ]
    cases hf : foldJ joinO l with
    | none => rw [hf] at ih; simp only [Option.getD_none, Nat.zero_testBit, Bool.false_eq_true, false_iff] at ih; simp only [comb, Option.getD_some, List.mem_cons, exists_eq_or_imp]; exact ⟨fun h => .inl h, fun h => h.elim id fun h => absurd h ih⟩
    | some b => rw [hf] at ih; simp only [Option.getD_some] at ih; simp only [comb, joinO, Option.getD_some, Nat.testBit_or, Bool.or_eq_true, List.mem_cons, exists_eq_or_imp, ih]
theorem valN (s : Nat) (t : List Int) : valT 1 moreN s t = 1 := by
  induction t generalizing s with
  | nil => rfl
  | cons o t ih => exact ih (s + 1)
theorem valO (t : Nat) (s : Nat) (l : List Int) (h1 : s ≤ t) (h2 : t < s + l.length) : valT 0 (moreO t) s l = 2 ^ (l.getD (t - s) 0).toNat := by
  induction l generalizing s with
  | nil => simp at h2; omega
  | cons o l ih =>
    simp only [valT, moreO]
    by_cases e : s = t
    · subst e; simp
    · rw [if_neg e, ih (s + 1) (by omega) (by simp at h2; omega)]
      obtain ⟨d, hd⟩ : ∃ d, t - s = d + 1 := ⟨t - s - 1, by omega⟩
      rw [hd, List.getD_cons_succ, show t - (s + 1) = d by omega]

end Go.Proofs.Ytkonoggmdcdeeaa
end
section
set_option linter.unusedVariables false
set_option linter.unusedSimpArgs false
namespace Go.V
theorem tri_bound {P : Program} {f : FuncId} {recv : AV} {args : List AV} {H : Hp} {R : Res → Hp → Prop} (h : Tri P (fnA f) (recv :: args) H R) :
    Tri P (.func (.func f) [recv] []) args H R := by
  intro S vf vs hH hvf ha
  cases hvf with
  | @func _ _ _ ws us hn hu h1 h2 =>
    have hw : ∃ x, ws = #[x] := by
      have : ws.size = 1 := by simpa using hn
      exact ⟨ws[0], Array.ext (by simp [this]) (fun i h1 h2 => by
        have : i = 0 := by simp at h2; omega
        subst this; rfl)⟩
    obtain ⟨x, rfl⟩ := hw
    have hus : us = #[] := by simpa using hu
    subst hus
    have hx := h1 0 (by simp)
    simp only [List.getD_cons_zero] at hx
    have hx' : VRel S recv x := by simpa [Array.getD_eq_getD_getElem?] using hx
    obtain ⟨nx, e1, e2⟩ := h S (.func (.func f) #[] #[]) (x :: vs) hH (.func rfl rfl (fun k hk => absurd hk (by simp)) (fun k hk => absurd hk (by simp)))
        ⟨by simp [ha.1], fun k hk => by
          cases k with
          | zero => exact hx'
          | succ k => simpa using ha.2 k (by simpa using hk)⟩
    refine ⟨nx, ?_, e2⟩
    rw [← e1]
    simp only [Deferred.ofValue, Sem.run_bind, Sem.run_pure, Result.andThen_ok, invoke]
    simp
end Go.V
end
section
set_option linter.unusedVariables false
set_option linter.unusedSimpArgs false
set_option maxHeartbeats 4000000
set_option maxRecDepth 100000
namespace Go.Proofs.Ytkonoggmdcdeeaa
open Go.V
abbrev nextF (x : Ir) (S C : Nat) (m : Bool) (s : Int) (u : List Int) : AV := .func (.func 98) [] [.rptr 1 6 (fun _ => givC s u) 0 0, .rptr 1 1 (fun _ => [irP x S C m]) 0 0]
def nextW (x : Ir) (C : Nat) (m : Bool) (s : Nat) (u : List Int) (l : List Nat) : List (List AV) := (l.filter (goB x C m s u)).map fun o : Nat => [i64 o, .agg (givC ((s : Int) + 1) (u.set o (u.getD o 0 + 1)))]
def nextL (x : Ir) (S C : Nat) (m : Bool) (s : Nat) (u : List Int) : List (List AV) := if S.testBit s then nextW x C m s u (List.range x.ow.length) else [[i64 (-1), .agg (givC ((s : Int) + 1) u)]]
theorem nextW_drop (x : Ir) (C : Nat) (m : Bool) (s : Nat) (u : List Int) (o : Nat) (ho : o < x.ow.length) :
    nextW x C m s u ((List.range x.ow.length).drop o) = if goB x C m s u o = true then [i64 o, .agg (givC ((s : Int) + 1) (u.set o (u.getD o 0 + 1)))] :: nextW x C m s u ((List.range x.ow.length).drop (o + 1)) else nextW x C m s u ((List.range x.ow.length).drop (o + 1)) := by
  rw [List.drop_eq_getElem_cons (by simpa using ho)]
  simp only [List.getElem_range, nextW, List.filter_cons]
  split <;> rfl

theorem nextL_eq (x : Ir) (S C : Nat) (m : Bool) (s : Nat) (u : List Int) : nextL x S C m s u = (nxt x S C m s u).map fun p => [i64 p.1, .agg (givC ((s : Int) + 1) p.2)] := by
  simp only [nextL, nxt, nextW]
  split
  · rw [List.map_map]; rfl
  · rfl

theorem bit_eq0 (C i : Nat) : decide ((((((C : Int) / 2 ^ i).toNat &&& 1 : Nat) : Int)) = 0) = !C.testBit i := by
  have h := bit_eq C i
  have e : (((C : Int) / 2 ^ i).toNat &&& 1 : Nat) < 2 := by rw [Nat.and_one_is_mod]; omega
  rw [← h, ← decide_not]
  exact decide_eq_decide.2 (by omega)
theorem givC_at (s a b c d e : Int) (o : Nat) (ho : o < 5) : (List.drop (1 + o * 1) (givC s [a, b, c, d, e])).getD 0 AV.any = i64 ([a, b, c, d, e].getD o 0) := by
  have : o = 0 ∨ o = 1 ∨ o = 2 ∨ o = 3 ∨ o = 4 := by omega
  rcases this with rfl | rfl | rfl | rfl | rfl <;> rfl
theorem givL_at (s a b c d e : Int) (o : Nat) (ho : o < 5) : (List.drop (1 + o * 1) [i64 s, i64 a, i64 b, i64 c, i64 d, i64 e]).getD 0 AV.any = i64 ([a, b, c, d, e].getD o 0) := givC_at s a b c d e o ho
theorem givL_set (s a b c d e y : Int) (o : Nat) (ho : o < 5) : List.take 6 (List.take (1 + o * 1) [i64 s, i64 a, i64 b, i64 c, i64 d, i64 e] ++ [i64 y] ++ List.drop (1 + o * 1) [i64 a, i64 b, i64 c, i64 d, i64 e]) = givC s ([a, b, c, d, e].set o y) := by
  have : o = 0 ∨ o = 1 ∨ o = 2 ∨ o = 3 ∨ o = 4 := by omega
  rcases this with rfl | rfl | rfl | rfl | rfl <;> rfl
theorem getD_bound {l : List Int} (hl : ∀ z ∈ l, 0 ≤ z ∧ z ≤ 1000) (o : Nat) : 0 ≤ l.getD o 0 ∧ l.getD o 0 ≤ 1000 := by
  by_cases h : o < l.length
  · rw [List.getD_eq_getElem?_getD, List.getElem?_eq_getElem h]; exact hl _ (List.getElem_mem h)
  · rw [List.getD_eq_getElem?_getD, List.getElem?_eq_none (by omega)]; simp
theorem next1_tri (x : Ir) (S C : Nat) (m : Bool) (s : Nat) (a b c d e : Int) (k : Gd x) (hs : s < x.st.length) (hS : S < 2 ^ 60) (hC : C < 2 ^ 60) (hu : ∀ z ∈ [a, b, c, d, e], 0 ≤ z ∧ z ≤ 1000) (yf : Fn) (H : Hp) (Pre K : Hp → Prop)
    (hit : Iter Try.prog (.func yf [] []) Pre (nextL x S C m s [a, b, c, d, e]) H K) :
    Tri Try.prog (nextF x S C m s [a, b, c, d, e]) [.func yf [] []] H fun r H' => (∃ v, r = .ret v) ∧ K H' := by
  have nS := k.nS
  refine tri_v0 (fun _ => false) Try.func98 (by kernel_rfl) rfl (by simp only [List.length_append, List.length_cons, List.length_nil, Try.ntmps98]; decide) ?_
  simp only [vsAll, binA, binLitA, intA, loadA, loadRow, partA, partOk, fieldAddrA, cellA, cellsA, opA, allocA, newCells, okCells, storeObj, dstOk, argFr, Nat.reduceAdd, Nat.reduceLT, Nat.reduceLeDiff, Nat.reduceEqDiff, Int.reduceNeg, ↓reduceIte, eq_self, wtAll, Try.ntmps98]
  intro i4 hh_i4; (try simp only [Hp.set_none, ite_none] at hh_i4)
  refine ⟨by simp only [InR_i64]; ((try clear hh_i4); omega), ?_⟩
  refine vs_entR (Ent.of [(4, .ref i4 0 6 0 0), (0, .func yf [] []), (1, .rptr 1 6 (fun _ => givC s [a, b, c, d, e]) 0 0), (2, .rptr 1 1 (fun _ => [irP x S C m]) 0 0)] (H' := H.set i4 (.box 6 1 fun _ => [i64 ((s : Int) + 1), i64 a, i64 b, i64 c, i64 d, i64 e])) (by simp only [vsAll, argFr, Nat.reduceEqDiff, ↓reduceIte, reduceCtorEq, eq_self]) (by (repeat (first | exact HSub_rfl | refine HSub_put_eq (by simp only [vsAll, ↓reduceIte, eq_self]) ?_ | refine HSub_drop2 (by simp only [eq_self, hh_i4]) ?_ | refine HSub_keep_eq (by simp only [vsAll, binA, binLitA, intA, aggA, boolA, nilA2, isConst, unA, loadA, loadRow, partA, partOk, fieldAddrA, indexAddrA, indexA, fieldA, extractA, lenA, nilCheckA, boxA, cellA, cellsA, fillA, okParts, buildSliceA, buildMutA, makeSliceA, partIdx, elemsA, lensA, ifaceA, convA, mmA, pickA, okAll, stAll, opsA, partsA, partsOk, opA, allocA, boxMutA, newCells, okCells, storeObj, appendA, guardV, taA, nM, mapUpA, lookA, sliceA, boundsA, opO, okO, copyA, dstOk, nilA, quietOk, nilSliceOp, panA, resA, argFr, retA.eq_1, retA.eq_2, Nat.reduceAdd, Nat.reduceSub, Nat.reduceMul, Nat.reduceLT, Nat.reduceLeDiff, Nat.reduceEqDiff, Nat.reduceBEq, Int.reduceAdd, Int.reduceSub, Int.reduceMul, Int.reduceNeg, Int.reduceLE, Int.reduceLT, Int.reduceEq, Int.reduceNe, Int.reduceToNat, ↓reduceIte, reduceCtorEq, implies_true, forall_const, eq_self, ne_eq, wtAll, Try.ntmps98, Try.results98, hh_i4]) ?_))) ?_)
  refine vs_entR (Ent.freezeB (id := i4) (s' := Fr.of [(4, .rptr 1 6 (fun _ => givC ((s : Int) + 1) [a, b, c, d, e]) 0 0), (0, .func yf [] []), (1, .rptr 1 6 (fun _ => givC s [a, b, c, d, e]) 0 0), (2, .rptr 1 1 (fun _ => [irP x S C m]) 0 0)]) (Hp.set_same _ _ _) (fun t => ?_) ?_)
  · by_cases ht : t = 4
    · subst ht
      exact .inr ⟨0, 0, rfl, rfl⟩
    · left
      simp only [Fr.of]
      simp [ht]
  rw [set_del hh_i4]
  have hd0 : 0 ≤ (S : Int) / 2 ^ s ∧ (S : Int) / 2 ^ s ≤ S := ⟨Int.ediv_nonneg (by ((try clear hh_i4); omega)) (Int.le_of_lt (Int.pow_pos (by decide))), Int.ediv_le_self _ (by ((try clear hh_i4); omega))⟩
  refine vs_draw2 [0, 0, 0, 0, 0, 0, 0, 0, 0] [] [0, 1, 2, 3, 4, 5, 6, 7, 8] (by decide +kernel) ?_
  simp only [vsAll, binA, binLitA, intA, loadA, loadRow, partA, partOk, fieldAddrA, nilCheckA, opA, dstOk, Nat.reduceLT, Nat.reduceEqDiff, Int.reduceNeg, Int.reduceLE, Int.reduceToNat, ↓reduceIte, reduceCtorEq, eq_self, wtAll]
  rw [bit_eq0]
  refine ⟨⟨by ((try clear hh_i4); omega), by ((try clear hh_i4); omega), rfl⟩, ⟨hd0.1, by simp only [InR_u64]; ((try clear hh_i4); omega), by simp only [InR_u64]; ((try clear hh_i4); omega)⟩, condV (fun hc => ?_) (fun hc => ?_)⟩
  · have hL : nextL x S C m s [a, b, c, d, e] = [[i64 (-1), .agg (givC ((s : Int) + 1) [a, b, c, d, e])]] := by
      rw [Bool.not_eq_true'] at hc
      simp only [nextL, hc, Bool.false_eq_true, if_false]
    rw [hL] at hit
    simp only [vsAll, loadA, loadRow, partA, partOk, okAll, stAll, opsA, opA, dstOk, Nat.reduceLT, Nat.reduceEqDiff, Int.reduceNeg, ↓reduceIte, reduceCtorEq, eq_self, wtAll]
    refine callK hit.2 ?_
    rintro r H'' (⟨rfl, hr⟩ | ⟨rfl, hr⟩)
    · simp only [vsAll, resA, retA.eq_2, Int.reduceNeg, eq_self, Try.results98]
      exact ⟨⟨_, rfl⟩, hr⟩
    · simp only [vsAll, resA, retA.eq_2, Int.reduceNeg, eq_self, Try.results98]
      exact ⟨⟨_, rfl⟩, hr⟩
  · have hL : nextL x S C m s [a, b, c, d, e] = nextW x C m s [a, b, c, d, e] (List.range x.ow.length) := by
      rw [Bool.not_eq_false'] at hc
      simp only [nextL, hc, if_true]
    rw [hL] at hit
    simp only [vsAll, loadA, loadRow, partA, partOk, fieldAddrA, lenA, nilCheckA, okAll, stAll, opsA, opA, dstOk, nilSliceOp, Nat.reduceLT, Nat.reduceEqDiff, ↓reduceIte, reduceCtorEq, eq_self, wtAll]
    refine vs_loop (σ := Nat × Hp) (fun y => y.1 ≤ x.ow.length ∧ Iter Try.prog (.func yf [] []) Pre (nextW x C m s [a, b, c, d, e] ((List.range x.ow.length).drop y.1)) y.2 K)
      (fun y => [(0, .func yf [] []), (1, .rptr 1 6 (fun _ => givC s [a, b, c, d, e]) 0 0), (2, .rptr 1 1 (fun _ => [irP x S C m]) 0 0), (4, .rptr 1 6 (fun _ => givC ((s : Int) + 1) [a, b, c, d, e]) 0 0), (5, .func (.func 46) [irP x S C m] []), (32, i64 x.ow.length), (33, i64 y.1)]) (fun y => y.2) (fun y => x.ow.length - y.1) (0, H) ⟨by ((try clear hh_i4); omega), hit⟩ ?_ (HSub.refl _) fun y hy => ?_
    · simp only [vsAll, Nat.reduceEqDiff, ↓reduceIte, reduceCtorEq, eq_self, Int.natCast_zero]
    · obtain ⟨o, H'⟩ := y
      obtain ⟨ho, hy⟩ := hy
      simp only [vsAll, binA, binLitA, intA, opA, dstOk, Nat.reduceLT, Nat.reduceEqDiff, ↓reduceIte, reduceCtorEq, eq_self]
      refine condD (fun hd => ?_) (fun hd => ?_)
      · simp only [] at ho hy hd
        have hol : o < x.ow.length := by ((try clear hh_i4); omega)
        rw [nextW_drop x C m s _ o hol] at hy
        have nO := k.nO
        simp only [vsAll, opA, dstOk, nilSliceOp, Nat.reduceLT, Nat.reduceEqDiff, ↓reduceIte, reduceCtorEq, eq_self]
        refine vs_draw2 [0, 0, 0, 0, 0, 0, 0, 0, 0, 0, 0, 0, 0, 0, 0, 0, 0, 0, 0, 0, 0, 0, 0, 0, 0, 0, 0, 0, 0, 0, 0, 0, 0, 0, 0, 0] [] [0, 1, 2, 3, 4, 5, 6, 7, 8, 9, 10, 11, 12, 13, 14, 15, 16, 17, 18, 19, 20, 21, 22, 23, 24, 25, 26, 27, 28, 29, 30, 31, 32, 33, 34, 35] (by decide +kernel) ?_
        have hg := givC_at s a b c d e o (by ((try clear hh_i4); omega))
        have hub := getD_bound hu o
        generalize hz : [a, b, c, d, e].getD o 0 = z at hg hub hy
        have nM := k.nM
        simp only [vsAll, binA, binLitA, intA, loadA, loadRow, partA, partOk, fieldAddrA, indexAddrA, nilCheckA, opA, guardV, nM, dstOk, Nat.reduceLT, Nat.reduceEqDiff, ↓reduceIte, reduceCtorEq, implies_true, eq_self, wtAll, intF_at, hg]
        refine ⟨by ((try clear hh_i4); omega), by ((try clear hh_i4); omega), by ((try clear hh_i4); omega), by ((try clear hh_i4); omega), ?_⟩
        refine qgcall _ (fun g => ⟨by simp only [vsAll, opA, Nat.reduceEqDiff, ↓reduceIte, eq_self, g], by simp only [vsAll, okAll, opsA, opA, Nat.reduceEqDiff, ↓reduceIte, eq_self, g], tri_bound (wfit_tri x S C m o s _ k hol hs)⟩) ?_
        simp only [vsAll, unA, loadA, loadRow, partA, partOk, fieldAddrA, nilCheckA, pickA, opA, guardV, dstOk, Nat.reduceLT, Nat.reduceEqDiff, ↓reduceIte, reduceCtorEq, implies_true, eq_self, wtAll]
        refine qgcall _ (fun g => ⟨by simp only [vsAll, opA], by simp only [vsAll, okAll, opsA, opA, Nat.reduceEqDiff, ↓reduceIte, eq_self, g], wrong_tri x S C m s o _ k hC⟩) ?_
        simp only [vsAll, binA, binLitA, intA, partA, fieldA, pickA, opA, guardV, dstOk, Nat.reduceAdd, Nat.reduceLT, Nat.reduceLeDiff, Nat.reduceEqDiff, ↓reduceIte, implies_true, eq_self, wtAll]
        have ego : goB x C m s [a, b, c, d, e] o = !(decide (z = x.mo.getD o 0) || !fitB x o s || m && decide (0 < ((wrO x C s (o : Int) x.cl.length).1 : Int))) := by
          simp only [goB, hz, Bool.not_or, Bool.not_not, Int.natCast_pos]
        rw [ego] at hy
        refine ⟨fun g => ⟨g, fun g2 => by rw [g, g2]; rfl⟩, condV (fun hc2 => ?_) (fun hc2 => ?_)⟩
        · rw [hc2, if_neg (by simp)] at hy
          simp only [vsAll, binA, binLitA, intA, opA, dstOk, Nat.reduceLT, Nat.reduceEqDiff, ↓reduceIte, reduceCtorEq, eq_self]
          refine ⟨by simp only [InR_i64]; ((try clear hh_i4); omega), loop_next (o + 1, H') ⟨by simp only []; ((try clear hh_i4); omega), hy⟩ (by simp only []; ((try clear hh_i4); omega)) ?_ (HSub.refl _)⟩
          simp only [vsAll, Nat.reduceEqDiff, ↓reduceIte, reduceCtorEq, eq_self, Int.natCast_add, Int.natCast_one]
        · rw [hc2, Bool.not_false, if_pos rfl] at hy
          have hg2 := givL_at ((s : Int) + 1) a b c d e o (by ((try clear hh_i4); omega))
          rw [hz] at hg2
          have hg3 := givL_set ((s : Int) + 1) a b c d e (z + 1) o (by ((try clear hh_i4); omega))
          simp only [vsAll, binA, binLitA, intA, loadA, loadRow, partA, partOk, fieldAddrA, indexAddrA, cellA, cellsA, okAll, stAll, opsA, opA, allocA, newCells, okCells, storeObj, dstOk, Nat.reduceAdd, Nat.reduceLT, Nat.reduceLeDiff, Nat.reduceEqDiff, ↓reduceIte, reduceCtorEq, eq_self, wtAll, hg2]
          intro i7 hh_i7; (try simp only [Hp.set_none, ite_none] at hh_i7)
          refine ⟨by ((try clear hh_i4); (try clear hh_i7); omega), by ((try clear hh_i4); (try clear hh_i7); omega), by simp only [InR_i64]; ((try clear hh_i4); (try clear hh_i7); omega), by ((try clear hh_i4); (try clear hh_i7); omega), by ((try clear hh_i4); (try clear hh_i7); omega), ?_⟩
          rw [hg3]
          refine callK (Tri.less (by (repeat (first | exact HSub_rfl | refine HSub_put_eq (by simp only [vsAll, binA, binLitA, intA, aggA, boolA, nilA2, isConst, unA, loadA, loadRow, partA, partOk, fieldAddrA, indexAddrA, indexA, fieldA, extractA, lenA, nilCheckA, boxA, cellA, cellsA, fillA, okParts, buildSliceA, buildMutA, makeSliceA, partIdx, elemsA, lensA, ifaceA, convA, mmA, pickA, okAll, stAll, opsA, partsA, partsOk, opA, allocA, boxMutA, newCells, okCells, storeObj, appendA, guardV, taA, nM, mapUpA, lookA, sliceA, boundsA, opO, okO, copyA, dstOk, nilA, quietOk, nilSliceOp, panA, resA, argFr, retA.eq_1, retA.eq_2, Nat.reduceAdd, Nat.reduceSub, Nat.reduceMul, Nat.reduceLT, Nat.reduceLeDiff, Nat.reduceEqDiff, Nat.reduceBEq, Int.reduceAdd, Int.reduceSub, Int.reduceMul, Int.reduceNeg, Int.reduceLE, Int.reduceLT, Int.reduceEq, Int.reduceNe, Int.reduceToNat, ↓reduceIte, reduceCtorEq, implies_true, forall_const, eq_self, ne_eq, wtAll, Try.ntmps98, Try.results98, hh_i4, hh_i7]) ?_ | refine HSub_drop2 (by simp only [eq_self, hh_i7]) ?_ | refine HSub_keep_eq (by simp only [vsAll, binA, binLitA, intA, aggA, boolA, nilA2, isConst, unA, loadA, loadRow, partA, partOk, fieldAddrA, indexAddrA, indexA, fieldA, extractA, lenA, nilCheckA, boxA, cellA, cellsA, fillA, okParts, buildSliceA, buildMutA, makeSliceA, partIdx, elemsA, lensA, ifaceA, convA, mmA, pickA, okAll, stAll, opsA, partsA, partsOk, opA, allocA, boxMutA, newCells, okCells, storeObj, appendA, guardV, taA, nM, mapUpA, lookA, sliceA, boundsA, opO, okO, copyA, dstOk, nilA, quietOk, nilSliceOp, panA, resA, argFr, retA.eq_1, retA.eq_2, Nat.reduceAdd, Nat.reduceSub, Nat.reduceMul, Nat.reduceLT, Nat.reduceLeDiff, Nat.reduceEqDiff, Nat.reduceBEq, Int.reduceAdd, Int.reduceSub, Int.reduceMul, Int.reduceNeg, Int.reduceLE, Int.reduceLT, Int.reduceEq, Int.reduceNe, Int.reduceToNat, ↓reduceIte, reduceCtorEq, implies_true, forall_const, eq_self, ne_eq, wtAll, Try.ntmps98, Try.results98, hh_i4, hh_i7]) ?_))) hy.2) ?_
          rintro r H'' (⟨rfl, hr⟩ | ⟨rfl, hr⟩)
          · simp only [vsAll, binA, binLitA, intA, unA, opA, dstOk, Nat.reduceLT, Nat.reduceEqDiff, ↓reduceIte, reduceCtorEq, eq_self]
            refine ⟨by simp only [InR_i64]; ((try clear hh_i4); (try clear hh_i7); omega), loop_next (o + 1, H'') ⟨by simp only []; ((try clear hh_i4); (try clear hh_i7); omega), hr⟩ (by simp only []; ((try clear hh_i4); (try clear hh_i7); omega)) ?_ (HSub.refl _)⟩
            simp only [vsAll, Nat.reduceEqDiff, ↓reduceIte, reduceCtorEq, eq_self, Int.natCast_add, Int.natCast_one]
          · simp only [vsAll, unA, opA, dstOk, resA, retA.eq_2, Nat.reduceLT, ↓reduceIte, eq_self, Try.results98]
            exact ⟨⟨_, rfl⟩, hr⟩
      · simp only [] at ho hy hd
        have eo : o = x.ow.length := by ((try clear hh_i4); omega)
        subst eo
        have : (List.range x.ow.length).drop x.ow.length = [] := List.drop_eq_nil_of_le (by simp)
        rw [this] at hy
        simp only [vsAll, resA, retA.eq_2, ↓reduceIte, eq_self, Try.results98]
        exact ⟨⟨_, rfl⟩, hy⟩
end Go.Proofs.Ytkonoggmdcdeeaa
end
section
set_option linter.unusedVariables false
set_option linter.unusedSimpArgs false
namespace Go.V
theorem mapM_all {α β : Type} {f : α → Option β} {g : α → β} : ∀ {l : List α}, (∀ a ∈ l, f a = some (g a)) → l.mapM f = some (l.map g)
  | [], _ => rfl
  | a :: l, h => by
    rw [List.mapM_cons, h a (by simp), mapM_all (fun b hb => h b (by simp [hb]))]; rfl

def keyJ (P : Program) : Nat → TypeId → Option Nat
  | 0, _ => none
  | d + 1, T => match P.underlying T with
    | some (.int .i64) => if P.cellsOf T = 1 then some 1 else none
    | some (.array n e) => match d, P.underlying e with
      | _ + 1, some (.int .i64) => if P.cellsOf e = 1 ∧ P.cellsOf T = n then some n else none
      | _, _ => none
    | some (.struct fs) => match keyFs P (keyJ P d) fs.toList 0 with
      | some n => if P.cellsOf T = n then some n else none
      | none => none
    | _ => none

theorem keyJ_spec {P : Program} : ∀ (d : Nat) (T n : Nat), keyJ P d T = some n → P.cellsOf T = n ∧
    ∀ D, d ≤ D → ∀ l : List Int, l.length = n → (∀ x ∈ l, (Lit.int .i64 x).wf = true) → P.keyLits D T (l.map (Value.int .i64)) = some (l.map (Lit.int .i64))
  | 0, _, _, h => by simp [keyJ] at h
  | d + 1, T, n, h => by
    simp only [keyJ] at h
    split at h
    case h_4 => cases h
    case h_1 hu =>
      split at h
      case isFalse => cases h
      case isTrue hc =>
        cases h
        refine ⟨hc, fun D hD l hl hw => ?_⟩
        obtain ⟨D', rfl⟩ : ∃ D', D = D' + 1 := ⟨D - 1, by omega⟩
        match l, hl with
        | [a], _ =>
          have := hw a (by simp)
          simp [Program.keyLits, hu, this]
    case h_2 m e hu =>
      split at h
      case h_2 => cases h
      case h_1 hd he =>
        split at h
        case isFalse => cases h
        case isTrue hc =>
          cases h
          refine ⟨hc.2, fun D hD l hl hw => ?_⟩
          obtain ⟨D', rfl⟩ : ∃ D', D = D' + 2 := ⟨D - 2, by omega⟩
          subst hl
          have key : ∀ i ∈ List.range l.length, P.keyLits (D' + 1) e (((l.map (Value.int .i64)).drop (i * P.cellsOf e)).take (P.cellsOf e)) = some [Lit.int .i64 (l.getD i 0)] := fun i hi => by
            rw [List.mem_range] at hi
            have e1 : ((l.map (Value.int .i64)).drop (i * P.cellsOf e)).take (P.cellsOf e) = [Value.int .i64 (l.getD i 0)] := by
              rw [hc.1, Nat.mul_one, List.drop_eq_getElem_cons (by simpa using hi)]
              simp [List.getD, hi]
            have hm : l.getD i 0 ∈ l := by simp [List.getD, hi]
            rw [e1]
            have hw2 := hw _ hm
            unfold Program.keyLits
            simp only [he, hw2, and_self, if_true]
          rw [Program.keyLits]
          rotate_left 3
          · exact hu
          simp only [List.length_map, hc.2, if_true]
          rw [mapM_all key, Option.map_some]
          congr 1
          have : ∀ l : List Int, ((List.range l.length).map fun i => [Lit.int .i64 (l.getD i 0)]).flatten = l.map (Lit.int .i64) := fun l => by
            rw [← List.flatMap_def]
            apply List.ext_getElem?
            intro j
            induction l generalizing j with
            | nil => simp
            | cons a l ih =>
              rw [List.length_cons, List.range_succ_eq_map, List.flatMap_cons, List.flatMap_map]
              cases j with
              | zero => simp
              | succ j => simpa using ih j
          exact this l
    case h_3 fs hu =>
      split at h
      case h_2 => cases h
      case h_1 n' hk =>
        split at h
        case isFalse => cases h
        case isTrue hc =>
          cases h
          refine ⟨hc, fun D hD l hl hw => ?_⟩
          obtain ⟨D', rfl⟩ : ∃ D', D = D' + 1 := ⟨D - 1, by omega⟩
          subst hl
          obtain ⟨hn, Ls, hm, hfl⟩ := keyFs_spec (P := P) (D := D') (g := keyJ P d) (l := l) (fun T n hT => by
            obtain ⟨g1, g2⟩ := keyJ_spec d T n hT
            refine ⟨g1, fun o ho => ?_⟩
            have := g2 D' (by omega) ((l.drop o).take n) (by simp; omega) (fun x hx => hw x (List.mem_of_mem_drop (List.mem_of_mem_take hx)))
            rw [← this, List.map_take, List.map_drop]) fs.toList 0 hk (by omega)
          have hall : fs.all (fun f => f.name != "_") = true := by
            rw [Array.all_eq_true_iff_forall_mem]
            intro f hf
            have := hn f (by simpa using hf)
            simpa using this
          simp only [Program.keyLits, hu, List.length_map, hc, hall, true_and, if_true, hm, Option.map_some, hfl, List.drop_zero]

theorem keyOf_intsJ {P : Program} {k d n : Nat} (hi : keyJ P d k = some n) (hd : d ≤ P.types.size + 1) (hk : P.keyType k = true) (hs : (match P.underlying k with | some (.array _ _) | some (.struct _) => true | _ => false) = true)
    {l : List Int} (hl : l.length = n) (hf : (Value.agg (l.map (Value.int .i64)).toArray).formed P k = true) (hw : ∀ x ∈ l, (Lit.int .i64 x).wf = true) : ∃ s, keyOf P k (.agg (l.map (Value.int .i64)).toArray) = some s := by
  obtain ⟨_, h2⟩ := keyJ_spec d k n hi
  have := h2 (P.types.size + 1) hd l hl hw
  unfold keyOf
  split at hs
  · rename_i e; rw [e]; simp only [hk, hf, Bool.and_self, if_true, Value.cells, List.toList_toArray, this]; exact ⟨_, rfl⟩
  · rename_i e; rw [e]; simp only [hk, hf, Bool.and_self, if_true, Value.cells, List.toList_toArray, this]; exact ⟨_, rfl⟩
  · cases hs
end Go.V
end
section
set_option linter.unusedVariables false
set_option linter.unusedSimpArgs false
namespace Go.Proofs.Ytkonoggmdcdeeaa
open Go.V
theorem mapZ118 : mapZ Try.prog 118 = some (.agg #[.int .i64 0, .bool false]) := by kernel_rfl
theorem mapZ125 : mapZ Try.prog 125 = some (.agg #[.int .i64 0, .int .i64 0, .bool false]) := by kernel_rfl
theorem und118 : Program.underlying Try.prog 118 = some (.map 103 120) := by kernel_rfl
theorem und125 : Program.underlying Try.prog 125 = some (.map 103 127) := by kernel_rfl
theorem key103 : Maps.Keyed Try.prog 103 := Maps.Keyed.of_law (deep_law_laid (by kernel_rfl) (m := 10) (by decide) (by decide +kernel) (by kernel_rfl) (by kernel_rfl))
/-- What is given, as a key. -/
abbrev givV (s a b c d e : Int) : Value := .agg #[.int .i64 s, .int .i64 a, .int .i64 b, .int .i64 c, .int .i64 d, .int .i64 e]
theorem givK (s a b c d e : Int) (h : ∀ z ∈ [s, a, b, c, d, e], 0 ≤ z ∧ z ≤ 1000) : ∃ l, keyOf Try.prog 103 (givV s a b c d e) = some l := by
  have := keyOf_intsJ (P := Try.prog) (k := 103) (d := 5) (n := 6) (by kernel_rfl) (by decide +kernel) (by kernel_rfl) (by kernel_rfl) (l := [s, a, b, c, d, e]) rfl (by kernel_rfl) (by
    intro x hx
    have := h x hx
    exact wf_i64 (by simp only [InR_i64]; omega))
  exact this
end Go.Proofs.Ytkonoggmdcdeeaa
end
section
set_option linter.unusedVariables false
set_option linter.unusedSimpArgs false
namespace Go.Proofs.Ytkonoggmdcdeeaa
open Go.V
section
variable {α : Type} (more : Nat → Int → α → α) (join : α → α → α)
/-- What is told of the first ones of those that can be next. -/
def tlP (f : List Int → Option α) (s : Nat) (l : List (Int × List Int)) : Option α := l.foldl (fun z p => comb join z ((f p.2).map (more s p.1))) none
theorem tl_succ (x : Ir) (S C : Nat) (m : Bool) (e : α) (n s : Nat) (u : List Int) : tl x S C m e more join (n + 1) s u = tlP more join (tl x S C m e more join n (s + 1)) s (nxt x S C m s u) := rfl
theorem tlP_next (f : List Int → Option α) (s : Nat) (l : List (Int × List Int)) (i : Nat) (hi : i < l.length) : tlP more join f s (l.take (i + 1)) = comb join (tlP more join f s (l.take i)) ((f (l.getD i (0, [])).2).map (more s (l.getD i (0, [])).1)) := by
  rw [take_snoc l i (0, []) hi]
  simp only [tlP, List.foldl_append, List.foldl_cons, List.foldl_nil]
/-- What may be told behind so many strakes, of no more than so many truths. -/
structure Vd (V : Nat → Nat → α → Prop) (e : α) : Prop where
  up : ∀ n j k a, j ≤ k → V n j a → V n k a
  hE : V 0 1 e
  hM : ∀ (n k s : Nat) (o : Int) (r : α), o < 5 → V n k r → V (n + 1) k (more s o r)
  hJ : ∀ n j k a b, V n j a → V n k b → V n (j + k) (join a b)
variable {more join}
theorem tlP_V {V : Nat → Nat → α → Prop} {e : α} (h : Vd more join V e) {f : List Int → Option α} {s n w : Nat} {l : List (Int × List Int)} (ho : ∀ p ∈ l, p.1 < 5) (hf : ∀ p ∈ l, ∀ r, f p.2 = some r → V n w r) :
    ∀ i, i ≤ l.length → ∀ r, tlP more join f s (l.take i) = some r → V (n + 1) (i * w) r := by
  intro i
  induction i with
  | zero => intro _ r hr; cases hr
  | succ i ih =>
    intro hi r hr
    rw [tlP_next more join f s l i (by omega)] at hr
    have hm : l.getD i (0, []) ∈ l := mem_getD l i _ (by omega)
    cases hq : f (l.getD i (0, [])).2 with
    | none =>
      rw [hq] at hr
      simp only [Option.map_none, comb_none] at hr
      exact h.up _ _ _ _ (Nat.mul_le_mul_right _ (by omega)) (ih (by omega) r hr)
    | some q =>
      have hv := h.hM n w s (l.getD i (0, [])).1 q (ho _ hm) (hf _ hm _ hq)
      rw [hq] at hr
      simp only [Option.map_some] at hr
      cases hp : tlP more join f s (l.take i) with
      | none =>
        rw [hp] at hr
        simp only [comb, Option.some.injEq] at hr
        subst hr
        exact h.up _ _ _ _ (by rw [Nat.succ_mul]; omega) hv
      | some a =>
        rw [hp] at hr
        simp only [comb, Option.some.injEq] at hr
        subst hr
        rw [Nat.succ_mul]
        exact h.hJ _ _ _ _ _ (ih (by omega) a hp) hv
end
theorem nxt_len (x : Ir) (S C : Nat) (m : Bool) (s : Nat) (u : List Int) (hO : x.ow.length ≤ 5) : (nxt x S C m s u).length ≤ 5 := by
  unfold nxt
  split
  · rw [List.length_map]
    have := List.length_filter_le (goB x C m s u) (List.range x.ow.length)
    rw [List.length_range] at this
    omega
  · simp
theorem nxt_mem {x : Ir} {S C : Nat} {m : Bool} {s : Nat} {u : List Int} {p : Int × List Int} (h : p ∈ nxt x S C m s u) :
    (S.testBit s = true ∧ ∃ o : Nat, o < x.ow.length ∧ goB x C m s u o = true ∧ p = ((o : Int), u.set o (u.getD o 0 + 1))) ∨ (S.testBit s = false ∧ p = (-1, u)) := by
  unfold nxt at h
  split at h
  · rename_i hb
    simp only [List.mem_map, List.mem_filter, List.mem_range] at h
    obtain ⟨o, ⟨h1, h2⟩, h3⟩ := h
    exact .inl ⟨hb, o, h1, h2, h3.symm⟩
  · rename_i hb
    rw [Bool.not_eq_true] at hb
    rw [List.mem_singleton] at h
    exact .inr ⟨hb, h⟩
theorem nxt_given {x : Ir} {S C : Nat} {m : Bool} {s : Nat} {u : List Int} {p : Int × List Int} (h : p ∈ nxt x S C m s u) (h5 : u.length = 5) (hu : ∀ z ∈ u, 0 ≤ z ∧ z ≤ (s : Int)) :
    p.2.length = 5 ∧ ∀ z ∈ p.2, 0 ≤ z ∧ z ≤ ((s + 1 : Nat) : Int) := by
  rcases nxt_mem h with ⟨_, o, ho, _, rfl⟩ | ⟨_, rfl⟩
  · refine ⟨by simpa using h5, fun z hz => ?_⟩
    rcases List.mem_or_eq_of_mem_set hz with hz | rfl
    · have := hu z hz; omega
    · by_cases h : o < u.length
      · have := hu _ (mem_getD u o 0 h); omega
      · rw [List.getD_eq_getElem?_getD, List.getElem?_eq_none (by omega)]; simp; omega
  · exact ⟨h5, fun z hz => by have := hu z hz; omega⟩
theorem nxt_lt {x : Ir} {S C : Nat} {m : Bool} {s : Nat} {u : List Int} {p : Int × List Int} (hO : x.ow.length ≤ 5) (h : p ∈ nxt x S C m s u) : p.1 < 5 := by
  rcases nxt_mem h with ⟨_, o, ho, _, rfl⟩ | ⟨_, rfl⟩
  · show (o : Int) < 5
    omega
  · show (-1 : Int) < 5
    decide
theorem tl_V {α : Type} {more : Nat → Int → α → α} {join : α → α → α} {V : Nat → Nat → α → Prop} {e : α} (h : Vd more join V e) (x : Ir) (S C : Nat) (m : Bool) (hO : x.ow.length ≤ 5) :
    ∀ n s u r, tl x S C m e more join n s u = some r → V n (5 ^ n) r := by
  intro n
  induction n with
  | zero => intro s u r hr; simp only [tl, Option.some.injEq] at hr; subst hr; exact h.hE
  | succ n ih =>
    intro s u r hr
    rw [tl_succ] at hr
    have hl := nxt_len x S C m s u hO
    have := tlP_V h (f := tl x S C m e more join n (s + 1)) (s := s) (l := nxt x S C m s u) (fun p hp => nxt_lt hO hp) (fun p _ r hr => ih (s + 1) p.2 r hr) _ (Nat.le_refl _) r (by rw [List.take_length]; exact hr)
    refine h.up _ _ _ _ ?_ this
    rw [Nat.pow_succ, Nat.mul_comm (5 ^ n) 5]
    exact Nat.mul_le_mul_right _ hl
end Go.Proofs.Ytkonoggmdcdeeaa
end
section
set_option linter.unusedVariables false
set_option linter.unusedSimpArgs false
set_option maxHeartbeats 4000000
set_option maxRecDepth 100000
namespace Go.Proofs.Ytkonoggmdcdeeaa
open Go.V
/-- What is known: a number, and whether there is a truth. -/
abbrev knV (o : Option Nat) : Value := .agg #[.int .i64 (o.getD 0 : Nat), .bool o.isSome]
abbrev knA (o : Option Nat) : AV := .tuple [i64 (o.getD 0 : Nat), boo o.isSome]
section
variable (x : Ir) (S C : Nat) (m : Bool) (e0 : Nat) (more : Nat → Int → Nat → Nat) (join : Nat → Nat → Nat)
/-- What is kept of what was told. -/
def memT : Value → Value → Prop := fun k v => ∃ (s : Nat) (a b c d e : Int), s ≤ x.st.length ∧ (∀ z ∈ [a, b, c, d, e], 0 ≤ z ∧ z ≤ (s : Int)) ∧ k = givV s a b c d e ∧ v = knV (tl x S C m e0 more join (x.st.length - s) s [a, b, c, d, e])
/-- A teller, and what its functions do. -/
structure Tel (fm fj : Fn) (cm cj : List AV) where
  V : Nat → Nat → Nat → Prop
  vd : Vd more join V e0
  tM : ∀ (n k s : Nat) (o : Int) (r : Nat) (H : Hp), n < 6 → k ≤ 20000 → s < x.st.length → -1 ≤ o → o < x.ow.length → (S.testBit s = true → 0 ≤ o) → V n k r → PTri Try.prog (.func fm [] cm) [i64 (s : Nat), i64 o, i64 (r : Nat)] H (i64 (more s o r : Nat))
  tJ : ∀ (n j k a b : Nat) (H : Hp), n ≤ 6 → j + k ≤ 20000 → V n j a → V n k b → PTri Try.prog (.func fj [] cj) [i64 (a : Nat), i64 (b : Nat)] H (i64 (join a b : Nat))
abbrev onF (fm fj : Fn) (cm cj : List AV) (i5 i6 : Nat) : AV := .func (.func 93) [] [.rptr 1 1 (fun _ => [irP x S C m]) 0 0, .rptr 1 3 (fun _ => [i64 (e0 : Nat), .func fm [] cm, .func fj [] cj]) 0 0, .ref i5 0 1 0 0, .ref i6 0 1 0 0]
end
theorem memT_key {x : Ir} {S C : Nat} {m : Bool} {e0 : Nat} {more : Nat → Int → Nat → Nat} {join : Nat → Nat → Nat} {k v : Value} (kx : Gd x) (h : memT x S C m e0 more join k v) : ∃ l, keyOf Try.prog 103 k = some l := by
  obtain ⟨s, a, b, c, d, e, hs, hz, rfl, _⟩ := h
  have := kx.nS
  refine givK s a b c d e fun z hz2 => ?_
  rcases List.mem_cons.1 hz2 with rfl | hz2
  · omega
  · have := hz z hz2; omega
theorem next_get {x : Ir} {S C : Nat} {m : Bool} {s : Nat} {u : List Int} {i : Nat} {v : List AV} (h : (nextL x S C m s u)[i]? = some v) :
    i < (nxt x S C m s u).length ∧ v = [i64 ((nxt x S C m s u).getD i (0, [])).1, .agg (givC ((s : Int) + 1) ((nxt x S C m s u).getD i (0, [])).2)] := by
  rw [nextL_eq, List.getElem?_map] at h
  cases hq : (nxt x S C m s u)[i]? with
  | none => rw [hq] at h; cases h
  | some p =>
    rw [hq] at h
    simp only [Option.map_some, Option.some.injEq] at h
    subst h
    refine ⟨(List.getElem?_eq_some_iff.1 hq).1, ?_⟩
    rw [List.getD_eq_getElem?_getD, hq]; rfl
theorem next_pair {x : Ir} {S C : Nat} {m : Bool} {s : Nat} {u : List Int} : ∀ v ∈ nextL x S C m s u, v.length = (#[41, 42] : Array Nat).size := by
  intro v hv
  rw [nextL_eq] at hv
  obtain ⟨p, _, rfl⟩ := List.mem_map.1 hv
  rfl
theorem five {l : List Int} (h : l.length = 5) : ∃ a b c d e, l = [a, b, c, d, e] := by
  match l, h with
  | [a, b, c, d, e], _ => exact ⟨a, b, c, d, e, rfl⟩
theorem on_tri {x : Ir} {S C : Nat} {m : Bool} {e0 : Nat} {more : Nat → Int → Nat → Nat} {join : Nat → Nat → Nat} {fm fj : Fn} {cm cj : List AV} {i5 i6 im : Nat} (k : Gd x) (hS : S < 2 ^ 60) (hC : C < 2 ^ 60) (T : Tel x S e0 more join fm fj cm cj) :
    ∀ (n s : Nat) (a b c d e : Int) (H : Hp), s + n = x.st.length → (∀ z ∈ [a, b, c, d, e], 0 ≤ z ∧ z ≤ (s : Int)) → H i5 = some (.box 1 1 fun _ => [.map im]) → H i6 = some (.box 1 1 fun _ => [onF x S C m e0 fm fj cm cj i5 i6]) → H im = some (.memo (memT x S C m e0 more join)) →
      PTri Try.prog (onF x S C m e0 fm fj cm cj i5 i6) [.agg (givC s [a, b, c, d, e])] H (knA (tl x S C m e0 more join n s [a, b, c, d, e])) := by
  have nS := k.nS
  have nO := k.nO
  intro n
  induction n with
  | zero =>
    intro s a b c d e H hs hu h5 h6 hm
    refine Tri.drop ?_
    refine tri_m (m := fun _ => false) Try.func93 (by kernel_rfl) rfl (by simp only [List.length_append, List.length_cons, List.length_nil, Try.ntmps93]; decide) ?_
    have es : s = x.st.length := by omega
    subst es
    simp only [vsAll, boxA, opA, dstOk, nilSliceOp, argFr, Nat.reduceAdd, Nat.reduceLT, eq_self, Try.ntmps93]
    refine vs_draw2 [0, 0, 0, 0, 0, 0, 0, 0, 0] [] [0, 1, 2, 3, 4, 5, 6, 7, 8] (by decide +kernel) ?_
    simp only [vsAll, binA, binLitA, intA, loadA, loadRow, partA, partOk, fieldAddrA, lenA, nilCheckA, opA, dstOk, nilSliceOp, resA, argFr, retA.eq_2, Nat.reduceLT, Nat.reduceEqDiff, ↓reduceIte, eq_self, wtAll, Try.results93]
    exact dropR_pure rfl (HSub.refl _)
  | succ n ih =>
    intro s a b c d e H hs hu h5 h6 hm
    refine Tri.unpack hm fun es ck hes hpw => ?_
    have hkey : ∃ l, keyOf Try.prog 103 (givV s a b c d e) = some l := givK s a b c d e fun z hz2 => by
      rcases List.mem_cons.1 hz2 with rfl | hz2
      · omega
      · have := hu z hz2; omega
    obtain ⟨o, hfo, hst, hcase⟩ := found_of und118 key103 hkey (fun e he => memT_key k (hes e he)) hpw
    have hback : Go.V.HSub (H.set im (.raw (.map es ck))) H := HSub_set' hm (memo_le hes hpw)
    have n5 : ¬ i5 = im := fun q => by rw [q, hm] at h5; cases h5
    have n6 : ¬ i6 = im := fun q => by rw [q, hm] at h6; cases h6
    have n5' : ¬ im = i5 := fun q => n5 q.symm
    have n6' : ¬ im = i6 := fun q => n6 q.symm
    have n56 : ¬ i5 = i6 := fun q => by
      rw [q, h6] at h5
      simp only [Option.some.injEq, Obj.box.injEq, true_and] at h5
      have := congrFun h5 0
      simp at this
    have n65 : ¬ i6 = i5 := fun q => n56 q.symm
    refine Tri.drop ?_
    refine tri_m (m := fun _ => false) Try.func93 (by kernel_rfl) rfl (by simp only [List.length_append, List.length_cons, List.length_nil, Try.ntmps93]; decide) ?_
    skip
    simp only [vsAll, boxA, opA, dstOk, nilSliceOp, argFr, Nat.reduceAdd, Nat.reduceLT, eq_self, Try.ntmps93]
    refine vs_draw2 [0, 0, 0, 0, 0, 0, 0, 0, 0] [] [0, 1, 2, 3, 4, 5, 6, 7, 8] (by decide +kernel) ?_
    simp only [vsAll, binA, binLitA, intA, loadA, loadRow, partA, partOk, fieldAddrA, lenA, nilCheckA, opA, dstOk, argFr, Nat.reduceLT, Nat.reduceEqDiff, ↓reduceIte, eq_self, wtAll]
    refine condV (fun hc => ?_) (fun hc => ?_)
    · simp only [decide_eq_true_eq] at hc; ((try clear h5); (try clear h6); (try clear hm); (try clear n5); (try clear n6); (try clear n5'); (try clear n6'); (try clear n56); (try clear n65); omega)
    · simp only [vsAll, loadA, loadRow, partA, partOk, extractA, cellsA, opA, allocA, newCells, storeObj, lookA, dstOk, nilSliceOp, argFr, Nat.reduceAdd, Nat.reduceMul, Nat.reduceLT, Nat.reduceEqDiff, ↓reduceIte, eq_self, wtAll, h5, n5, mapZ118]
      refine ⟨o, hfo _, ?_⟩
      rcases hcase with ⟨rfl, hno⟩ | ⟨j, en, rfl, hj, hkn⟩
      · simp only [vsAll, loadA, loadRow, partA, partOk, cellA, okAll, stAll, opsA, opA, allocA, okCells, dstOk, argFr, Nat.reduceAdd, Nat.reduceLT, Nat.reduceEqDiff, ↓reduceIte, eq_self, wtAll]
        intro i8 hh_i8; (try simp only [ite_none] at hh_i8)
        intro i10 hh_i10; (try simp only [ite_none] at hh_i10)
        rw [Hp.set_set]
        have a1 := ne_some hh_i8.2 h5
        have a2 := ne_some hh_i8.2 h6
        have a3 := ne_some hh_i8.2 hm
        have a4 := ne_some hh_i10.2.2.2 h5
        have a5 := ne_some hh_i10.2.2.2 h6
        have a6 := ne_some hh_i10.2.2.2 hm
        skip
        refine callK_pure (next_tri x S C m s a b c d e _) ?_
        simp only [vsAll]
        have hlen := nxt_len x S C m s [a, b, c, d, e] nO
        generalize hN : nxt x S C m s [a, b, c, d, e] = N at hlen
        generalize hf : tl x S C m e0 more join n (s + 1) = f
        have hV : ∀ p ∈ N, ∀ r, f p.2 = some r → T.V n (5 ^ n) r := fun p _ r hr => tl_V T.vd x S C m nO n (s + 1) p.2 r (by rw [hf]; exact hr)
        have htl : tl x S C m e0 more join (n + 1) s [a, b, c, d, e] = tlP more join f s N := by rw [tl_succ, hf, hN]
        have hlt : ∀ p ∈ N, p.1 < 5 := fun p hp => nxt_lt (x := x) (S := S) (C := C) (m := m) (s := s) (u := [a, b, c, d, e]) nO (by rw [hN]; exact hp)
        have hpow : 5 ^ n ≤ 5 ^ 5 := Nat.pow_le_pow_right (by decide) (by ((try clear h5); (try clear h6); (try clear hm); (try clear n5); (try clear n6); (try clear n5'); (try clear n6'); (try clear n56); (try clear n65); (try clear hh_i8); (try clear hh_i10); (try clear a1); (try clear a2); (try clear a3); (try clear a4); (try clear a5); (try clear a6); omega))
        generalize hpv : (fun i => tlP more join f s (N.take i)) = pv
        refine vs_rangeS (σ := Unit) (nextL x S C m s [a, b, c, d, e]) (fun _ _ => True)
          (fun i _ => H.set i10 (.box 2 1 fun _ => [i64 ((pv i).getD 0 : Nat), boo (pv i).isSome])) () (fun _ => True) Try.func98 (by kernel_rfl) rfl (by simp only [vsAll, opA, ↓reduceIte, eq_self]) (by simp only [vsAll, opA, ↓reduceIte, eq_self]) (by decide) next_pair
          (fun yf H K hi => next1_tri x S C m s a b c d e k (by ((try clear h5); (try clear h6); (try clear hm); (try clear n5); (try clear n6); (try clear n5'); (try clear n6'); (try clear n56); (try clear n65); (try clear hh_i8); (try clear hh_i10); (try clear a1); (try clear a2); (try clear a3); (try clear a4); (try clear a5); (try clear a6); omega)) hS hC (fun z hz => by have := hu z hz; ((try clear h5); (try clear h6); (try clear hm); (try clear n5); (try clear n6); (try clear n5'); (try clear n6'); (try clear n56); (try clear n65); (try clear hh_i8); (try clear hh_i10); (try clear a1); (try clear a2); (try clear a3); (try clear a4); (try clear a5); (try clear a6); omega)) yf H _ K hi) trivial ?_ ?_ ?_ ?_ ?_
        · have e0 : pv 0 = none := by rw [← hpv]; rfl
          simp only [e0, Option.getD_none, Option.isSome_none, Int.natCast_zero]
          exact HSub.set (HSub.drop hback (by rw [Hp.set_ne _ _ hh_i8.1.1]; exact hh_i8.2)) (.refl _)
        · intro i _ _ q hq; simp only [Hp.set_none] at hq ⊢; exact hq
        · intros; trivial
        · rintro i v ⟨⟩ hv _ lid did l lo h1 h2 h3
          simp only [Hp.set_none] at h1 h2
          have h4 : ¬ did = lid := fun e => h3 e.symm
          have b1 := ne_some h1.2 h5
          have b2 := ne_some h1.2 h6
          have b3 := ne_some h1.2 hm
          have b4 := ne_some h2.2 h5
          have b5 := ne_some h2.2 h6
          have b6 := ne_some h2.2 hm
          skip
          obtain ⟨hi, rfl⟩ := next_get hv
          rw [hN] at hi ⊢
          have hmem : N.getD i (0, []) ∈ N := mem_getD N i _ hi
          have hpn : pv (i + 1) = comb join (pv i) ((f (N.getD i (0, [])).2).map (more s (N.getD i (0, [])).1)) := by
            rw [← hpv]; exact tlP_next more join f s N i hi
          have hmem2 : N.getD i (0, []) ∈ nxt x S C m s [a, b, c, d, e] := by rw [hN]; exact hmem
          have hgiv := nxt_given hmem2 rfl hu
          have hmm := nxt_mem hmem2
          clear hmem2
          generalize N.getD i (0, []) = p at hmem hpn hgiv hmm ⊢
          obtain ⟨o, u⟩ := p
          obtain ⟨hu5, hub⟩ := hgiv
          simp only [] at hu5 hub hpn ⊢
          obtain ⟨ya, yb, yc, yd, ye, rfl⟩ := five hu5
          have hoo : -1 ≤ o ∧ o < (x.ow.length : Int) ∧ (S.testBit s = true → 0 ≤ o) := by
            rcases hmm with ⟨_, o', ho', _, he⟩ | ⟨hbb, he⟩
            · have := (Prod.mk.inj he).1
              exact ⟨by ((try clear h5); (try clear h6); (try clear hm); (try clear n5); (try clear n6); (try clear n5'); (try clear n6'); (try clear n56); (try clear n65); (try clear hh_i8); (try clear hh_i10); (try clear a1); (try clear a2); (try clear a3); (try clear a4); (try clear a5); (try clear a6); (try clear h1); (try clear h2); (try clear h3); (try clear h4); (try clear b1); (try clear b2); (try clear b3); (try clear b4); (try clear b5); (try clear b6); omega), by ((try clear h5); (try clear h6); (try clear hm); (try clear n5); (try clear n6); (try clear n5'); (try clear n6'); (try clear n56); (try clear n65); (try clear hh_i8); (try clear hh_i10); (try clear a1); (try clear a2); (try clear a3); (try clear a4); (try clear a5); (try clear a6); (try clear h1); (try clear h2); (try clear h3); (try clear h4); (try clear b1); (try clear b2); (try clear b3); (try clear b4); (try clear b5); (try clear b6); omega), fun _ => by ((try clear h5); (try clear h6); (try clear hm); (try clear n5); (try clear n6); (try clear n5'); (try clear n6'); (try clear n56); (try clear n65); (try clear hh_i8); (try clear hh_i10); (try clear a1); (try clear a2); (try clear a3); (try clear a4); (try clear a5); (try clear a6); (try clear h1); (try clear h2); (try clear h3); (try clear h4); (try clear b1); (try clear b2); (try clear b3); (try clear b4); (try clear b5); (try clear b6); omega)⟩
            · have := (Prod.mk.inj he).1
              exact ⟨by ((try clear h5); (try clear h6); (try clear hm); (try clear n5); (try clear n6); (try clear n5'); (try clear n6'); (try clear n56); (try clear n65); (try clear hh_i8); (try clear hh_i10); (try clear a1); (try clear a2); (try clear a3); (try clear a4); (try clear a5); (try clear a6); (try clear h1); (try clear h2); (try clear h3); (try clear h4); (try clear b1); (try clear b2); (try clear b3); (try clear b4); (try clear b5); (try clear b6); omega), by ((try clear h5); (try clear h6); (try clear hm); (try clear n5); (try clear n6); (try clear n5'); (try clear n6'); (try clear n56); (try clear n65); (try clear hh_i8); (try clear hh_i10); (try clear a1); (try clear a2); (try clear a3); (try clear a4); (try clear a5); (try clear a6); (try clear h1); (try clear h2); (try clear h3); (try clear h4); (try clear b1); (try clear b2); (try clear b3); (try clear b4); (try clear b5); (try clear b6); omega), fun q => by rw [hbb] at q; cases q⟩
          have ih' := fun H => ih (s + 1) ya yb yc yd ye H (by ((try clear h5); (try clear h6); (try clear hm); (try clear n5); (try clear n6); (try clear n5'); (try clear n6'); (try clear n56); (try clear n65); (try clear hh_i8); (try clear hh_i10); (try clear a1); (try clear a2); (try clear a3); (try clear a4); (try clear a5); (try clear a6); (try clear h1); (try clear h2); (try clear h3); (try clear h4); (try clear b1); (try clear b2); (try clear b3); (try clear b4); (try clear b5); (try clear b6); omega)) hub
          simp only [Int.natCast_add, Int.natCast_one, hf] at ih'
          simp only [vsAll, loadA, loadRow, partA, partOk, cellA, cellsA, okAll, stAll, opsA, opA, allocA, newCells, okCells, storeObj, dstOk, quietOk, nilSliceOp, argFr, Nat.reduceAdd, Nat.reduceLT, Nat.reduceEqDiff, ↓reduceIte, eq_self, wtAll, h6, a5, b2, b5]
          intro i12 hh_i12; (try simp only [ite_none] at hh_i12)
          have c1 := ne_some hh_i12.2.2.2 h5
          have c2 := ne_some hh_i12.2.2.2 h6
          have c3 := ne_some hh_i12.2.2.2 hm
          skip
          simp only [vsAll, Nat.reduceLT, ↓reduceIte, eq_self, hh_i12, c2]
          refine callK_pure (ih' _ (by simp only [vsAll, ↓reduceIte, eq_self, h5, a4, b1, b4, c1]) (by simp only [vsAll, ↓reduceIte, eq_self, h6, a5, b2, b5, c2]) (by simp only [vsAll, ↓reduceIte, eq_self, hm, hh_i10, b3, b6, c3])) ?_
          generalize hq : f [ya, yb, yc, yd, ye] = q at hpn
          cases q with
          | none =>
            simp only [Option.map_none, comb_none] at hpn
            simp only [vsAll, unA, extractA, opA, dstOk, quietOk, nilSliceOp, Nat.reduceAdd, Nat.reduceLT, Nat.reduceEqDiff, ↓reduceIte, eq_self]
            refine ⟨⟨_, _, rfl⟩, _, ⟨(), rfl⟩, ?_⟩
            rw [hpn]
            (repeat (first | exact HSub_rfl | refine HSub_put_eq (by simp only [vsAll, ↓reduceIte, eq_self, h1, h2, h4, hh_i12]) ?_ | refine HSub_drop2 (by simp only [eq_self, hh_i10, h1, h2, hh_i12]) ?_ | refine HSub_keep_eq (by simp only [vsAll, binA, binLitA, intA, aggA, boolA, nilA2, isConst, unA, loadA, loadRow, partA, partOk, fieldAddrA, indexAddrA, indexA, fieldA, extractA, lenA, nilCheckA, boxA, cellA, cellsA, fillA, okParts, buildSliceA, buildMutA, makeSliceA, partIdx, elemsA, lensA, ifaceA, convA, mmA, pickA, okAll, stAll, opsA, partsA, partsOk, opA, allocA, boxMutA, newCells, okCells, storeObj, appendA, guardV, taA, nM, mapUpA, lookA, sliceA, boundsA, opO, okO, copyA, dstOk, nilA, quietOk, nilSliceOp, panA, resA, argFr, retA.eq_1, retA.eq_2, Nat.reduceAdd, Nat.reduceSub, Nat.reduceMul, Nat.reduceLT, Nat.reduceLeDiff, Nat.reduceEqDiff, Nat.reduceBEq, Int.reduceAdd, Int.reduceSub, Int.reduceMul, Int.reduceNeg, Int.reduceLE, Int.reduceLT, Int.reduceEq, Int.reduceNe, Int.reduceToNat, ↓reduceIte, reduceCtorEq, implies_true, forall_const, eq_self, ne_eq, wtAll, Try.ntmps93, Try.results93, h5, h6, hm, n5, n6, n5', n6', n56, n65, hh_i8, hh_i10, a1, a2, a3, a4, a5, a6, h1, h2, h3, h4, b1, b2, b3, b4, b5, b6, hh_i12, c1, c2, c3]) ?_))
          | some r =>
            simp only [Option.map_some] at hpn
            have hr := hV _ hmem r hq
            simp only [vsAll, unA, loadA, loadRow, partA, partOk, fieldAddrA, extractA, okAll, stAll, opsA, opA, dstOk, quietOk, nilSliceOp, argFr, Nat.reduceAdd, Nat.reduceLT, Nat.reduceEqDiff, ↓reduceIte, eq_self, wtAll]
            refine callK_pure (T.tM n (5 ^ n) s o r _ (by ((try clear h5); (try clear h6); (try clear hm); (try clear n5); (try clear n6); (try clear n5'); (try clear n6'); (try clear n56); (try clear n65); (try clear hh_i8); (try clear hh_i10); (try clear a1); (try clear a2); (try clear a3); (try clear a4); (try clear a5); (try clear a6); (try clear h1); (try clear h2); (try clear h3); (try clear h4); (try clear b1); (try clear b2); (try clear b3); (try clear b4); (try clear b5); (try clear b6); (try clear hh_i12); (try clear c1); (try clear c2); (try clear c3); omega)) (by ((try clear h5); (try clear h6); (try clear hm); (try clear n5); (try clear n6); (try clear n5'); (try clear n6'); (try clear n56); (try clear n65); (try clear hh_i8); (try clear hh_i10); (try clear a1); (try clear a2); (try clear a3); (try clear a4); (try clear a5); (try clear a6); (try clear h1); (try clear h2); (try clear h3); (try clear h4); (try clear b1); (try clear b2); (try clear b3); (try clear b4); (try clear b5); (try clear b6); (try clear hh_i12); (try clear c1); (try clear c2); (try clear c3); omega)) (by ((try clear h5); (try clear h6); (try clear hm); (try clear n5); (try clear n6); (try clear n5'); (try clear n6'); (try clear n56); (try clear n65); (try clear hh_i8); (try clear hh_i10); (try clear a1); (try clear a2); (try clear a3); (try clear a4); (try clear a5); (try clear a6); (try clear h1); (try clear h2); (try clear h3); (try clear h4); (try clear b1); (try clear b2); (try clear b3); (try clear b4); (try clear b5); (try clear b6); (try clear hh_i12); (try clear c1); (try clear c2); (try clear c3); omega)) hoo.1 hoo.2.1 hoo.2.2 hr) ?_
            cases hpi : pv i with
            | none =>
              rw [hpi] at hpn
              simp only [comb] at hpn
              simp only [vsAll, loadA, loadRow, partA, partOk, fieldAddrA, cellA, cellsA, fillA, okParts, partsA, partsOk, opA, newCells, okCells, storeObj, dstOk, quietOk, nilSliceOp, Nat.reduceAdd, Nat.reduceLT, Nat.reduceLeDiff, Nat.reduceEqDiff, ↓reduceIte, eq_self, wtAll, h1, h2, hh_i12]
              refine ⟨⟨_, _, rfl⟩, _, ⟨(), rfl⟩, ?_⟩
              rw [hpn]
              simp only [Option.getD_some, Option.isSome_some]
              (repeat (first | exact HSub_rfl | refine HSub_put_eq (by simp only [vsAll, ↓reduceIte, eq_self, h1, h2, h4, hh_i12]) ?_ | refine HSub_drop2 (by simp only [eq_self, hh_i10, h1, h2, hh_i12]) ?_ | refine HSub_keep_eq (by simp only [vsAll, binA, binLitA, intA, aggA, boolA, nilA2, isConst, unA, loadA, loadRow, partA, partOk, fieldAddrA, indexAddrA, indexA, fieldA, extractA, lenA, nilCheckA, boxA, cellA, cellsA, fillA, okParts, buildSliceA, buildMutA, makeSliceA, partIdx, elemsA, lensA, ifaceA, convA, mmA, pickA, okAll, stAll, opsA, partsA, partsOk, opA, allocA, boxMutA, newCells, okCells, storeObj, appendA, guardV, taA, nM, mapUpA, lookA, sliceA, boundsA, opO, okO, copyA, dstOk, nilA, quietOk, nilSliceOp, panA, resA, argFr, retA.eq_1, retA.eq_2, Nat.reduceAdd, Nat.reduceSub, Nat.reduceMul, Nat.reduceLT, Nat.reduceLeDiff, Nat.reduceEqDiff, Nat.reduceBEq, Int.reduceAdd, Int.reduceSub, Int.reduceMul, Int.reduceNeg, Int.reduceLE, Int.reduceLT, Int.reduceEq, Int.reduceNe, Int.reduceToNat, ↓reduceIte, reduceCtorEq, implies_true, forall_const, eq_self, ne_eq, wtAll, Try.ntmps93, Try.results93, h5, h6, hm, n5, n6, n5', n6', n56, n65, hh_i8, hh_i10, a1, a2, a3, a4, a5, a6, h1, h2, h3, h4, b1, b2, b3, b4, b5, b6, hh_i12, c1, c2, c3]) ?_))
            | some z =>
              have hz : T.V (n + 1) (i * 5 ^ n) z := tlP_V T.vd (f := f) (s := s) (l := N) hlt hV i (by ((try clear h5); (try clear h6); (try clear hm); (try clear n5); (try clear n6); (try clear n5'); (try clear n6'); (try clear n56); (try clear n65); (try clear hh_i8); (try clear hh_i10); (try clear a1); (try clear a2); (try clear a3); (try clear a4); (try clear a5); (try clear a6); (try clear h1); (try clear h2); (try clear h3); (try clear h4); (try clear b1); (try clear b2); (try clear b3); (try clear b4); (try clear b5); (try clear b6); (try clear hh_i12); (try clear c1); (try clear c2); (try clear c3); omega)) z (by rw [← hpi, ← hpv])
              have hw : i * 5 ^ n ≤ 5 * 5 ^ 5 := Nat.mul_le_mul (by ((try clear h5); (try clear h6); (try clear hm); (try clear n5); (try clear n6); (try clear n5'); (try clear n6'); (try clear n56); (try clear n65); (try clear hh_i8); (try clear hh_i10); (try clear a1); (try clear a2); (try clear a3); (try clear a4); (try clear a5); (try clear a6); (try clear h1); (try clear h2); (try clear h3); (try clear h4); (try clear b1); (try clear b2); (try clear b3); (try clear b4); (try clear b5); (try clear b6); (try clear hh_i12); (try clear c1); (try clear c2); (try clear c3); omega)) hpow
              rw [hpi] at hpn
              simp only [comb] at hpn
              simp only [vsAll, loadA, loadRow, partA, partOk, fieldAddrA, okAll, stAll, opsA, opA, dstOk, quietOk, nilSliceOp, argFr, Nat.reduceLT, Nat.reduceEqDiff, ↓reduceIte, eq_self, wtAll, h1, h2, hh_i12, Option.getD_some]
              refine callK_pure (T.tJ (n + 1) (i * 5 ^ n) (5 ^ n) z (more s o r) _ (by ((try clear h5); (try clear h6); (try clear hm); (try clear n5); (try clear n6); (try clear n5'); (try clear n6'); (try clear n56); (try clear n65); (try clear hh_i8); (try clear hh_i10); (try clear a1); (try clear a2); (try clear a3); (try clear a4); (try clear a5); (try clear a6); (try clear h1); (try clear h2); (try clear h3); (try clear h4); (try clear b1); (try clear b2); (try clear b3); (try clear b4); (try clear b5); (try clear b6); (try clear hh_i12); (try clear c1); (try clear c2); (try clear c3); omega)) (by ((try clear h5); (try clear h6); (try clear hm); (try clear n5); (try clear n6); (try clear n5'); (try clear n6'); (try clear n56); (try clear n65); (try clear hh_i8); (try clear hh_i10); (try clear a1); (try clear a2); (try clear a3); (try clear a4); (try clear a5); (try clear a6); (try clear h1); (try clear h2); (try clear h3); (try clear h4); (try clear b1); (try clear b2); (try clear b3); (try clear b4); (try clear b5); (try clear b6); (try clear hh_i12); (try clear c1); (try clear c2); (try clear c3); omega)) hz (T.vd.hM n _ s o r (by ((try clear h5); (try clear h6); (try clear hm); (try clear n5); (try clear n6); (try clear n5'); (try clear n6'); (try clear n56); (try clear n65); (try clear hh_i8); (try clear hh_i10); (try clear a1); (try clear a2); (try clear a3); (try clear a4); (try clear a5); (try clear a6); (try clear h1); (try clear h2); (try clear h3); (try clear h4); (try clear b1); (try clear b2); (try clear b3); (try clear b4); (try clear b5); (try clear b6); (try clear hh_i12); (try clear c1); (try clear c2); (try clear c3); omega)) hr)) ?_
              simp only [vsAll, cellA, cellsA, fillA, okParts, partsA, partsOk, opA, newCells, okCells, storeObj, dstOk, quietOk, nilSliceOp, Nat.reduceAdd, Nat.reduceLT, Nat.reduceLeDiff, Nat.reduceEqDiff, ↓reduceIte, eq_self, wtAll, h1, h2, hh_i12]
              refine ⟨⟨_, _, rfl⟩, _, ⟨(), rfl⟩, ?_⟩
              rw [hpn]
              simp only [Option.getD_some, Option.isSome_some]
              (repeat (first | exact HSub_rfl | refine HSub_put_eq (by simp only [vsAll, ↓reduceIte, eq_self, h1, h2, h4, hh_i12]) ?_ | refine HSub_drop2 (by simp only [eq_self, hh_i10, h1, h2, hh_i12]) ?_ | refine HSub_keep_eq (by simp only [vsAll, binA, binLitA, intA, aggA, boolA, nilA2, isConst, unA, loadA, loadRow, partA, partOk, fieldAddrA, indexAddrA, indexA, fieldA, extractA, lenA, nilCheckA, boxA, cellA, cellsA, fillA, okParts, buildSliceA, buildMutA, makeSliceA, partIdx, elemsA, lensA, ifaceA, convA, mmA, pickA, okAll, stAll, opsA, partsA, partsOk, opA, allocA, boxMutA, newCells, okCells, storeObj, appendA, guardV, taA, nM, mapUpA, lookA, sliceA, boundsA, opO, okO, copyA, dstOk, nilA, quietOk, nilSliceOp, panA, resA, argFr, retA.eq_1, retA.eq_2, Nat.reduceAdd, Nat.reduceSub, Nat.reduceMul, Nat.reduceLT, Nat.reduceLeDiff, Nat.reduceEqDiff, Nat.reduceBEq, Int.reduceAdd, Int.reduceSub, Int.reduceMul, Int.reduceNeg, Int.reduceLE, Int.reduceLT, Int.reduceEq, Int.reduceNe, Int.reduceToNat, ↓reduceIte, reduceCtorEq, implies_true, forall_const, eq_self, ne_eq, wtAll, Try.ntmps93, Try.results93, h5, h6, hm, n5, n6, n5', n6', n56, n65, hh_i8, hh_i10, a1, a2, a3, a4, a5, a6, h1, h2, h3, h4, b1, b2, b3, b4, b5, b6, hh_i12, c1, c2, c3]) ?_))
        · rintro ⟨⟩ _ lid did lo h1 h2 h3
          simp only [Hp.set_none] at h1 h2
          have h4 : ¬ did = lid := fun e => h3 e.symm
          have b1 := ne_some h1.2 h5
          have b2 := ne_some h1.2 h6
          have b3 := ne_some h1.2 hm
          have b4 := ne_some h2.2 h5
          have b5 := ne_some h2.2 h6
          have b6 := ne_some h2.2 hm
          skip
          have el : (nextL x S C m s [a, b, c, d, e]).length = N.length := by rw [nextL_eq, hN, List.length_map]
          have epv : pv N.length = tl x S C m e0 more join (n + 1) s [a, b, c, d, e] := by rw [htl, ← hpv]; simp only [List.take_length]
          rw [el, epv]
          generalize htv : tl x S C m e0 more join (n + 1) s [a, b, c, d, e] = tv
          simp only [vsAll, loadA, loadRow, partA, partOk, opA, mapUpA, dstOk, argFr, Nat.reduceLT, Nat.reduceEqDiff, ↓reduceIte, eq_self, wtAll, h5, hm, hh_i10, a4, h1, h2, b1, b3, b4, b6]
          refine ⟨103, 120, und118, key103, hkey, fun q v h => memT_key k h, ⟨s, a, b, c, d, e, by ((try clear h5); (try clear h6); (try clear hm); (try clear n5); (try clear n6); (try clear n5'); (try clear n6'); (try clear n56); (try clear n65); (try clear hh_i8); (try clear hh_i10); (try clear a1); (try clear a2); (try clear a3); (try clear a4); (try clear a5); (try clear a6); (try clear h1); (try clear h2); (try clear h3); (try clear h4); (try clear b1); (try clear b2); (try clear b3); (try clear b4); (try clear b5); (try clear b6); omega), hu, rfl, by rw [show x.st.length - s = n + 1 by ((try clear h5); (try clear h6); (try clear hm); (try clear n5); (try clear n6); (try clear n5'); (try clear n6'); (try clear n56); (try clear n65); (try clear hh_i8); (try clear hh_i10); (try clear a1); (try clear a2); (try clear a3); (try clear a4); (try clear a5); (try clear a6); (try clear h1); (try clear h2); (try clear h3); (try clear h4); (try clear b1); (try clear b2); (try clear b3); (try clear b4); (try clear b5); (try clear b6); omega), htv]⟩, ?_⟩
          refine vs_draw2 [0, 0, 0, 0, 1, 3] [([0, 1, 2, 3], [3], 4), ([], [], 5)] [] (by decide +kernel) ?_
          simp only [vsAll, loadA, loadRow, partA, partOk, fieldAddrA, opA, dstOk, nilSliceOp, resA, retA.eq_2, Nat.reduceLT, Nat.reduceEqDiff, ↓reduceIte, eq_self, wtAll, Try.results93, h1, h2, h4]
          exact dropR_pure rfl (by (repeat (first | exact HSub_rfl | refine HSub_put_eq (by simp only [vsAll, binA, binLitA, intA, aggA, boolA, nilA2, isConst, unA, loadA, loadRow, partA, partOk, fieldAddrA, indexAddrA, indexA, fieldA, extractA, lenA, nilCheckA, boxA, cellA, cellsA, fillA, okParts, buildSliceA, buildMutA, makeSliceA, partIdx, elemsA, lensA, ifaceA, convA, mmA, pickA, okAll, stAll, opsA, partsA, partsOk, opA, allocA, boxMutA, newCells, okCells, storeObj, appendA, guardV, taA, nM, mapUpA, lookA, sliceA, boundsA, opO, okO, copyA, dstOk, nilA, quietOk, nilSliceOp, panA, resA, argFr, retA.eq_1, retA.eq_2, Nat.reduceAdd, Nat.reduceSub, Nat.reduceMul, Nat.reduceLT, Nat.reduceLeDiff, Nat.reduceEqDiff, Nat.reduceBEq, Int.reduceAdd, Int.reduceSub, Int.reduceMul, Int.reduceNeg, Int.reduceLE, Int.reduceLT, Int.reduceEq, Int.reduceNe, Int.reduceToNat, ↓reduceIte, reduceCtorEq, implies_true, forall_const, eq_self, ne_eq, wtAll, Try.ntmps93, Try.results93, h5, h6, hm, n5, n6, n5', n6', n56, n65, hh_i8, hh_i10, a1, a2, a3, a4, a5, a6, h1, h2, h3, h4, b1, b2, b3, b4, b5, b6]) ?_ | refine HSub_drop2 (by simp only [eq_self, hh_i10, h1, h2]) ?_ | refine HSub_keep_eq (by simp only [vsAll, binA, binLitA, intA, aggA, boolA, nilA2, isConst, unA, loadA, loadRow, partA, partOk, fieldAddrA, indexAddrA, indexA, fieldA, extractA, lenA, nilCheckA, boxA, cellA, cellsA, fillA, okParts, buildSliceA, buildMutA, makeSliceA, partIdx, elemsA, lensA, ifaceA, convA, mmA, pickA, okAll, stAll, opsA, partsA, partsOk, opA, allocA, boxMutA, newCells, okCells, storeObj, appendA, guardV, taA, nM, mapUpA, lookA, sliceA, boundsA, opO, okO, copyA, dstOk, nilA, quietOk, nilSliceOp, panA, resA, argFr, retA.eq_1, retA.eq_2, Nat.reduceAdd, Nat.reduceSub, Nat.reduceMul, Nat.reduceLT, Nat.reduceLeDiff, Nat.reduceEqDiff, Nat.reduceBEq, Int.reduceAdd, Int.reduceSub, Int.reduceMul, Int.reduceNeg, Int.reduceLE, Int.reduceLT, Int.reduceEq, Int.reduceNe, Int.reduceToNat, ↓reduceIte, reduceCtorEq, implies_true, forall_const, eq_self, ne_eq, wtAll, Try.ntmps93, Try.results93, h5, h6, hm, n5, n6, n5', n6', n56, n65, hh_i8, hh_i10, a1, a2, a3, a4, a5, a6, h1, h2, h3, h4, b1, b2, b3, b4, b5, b6]) ?_)))
      · obtain ⟨s', a', b', c', d', e', h1, h2, h3, h4⟩ := hes en (by
          have := Array.getElem?_eq_some_iff.1 hj
          obtain ⟨hl, rfl⟩ := this
          simp)
        have hval : en.val = knV (tl x S C m e0 more join (n + 1) s [a, b, c, d, e]) := by
          rw [hkn] at h3
          simp only [givV, Value.agg.injEq, Array.mk.injEq, List.cons.injEq, Value.int.injEq, true_and, and_true] at h3
          obtain ⟨q1, rfl, rfl, rfl, rfl, rfl⟩ := h3
          have q2 : s' = s := by ((try clear h5); (try clear h6); (try clear hm); (try clear n5); (try clear n6); (try clear n5'); (try clear n6'); (try clear n56); (try clear n65); omega)
          subst q2
          rw [h4, show x.st.length - s' = n + 1 by ((try clear h5); (try clear h6); (try clear hm); (try clear n5); (try clear n6); (try clear n5'); (try clear n6'); (try clear n56); (try clear n65); omega)]
        generalize htl : tl x S C m e0 more join (n + 1) s [a, b, c, d, e] = tv at hval
        simp only [vsAll, cellA, okCells, Nat.reduceAdd, eq_self, hval]
        intro i8 hh_i8; (try simp only [ite_none] at hh_i8)
        refine vs_draw2 [0, 0, 0, 0, 1, 3] [([0, 1, 2, 3], [3], 4), ([], [], 5)] [] (by decide +kernel) ?_
        simp only [vsAll, loadA, loadRow, partA, partOk, fieldAddrA, opA, dstOk, nilSliceOp, resA, retA.eq_2, Nat.reduceLT, Nat.reduceEqDiff, ↓reduceIte, eq_self, wtAll, Try.results93]
        rw [Hp.set_set]
        exact dropR_pure rfl (HSub.drop hback (by rw [Hp.set_ne _ _ hh_i8.1.1]; exact hh_i8.2))
end Go.Proofs.Ytkonoggmdcdeeaa
end
section
set_option linter.unusedVariables false
set_option linter.unusedSimpArgs false
set_option maxHeartbeats 4000000
set_option maxRecDepth 100000
namespace Go.Proofs.Ytkonoggmdcdeeaa
open Go.V
theorem azT118 : azT Try.prog 118 = some (1, 1, [.map none]) := by kernel_rfl
theorem azT95 : azT Try.prog 95 = some (1, 1, [.nilFunc]) := by kernel_rfl
theorem azT125 : azT Try.prog 125 = some (1, 1, [.map none]) := by kernel_rfl
theorem azT107 : azT Try.prog 107 = some (1, 1, [.nilFunc]) := by kernel_rfl
def tellR (x : Ir) (S C : Nat) (m : Bool) (e0 : Nat) (more : Nat → Int → Nat → Nat) (join : Nat → Nat → Nat) (fm fj : Fn) (cm cj : List AV) (H : Hp) : Res → Hp → Prop := fun r H' =>
  ∃ i5 i6 im, r = .ret (onF x S C m e0 fm fj cm cj i5 i6) ∧ H' i5 = some (.box 1 1 fun _ => [.map im]) ∧ H' i6 = some (.box 1 1 fun _ => [onF x S C m e0 fm fj cm cj i5 i6]) ∧ H' im = some (.memo (memT x S C m e0 more join)) ∧ Go.V.HSub H' H
theorem tell_tri (x : Ir) (S C : Nat) (m : Bool) (e0 : Nat) (more : Nat → Int → Nat → Nat) (join : Nat → Nat → Nat) (fm fj : Fn) (cm cj : List AV) (H : Hp) :
    Tri Try.prog (fnA 79) [irP x S C m, .agg [i64 (e0 : Nat), .func fm [] cm, .func fj [] cj]] H (tellR x S C m e0 more join fm fj cm cj H) := by
  refine Tri.drop ?_
  refine tri_v0 (fun _ => false) Try.func79 (by kernel_rfl) rfl (by simp only [List.length_append, List.length_cons, List.length_nil, Try.ntmps79]; decide) ?_
  simp only [vsAll, loadA, loadRow, partA, partOk, boxA, cellA, cellsA, okAll, stAll, opsA, opA, allocA, newCells, okCells, storeObj, nM, dstOk, nilSliceOp, resA, argFr, retA.eq_1, Nat.reduceAdd, Nat.reduceLT, Nat.reduceEqDiff, ↓reduceIte, eq_self, wtAll, Try.ntmps79, Try.results79, azT118, azT95]
  intro im hh_im; (try simp only [Hp.set_none, ite_none] at hh_im); intro i5 hh_i5; (try simp only [ite_none] at hh_i5); intro i6 hh_i6; (try simp only [ite_none] at hh_i6)
  rw [Hp.set_set, Hp.set_set]
  refine ⟨((H.set im (.memo (memT x S C m e0 more join))).set i5 (.box 1 1 fun _ => [.map im])).set i6 (.box 1 1 fun _ => [onF x S C m e0 fm fj cm cj i5 i6]), HSub.set (HSub.set (HSub.set (HSub.refl _) (memo_le (by simp) (by simp))) (.refl _)) (.refl _), i5, i6, im, rfl, ?_, ?_, ?_, ?_⟩
  · simp only [vsAll, ↓reduceIte, eq_self, hh_i6]
  · simp only [vsAll, ↓reduceIte, eq_self]
  · simp only [vsAll, ↓reduceIte, eq_self, hh_i5, hh_i6]
  · (repeat (first | exact HSub_rfl | refine HSub_put_eq (by simp only [vsAll, binA, binLitA, intA, aggA, boolA, nilA2, isConst, unA, loadA, loadRow, partA, partOk, fieldAddrA, indexAddrA, indexA, fieldA, extractA, lenA, nilCheckA, boxA, cellA, cellsA, fillA, okParts, buildSliceA, buildMutA, makeSliceA, partIdx, elemsA, lensA, ifaceA, convA, mmA, pickA, okAll, stAll, opsA, partsA, partsOk, opA, allocA, boxMutA, newCells, okCells, storeObj, appendA, guardV, taA, nM, mapUpA, lookA, sliceA, boundsA, opO, okO, copyA, dstOk, nilA, quietOk, nilSliceOp, panA, resA, argFr, retA.eq_1, retA.eq_2, Nat.reduceAdd, Nat.reduceSub, Nat.reduceMul, Nat.reduceLT, Nat.reduceLeDiff, Nat.reduceEqDiff, Nat.reduceBEq, Int.reduceAdd, Int.reduceSub, Int.reduceMul, Int.reduceNeg, Int.reduceLE, Int.reduceLT, Int.reduceEq, Int.reduceNe, Int.reduceToNat, ↓reduceIte, reduceCtorEq, implies_true, forall_const, eq_self, ne_eq, wtAll, Try.ntmps79, Try.results79, hh_im, hh_i5, hh_i6]) ?_ | refine HSub_drop2 (by simp only [eq_self, hh_im, hh_i5, hh_i6]) ?_ | refine HSub_keep_eq (by simp only [vsAll, binA, binLitA, intA, aggA, boolA, nilA2, isConst, unA, loadA, loadRow, partA, partOk, fieldAddrA, indexAddrA, indexA, fieldA, extractA, lenA, nilCheckA, boxA, cellA, cellsA, fillA, okParts, buildSliceA, buildMutA, makeSliceA, partIdx, elemsA, lensA, ifaceA, convA, mmA, pickA, okAll, stAll, opsA, partsA, partsOk, opA, allocA, boxMutA, newCells, okCells, storeObj, appendA, guardV, taA, nM, mapUpA, lookA, sliceA, boundsA, opO, okO, copyA, dstOk, nilA, quietOk, nilSliceOp, panA, resA, argFr, retA.eq_1, retA.eq_2, Nat.reduceAdd, Nat.reduceSub, Nat.reduceMul, Nat.reduceLT, Nat.reduceLeDiff, Nat.reduceEqDiff, Nat.reduceBEq, Int.reduceAdd, Int.reduceSub, Int.reduceMul, Int.reduceNeg, Int.reduceLE, Int.reduceLT, Int.reduceEq, Int.reduceNe, Int.reduceToNat, ↓reduceIte, reduceCtorEq, implies_true, forall_const, eq_self, ne_eq, wtAll, Try.ntmps79, Try.results79, hh_im, hh_i5, hh_i6]) ?_))

theorem ways1_tri (s o r : Int) (H : Hp) : PTri Try.prog (fnA 80) [i64 s, i64 o, i64 r] H (i64 r) := by
  refine tri_v0 (fun _ => false) Try.func80 (by kernel_rfl) rfl (by simp only [List.length_append, List.length_cons, List.length_nil, Try.ntmps80]; decide) ?_
  simp only [vsAll, opA, dstOk, nilSliceOp, resA, argFr, retA.eq_1, Nat.reduceLT, Nat.reduceEqDiff, ↓reduceIte, eq_self, Try.ntmps80, Try.results80]
theorem ways2_tri (a b : Int) (H : Hp) (h : InR .i64 (a + b)) : PTri Try.prog (fnA 81) [i64 a, i64 b] H (i64 (a + b)) := by
  refine tri_v0 (fun _ => false) Try.func81 (by kernel_rfl) rfl (by simp only [List.length_append, List.length_cons, List.length_nil, Try.ntmps81]; decide) ?_
  simp only [vsAll, binA, binLitA, intA, opA, dstOk, nilSliceOp, resA, argFr, retA.eq_1, Nat.reduceLT, Nat.reduceEqDiff, ↓reduceIte, reduceCtorEq, eq_self, Try.ntmps81, Try.results81]
  exact h
def waysT (x : Ir) (S : Nat) : Tel x S 1 moreN joinN (.func 80) (.func 81) [] [] where
  V := fun _ k v => v ≤ k
  vd := ⟨fun n j k a h h2 => Nat.le_trans h2 h, Nat.le_refl _, fun n k s o r _ h => h, fun n j k a b h h2 => Nat.add_le_add h h2⟩
  tM := fun n k s o r H _ _ _ _ _ _ _ => ways1_tri s o r H
  tJ := fun n j k a b H hn hk ha hb => by
    have := ways2_tri a b H (by simp only [InR_i64]; omega)
    simpa only [joinN, Int.natCast_add] using this
def tlN (x : Ir) (S C : Nat) (m : Bool) : Option Nat := tl x S C m 1 moreN joinN x.st.length 0 u0
theorem u0_ok : ∀ z ∈ [(0 : Int), 0, 0, 0, 0], 0 ≤ z ∧ z ≤ ((0 : Nat) : Int) := by decide
theorem ways_tri (x : Ir) (S C : Nat) (m : Bool) (H : Hp) (k : Gd x) (hS : S < 2 ^ 60) (hC : C < 2 ^ 60) : PTri Try.prog (fnA 52) [irP x S C m] H (i64 ((tlN x S C m).getD 0 : Nat)) := by
  refine Tri.drop ?_
  refine tri_v0 (fun _ => false) Try.func52 (by kernel_rfl) rfl (by simp only [List.length_append, List.length_cons, List.length_nil, Try.ntmps52]; decide) ?_
  simp only [vsAll, cellA, cellsA, fillA, okParts, okAll, stAll, opsA, partsA, partsOk, opA, dstOk, nilSliceOp, argFr, Nat.reduceAdd, Nat.reduceLT, Nat.reduceLeDiff, Nat.reduceEqDiff, ↓reduceIte, reduceCtorEq, eq_self, wtAll, Try.ntmps52]
  refine callK (tell_tri x S C m 1 moreN joinN (.func 80) (.func 81) [] [] _) ?_
  rintro r H' ⟨i5, i6, im, rfl, h5, h6, hm, hs⟩
  simp only [vsAll, fillA, okParts, okAll, stAll, opsA, partsA, partsOk, opA, dstOk, Nat.reduceLT, Nat.reduceEqDiff, ↓reduceIte, eq_self, wtAll]
  refine callK_pure (on_tri k hS hC (waysT x S) x.st.length 0 0 0 0 0 0 H' (by omega) u0_ok h5 h6 hm) ?_
  simp only [vsAll, extractA, opA, dstOk, nilSliceOp, resA, retA.eq_1, Nat.reduceAdd, Nat.reduceLT, Nat.reduceEqDiff, ↓reduceIte, eq_self, Try.results52]
  exact dropR_pure rfl hs

theorem owners1_tri (t s o r : Int) (H : Hp) (ho : 0 ≤ o ∧ o < 5) : PTri Try.prog (.func (.func 82) [] [bx t]) [i64 s, i64 o, i64 r] H (i64 (if s = t then 2 ^ o.toNat else r)) := by
  refine tri_v0 (fun _ => false) Try.func82 (by kernel_rfl) rfl (by simp only [List.length_append, List.length_cons, List.length_nil, Try.ntmps82]; decide) ?_
  simp only [vsAll, binA, binLitA, intA, loadA, loadRow, partA, partOk, opA, dstOk, nilSliceOp, argFr, Nat.reduceLT, Nat.reduceEqDiff, ↓reduceIte, reduceCtorEq, eq_self, wtAll, Try.ntmps82]
  refine condV (fun hc => ?_) (fun hc => ?_)
  · rw [decide_eq_true_eq] at hc
    rw [if_pos hc]
    simp only [vsAll, binA, binLitA, intA, opA, dstOk, nilSliceOp, resA, argFr, retA.eq_1, Nat.reduceLT, Nat.reduceEqDiff, ↓reduceIte, eq_self, Try.results82]
    refine ⟨⟨by omega, by omega, ?_⟩, by rw [Int.one_mul]⟩
    have h5 : o = 0 ∨ o = 1 ∨ o = 2 ∨ o = 3 ∨ o = 4 := by omega
    simp only [InR_i64]
    rcases h5 with rfl | rfl | rfl | rfl | rfl <;> decide
  · rw [decide_eq_false_iff_not] at hc
    rw [if_neg hc]
    simp only [vsAll, opA, dstOk, nilSliceOp, resA, argFr, retA.eq_1, Nat.reduceLT, Nat.reduceEqDiff, ↓reduceIte, eq_self, Try.results82]
theorem owners2_tri (a b : Nat) (H : Hp) (ha : a < 32) (hb : b < 32) : PTri Try.prog (fnA 83) [i64 (a : Nat), i64 (b : Nat)] H (i64 ((a ||| b : Nat) : Int)) := by
  refine tri_v0 (fun _ => false) Try.func83 (by kernel_rfl) rfl (by simp only [List.length_append, List.length_cons, List.length_nil, Try.ntmps83]; decide) ?_
  simp only [vsAll, binA, binLitA, intA, opA, dstOk, nilSliceOp, resA, argFr, retA.eq_1, Nat.reduceLT, Nat.reduceEqDiff, ↓reduceIte, reduceCtorEq, eq_self, Try.ntmps83, Try.results83]
  simp only [InR_i64]
  omega
/-- All strakes are looked at. -/
def ownersT (x : Ir) (S t : Nat) (hO : x.ow.length ≤ 5) (hS : ∀ s, s < x.st.length → S.testBit s = true) : Tel x S 0 (moreO t) joinO (.func 82) (.func 83) [bx t] [] where
  V := fun _ _ v => v < 32
  vd := ⟨fun n j k a h h2 => h2, by decide, fun n k s o r ho h => by
    unfold moreO
    split
    · have h2 : 2 ^ o.toNat ≤ 2 ^ 4 := Nat.pow_le_pow_right (by decide) (by omega)
      omega
    · exact h, fun n j k a b h h2 => Nat.or_lt_two_pow (n := 5) h h2⟩
  tM := fun n k s o r H _ _ hs h1 h2 h3 hr => by
    have := owners1_tri t s o r H ⟨h3 (hS s hs), by omega⟩
    have e : (if (s : Int) = t then 2 ^ o.toNat else (r : Int)) = ((moreO t s o r : Nat) : Int) := by
      unfold moreO
      by_cases e : s = t
      · rw [if_pos (by omega), if_pos e]; simp
      · rw [if_neg (by omega), if_neg e]
    rw [e] at this
    exact this
  tJ := fun n j k a b H _ _ ha hb => owners2_tri a b H ha hb
def tlO (x : Ir) (S C : Nat) (m : Bool) (t : Nat) : Option Nat := tl x S C m 0 (moreO t) joinO x.st.length 0 u0
theorem owners_tri (x : Ir) (S C t : Nat) (m : Bool) (H : Hp) (k : Gd x) (hS : S < 2 ^ 60) (hC : C < 2 ^ 60) (hf : ∀ s, s < x.st.length → S.testBit s = true) : PTri Try.prog (fnA 55) [irP x S C m, i64 t] H (i64 ((tlO x S C m t).getD 0 : Nat)) := by
  refine Tri.drop ?_
  refine tri_v0 (fun _ => false) Try.func55 (by kernel_rfl) rfl (by simp only [List.length_append, List.length_cons, List.length_nil, Try.ntmps55]; decide) ?_
  simp only [vsAll, boxA, cellA, cellsA, fillA, okParts, okAll, stAll, opsA, partsA, partsOk, opA, dstOk, nilSliceOp, argFr, Nat.reduceAdd, Nat.reduceLT, Nat.reduceLeDiff, Nat.reduceEqDiff, ↓reduceIte, reduceCtorEq, eq_self, wtAll, Try.ntmps55]
  refine callK (tell_tri x S C m 0 (moreO t) joinO (.func 82) (.func 83) [bx t] [] _) ?_
  rintro r H' ⟨i5, i6, im, rfl, h5, h6, hm, hs⟩
  simp only [vsAll, fillA, okParts, okAll, stAll, opsA, partsA, partsOk, opA, dstOk, Nat.reduceLT, Nat.reduceEqDiff, ↓reduceIte, eq_self, wtAll]
  refine callK_pure (on_tri k hS hC (ownersT x S t k.nO hf) x.st.length 0 0 0 0 0 0 H' (by omega) u0_ok h5 h6 hm) ?_
  simp only [vsAll, extractA, opA, dstOk, nilSliceOp, resA, retA.eq_1, Nat.reduceAdd, Nat.reduceLT, Nat.reduceEqDiff, ↓reduceIte, eq_self, Try.results55]
  exact dropR_pure rfl hs

theorem told_tri (x : Ir) (S C : Nat) (m : Bool) (H : Hp) (k : Gd x) (hS : S < 2 ^ 60) (hC : C < 2 ^ 60) :
    Tri Try.prog (fnA 54) [irP x S C m] H fun r H' => H' = H ∧ r = if 0 < (tlN x S C m).getD 0 then .ret (irP x S C m) else .pan (.iface 92 (i64 10)) := by
  refine tri_v0 (fun _ => false) Try.func54 (by kernel_rfl) rfl (by simp only [List.length_append, List.length_cons, List.length_nil, Try.ntmps54]; decide) ?_
  simp only [vsAll, okAll, stAll, opsA, opA, dstOk, nilSliceOp, argFr, Nat.reduceLT, ↓reduceIte, reduceCtorEq, eq_self, Try.ntmps54]
  refine callK_pure (ways_tri x S C m _ k hS hC) ?_
  simp only [vsAll, binA, binLitA, intA, okAll, stAll, opsA, opA, dstOk, Nat.reduceLT, ↓reduceIte, eq_self]
  refine ask_call (fun h => ?_) (fun h => ?_)
  · rw [decide_eq_true_eq] at h
    rw [if_pos (by omega)]
    simp only [vsAll, opA, dstOk, nilSliceOp, resA, argFr, retA.eq_1, Nat.reduceLT, ↓reduceIte, reduceCtorEq, eq_self, Try.results54]
  · rw [decide_eq_false_iff_not] at h
    rw [if_neg (by omega)]
    simp only [vsAll, eq_self]
end Go.Proofs.Ytkonoggmdcdeeaa
end
section
set_option linter.unusedVariables false
set_option linter.unusedSimpArgs false
namespace Go.Proofs.Ytkonoggmdcdeeaa
open Go.V
theorem tlN_len {x : Ir} (k : Gd x) (S C : Nat) : (tlN x S C false).getD 0 = (truS x S).length := by
  rw [tlN, tl_eq x S C false 1 moreN joinN (fun a b c => Nat.add_assoc a b c) (fun s o a b => rfl), foldN, List.length_map, truS_cont x S C k]
  intro a ha
  obtain ⟨t, _, rfl⟩ := List.mem_map.1 ha
  exact valN 0 t
theorem moreO_join (t s : Nat) (o : Int) (a b : Nat) : moreO t s o (joinO a b) = joinO (moreO t s o a) (moreO t s o b) := by
  unfold moreO joinO
  split
  · rw [Nat.or_self]
  · rfl
theorem who_bit {l : List (List Int)} {s : Nat} (hl : ∀ t, t ∈ l → ∃ o : Nat, o < 5 ∧ t.getD s 0 = (o : Int)) (o : Nat) : (who l s).testBit o = true ↔ ∃ t ∈ l, t.getD s 0 = (o : Int) := by
  have := (whoN_ok hl l.length (Nat.le_refl _)).2 o
  rw [who, this, List.take_length, List.any_eq_true]
  simp only [decide_eq_true_eq]
theorem truA_own {x : Ir} (k : Ok x) {t : Nat} (ht : t < x.st.length) : ∀ l, l ∈ truA x → ∃ o : Nat, o < 5 ∧ l.getD t 0 = (o : Int) := fun l hl => by
  obtain ⟨o, h1, h2⟩ := (truA_mem hl).2 t ht
  have := k.nO
  exact ⟨o, by omega, h2⟩
theorem tlO_who {x : Ir} (k : Ok x) (C : Nat) {t : Nat} (ht : t < x.st.length) : (tlO x (fullS x) C false t).getD 0 = who (truA x) t := by
  apply Nat.eq_of_testBit_eq
  intro o
  rw [Bool.eq_iff_iff, who_bit (truA_own k ht), tlO, tl_eq x (fullS x) C false 0 (moreO t) joinO (fun a b c => Nat.or_assoc a b c) (fun s o a b => moreO_join t s o a b), foldO_bit]
  rw [← truS_cont x (fullS x) C k.gd]
  constructor
  · rintro ⟨a, ha, hb⟩
    obtain ⟨l, hl, rfl⟩ := List.mem_map.1 ha
    obtain ⟨q, hq, hq2⟩ := truA_own k ht l hl
    have hlen := (truA_mem hl).1
    rw [valO t 0 l (Nat.zero_le _) (by omega), Nat.sub_zero, hq2, Int.toNat_natCast, Nat.testBit_two_pow, decide_eq_true_eq] at hb
    exact ⟨l, hl, by rw [hq2, hb]⟩
  · rintro ⟨l, hl, hq⟩
    have hlen := (truA_mem hl).1
    refine ⟨_, List.mem_map.2 ⟨l, hl, rfl⟩, ?_⟩
    rw [valO t 0 l (Nat.zero_le _) (by omega), Nat.sub_zero, hq, Int.toNat_natCast, Nat.testBit_two_pow, decide_eq_true_eq]

def isN (c : Cl) (w : Nat) : Nat → Bool
  | 0 => false
  | i + 1 => isN c w i || w.testBit i && rightO c i
def ntN (c : Cl) (w : Nat) : Nat → Bool
  | 0 => false
  | i + 1 => ntN c w i || w.testBit i && !rightO c i
theorem isN_iff (c : Cl) (w i : Nat) : isN c w i = true ↔ ∃ o : Nat, o < i ∧ w.testBit o = true ∧ rightO c o = true := by
  induction i with
  | zero => simp [isN]
  | succ i ih =>
    simp only [isN, Bool.or_eq_true, ih, Bool.and_eq_true]
    constructor
    · rintro (⟨o, h1, h2⟩ | h)
      · exact ⟨o, by omega, h2⟩
      · exact ⟨i, by omega, h⟩
    · rintro ⟨o, h1, h2⟩
      by_cases e : o = i
      · subst e; exact .inr h2
      · exact .inl ⟨o, by omega, h2⟩
theorem ntN_iff (c : Cl) (w i : Nat) : ntN c w i = true ↔ ∃ o : Nat, o < i ∧ w.testBit o = true ∧ rightO c o = false := by
  induction i with
  | zero => simp [ntN]
  | succ i ih =>
    simp only [ntN, Bool.or_eq_true, ih, Bool.and_eq_true, Bool.not_eq_true']
    constructor
    · rintro (⟨o, h1, h2⟩ | h)
      · exact ⟨o, by omega, h2⟩
      · exact ⟨i, by omega, h⟩
    · rintro ⟨o, h1, h2⟩
      by_cases e : o = i
      · subst e; exact .inr h2
      · exact .inl ⟨o, by omega, h2⟩
theorem who_lt {x : Ir} (k : Ok x) {t : Nat} (ht : t < x.st.length) : who (truA x) t < 32 := by
  apply Nat.lt_of_not_le
  intro h
  have hlt : who (truA x) t < 64 := (whoN_ok (truA_own k ht) _ (Nat.le_refl _)).1
  have hb : (who (truA x) t).testBit 5 = true := by
    rw [Nat.testBit_eq_decide_div_mod_eq]
    simp only [decide_eq_true_eq]
    omega
  obtain ⟨l, hl, h2⟩ := (who_bit (truA_own k ht) 5).1 hb
  obtain ⟨o, h3, h4⟩ := truA_own k ht l hl
  omega
theorem rcN_all {x : Ir} {n : Nat} : rcN x n (truA x).length = (truA x).length ↔ ∀ t ∈ truA x, rightT x t n = true := by
  rw [rcN, List.take_length, List.countP_eq_length]
theorem rcN_no {x : Ir} {n : Nat} : rcN x n (truA x).length = 0 ↔ ∀ t ∈ truA x, ¬ rightT x t n = true := by
  rw [rcN, List.take_length, List.countP_eq_zero]
theorem claim_law {x : Ir} (k : Ok x) {n : Nat} (hn : n < x.cl.length) {i : Nat} (hi : who (truA x) (x.cl.getD n cl0).s.toNat < 2 ^ i) :
    (if ntN (x.cl.getD n cl0) (who (truA x) (x.cl.getD n cl0).s.toNat) i = false then (2 : Int) else if isN (x.cl.getD n cl0) (who (truA x) (x.cl.getD n cl0).s.toNat) i = false then 0 else 1) =
      if rcN x n (truA x).length = (truA x).length then 2 else if rcN x n (truA x).length = 0 then 0 else 1 := by
  have hs := k.cs n hn
  have ht : (x.cl.getD n cl0).s.toNat < x.st.length := by omega
  have hbit : ∀ o, (who (truA x) (x.cl.getD n cl0).s.toNat).testBit o = true → o < i := fun o ho => by
    apply Nat.lt_of_not_le
    intro h
    rw [Nat.testBit_lt_two_pow (Nat.lt_of_lt_of_le hi (Nat.pow_le_pow_right (by decide) h))] at ho
    cases ho
  have h1 : ntN (x.cl.getD n cl0) (who (truA x) (x.cl.getD n cl0).s.toNat) i = false ↔ ∀ t ∈ truA x, rightT x t n = true := by
    rw [← Bool.not_eq_true, ntN_iff]
    constructor
    · intro h t hm
      obtain ⟨o, _, h3⟩ := truA_own k ht t hm
      have hb := (who_bit (truA_own k ht) o).2 ⟨t, hm, h3⟩
      have : ¬ rightO (x.cl.getD n cl0) o = false := fun q => h ⟨o, hbit o hb, hb, q⟩
      rw [rightT, h3]
      simpa using this
    · rintro h ⟨o, _, h2, h3⟩
      obtain ⟨t, hm, h4⟩ := (who_bit (truA_own k ht) o).1 h2
      have := h t hm
      rw [rightT, h4, h3] at this
      cases this
  have h2 : isN (x.cl.getD n cl0) (who (truA x) (x.cl.getD n cl0).s.toNat) i = false ↔ ∀ t ∈ truA x, ¬ rightT x t n = true := by
    rw [← Bool.not_eq_true, isN_iff]
    constructor
    · intro h t hm q
      obtain ⟨o, _, h3⟩ := truA_own k ht t hm
      have hb := (who_bit (truA_own k ht) o).2 ⟨t, hm, h3⟩
      rw [rightT, h3] at q
      exact h ⟨o, hbit o hb, hb, q⟩
    · rintro h ⟨o, _, h2, h3⟩
      obtain ⟨t, hm, h4⟩ := (who_bit (truA_own k ht) o).1 h2
      refine h t hm ?_
      rw [rightT, h4, h3]
  simp only [h1, h2, rcN_all, rcN_no]
end Go.Proofs.Ytkonoggmdcdeeaa
end
section
set_option linter.unusedVariables false
set_option linter.unusedSimpArgs false
set_option maxHeartbeats 4000000
set_option maxRecDepth 100000
namespace Go.Proofs.Ytkonoggmdcdeeaa
open Go.V
theorem full_lt {x : Ir} (k : Ok x) : fullS x < 2 ^ 60 ∧ fullC x < 2 ^ 60 := by
  have h1 : 2 ^ x.st.length ≤ 2 ^ 6 := Nat.pow_le_pow_right (by decide) k.nS
  have h2 : 2 ^ x.cl.length ≤ 2 ^ 8 := Nat.pow_le_pow_right (by decide) k.nC
  simp only [fullS, fullC]
  omega
theorem truA_full (x : Ir) : truS x (fullS x) = truA x := rfl
theorem told_call {x : Ir} {C : Nat} {H : Hp} {K Kp : AV → Hp → Prop} (k : Ok x) (hC : C < 2 ^ 60) (h1 : 0 < (truA x).length → K (irP x (fullS x) C false) H) (h2 : (truA x).length = 0 → Kp (.iface 92 (i64 10)) H) :
    CallK Try.prog (fnA 54) [irP x (fullS x) C false] H K Kp := by
  refine ⟨_, told_tri x (fullS x) C false H k.gd (full_lt k).1 hC, ?_⟩
  rintro r H' ⟨rfl, rfl⟩
  rw [tlN_len k.gd, truA_full]
  by_cases h : 0 < (truA x).length
  · rw [if_pos h]; exact h1 h
  · rw [if_neg h]; exact h2 (by omega)
theorem errE_told {x : Ir} (k : Ok x) (h : 0 < (truA x).length) : errE x true true = 0 := by unfold errE; rw [if_pos k, if_pos rfl, if_neg (by omega)]
theorem errE_clash {x : Ir} (k : Ok x) (h : (truA x).length = 0) : errE x true true = 10 := by unfold errE; rw [if_pos k, if_pos rfl, if_pos ⟨rfl, h⟩]

theorem wcount_tri (x : Ir) (H : Hp) (kn : Near x) : PTri Try.prog (fnA 17) [x.av] H (.tuple [i64 (countV x : Nat), i64 (countE x)]) := by
  refine Tri.drop ?_
  refine tri_a (m := fun _ => false) ans43 Try.func17 (by kernel_rfl) rfl (by simp only [List.length_append, List.length_cons, List.length_nil, Try.ntmps17]; decide) ?_
  simp only [vsAll, loadA, loadRow, partA, partOk, boxA, okAll, stAll, opsA, opA, allocA, dstOk, nilSliceOp, argFr, Nat.reduceAdd, Nat.reduceLT, Nat.reduceEqDiff, ↓reduceIte, eq_self, wtAll, Try.ntmps17]
  intro i3 hh_i3; (try simp only [Hp.set_none, ite_none] at hh_i3)
  refine open_call (open_tri x _ true _ kn trivial rfl (fun hk H' => always_tri _ H')) (fun hno => ?_) (fun hk hv => ?_) (fun hk hv => ?_)
  · have e : countE x = 1 := errE_no hno _ _
    have ev : countV x = 0 := by simp only [countV, e]; rfl
    simp only [vsAll]
    refine ⟨1, i3, _, rfl, rfl, by simp only [vsAll, ↓reduceIte, eq_self]; try rfl, ?_⟩
    simp only [vsAll, loadA, loadRow, partA, partOk, resA, retA.eq_2, Nat.reduceLT, Nat.reduceEqDiff, ↓reduceIte, eq_self, wtAll, Try.results17]
    refine dropR_pure ?_ (by (repeat (first | exact HSub_rfl | refine HSub_put_eq (by simp only [vsAll, binA, binLitA, intA, aggA, boolA, nilA2, isConst, unA, loadA, loadRow, partA, partOk, fieldAddrA, indexAddrA, indexA, fieldA, extractA, lenA, nilCheckA, boxA, cellA, cellsA, fillA, okParts, buildSliceA, buildMutA, makeSliceA, partIdx, elemsA, lensA, ifaceA, convA, mmA, pickA, okAll, stAll, opsA, partsA, partsOk, opA, allocA, boxMutA, newCells, okCells, storeObj, appendA, guardV, taA, nM, mapUpA, lookA, sliceA, boundsA, opO, okO, copyA, dstOk, nilA, quietOk, nilSliceOp, panA, resA, argFr, retA.eq_1, retA.eq_2, Nat.reduceAdd, Nat.reduceSub, Nat.reduceMul, Nat.reduceLT, Nat.reduceLeDiff, Nat.reduceEqDiff, Nat.reduceBEq, Int.reduceAdd, Int.reduceSub, Int.reduceMul, Int.reduceNeg, Int.reduceLE, Int.reduceLT, Int.reduceEq, Int.reduceNe, Int.reduceToNat, ↓reduceIte, reduceCtorEq, implies_true, forall_const, eq_self, ne_eq, wtAll, Try.ntmps17, Try.results17, hh_i3]) ?_ | refine HSub_drop2 (by simp only [eq_self, hh_i3]) ?_ | refine HSub_keep_eq (by simp only [vsAll, binA, binLitA, intA, aggA, boolA, nilA2, isConst, unA, loadA, loadRow, partA, partOk, fieldAddrA, indexAddrA, indexA, fieldA, extractA, lenA, nilCheckA, boxA, cellA, cellsA, fillA, okParts, buildSliceA, buildMutA, makeSliceA, partIdx, elemsA, lensA, ifaceA, convA, mmA, pickA, okAll, stAll, opsA, partsA, partsOk, opA, allocA, boxMutA, newCells, okCells, storeObj, appendA, guardV, taA, nM, mapUpA, lookA, sliceA, boundsA, opO, okO, copyA, dstOk, nilA, quietOk, nilSliceOp, panA, resA, argFr, retA.eq_1, retA.eq_2, Nat.reduceAdd, Nat.reduceSub, Nat.reduceMul, Nat.reduceLT, Nat.reduceLeDiff, Nat.reduceEqDiff, Nat.reduceBEq, Int.reduceAdd, Int.reduceSub, Int.reduceMul, Int.reduceNeg, Int.reduceLE, Int.reduceLT, Int.reduceEq, Int.reduceNe, Int.reduceToNat, ↓reduceIte, reduceCtorEq, implies_true, forall_const, eq_self, ne_eq, wtAll, Try.ntmps17, Try.results17, hh_i3]) ?_)))
    simp only [eq_self, ev, e, Int.natCast_zero]
  · cases hv
  · have e : countE x = 0 := errE_ok hk
    have ev : countV x = (truA x).length := by simp only [countV, e, if_true]
    simp only [vsAll, okAll, stAll, opsA, opA, dstOk, Nat.reduceLT, ↓reduceIte, eq_self]
    refine callK_pure (ways_tri x (fullS x) (fullC x) false _ hk.gd (full_lt hk).1 (full_lt hk).2) ?_
    rw [tlN_len hk.gd, truA_full]
    simp only [vsAll, cellA, cellsA, opA, newCells, okCells, storeObj, dstOk, nilSliceOp, Nat.reduceLT, Nat.reduceEqDiff, ↓reduceIte, eq_self, wtAll]
    refine Ent.ret ⟨i3, _, rfl, by simp only [vsAll, ↓reduceIte, eq_self]; try rfl, ?_⟩
    simp only [vsAll, loadA, loadRow, partA, partOk, resA, retA.eq_2, Nat.reduceLT, Nat.reduceEqDiff, ↓reduceIte, eq_self, wtAll, Try.results17]
    refine dropR_pure ?_ (by (repeat (first | exact HSub_rfl | refine HSub_put_eq (by simp only [vsAll, binA, binLitA, intA, aggA, boolA, nilA2, isConst, unA, loadA, loadRow, partA, partOk, fieldAddrA, indexAddrA, indexA, fieldA, extractA, lenA, nilCheckA, boxA, cellA, cellsA, fillA, okParts, buildSliceA, buildMutA, makeSliceA, partIdx, elemsA, lensA, ifaceA, convA, mmA, pickA, okAll, stAll, opsA, partsA, partsOk, opA, allocA, boxMutA, newCells, okCells, storeObj, appendA, guardV, taA, nM, mapUpA, lookA, sliceA, boundsA, opO, okO, copyA, dstOk, nilA, quietOk, nilSliceOp, panA, resA, argFr, retA.eq_1, retA.eq_2, Nat.reduceAdd, Nat.reduceSub, Nat.reduceMul, Nat.reduceLT, Nat.reduceLeDiff, Nat.reduceEqDiff, Nat.reduceBEq, Int.reduceAdd, Int.reduceSub, Int.reduceMul, Int.reduceNeg, Int.reduceLE, Int.reduceLT, Int.reduceEq, Int.reduceNe, Int.reduceToNat, ↓reduceIte, reduceCtorEq, implies_true, forall_const, eq_self, ne_eq, wtAll, Try.ntmps17, Try.results17, hh_i3]) ?_ | refine HSub_drop2 (by simp only [eq_self, hh_i3]) ?_ | refine HSub_keep_eq (by simp only [vsAll, binA, binLitA, intA, aggA, boolA, nilA2, isConst, unA, loadA, loadRow, partA, partOk, fieldAddrA, indexAddrA, indexA, fieldA, extractA, lenA, nilCheckA, boxA, cellA, cellsA, fillA, okParts, buildSliceA, buildMutA, makeSliceA, partIdx, elemsA, lensA, ifaceA, convA, mmA, pickA, okAll, stAll, opsA, partsA, partsOk, opA, allocA, boxMutA, newCells, okCells, storeObj, appendA, guardV, taA, nM, mapUpA, lookA, sliceA, boundsA, opO, okO, copyA, dstOk, nilA, quietOk, nilSliceOp, panA, resA, argFr, retA.eq_1, retA.eq_2, Nat.reduceAdd, Nat.reduceSub, Nat.reduceMul, Nat.reduceLT, Nat.reduceLeDiff, Nat.reduceEqDiff, Nat.reduceBEq, Int.reduceAdd, Int.reduceSub, Int.reduceMul, Int.reduceNeg, Int.reduceLE, Int.reduceLT, Int.reduceEq, Int.reduceNe, Int.reduceToNat, ↓reduceIte, reduceCtorEq, implies_true, forall_const, eq_self, ne_eq, wtAll, Try.ntmps17, Try.results17, hh_i3]) ?_)))
    simp only [eq_self, e, ev]
theorem wcan_tri (x : Ir) (s : Int) (H : Hp) (kn : Near x) : PTri Try.prog (fnA 19) [x.av, i64 s] H (.tuple [i64 (canV x s : Nat), i64 (canE x s)]) := by
  refine Tri.drop ?_
  refine tri_a (m := fun _ => false) ans43 Try.func19 (by kernel_rfl) rfl (by simp only [List.length_append, List.length_cons, List.length_nil, Try.ntmps19]; decide) ?_
  simp only [vsAll, boxA, okAll, stAll, opsA, opA, allocA, dstOk, nilSliceOp, argFr, Nat.reduceAdd, Nat.reduceLT, ↓reduceIte, eq_self, wtAll, Try.ntmps19]
  intro i5 hh_i5; (try simp only [Hp.set_none, ite_none] at hh_i5)
  refine vs_draw2 [0, 0, 0, 1, 3, 0, 4, 4, 5] [([0, 1, 2, 5], [], 3), ([], [], 4), ([6, 7], [], 8)] [] (by decide +kernel) ?_
  simp only [vsAll, loadA, loadRow, partA, partOk, opA, dstOk, argFr, Nat.reduceLT, Nat.reduceEqDiff, ↓reduceIte, eq_self, wtAll]
  refine qcall _ ⟨trivial, by simp only [vsAll, okAll, opsA, opA, ↓reduceIte, eq_self], isStrakeF_tri s _⟩ ?_
  simp only [vsAll, okAll, stAll, opsA, opA, dstOk, argFr, Nat.reduceLT, Nat.reduceEqDiff, ↓reduceIte, eq_self]
  refine open_call (open_tri x _ (strB x s) _ kn trivial rfl (fun hk H' => isStrake1_tri x _ _ _ s H' kn)) (fun hno => ?_) (fun hk hv => ?_) (fun hk hv => ?_)
  · have e : canE x s = 1 := errE_no hno _ _
    have ev : canV x s = 0 := by simp only [canV, e]; rfl
    simp only [vsAll]
    refine ⟨1, i5, _, rfl, rfl, by simp only [vsAll, ↓reduceIte, eq_self]; try rfl, ?_⟩
    simp only [vsAll, loadA, loadRow, partA, partOk, resA, retA.eq_2, Nat.reduceLT, Nat.reduceEqDiff, ↓reduceIte, eq_self, wtAll, Try.results19]
    refine dropR_pure ?_ (by (repeat (first | exact HSub_rfl | refine HSub_put_eq (by simp only [vsAll, binA, binLitA, intA, aggA, boolA, nilA2, isConst, unA, loadA, loadRow, partA, partOk, fieldAddrA, indexAddrA, indexA, fieldA, extractA, lenA, nilCheckA, boxA, cellA, cellsA, fillA, okParts, buildSliceA, buildMutA, makeSliceA, partIdx, elemsA, lensA, ifaceA, convA, mmA, pickA, okAll, stAll, opsA, partsA, partsOk, opA, allocA, boxMutA, newCells, okCells, storeObj, appendA, guardV, taA, nM, mapUpA, lookA, sliceA, boundsA, opO, okO, copyA, dstOk, nilA, quietOk, nilSliceOp, panA, resA, argFr, retA.eq_1, retA.eq_2, Nat.reduceAdd, Nat.reduceSub, Nat.reduceMul, Nat.reduceLT, Nat.reduceLeDiff, Nat.reduceEqDiff, Nat.reduceBEq, Int.reduceAdd, Int.reduceSub, Int.reduceMul, Int.reduceNeg, Int.reduceLE, Int.reduceLT, Int.reduceEq, Int.reduceNe, Int.reduceToNat, ↓reduceIte, reduceCtorEq, implies_true, forall_const, eq_self, ne_eq, wtAll, Try.ntmps19, Try.results19, hh_i5]) ?_ | refine HSub_drop2 (by simp only [eq_self, hh_i5]) ?_ | refine HSub_keep_eq (by simp only [vsAll, binA, binLitA, intA, aggA, boolA, nilA2, isConst, unA, loadA, loadRow, partA, partOk, fieldAddrA, indexAddrA, indexA, fieldA, extractA, lenA, nilCheckA, boxA, cellA, cellsA, fillA, okParts, buildSliceA, buildMutA, makeSliceA, partIdx, elemsA, lensA, ifaceA, convA, mmA, pickA, okAll, stAll, opsA, partsA, partsOk, opA, allocA, boxMutA, newCells, okCells, storeObj, appendA, guardV, taA, nM, mapUpA, lookA, sliceA, boundsA, opO, okO, copyA, dstOk, nilA, quietOk, nilSliceOp, panA, resA, argFr, retA.eq_1, retA.eq_2, Nat.reduceAdd, Nat.reduceSub, Nat.reduceMul, Nat.reduceLT, Nat.reduceLeDiff, Nat.reduceEqDiff, Nat.reduceBEq, Int.reduceAdd, Int.reduceSub, Int.reduceMul, Int.reduceNeg, Int.reduceLE, Int.reduceLT, Int.reduceEq, Int.reduceNe, Int.reduceToNat, ↓reduceIte, reduceCtorEq, implies_true, forall_const, eq_self, ne_eq, wtAll, Try.ntmps19, Try.results19, hh_i5]) ?_)))
    simp only [eq_self, ev, e, Int.natCast_zero]
  · have e : canE x s = 2 := by unfold canE; rw [hv]; exact errE_bad hk _
    have ev : canV x s = 0 := by simp only [canV, e]; rfl
    simp only [vsAll]
    refine ⟨2, i5, _, rfl, rfl, by simp only [vsAll, ↓reduceIte, eq_self]; try rfl, ?_⟩
    simp only [vsAll, loadA, loadRow, partA, partOk, resA, retA.eq_2, Nat.reduceLT, Nat.reduceEqDiff, ↓reduceIte, eq_self, wtAll, Try.results19]
    refine dropR_pure ?_ (by (repeat (first | exact HSub_rfl | refine HSub_put_eq (by simp only [vsAll, binA, binLitA, intA, aggA, boolA, nilA2, isConst, unA, loadA, loadRow, partA, partOk, fieldAddrA, indexAddrA, indexA, fieldA, extractA, lenA, nilCheckA, boxA, cellA, cellsA, fillA, okParts, buildSliceA, buildMutA, makeSliceA, partIdx, elemsA, lensA, ifaceA, convA, mmA, pickA, okAll, stAll, opsA, partsA, partsOk, opA, allocA, boxMutA, newCells, okCells, storeObj, appendA, guardV, taA, nM, mapUpA, lookA, sliceA, boundsA, opO, okO, copyA, dstOk, nilA, quietOk, nilSliceOp, panA, resA, argFr, retA.eq_1, retA.eq_2, Nat.reduceAdd, Nat.reduceSub, Nat.reduceMul, Nat.reduceLT, Nat.reduceLeDiff, Nat.reduceEqDiff, Nat.reduceBEq, Int.reduceAdd, Int.reduceSub, Int.reduceMul, Int.reduceNeg, Int.reduceLE, Int.reduceLT, Int.reduceEq, Int.reduceNe, Int.reduceToNat, ↓reduceIte, reduceCtorEq, implies_true, forall_const, eq_self, ne_eq, wtAll, Try.ntmps19, Try.results19, hh_i5]) ?_ | refine HSub_drop2 (by simp only [eq_self, hh_i5]) ?_ | refine HSub_keep_eq (by simp only [vsAll, binA, binLitA, intA, aggA, boolA, nilA2, isConst, unA, loadA, loadRow, partA, partOk, fieldAddrA, indexAddrA, indexA, fieldA, extractA, lenA, nilCheckA, boxA, cellA, cellsA, fillA, okParts, buildSliceA, buildMutA, makeSliceA, partIdx, elemsA, lensA, ifaceA, convA, mmA, pickA, okAll, stAll, opsA, partsA, partsOk, opA, allocA, boxMutA, newCells, okCells, storeObj, appendA, guardV, taA, nM, mapUpA, lookA, sliceA, boundsA, opO, okO, copyA, dstOk, nilA, quietOk, nilSliceOp, panA, resA, argFr, retA.eq_1, retA.eq_2, Nat.reduceAdd, Nat.reduceSub, Nat.reduceMul, Nat.reduceLT, Nat.reduceLeDiff, Nat.reduceEqDiff, Nat.reduceBEq, Int.reduceAdd, Int.reduceSub, Int.reduceMul, Int.reduceNeg, Int.reduceLE, Int.reduceLT, Int.reduceEq, Int.reduceNe, Int.reduceToNat, ↓reduceIte, reduceCtorEq, implies_true, forall_const, eq_self, ne_eq, wtAll, Try.ntmps19, Try.results19, hh_i5]) ?_)))
    simp only [eq_self, ev, e, Int.natCast_zero]
  · simp only [vsAll, okAll, stAll, opsA, opA, dstOk, Nat.reduceLT, ↓reduceIte, eq_self]
    refine told_call hk (full_lt hk).2 (fun hl => ?_) (fun hl => ?_)
    · have e : canE x s = 0 := by unfold canE; rw [hv]; exact errE_told hk hl
      rw [strB_iff] at hv
      obtain ⟨q, rfl⟩ : ∃ q : Nat, s = (q : Int) := ⟨s.toNat, by ((try clear hh_i5); omega)⟩
      have ev : canV x q = who (truA x) q := by simp only [canV, e, if_true, Int.toNat_natCast]
      simp only [vsAll, dstOk, Nat.reduceLT, eq_self]
      refine qcall _ ⟨trivial, by simp only [vsAll, okAll, opsA, opA, Nat.reduceEqDiff, ↓reduceIte, eq_self], owners_tri x (fullS x) (fullC x) q false _ hk.gd (full_lt hk).1 (full_lt hk).2 (fun s hs => full_bit _ _ hs)⟩ ?_
      rw [tlO_who hk _ (by ((try clear hh_i5); omega))]
      simp only [vsAll, cellA, cellsA, opA, newCells, okCells, storeObj, dstOk, Nat.reduceLT, Nat.reduceEqDiff, ↓reduceIte, eq_self, wtAll]
      refine Ent.ret ⟨i5, _, rfl, by simp only [vsAll, ↓reduceIte, eq_self]; try rfl, ?_⟩
      simp only [vsAll, loadA, loadRow, partA, partOk, resA, retA.eq_2, Nat.reduceLT, Nat.reduceEqDiff, ↓reduceIte, eq_self, wtAll, Try.results19]
      refine dropR_pure ?_ (by (repeat (first | exact HSub_rfl | refine HSub_put_eq (by simp only [vsAll, binA, binLitA, intA, aggA, boolA, nilA2, isConst, unA, loadA, loadRow, partA, partOk, fieldAddrA, indexAddrA, indexA, fieldA, extractA, lenA, nilCheckA, boxA, cellA, cellsA, fillA, okParts, buildSliceA, buildMutA, makeSliceA, partIdx, elemsA, lensA, ifaceA, convA, mmA, pickA, okAll, stAll, opsA, partsA, partsOk, opA, allocA, boxMutA, newCells, okCells, storeObj, appendA, guardV, taA, nM, mapUpA, lookA, sliceA, boundsA, opO, okO, copyA, dstOk, nilA, quietOk, nilSliceOp, panA, resA, argFr, retA.eq_1, retA.eq_2, Nat.reduceAdd, Nat.reduceSub, Nat.reduceMul, Nat.reduceLT, Nat.reduceLeDiff, Nat.reduceEqDiff, Nat.reduceBEq, Int.reduceAdd, Int.reduceSub, Int.reduceMul, Int.reduceNeg, Int.reduceLE, Int.reduceLT, Int.reduceEq, Int.reduceNe, Int.reduceToNat, ↓reduceIte, reduceCtorEq, implies_true, forall_const, eq_self, ne_eq, wtAll, Try.ntmps19, Try.results19, hh_i5]) ?_ | refine HSub_drop2 (by simp only [eq_self, hh_i5]) ?_ | refine HSub_keep_eq (by simp only [vsAll, binA, binLitA, intA, aggA, boolA, nilA2, isConst, unA, loadA, loadRow, partA, partOk, fieldAddrA, indexAddrA, indexA, fieldA, extractA, lenA, nilCheckA, boxA, cellA, cellsA, fillA, okParts, buildSliceA, buildMutA, makeSliceA, partIdx, elemsA, lensA, ifaceA, convA, mmA, pickA, okAll, stAll, opsA, partsA, partsOk, opA, allocA, boxMutA, newCells, okCells, storeObj, appendA, guardV, taA, nM, mapUpA, lookA, sliceA, boundsA, opO, okO, copyA, dstOk, nilA, quietOk, nilSliceOp, panA, resA, argFr, retA.eq_1, retA.eq_2, Nat.reduceAdd, Nat.reduceSub, Nat.reduceMul, Nat.reduceLT, Nat.reduceLeDiff, Nat.reduceEqDiff, Nat.reduceBEq, Int.reduceAdd, Int.reduceSub, Int.reduceMul, Int.reduceNeg, Int.reduceLE, Int.reduceLT, Int.reduceEq, Int.reduceNe, Int.reduceToNat, ↓reduceIte, reduceCtorEq, implies_true, forall_const, eq_self, ne_eq, wtAll, Try.ntmps19, Try.results19, hh_i5]) ?_)))
      simp only [eq_self, e, ev]
    · have e : canE x s = 10 := by unfold canE; rw [hv]; exact errE_clash hk hl
      have ev : canV x s = 0 := by simp only [canV, e]; rfl
      simp only [vsAll]
      refine ⟨10, i5, _, rfl, rfl, by simp only [vsAll, ↓reduceIte, eq_self]; try rfl, ?_⟩
      simp only [vsAll, loadA, loadRow, partA, partOk, resA, retA.eq_2, Nat.reduceLT, Nat.reduceEqDiff, ↓reduceIte, eq_self, wtAll, Try.results19]
      refine dropR_pure ?_ (by (repeat (first | exact HSub_rfl | refine HSub_put_eq (by simp only [vsAll, binA, binLitA, intA, aggA, boolA, nilA2, isConst, unA, loadA, loadRow, partA, partOk, fieldAddrA, indexAddrA, indexA, fieldA, extractA, lenA, nilCheckA, boxA, cellA, cellsA, fillA, okParts, buildSliceA, buildMutA, makeSliceA, partIdx, elemsA, lensA, ifaceA, convA, mmA, pickA, okAll, stAll, opsA, partsA, partsOk, opA, allocA, boxMutA, newCells, okCells, storeObj, appendA, guardV, taA, nM, mapUpA, lookA, sliceA, boundsA, opO, okO, copyA, dstOk, nilA, quietOk, nilSliceOp, panA, resA, argFr, retA.eq_1, retA.eq_2, Nat.reduceAdd, Nat.reduceSub, Nat.reduceMul, Nat.reduceLT, Nat.reduceLeDiff, Nat.reduceEqDiff, Nat.reduceBEq, Int.reduceAdd, Int.reduceSub, Int.reduceMul, Int.reduceNeg, Int.reduceLE, Int.reduceLT, Int.reduceEq, Int.reduceNe, Int.reduceToNat, ↓reduceIte, reduceCtorEq, implies_true, forall_const, eq_self, ne_eq, wtAll, Try.ntmps19, Try.results19, hh_i5]) ?_ | refine HSub_drop2 (by simp only [eq_self, hh_i5]) ?_ | refine HSub_keep_eq (by simp only [vsAll, binA, binLitA, intA, aggA, boolA, nilA2, isConst, unA, loadA, loadRow, partA, partOk, fieldAddrA, indexAddrA, indexA, fieldA, extractA, lenA, nilCheckA, boxA, cellA, cellsA, fillA, okParts, buildSliceA, buildMutA, makeSliceA, partIdx, elemsA, lensA, ifaceA, convA, mmA, pickA, okAll, stAll, opsA, partsA, partsOk, opA, allocA, boxMutA, newCells, okCells, storeObj, appendA, guardV, taA, nM, mapUpA, lookA, sliceA, boundsA, opO, okO, copyA, dstOk, nilA, quietOk, nilSliceOp, panA, resA, argFr, retA.eq_1, retA.eq_2, Nat.reduceAdd, Nat.reduceSub, Nat.reduceMul, Nat.reduceLT, Nat.reduceLeDiff, Nat.reduceEqDiff, Nat.reduceBEq, Int.reduceAdd, Int.reduceSub, Int.reduceMul, Int.reduceNeg, Int.reduceLE, Int.reduceLT, Int.reduceEq, Int.reduceNe, Int.reduceToNat, ↓reduceIte, reduceCtorEq, implies_true, forall_const, eq_self, ne_eq, wtAll, Try.ntmps19, Try.results19, hh_i5]) ?_)))
      simp only [eq_self, ev, e, Int.natCast_zero]
end Go.Proofs.Ytkonoggmdcdeeaa
end
section
set_option linter.unusedVariables false
set_option linter.unusedSimpArgs false
set_option maxHeartbeats 4000000
set_option maxRecDepth 100000
namespace Go.Proofs.Ytkonoggmdcdeeaa
open Go.V
theorem claim1_tri (x : Ir) (S C : Nat) (m : Bool) (n : Int) (H : Hp) (kn : Near x) : PTri Try.prog (.func (.func 57) [] [bx n]) [irP x S C m] H (boo (numB x n)) := by
  have nC := kn.nC
  refine tri_v0 (fun _ => false) Try.func57 (by kernel_rfl) rfl (by simp only [List.length_append, List.length_cons, List.length_nil, Try.ntmps57]; decide) ?_
  simp only [vsAll, opA, dstOk, nilSliceOp, Nat.reduceLT, eq_self, Try.ntmps57]
  refine vs_draw2 [0, 0, 0, 0, 0, 0, 0, 0, 0, 0] [] [0, 1, 2, 3, 4, 5, 6, 7, 8, 9] (by decide +kernel) ?_
  simp only [vsAll, binA, binLitA, intA, loadA, loadRow, partA, partOk, fieldAddrA, lenA, nilCheckA, opA, dstOk, argFr, Nat.reduceLT, Nat.reduceEqDiff, ↓reduceIte, reduceCtorEq, eq_self, wtAll]
  refine ⟨by simp only [InR_i64]; omega, ?_⟩
  refine qcall _ ⟨trivial, by simp only [vsAll, okAll, opsA, opA, Nat.reduceEqDiff, ↓reduceIte, eq_self], within_tri n 0 _ _⟩ ?_
  simp only [vsAll, opA, dstOk, resA, retA.eq_1, Nat.reduceLT, ↓reduceIte, eq_self, Try.results57]
  rfl
theorem wclaim_tri (x : Ir) (n : Int) (H : Hp) (kn : Near x) : PTri Try.prog (fnA 21) [x.av, i64 n] H (.tuple [i64 (claimV x n), i64 (claimE x n)]) := by
  refine Tri.drop ?_
  refine tri_a (m := fun _ => false) ans43 Try.func21 (by kernel_rfl) rfl (by simp only [List.length_append, List.length_cons, List.length_nil, Try.ntmps21]; decide) ?_
  simp only [vsAll, loadA, loadRow, partA, partOk, boxA, cellA, okAll, stAll, opsA, opA, allocA, dstOk, nilSliceOp, argFr, Nat.reduceAdd, Nat.reduceLT, Nat.reduceEqDiff, ↓reduceIte, eq_self, wtAll, Try.ntmps21]
  intro i5 hh_i5; (try simp only [Hp.set_none, ite_none] at hh_i5)
  refine open_call (open_tri x _ (numB x n) _ kn trivial rfl (fun hk H' => claim1_tri x _ _ _ n H' kn)) (fun hno => ?_) (fun hk hv => ?_) (fun hk hv => ?_)
  · have e : claimE x n = 1 := errE_no hno _ _
    have ev : claimV x n = 0 := by simp only [claimV, e]; rfl
    simp only [vsAll]
    refine ⟨1, i5, _, rfl, rfl, by simp only [vsAll, ↓reduceIte, eq_self]; try rfl, ?_⟩
    simp only [vsAll, loadA, loadRow, partA, partOk, resA, retA.eq_2, Nat.reduceLT, Nat.reduceEqDiff, ↓reduceIte, eq_self, wtAll, Try.results21]
    refine dropR_pure ?_ (by (repeat (first | exact HSub_rfl | refine HSub_put_eq (by simp only [vsAll, binA, binLitA, intA, aggA, boolA, nilA2, isConst, unA, loadA, loadRow, partA, partOk, fieldAddrA, indexAddrA, indexA, fieldA, extractA, lenA, nilCheckA, boxA, cellA, cellsA, fillA, okParts, buildSliceA, buildMutA, makeSliceA, partIdx, elemsA, lensA, ifaceA, convA, mmA, pickA, okAll, stAll, opsA, partsA, partsOk, opA, allocA, boxMutA, newCells, okCells, storeObj, appendA, guardV, taA, nM, mapUpA, lookA, sliceA, boundsA, opO, okO, copyA, dstOk, nilA, quietOk, nilSliceOp, panA, resA, argFr, retA.eq_1, retA.eq_2, Nat.reduceAdd, Nat.reduceSub, Nat.reduceMul, Nat.reduceLT, Nat.reduceLeDiff, Nat.reduceEqDiff, Nat.reduceBEq, Int.reduceAdd, Int.reduceSub, Int.reduceMul, Int.reduceNeg, Int.reduceLE, Int.reduceLT, Int.reduceEq, Int.reduceNe, Int.reduceToNat, ↓reduceIte, reduceCtorEq, implies_true, forall_const, eq_self, ne_eq, wtAll, Try.ntmps21, Try.results21, hh_i5]) ?_ | refine HSub_drop2 (by simp only [eq_self, hh_i5]) ?_ | refine HSub_keep_eq (by simp only [vsAll, binA, binLitA, intA, aggA, boolA, nilA2, isConst, unA, loadA, loadRow, partA, partOk, fieldAddrA, indexAddrA, indexA, fieldA, extractA, lenA, nilCheckA, boxA, cellA, cellsA, fillA, okParts, buildSliceA, buildMutA, makeSliceA, partIdx, elemsA, lensA, ifaceA, convA, mmA, pickA, okAll, stAll, opsA, partsA, partsOk, opA, allocA, boxMutA, newCells, okCells, storeObj, appendA, guardV, taA, nM, mapUpA, lookA, sliceA, boundsA, opO, okO, copyA, dstOk, nilA, quietOk, nilSliceOp, panA, resA, argFr, retA.eq_1, retA.eq_2, Nat.reduceAdd, Nat.reduceSub, Nat.reduceMul, Nat.reduceLT, Nat.reduceLeDiff, Nat.reduceEqDiff, Nat.reduceBEq, Int.reduceAdd, Int.reduceSub, Int.reduceMul, Int.reduceNeg, Int.reduceLE, Int.reduceLT, Int.reduceEq, Int.reduceNe, Int.reduceToNat, ↓reduceIte, reduceCtorEq, implies_true, forall_const, eq_self, ne_eq, wtAll, Try.ntmps21, Try.results21, hh_i5]) ?_)))
    simp only [eq_self, ev, e]
  · have e : claimE x n = 2 := by unfold claimE; rw [hv]; exact errE_bad hk _
    have ev : claimV x n = 0 := by simp only [claimV, e]; rfl
    simp only [vsAll]
    refine ⟨2, i5, _, rfl, rfl, by simp only [vsAll, ↓reduceIte, eq_self]; try rfl, ?_⟩
    simp only [vsAll, loadA, loadRow, partA, partOk, resA, retA.eq_2, Nat.reduceLT, Nat.reduceEqDiff, ↓reduceIte, eq_self, wtAll, Try.results21]
    refine dropR_pure ?_ (by (repeat (first | exact HSub_rfl | refine HSub_put_eq (by simp only [vsAll, binA, binLitA, intA, aggA, boolA, nilA2, isConst, unA, loadA, loadRow, partA, partOk, fieldAddrA, indexAddrA, indexA, fieldA, extractA, lenA, nilCheckA, boxA, cellA, cellsA, fillA, okParts, buildSliceA, buildMutA, makeSliceA, partIdx, elemsA, lensA, ifaceA, convA, mmA, pickA, okAll, stAll, opsA, partsA, partsOk, opA, allocA, boxMutA, newCells, okCells, storeObj, appendA, guardV, taA, nM, mapUpA, lookA, sliceA, boundsA, opO, okO, copyA, dstOk, nilA, quietOk, nilSliceOp, panA, resA, argFr, retA.eq_1, retA.eq_2, Nat.reduceAdd, Nat.reduceSub, Nat.reduceMul, Nat.reduceLT, Nat.reduceLeDiff, Nat.reduceEqDiff, Nat.reduceBEq, Int.reduceAdd, Int.reduceSub, Int.reduceMul, Int.reduceNeg, Int.reduceLE, Int.reduceLT, Int.reduceEq, Int.reduceNe, Int.reduceToNat, ↓reduceIte, reduceCtorEq, implies_true, forall_const, eq_self, ne_eq, wtAll, Try.ntmps21, Try.results21, hh_i5]) ?_ | refine HSub_drop2 (by simp only [eq_self, hh_i5]) ?_ | refine HSub_keep_eq (by simp only [vsAll, binA, binLitA, intA, aggA, boolA, nilA2, isConst, unA, loadA, loadRow, partA, partOk, fieldAddrA, indexAddrA, indexA, fieldA, extractA, lenA, nilCheckA, boxA, cellA, cellsA, fillA, okParts, buildSliceA, buildMutA, makeSliceA, partIdx, elemsA, lensA, ifaceA, convA, mmA, pickA, okAll, stAll, opsA, partsA, partsOk, opA, allocA, boxMutA, newCells, okCells, storeObj, appendA, guardV, taA, nM, mapUpA, lookA, sliceA, boundsA, opO, okO, copyA, dstOk, nilA, quietOk, nilSliceOp, panA, resA, argFr, retA.eq_1, retA.eq_2, Nat.reduceAdd, Nat.reduceSub, Nat.reduceMul, Nat.reduceLT, Nat.reduceLeDiff, Nat.reduceEqDiff, Nat.reduceBEq, Int.reduceAdd, Int.reduceSub, Int.reduceMul, Int.reduceNeg, Int.reduceLE, Int.reduceLT, Int.reduceEq, Int.reduceNe, Int.reduceToNat, ↓reduceIte, reduceCtorEq, implies_true, forall_const, eq_self, ne_eq, wtAll, Try.ntmps21, Try.results21, hh_i5]) ?_)))
    simp only [eq_self, ev, e]
  · simp only [vsAll, okAll, stAll, opsA, opA, dstOk, Nat.reduceLT, ↓reduceIte, eq_self]
    refine told_call hk (full_lt hk).2 (fun hl => ?_) (fun hl => ?_)
    · have e : claimE x n = 0 := by unfold claimE; rw [hv]; exact errE_told hk hl
      rw [numB_iff] at hv
      obtain ⟨q, rfl⟩ : ∃ q : Nat, n = (q : Int) := ⟨n.toNat, by ((try clear hh_i5); omega)⟩
      have hcs := hk.cs q (by ((try clear hh_i5); omega))
      have hco := hk.co q (by ((try clear hh_i5); omega))
      simp only [vsAll, loadA, loadRow, partA, partOk, fieldAddrA, indexAddrA, cellA, cellsA, okAll, stAll, opsA, opA, allocA, newCells, okCells, storeObj, dstOk, nilSliceOp, Nat.reduceAdd, Nat.reduceLT, Nat.reduceEqDiff, ↓reduceIte, eq_self, wtAll, clF_at]
      refine ⟨by ((try clear hh_i5); omega), by ((try clear hh_i5); omega), ?_⟩
      intro i7 hh_i7; (try simp only [ite_none] at hh_i7)
      have ho := fun H => owners_tri x (fullS x) (fullC x) (x.cl.getD q cl0).s.toNat false H hk.gd (full_lt hk).1 (full_lt hk).2 (fun s hs => full_bit _ _ hs)
      rw [tlO_who hk _ (by ((try clear hh_i5); (try clear hh_i7); omega)), Int.toNat_of_nonneg hcs.1] at ho
      have hlaw := fun i => claim_law hk (n := q) (by ((try clear hh_i5); (try clear hh_i7); omega)) (i := i)
      have hw := who_lt hk (t := (x.cl.getD q cl0).s.toNat) (by ((try clear hh_i5); (try clear hh_i7); omega))
      have ev : claimV x q = if rcN x q (truA x).length = (truA x).length then 2 else if rcN x q (truA x).length = 0 then 0 else 1 := by simp only [claimV, e, if_true, Int.toNat_natCast]
      generalize hwd : who (truA x) (x.cl.getD q cl0).s.toNat = w at ho hlaw hw
      generalize hc : x.cl.getD q cl0 = c at ho hlaw hcs hco ⊢
      refine callK_pure (ho _) ?_
      simp only [vsAll, opA, dstOk, nilSliceOp, Nat.reduceLT, Nat.reduceEqDiff, ↓reduceIte, eq_self]
      refine vs_loop (σ := Nat) (fun i => i ≤ 5) (fun i => [(5, .ref i5 0 1 0 0), (7, .ref i7 0 3 0 0), (8, boo (isN c w i)), (9, boo (ntN c w i)), (10, i64 i), (11, i64 w)]) (fun _ => (H.set i5 (.box 1 1 fun _ => [i64 0])).set i7 (.box 3 1 fun _ => [i64 c.s, i64 c.o, boo c.nt])) (fun i => 5 - i) 0 (by ((try clear hh_i5); (try clear hh_i7); omega)) ?_ ?_ fun i hi => ?_
      · simp only [vsAll, Nat.reduceEqDiff, ↓reduceIte, eq_self, Int.natCast_zero, isN, ntN]
      · (repeat (first | exact HSub_rfl | refine HSub_put_eq (by simp only [vsAll, ↓reduceIte, eq_self, hh_i7]) ?_ | refine HSub_drop2 (by simp only [eq_self, hh_i5, hh_i7]) ?_ | refine HSub_keep_eq (by simp only [vsAll, binA, binLitA, intA, aggA, boolA, nilA2, isConst, unA, loadA, loadRow, partA, partOk, fieldAddrA, indexAddrA, indexA, fieldA, extractA, lenA, nilCheckA, boxA, cellA, cellsA, fillA, okParts, buildSliceA, buildMutA, makeSliceA, partIdx, elemsA, lensA, ifaceA, convA, mmA, pickA, okAll, stAll, opsA, partsA, partsOk, opA, allocA, boxMutA, newCells, okCells, storeObj, appendA, guardV, taA, nM, mapUpA, lookA, sliceA, boundsA, opO, okO, copyA, dstOk, nilA, quietOk, nilSliceOp, panA, resA, argFr, retA.eq_1, retA.eq_2, Nat.reduceAdd, Nat.reduceSub, Nat.reduceMul, Nat.reduceLT, Nat.reduceLeDiff, Nat.reduceEqDiff, Nat.reduceBEq, Int.reduceAdd, Int.reduceSub, Int.reduceMul, Int.reduceNeg, Int.reduceLE, Int.reduceLT, Int.reduceEq, Int.reduceNe, Int.reduceToNat, ↓reduceIte, reduceCtorEq, implies_true, forall_const, eq_self, ne_eq, wtAll, Try.ntmps21, Try.results21, hh_i5, hh_i7]) ?_))
      · simp only [vsAll, binA, binLitA, intA, opA, dstOk, Nat.reduceLT, Nat.reduceEqDiff, ↓reduceIte, eq_self]
        have ep : ((2 ^ i : Nat) : Int) = 2 ^ i := by simp
        refine ⟨⟨by ((try clear hh_i5); (try clear hh_i7); omega), by ((try clear hh_i5); (try clear hh_i7); omega), rfl⟩, condV (fun hd => ?_) (fun hd => ?_)⟩
        · have hd1 : 2 ^ i ≤ w := by
            rw [Bool.not_eq_true', decide_eq_false_iff_not] at hd
            apply Nat.le_of_not_lt
            intro h
            exact hd (Int.ediv_eq_zero_of_lt (by ((try clear hh_i5); (try clear hh_i7); omega)) (by rw [← ep]; ((try clear hh_i5); (try clear hh_i7); omega)))
          have hi4 : i < 5 := by
            apply Nat.lt_of_not_le
            intro h
            have : 2 ^ 5 ≤ 2 ^ i := Nat.pow_le_pow_right (by decide) h
            ((try clear hh_i5); (try clear hh_i7); omega)
          have hd0 : 0 ≤ (w : Int) / 2 ^ i ∧ (w : Int) / 2 ^ i ≤ w := ⟨Int.ediv_nonneg (by ((try clear hh_i5); (try clear hh_i7); omega)) (Int.le_of_lt (Int.pow_pos (by decide))), Int.ediv_le_self _ (by ((try clear hh_i5); (try clear hh_i7); omega))⟩
          simp only [vsAll, binA, binLitA, intA, opA, dstOk, Nat.reduceLT, Nat.reduceEqDiff, Int.reduceLE, Int.reduceToNat, ↓reduceIte, eq_self]
          refine ⟨⟨by ((try clear hh_i5); (try clear hh_i7); omega), by ((try clear hh_i5); (try clear hh_i7); omega), rfl⟩, ⟨hd0.1, by simp only [InR_i64]; ((try clear hh_i5); (try clear hh_i7); omega), by simp only [InR_i64]; ((try clear hh_i5); (try clear hh_i7); omega)⟩, ?_⟩
          rw [bit_eq]
          refine condV (fun hb => ?_) (fun hb => ?_)
          · simp only [vsAll, loadA, loadRow, partA, partOk, opA, guardV, dstOk, Nat.reduceLT, Nat.reduceEqDiff, ↓reduceIte, implies_true, eq_self, wtAll]
            refine gcall _ (fun g => ⟨by simp only [vsAll, opA], by simp only [vsAll, okAll, opsA, opA, ↓reduceIte, eq_self, g], claimOf_tri c _⟩) ?_
            simp only [vsAll, opA, guardV, dstOk, Nat.reduceLT, Nat.reduceEqDiff, ↓reduceIte, implies_true, eq_self]
            refine gcall _ (fun g => ⟨by simp only [vsAll, opA, Nat.reduceEqDiff, ↓reduceIte, eq_self, g], by simp only [vsAll, okAll, opsA, opA, ↓reduceIte, eq_self, g], right_tri c i _⟩) ?_
            simp only [vsAll, loadA, loadRow, partA, partOk, pickA, opA, guardV, dstOk, Nat.reduceLT, Nat.reduceEqDiff, ↓reduceIte, implies_true, eq_self, wtAll]
            refine gcall _ (fun g => ⟨by simp only [vsAll, opA], by simp only [vsAll, okAll, opsA, opA, ↓reduceIte, eq_self, g], claimOf_tri c _⟩) ?_
            simp only [vsAll, opA, guardV, dstOk, Nat.reduceLT, Nat.reduceEqDiff, ↓reduceIte, implies_true, eq_self]
            refine gcall _ (fun g => ⟨by simp only [vsAll, opA, Nat.reduceEqDiff, ↓reduceIte, eq_self, g], by simp only [vsAll, okAll, opsA, opA, ↓reduceIte, eq_self, g], right_tri c i _⟩) ?_
            simp only [vsAll, binA, binLitA, intA, unA, pickA, opA, guardV, dstOk, nilSliceOp, Nat.reduceLT, Nat.reduceEqDiff, ↓reduceIte, implies_true, eq_self]
            refine ⟨by simp only [InR_i64]; ((try clear hh_i5); (try clear hh_i7); omega), loop_next (i + 1) (by ((try clear hh_i5); (try clear hh_i7); omega)) (by ((try clear hh_i5); (try clear hh_i7); omega)) ?_ (HSub.refl _)⟩
            simp only [vsAll, Nat.reduceEqDiff, ↓reduceIte, eq_self, Int.natCast_add, Int.natCast_one, isN, ntN, hb]
          · simp only [vsAll, binA, binLitA, intA, opA, dstOk, nilSliceOp, Nat.reduceLT, Nat.reduceEqDiff, ↓reduceIte, eq_self]
            refine ⟨by simp only [InR_i64]; ((try clear hh_i5); (try clear hh_i7); omega), loop_next (i + 1) (by ((try clear hh_i5); (try clear hh_i7); omega)) (by ((try clear hh_i5); (try clear hh_i7); omega)) ?_ (HSub.refl _)⟩
            simp only [vsAll, Nat.reduceEqDiff, ↓reduceIte, eq_self, Int.natCast_add, Int.natCast_one, isN, ntN, hb]
        · have hd1 : w < 2 ^ i := by
            rw [Bool.not_eq_false', decide_eq_true_eq] at hd
            apply Nat.lt_of_not_le
            intro h
            have h2 : (1 : Int) ≤ (w : Int) / 2 ^ i := (Int.le_ediv_iff_mul_le (Int.pow_pos (by decide))).2 (by rw [Int.one_mul, ← ep]; ((try clear hh_i5); (try clear hh_i7); omega))
            ((try clear hh_i5); (try clear hh_i7); omega)
          have hl2 := hlaw i hd1
          rw [← ev] at hl2
          cases hnn : ntN c w i with
          | false =>
            rw [hnn, if_pos rfl] at hl2
            simp only [vsAll, unA, cellA, cellsA, opA, newCells, okCells, storeObj, dstOk, nilSliceOp, Nat.reduceLT, Nat.reduceEqDiff, ↓reduceIte, eq_self, wtAll, hh_i7]
            refine Ent.ret ⟨i5, _, rfl, by simp only [vsAll, ↓reduceIte, eq_self]; try rfl, ?_⟩
            simp only [vsAll, loadA, loadRow, partA, partOk, resA, retA.eq_2, Nat.reduceLT, Nat.reduceEqDiff, ↓reduceIte, eq_self, wtAll, Try.results21]
            refine dropR_pure ?_ (by (repeat (first | exact HSub_rfl | refine HSub_put_eq (by simp only [vsAll, binA, binLitA, intA, aggA, boolA, nilA2, isConst, unA, loadA, loadRow, partA, partOk, fieldAddrA, indexAddrA, indexA, fieldA, extractA, lenA, nilCheckA, boxA, cellA, cellsA, fillA, okParts, buildSliceA, buildMutA, makeSliceA, partIdx, elemsA, lensA, ifaceA, convA, mmA, pickA, okAll, stAll, opsA, partsA, partsOk, opA, allocA, boxMutA, newCells, okCells, storeObj, appendA, guardV, taA, nM, mapUpA, lookA, sliceA, boundsA, opO, okO, copyA, dstOk, nilA, quietOk, nilSliceOp, panA, resA, argFr, retA.eq_1, retA.eq_2, Nat.reduceAdd, Nat.reduceSub, Nat.reduceMul, Nat.reduceLT, Nat.reduceLeDiff, Nat.reduceEqDiff, Nat.reduceBEq, Int.reduceAdd, Int.reduceSub, Int.reduceMul, Int.reduceNeg, Int.reduceLE, Int.reduceLT, Int.reduceEq, Int.reduceNe, Int.reduceToNat, ↓reduceIte, reduceCtorEq, implies_true, forall_const, eq_self, ne_eq, wtAll, Try.ntmps21, Try.results21, hh_i5, hh_i7]) ?_ | refine HSub_drop2 (by simp only [eq_self, hh_i5, hh_i7]) ?_ | refine HSub_keep_eq (by simp only [vsAll, binA, binLitA, intA, aggA, boolA, nilA2, isConst, unA, loadA, loadRow, partA, partOk, fieldAddrA, indexAddrA, indexA, fieldA, extractA, lenA, nilCheckA, boxA, cellA, cellsA, fillA, okParts, buildSliceA, buildMutA, makeSliceA, partIdx, elemsA, lensA, ifaceA, convA, mmA, pickA, okAll, stAll, opsA, partsA, partsOk, opA, allocA, boxMutA, newCells, okCells, storeObj, appendA, guardV, taA, nM, mapUpA, lookA, sliceA, boundsA, opO, okO, copyA, dstOk, nilA, quietOk, nilSliceOp, panA, resA, argFr, retA.eq_1, retA.eq_2, Nat.reduceAdd, Nat.reduceSub, Nat.reduceMul, Nat.reduceLT, Nat.reduceLeDiff, Nat.reduceEqDiff, Nat.reduceBEq, Int.reduceAdd, Int.reduceSub, Int.reduceMul, Int.reduceNeg, Int.reduceLE, Int.reduceLT, Int.reduceEq, Int.reduceNe, Int.reduceToNat, ↓reduceIte, reduceCtorEq, implies_true, forall_const, eq_self, ne_eq, wtAll, Try.ntmps21, Try.results21, hh_i5, hh_i7]) ?_)))
            simp only [eq_self, ← hl2, e]
          | true =>
            rw [hnn, if_neg (by decide)] at hl2
            cases hii : isN c w i with
            | false =>
              rw [hii, if_pos rfl] at hl2
              simp only [vsAll, unA, cellA, cellsA, opA, newCells, okCells, storeObj, dstOk, nilSliceOp, Nat.reduceLT, Nat.reduceEqDiff, ↓reduceIte, eq_self, wtAll, hh_i7]
              refine Ent.ret ⟨i5, _, rfl, by simp only [vsAll, ↓reduceIte, eq_self]; try rfl, ?_⟩
              simp only [vsAll, loadA, loadRow, partA, partOk, resA, retA.eq_2, Nat.reduceLT, Nat.reduceEqDiff, ↓reduceIte, eq_self, wtAll, Try.results21]
              refine dropR_pure ?_ (by (repeat (first | exact HSub_rfl | refine HSub_put_eq (by simp only [vsAll, binA, binLitA, intA, aggA, boolA, nilA2, isConst, unA, loadA, loadRow, partA, partOk, fieldAddrA, indexAddrA, indexA, fieldA, extractA, lenA, nilCheckA, boxA, cellA, cellsA, fillA, okParts, buildSliceA, buildMutA, makeSliceA, partIdx, elemsA, lensA, ifaceA, convA, mmA, pickA, okAll, stAll, opsA, partsA, partsOk, opA, allocA, boxMutA, newCells, okCells, storeObj, appendA, guardV, taA, nM, mapUpA, lookA, sliceA, boundsA, opO, okO, copyA, dstOk, nilA, quietOk, nilSliceOp, panA, resA, argFr, retA.eq_1, retA.eq_2, Nat.reduceAdd, Nat.reduceSub, Nat.reduceMul, Nat.reduceLT, Nat.reduceLeDiff, Nat.reduceEqDiff, Nat.reduceBEq, Int.reduceAdd, Int.reduceSub, Int.reduceMul, Int.reduceNeg, Int.reduceLE, Int.reduceLT, Int.reduceEq, Int.reduceNe, Int.reduceToNat, ↓reduceIte, reduceCtorEq, implies_true, forall_const, eq_self, ne_eq, wtAll, Try.ntmps21, Try.results21, hh_i5, hh_i7]) ?_ | refine HSub_drop2 (by simp only [eq_self, hh_i5, hh_i7]) ?_ | refine HSub_keep_eq (by simp only [vsAll, binA, binLitA, intA, aggA, boolA, nilA2, isConst, unA, loadA, loadRow, partA, partOk, fieldAddrA, indexAddrA, indexA, fieldA, extractA, lenA, nilCheckA, boxA, cellA, cellsA, fillA, okParts, buildSliceA, buildMutA, makeSliceA, partIdx, elemsA, lensA, ifaceA, convA, mmA, pickA, okAll, stAll, opsA, partsA, partsOk, opA, allocA, boxMutA, newCells, okCells, storeObj, appendA, guardV, taA, nM, mapUpA, lookA, sliceA, boundsA, opO, okO, copyA, dstOk, nilA, quietOk, nilSliceOp, panA, resA, argFr, retA.eq_1, retA.eq_2, Nat.reduceAdd, Nat.reduceSub, Nat.reduceMul, Nat.reduceLT, Nat.reduceLeDiff, Nat.reduceEqDiff, Nat.reduceBEq, Int.reduceAdd, Int.reduceSub, Int.reduceMul, Int.reduceNeg, Int.reduceLE, Int.reduceLT, Int.reduceEq, Int.reduceNe, Int.reduceToNat, ↓reduceIte, reduceCtorEq, implies_true, forall_const, eq_self, ne_eq, wtAll, Try.ntmps21, Try.results21, hh_i5, hh_i7]) ?_)))
              simp only [eq_self, ← hl2, e]
            | true =>
              rw [hii, if_neg (by decide)] at hl2
              simp only [vsAll, unA, cellA, cellsA, opA, newCells, okCells, storeObj, dstOk, nilSliceOp, Nat.reduceLT, Nat.reduceEqDiff, ↓reduceIte, eq_self, wtAll, hh_i7]
              refine Ent.ret ⟨i5, _, rfl, by simp only [vsAll, ↓reduceIte, eq_self]; try rfl, ?_⟩
              simp only [vsAll, loadA, loadRow, partA, partOk, resA, retA.eq_2, Nat.reduceLT, Nat.reduceEqDiff, ↓reduceIte, eq_self, wtAll, Try.results21]
              refine dropR_pure ?_ (by (repeat (first | exact HSub_rfl | refine HSub_put_eq (by simp only [vsAll, binA, binLitA, intA, aggA, boolA, nilA2, isConst, unA, loadA, loadRow, partA, partOk, fieldAddrA, indexAddrA, indexA, fieldA, extractA, lenA, nilCheckA, boxA, cellA, cellsA, fillA, okParts, buildSliceA, buildMutA, makeSliceA, partIdx, elemsA, lensA, ifaceA, convA, mmA, pickA, okAll, stAll, opsA, partsA, partsOk, opA, allocA, boxMutA, newCells, okCells, storeObj, appendA, guardV, taA, nM, mapUpA, lookA, sliceA, boundsA, opO, okO, copyA, dstOk, nilA, quietOk, nilSliceOp, panA, resA, argFr, retA.eq_1, retA.eq_2, Nat.reduceAdd, Nat.reduceSub, Nat.reduceMul, Nat.reduceLT, Nat.reduceLeDiff, Nat.reduceEqDiff, Nat.reduceBEq, Int.reduceAdd, Int.reduceSub, Int.reduceMul, Int.reduceNeg, Int.reduceLE, Int.reduceLT, Int.reduceEq, Int.reduceNe, Int.reduceToNat, ↓reduceIte, reduceCtorEq, implies_true, forall_const, eq_self, ne_eq, wtAll, Try.ntmps21, Try.results21, hh_i5, hh_i7]) ?_ | refine HSub_drop2 (by simp only [eq_self, hh_i5, hh_i7]) ?_ | refine HSub_keep_eq (by simp only [vsAll, binA, binLitA, intA, aggA, boolA, nilA2, isConst, unA, loadA, loadRow, partA, partOk, fieldAddrA, indexAddrA, indexA, fieldA, extractA, lenA, nilCheckA, boxA, cellA, cellsA, fillA, okParts, buildSliceA, buildMutA, makeSliceA, partIdx, elemsA, lensA, ifaceA, convA, mmA, pickA, okAll, stAll, opsA, partsA, partsOk, opA, allocA, boxMutA, newCells, okCells, storeObj, appendA, guardV, taA, nM, mapUpA, lookA, sliceA, boundsA, opO, okO, copyA, dstOk, nilA, quietOk, nilSliceOp, panA, resA, argFr, retA.eq_1, retA.eq_2, Nat.reduceAdd, Nat.reduceSub, Nat.reduceMul, Nat.reduceLT, Nat.reduceLeDiff, Nat.reduceEqDiff, Nat.reduceBEq, Int.reduceAdd, Int.reduceSub, Int.reduceMul, Int.reduceNeg, Int.reduceLE, Int.reduceLT, Int.reduceEq, Int.reduceNe, Int.reduceToNat, ↓reduceIte, reduceCtorEq, implies_true, forall_const, eq_self, ne_eq, wtAll, Try.ntmps21, Try.results21, hh_i5, hh_i7]) ?_)))
              simp only [eq_self, ← hl2, e]
    · have e : claimE x n = 10 := by unfold claimE; rw [hv]; exact errE_clash hk hl
      have ev : claimV x n = 0 := by simp only [claimV, e]; rfl
      simp only [vsAll]
      refine ⟨10, i5, _, rfl, rfl, by simp only [vsAll, ↓reduceIte, eq_self]; try rfl, ?_⟩
      simp only [vsAll, loadA, loadRow, partA, partOk, resA, retA.eq_2, Nat.reduceLT, Nat.reduceEqDiff, ↓reduceIte, eq_self, wtAll, Try.results21]
      refine dropR_pure ?_ (by (repeat (first | exact HSub_rfl | refine HSub_put_eq (by simp only [vsAll, binA, binLitA, intA, aggA, boolA, nilA2, isConst, unA, loadA, loadRow, partA, partOk, fieldAddrA, indexAddrA, indexA, fieldA, extractA, lenA, nilCheckA, boxA, cellA, cellsA, fillA, okParts, buildSliceA, buildMutA, makeSliceA, partIdx, elemsA, lensA, ifaceA, convA, mmA, pickA, okAll, stAll, opsA, partsA, partsOk, opA, allocA, boxMutA, newCells, okCells, storeObj, appendA, guardV, taA, nM, mapUpA, lookA, sliceA, boundsA, opO, okO, copyA, dstOk, nilA, quietOk, nilSliceOp, panA, resA, argFr, retA.eq_1, retA.eq_2, Nat.reduceAdd, Nat.reduceSub, Nat.reduceMul, Nat.reduceLT, Nat.reduceLeDiff, Nat.reduceEqDiff, Nat.reduceBEq, Int.reduceAdd, Int.reduceSub, Int.reduceMul, Int.reduceNeg, Int.reduceLE, Int.reduceLT, Int.reduceEq, Int.reduceNe, Int.reduceToNat, ↓reduceIte, reduceCtorEq, implies_true, forall_const, eq_self, ne_eq, wtAll, Try.ntmps21, Try.results21, hh_i5]) ?_ | refine HSub_drop2 (by simp only [eq_self, hh_i5]) ?_ | refine HSub_keep_eq (by simp only [vsAll, binA, binLitA, intA, aggA, boolA, nilA2, isConst, unA, loadA, loadRow, partA, partOk, fieldAddrA, indexAddrA, indexA, fieldA, extractA, lenA, nilCheckA, boxA, cellA, cellsA, fillA, okParts, buildSliceA, buildMutA, makeSliceA, partIdx, elemsA, lensA, ifaceA, convA, mmA, pickA, okAll, stAll, opsA, partsA, partsOk, opA, allocA, boxMutA, newCells, okCells, storeObj, appendA, guardV, taA, nM, mapUpA, lookA, sliceA, boundsA, opO, okO, copyA, dstOk, nilA, quietOk, nilSliceOp, panA, resA, argFr, retA.eq_1, retA.eq_2, Nat.reduceAdd, Nat.reduceSub, Nat.reduceMul, Nat.reduceLT, Nat.reduceLeDiff, Nat.reduceEqDiff, Nat.reduceBEq, Int.reduceAdd, Int.reduceSub, Int.reduceMul, Int.reduceNeg, Int.reduceLE, Int.reduceLT, Int.reduceEq, Int.reduceNe, Int.reduceToNat, ↓reduceIte, reduceCtorEq, implies_true, forall_const, eq_self, ne_eq, wtAll, Try.ntmps21, Try.results21, hh_i5]) ?_)))
      simp only [eq_self, ev, e]
end Go.Proofs.Ytkonoggmdcdeeaa
end
section
set_option linter.unusedVariables false
set_option linter.unusedSimpArgs false
set_option maxHeartbeats 4000000
set_option maxRecDepth 100000
namespace Go.Proofs.Ytkonoggmdcdeeaa
open Go.V
/-- What is known: a number, and whether there is a truth. -/
abbrev knVW (o : Option (Nat × Nat)) : Value := .agg #[.int .i64 ((o.getD (0, 0)).1 : Nat), .int .i64 ((o.getD (0, 0)).2 : Nat), .bool o.isSome]
abbrev knAW (o : Option (Nat × Nat)) : AV := .tuple [wrA (o.getD (0, 0)), boo o.isSome]
section
variable (x : Ir) (S C : Nat) (m : Bool) (e0 : Nat × Nat) (more : Nat → Int → Nat × Nat → Nat × Nat) (join : Nat × Nat → Nat × Nat → Nat × Nat)
/-- What is kept of what was told. -/
def memW : Value → Value → Prop := fun k v => ∃ (s : Nat) (a b c d e : Int), s ≤ x.st.length ∧ (∀ z ∈ [a, b, c, d, e], 0 ≤ z ∧ z ≤ (s : Int)) ∧ k = givV s a b c d e ∧ v = knVW (tl x S C m e0 more join (x.st.length - s) s [a, b, c, d, e])
/-- A teller, and what its functions do. -/
structure TelW (fm fj : Fn) (cm cj : List AV) where
  V : Nat → Nat → Nat × Nat → Prop
  vd : Vd more join V e0
  tM : ∀ (n k s : Nat) (o : Int) (r : Nat × Nat) (H : Hp), n < 6 → k ≤ 20000 → s < x.st.length → -1 ≤ o → o < x.ow.length → (S.testBit s = true → 0 ≤ o) → V n k r → PTri Try.prog (.func fm [] cm) [i64 (s : Nat), i64 o, wrA r] H (wrA (more s o r))
  tJ : ∀ (n j k : Nat) (a b : Nat × Nat) (H : Hp), n ≤ 6 → j + k ≤ 20000 → V n j a → V n k b → PTri Try.prog (.func fj [] cj) [wrA a, wrA b] H (wrA (join a b))
abbrev onW (fm fj : Fn) (cm cj : List AV) (i5 i6 : Nat) : AV := .func (.func 95) [] [.rptr 1 1 (fun _ => [irP x S C m]) 0 0, .rptr 1 4 (fun _ => [i64 (e0.1 : Nat), i64 (e0.2 : Nat), .func fm [] cm, .func fj [] cj]) 0 0, .ref i5 0 1 0 0, .ref i6 0 1 0 0]
end
theorem memW_key {x : Ir} {S C : Nat} {m : Bool} {e0 : Nat × Nat} {more : Nat → Int → Nat × Nat → Nat × Nat} {join : Nat × Nat → Nat × Nat → Nat × Nat} {k v : Value} (kx : Gd x) (h : memW x S C m e0 more join k v) : ∃ l, keyOf Try.prog 103 k = some l := by
  obtain ⟨s, a, b, c, d, e, hs, hz, rfl, _⟩ := h
  have := kx.nS
  refine givK s a b c d e fun z hz2 => ?_
  rcases List.mem_cons.1 hz2 with rfl | hz2
  · omega
  · have := hz z hz2; omega
theorem onw_tri {x : Ir} {S C : Nat} {m : Bool} {e0 : Nat × Nat} {more : Nat → Int → Nat × Nat → Nat × Nat} {join : Nat × Nat → Nat × Nat → Nat × Nat} {fm fj : Fn} {cm cj : List AV} {i5 i6 im : Nat} (k : Gd x) (hS : S < 2 ^ 60) (hC : C < 2 ^ 60) (T : TelW x S e0 more join fm fj cm cj) :
    ∀ (n s : Nat) (a b c d e : Int) (H : Hp), s + n = x.st.length → (∀ z ∈ [a, b, c, d, e], 0 ≤ z ∧ z ≤ (s : Int)) → H i5 = some (.box 1 1 fun _ => [.map im]) → H i6 = some (.box 1 1 fun _ => [onW x S C m e0 fm fj cm cj i5 i6]) → H im = some (.memo (memW x S C m e0 more join)) →
      PTri Try.prog (onW x S C m e0 fm fj cm cj i5 i6) [.agg (givC s [a, b, c, d, e])] H (knAW (tl x S C m e0 more join n s [a, b, c, d, e])) := by
  have nS := k.nS
  have nO := k.nO
  intro n
  induction n with
  | zero =>
    intro s a b c d e H hs hu h5 h6 hm
    refine Tri.drop ?_
    refine tri_m (m := fun _ => false) Try.func95 (by kernel_rfl) rfl (by simp only [List.length_append, List.length_cons, List.length_nil, Try.ntmps95]; decide) ?_
    have es : s = x.st.length := by omega
    subst es
    simp only [vsAll, boxA, opA, allocA, dstOk, nilSliceOp, argFr, Nat.reduceAdd, Nat.reduceLT, eq_self, wtAll, Try.ntmps95]
    intro ir hh_ir; (try simp only [Hp.set_none, ite_none] at hh_ir)
    refine vs_draw2 [0, 0, 0, 0, 0, 0, 0, 0, 0] [] [0, 1, 2, 3, 4, 5, 6, 7, 8] (by decide +kernel) ?_
    simp only [vsAll, binA, binLitA, intA, loadA, loadRow, partA, partOk, fieldAddrA, lenA, nilCheckA, cellA, cellsA, opA, newCells, okCells, storeObj, dstOk, nilSliceOp, resA, argFr, retA.eq_2, Nat.reduceAdd, Nat.reduceLT, Nat.reduceLeDiff, Nat.reduceEqDiff, ↓reduceIte, eq_self, wtAll, Try.results95]
    exact dropR_pure rfl (by (repeat (first | exact HSub_rfl | refine HSub_put_eq (by simp only [vsAll, binA, binLitA, intA, aggA, boolA, nilA2, isConst, unA, loadA, loadRow, partA, partOk, fieldAddrA, indexAddrA, indexA, fieldA, extractA, lenA, nilCheckA, boxA, cellA, cellsA, fillA, okParts, buildSliceA, buildMutA, makeSliceA, partIdx, elemsA, lensA, ifaceA, convA, mmA, pickA, okAll, stAll, opsA, partsA, partsOk, opA, allocA, boxMutA, newCells, okCells, storeObj, appendA, guardV, taA, nM, mapUpA, lookA, sliceA, boundsA, opO, okO, copyA, dstOk, nilA, quietOk, nilSliceOp, panA, resA, argFr, retA.eq_1, retA.eq_2, Nat.reduceAdd, Nat.reduceSub, Nat.reduceMul, Nat.reduceLT, Nat.reduceLeDiff, Nat.reduceEqDiff, Nat.reduceBEq, Int.reduceAdd, Int.reduceSub, Int.reduceMul, Int.reduceNeg, Int.reduceLE, Int.reduceLT, Int.reduceEq, Int.reduceNe, Int.reduceToNat, ↓reduceIte, reduceCtorEq, implies_true, forall_const, eq_self, ne_eq, wtAll, Try.ntmps95, Try.results95, hh_ir]) ?_ | refine HSub_drop2 (by simp only [eq_self, hh_ir]) ?_ | refine HSub_keep_eq (by simp only [vsAll, binA, binLitA, intA, aggA, boolA, nilA2, isConst, unA, loadA, loadRow, partA, partOk, fieldAddrA, indexAddrA, indexA, fieldA, extractA, lenA, nilCheckA, boxA, cellA, cellsA, fillA, okParts, buildSliceA, buildMutA, makeSliceA, partIdx, elemsA, lensA, ifaceA, convA, mmA, pickA, okAll, stAll, opsA, partsA, partsOk, opA, allocA, boxMutA, newCells, okCells, storeObj, appendA, guardV, taA, nM, mapUpA, lookA, sliceA, boundsA, opO, okO, copyA, dstOk, nilA, quietOk, nilSliceOp, panA, resA, argFr, retA.eq_1, retA.eq_2, Nat.reduceAdd, Nat.reduceSub, Nat.reduceMul, Nat.reduceLT, Nat.reduceLeDiff, Nat.reduceEqDiff, Nat.reduceBEq, Int.reduceAdd, Int.reduceSub, Int.reduceMul, Int.reduceNeg, Int.reduceLE, Int.reduceLT, Int.reduceEq, Int.reduceNe, Int.reduceToNat, ↓reduceIte, reduceCtorEq, implies_true, forall_const, eq_self, ne_eq, wtAll, Try.ntmps95, Try.results95, hh_ir]) ?_)))
  | succ n ih =>
    intro s a b c d e H hs hu h5 h6 hm
    refine Tri.unpack hm fun es ck hes hpw => ?_
    have hkey : ∃ l, keyOf Try.prog 103 (givV s a b c d e) = some l := givK s a b c d e fun z hz2 => by
      rcases List.mem_cons.1 hz2 with rfl | hz2
      · omega
      · have := hu z hz2; omega
    obtain ⟨o, hfo, hst, hcase⟩ := found_of und125 key103 hkey (fun e he => memW_key k (hes e he)) hpw
    have hback : Go.V.HSub (H.set im (.raw (.map es ck))) H := HSub_set' hm (memo_le hes hpw)
    have n5 : ¬ i5 = im := fun q => by rw [q, hm] at h5; cases h5
    have n6 : ¬ i6 = im := fun q => by rw [q, hm] at h6; cases h6
    have n5' : ¬ im = i5 := fun q => n5 q.symm
    have n6' : ¬ im = i6 := fun q => n6 q.symm
    have n56 : ¬ i5 = i6 := fun q => by
      rw [q, h6] at h5
      simp only [Option.some.injEq, Obj.box.injEq, true_and] at h5
      have := congrFun h5 0
      simp at this
    have n65 : ¬ i6 = i5 := fun q => n56 q.symm
    refine Tri.drop ?_
    refine tri_m (m := fun _ => false) Try.func95 (by kernel_rfl) rfl (by simp only [List.length_append, List.length_cons, List.length_nil, Try.ntmps95]; decide) ?_
    skip
    simp only [vsAll, boxA, opA, allocA, dstOk, nilSliceOp, argFr, Nat.reduceAdd, Nat.reduceLT, eq_self, wtAll, Try.ntmps95]
    intro ir hh_ir; (try simp only [ite_none] at hh_ir)
    have r1 := ne_some hh_ir.2 h5
    have r2 := ne_some hh_ir.2 h6
    have r3 := ne_some hh_ir.2 hm
    skip
    refine vs_draw2 [0, 0, 0, 0, 0, 0, 0, 0, 0] [] [0, 1, 2, 3, 4, 5, 6, 7, 8] (by decide +kernel) ?_
    simp only [vsAll, binA, binLitA, intA, loadA, loadRow, partA, partOk, fieldAddrA, lenA, nilCheckA, opA, dstOk, argFr, Nat.reduceLT, Nat.reduceEqDiff, ↓reduceIte, eq_self, wtAll]
    refine condV (fun hc => ?_) (fun hc => ?_)
    · simp only [decide_eq_true_eq] at hc; ((try clear h5); (try clear h6); (try clear hm); (try clear n5); (try clear n6); (try clear n5'); (try clear n6'); (try clear n56); (try clear n65); (try clear hh_ir); (try clear r1); (try clear r2); (try clear r3); omega)
    · simp only [vsAll, loadA, loadRow, partA, partOk, extractA, cellsA, opA, allocA, newCells, storeObj, lookA, dstOk, nilSliceOp, argFr, Nat.reduceAdd, Nat.reduceMul, Nat.reduceLT, Nat.reduceEqDiff, ↓reduceIte, eq_self, wtAll, h5, n5, hh_ir, r1, mapZ125]
      refine ⟨o, hfo _, ?_⟩
      rcases hcase with ⟨rfl, hno⟩ | ⟨j, en, rfl, hj, hkn⟩
      · simp only [vsAll, loadA, loadRow, partA, partOk, cellA, okAll, stAll, opsA, opA, allocA, okCells, dstOk, argFr, Nat.reduceAdd, Nat.reduceLT, Nat.reduceEqDiff, ↓reduceIte, eq_self, wtAll]
        intro i8 hh_i8; (try simp only [ite_none] at hh_i8)
        intro i10 hh_i10; (try simp only [ite_none] at hh_i10)
        rw [Hp.set_set]
        have a1 := ne_some hh_i8.2.2 h5
        have a2 := ne_some hh_i8.2.2 h6
        have a3 := ne_some hh_i8.2.2 hm
        have a4 := ne_some hh_i10.2.2.2.2 h5
        have a5 := ne_some hh_i10.2.2.2.2 h6
        have a6 := ne_some hh_i10.2.2.2.2 hm
        skip
        refine callK_pure (next_tri x S C m s a b c d e _) ?_
        simp only [vsAll]
        have hlen := nxt_len x S C m s [a, b, c, d, e] nO
        generalize hN : nxt x S C m s [a, b, c, d, e] = N at hlen
        generalize hf : tl x S C m e0 more join n (s + 1) = f
        have hV : ∀ p ∈ N, ∀ r, f p.2 = some r → T.V n (5 ^ n) r := fun p _ r hr => tl_V T.vd x S C m nO n (s + 1) p.2 r (by rw [hf]; exact hr)
        have htl : tl x S C m e0 more join (n + 1) s [a, b, c, d, e] = tlP more join f s N := by rw [tl_succ, hf, hN]
        have hlt : ∀ p ∈ N, p.1 < 5 := fun p hp => nxt_lt (x := x) (S := S) (C := C) (m := m) (s := s) (u := [a, b, c, d, e]) nO (by rw [hN]; exact hp)
        have hpow : 5 ^ n ≤ 5 ^ 5 := Nat.pow_le_pow_right (by decide) (by ((try clear h5); (try clear h6); (try clear hm); (try clear n5); (try clear n6); (try clear n5'); (try clear n6'); (try clear n56); (try clear n65); (try clear hh_ir); (try clear r1); (try clear r2); (try clear r3); (try clear hh_i8); (try clear hh_i10); (try clear a1); (try clear a2); (try clear a3); (try clear a4); (try clear a5); (try clear a6); omega))
        generalize hpv : (fun i => tlP more join f s (N.take i)) = pv
        refine vs_rangeS (σ := Unit) (nextL x S C m s [a, b, c, d, e]) (fun _ _ => True)
          (fun i _ => (H.set ir (.box 2 1 fun _ => [i64 0, i64 0])).set i10 (.box 3 1 fun _ => [i64 (((pv i).getD (0, 0)).1 : Nat), i64 (((pv i).getD (0, 0)).2 : Nat), boo (pv i).isSome])) () (fun _ => True) Try.func98 (by kernel_rfl) rfl (by simp only [vsAll, opA, ↓reduceIte, eq_self]) (by simp only [vsAll, opA, ↓reduceIte, eq_self]) (by decide) next_pair
          (fun yf H K hi => next1_tri x S C m s a b c d e k (by ((try clear h5); (try clear h6); (try clear hm); (try clear n5); (try clear n6); (try clear n5'); (try clear n6'); (try clear n56); (try clear n65); (try clear hh_ir); (try clear r1); (try clear r2); (try clear r3); (try clear hh_i8); (try clear hh_i10); (try clear a1); (try clear a2); (try clear a3); (try clear a4); (try clear a5); (try clear a6); omega)) hS hC (fun z hz => by have := hu z hz; ((try clear h5); (try clear h6); (try clear hm); (try clear n5); (try clear n6); (try clear n5'); (try clear n6'); (try clear n56); (try clear n65); (try clear hh_ir); (try clear r1); (try clear r2); (try clear r3); (try clear hh_i8); (try clear hh_i10); (try clear a1); (try clear a2); (try clear a3); (try clear a4); (try clear a5); (try clear a6); omega)) yf H _ K hi) trivial ?_ ?_ ?_ ?_ ?_
        · have e0 : pv 0 = none := by rw [← hpv]; rfl
          simp only [e0, Option.getD_none, Option.isSome_none, Int.natCast_zero]
          exact HSub.set (HSub_drop2 (by rw [Hp.set_ne _ _ hh_i8.1.1]; exact hh_i8.2.2) (HSub.set hback (.refl _))) (.refl _)
        · intro i _ _ q hq; simp only [Hp.set_none] at hq ⊢; exact hq
        · intros; trivial
        · rintro i v ⟨⟩ hv _ lid did l lo h1 h2 h3
          simp only [Hp.set_none] at h1 h2
          have h4 : ¬ did = lid := fun e => h3 e.symm
          have b1 := ne_some h1.2.2 h5
          have b2 := ne_some h1.2.2 h6
          have b3 := ne_some h1.2.2 hm
          have b4 := ne_some h2.2.2 h5
          have b5 := ne_some h2.2.2 h6
          have b6 := ne_some h2.2.2 hm
          skip
          obtain ⟨hi, rfl⟩ := next_get hv
          rw [hN] at hi ⊢
          have hmem : N.getD i (0, []) ∈ N := mem_getD N i _ hi
          have hpn : pv (i + 1) = comb join (pv i) ((f (N.getD i (0, [])).2).map (more s (N.getD i (0, [])).1)) := by
            rw [← hpv]; exact tlP_next more join f s N i hi
          have hmem2 : N.getD i (0, []) ∈ nxt x S C m s [a, b, c, d, e] := by rw [hN]; exact hmem
          have hgiv := nxt_given hmem2 rfl hu
          have hmm := nxt_mem hmem2
          clear hmem2
          generalize N.getD i (0, []) = p at hmem hpn hgiv hmm ⊢
          obtain ⟨o, u⟩ := p
          obtain ⟨hu5, hub⟩ := hgiv
          simp only [] at hu5 hub hpn ⊢
          obtain ⟨ya, yb, yc, yd, ye, rfl⟩ := five hu5
          have hoo : -1 ≤ o ∧ o < (x.ow.length : Int) ∧ (S.testBit s = true → 0 ≤ o) := by
            rcases hmm with ⟨_, o', ho', _, he⟩ | ⟨hbb, he⟩
            · have := (Prod.mk.inj he).1
              exact ⟨by ((try clear h5); (try clear h6); (try clear hm); (try clear n5); (try clear n6); (try clear n5'); (try clear n6'); (try clear n56); (try clear n65); (try clear hh_ir); (try clear r1); (try clear r2); (try clear r3); (try clear hh_i8); (try clear hh_i10); (try clear a1); (try clear a2); (try clear a3); (try clear a4); (try clear a5); (try clear a6); (try clear h1); (try clear h2); (try clear h3); (try clear h4); (try clear b1); (try clear b2); (try clear b3); (try clear b4); (try clear b5); (try clear b6); omega), by ((try clear h5); (try clear h6); (try clear hm); (try clear n5); (try clear n6); (try clear n5'); (try clear n6'); (try clear n56); (try clear n65); (try clear hh_ir); (try clear r1); (try clear r2); (try clear r3); (try clear hh_i8); (try clear hh_i10); (try clear a1); (try clear a2); (try clear a3); (try clear a4); (try clear a5); (try clear a6); (try clear h1); (try clear h2); (try clear h3); (try clear h4); (try clear b1); (try clear b2); (try clear b3); (try clear b4); (try clear b5); (try clear b6); omega), fun _ => by ((try clear h5); (try clear h6); (try clear hm); (try clear n5); (try clear n6); (try clear n5'); (try clear n6'); (try clear n56); (try clear n65); (try clear hh_ir); (try clear r1); (try clear r2); (try clear r3); (try clear hh_i8); (try clear hh_i10); (try clear a1); (try clear a2); (try clear a3); (try clear a4); (try clear a5); (try clear a6); (try clear h1); (try clear h2); (try clear h3); (try clear h4); (try clear b1); (try clear b2); (try clear b3); (try clear b4); (try clear b5); (try clear b6); omega)⟩
            · have := (Prod.mk.inj he).1
              exact ⟨by ((try clear h5); (try clear h6); (try clear hm); (try clear n5); (try clear n6); (try clear n5'); (try clear n6'); (try clear n56); (try clear n65); (try clear hh_ir); (try clear r1); (try clear r2); (try clear r3); (try clear hh_i8); (try clear hh_i10); (try clear a1); (try clear a2); (try clear a3); (try clear a4); (try clear a5); (try clear a6); (try clear h1); (try clear h2); (try clear h3); (try clear h4); (try clear b1); (try clear b2); (try clear b3); (try clear b4); (try clear b5); (try clear b6); omega), by ((try clear h5); (try clear h6); (try clear hm); (try clear n5); (try clear n6); (try clear n5'); (try clear n6'); (try clear n56); (try clear n65); (try clear hh_ir); (try clear r1); (try clear r2); (try clear r3); (try clear hh_i8); (try clear hh_i10); (try clear a1); (try clear a2); (try clear a3); (try clear a4); (try clear a5); (try clear a6); (try clear h1); (try clear h2); (try clear h3); (try clear h4); (try clear b1); (try clear b2); (try clear b3); (try clear b4); (try clear b5); (try clear b6); omega), fun q => by rw [hbb] at q; cases q⟩
          have ih' := fun H => ih (s + 1) ya yb yc yd ye H (by ((try clear h5); (try clear h6); (try clear hm); (try clear n5); (try clear n6); (try clear n5'); (try clear n6'); (try clear n56); (try clear n65); (try clear hh_ir); (try clear r1); (try clear r2); (try clear r3); (try clear hh_i8); (try clear hh_i10); (try clear a1); (try clear a2); (try clear a3); (try clear a4); (try clear a5); (try clear a6); (try clear h1); (try clear h2); (try clear h3); (try clear h4); (try clear b1); (try clear b2); (try clear b3); (try clear b4); (try clear b5); (try clear b6); omega)) hub
          simp only [Int.natCast_add, Int.natCast_one, hf] at ih'
          simp only [vsAll, loadA, loadRow, partA, partOk, cellA, cellsA, okAll, stAll, opsA, opA, allocA, newCells, okCells, storeObj, dstOk, quietOk, nilSliceOp, argFr, Nat.reduceAdd, Nat.reduceLT, Nat.reduceEqDiff, ↓reduceIte, eq_self, wtAll, h6, r2, a5, b2, b5]
          intro i12 hh_i12; (try simp only [ite_none] at hh_i12)
          have c1 := ne_some hh_i12.2.2.2.2 h5
          have c2 := ne_some hh_i12.2.2.2.2 h6
          have c3 := ne_some hh_i12.2.2.2.2 hm
          skip
          simp only [vsAll, Nat.reduceLT, ↓reduceIte, eq_self, hh_i12, c2]
          refine callK_pure (ih' _ (by simp only [vsAll, ↓reduceIte, eq_self, h5, r1, a4, b1, b4, c1]) (by simp only [vsAll, ↓reduceIte, eq_self, h6, r2, a5, b2, b5, c2]) (by simp only [vsAll, ↓reduceIte, eq_self, hm, hh_ir, hh_i10, b3, b6, c3])) ?_
          generalize hq : f [ya, yb, yc, yd, ye] = q at hpn
          simp only [vsAll, unA, extractA, cellA, cellsA, opA, allocA, newCells, okCells, storeObj, dstOk, quietOk, nilSliceOp, Nat.reduceAdd, Nat.reduceLT, Nat.reduceEqDiff, ↓reduceIte, eq_self, wtAll]
          intro i13 hh_i13; (try simp only [ite_none] at hh_i13)
          cases q with
          | none =>
            simp only [Option.map_none, comb_none] at hpn
            simp only [vsAll, ↓reduceIte, eq_self, hh_i13]
            refine ⟨⟨_, _, rfl⟩, _, ⟨(), rfl⟩, ?_⟩
            rw [hpn]
            (repeat (first | exact HSub_rfl | refine HSub_put_eq (by simp only [vsAll, ↓reduceIte, eq_self, hh_i10, h1, h2, h4, hh_i12, hh_i13]) ?_ | refine HSub_drop2 (by simp only [eq_self, hh_ir, hh_i10, h1, h2, hh_i12, hh_i13]) ?_ | refine HSub_keep_eq (by simp only [vsAll, binA, binLitA, intA, aggA, boolA, nilA2, isConst, unA, loadA, loadRow, partA, partOk, fieldAddrA, indexAddrA, indexA, fieldA, extractA, lenA, nilCheckA, boxA, cellA, cellsA, fillA, okParts, buildSliceA, buildMutA, makeSliceA, partIdx, elemsA, lensA, ifaceA, convA, mmA, pickA, okAll, stAll, opsA, partsA, partsOk, opA, allocA, boxMutA, newCells, okCells, storeObj, appendA, guardV, taA, nM, mapUpA, lookA, sliceA, boundsA, opO, okO, copyA, dstOk, nilA, quietOk, nilSliceOp, panA, resA, argFr, retA.eq_1, retA.eq_2, Nat.reduceAdd, Nat.reduceSub, Nat.reduceMul, Nat.reduceLT, Nat.reduceLeDiff, Nat.reduceEqDiff, Nat.reduceBEq, Int.reduceAdd, Int.reduceSub, Int.reduceMul, Int.reduceNeg, Int.reduceLE, Int.reduceLT, Int.reduceEq, Int.reduceNe, Int.reduceToNat, ↓reduceIte, reduceCtorEq, implies_true, forall_const, eq_self, ne_eq, wtAll, Try.ntmps95, Try.results95, h5, h6, hm, n5, n6, n5', n6', n56, n65, hh_ir, r1, r2, r3, hh_i8, hh_i10, a1, a2, a3, a4, a5, a6, h1, h2, h3, h4, b1, b2, b3, b4, b5, b6, hh_i12, c1, c2, c3, hh_i13]) ?_))
          | some r =>
            simp only [Option.map_some] at hpn
            have hr := hV _ hmem r hq
            simp only [vsAll, loadA, loadRow, partA, partOk, fieldAddrA, okAll, stAll, opsA, opA, dstOk, quietOk, argFr, Nat.reduceLT, Nat.reduceEqDiff, ↓reduceIte, eq_self, wtAll]
            refine callK_pure (T.tM n (5 ^ n) s o r _ (by ((try clear h5); (try clear h6); (try clear hm); (try clear n5); (try clear n6); (try clear n5'); (try clear n6'); (try clear n56); (try clear n65); (try clear hh_ir); (try clear r1); (try clear r2); (try clear r3); (try clear hh_i8); (try clear hh_i10); (try clear a1); (try clear a2); (try clear a3); (try clear a4); (try clear a5); (try clear a6); (try clear h1); (try clear h2); (try clear h3); (try clear h4); (try clear b1); (try clear b2); (try clear b3); (try clear b4); (try clear b5); (try clear b6); (try clear hh_i12); (try clear c1); (try clear c2); (try clear c3); (try clear hh_i13); omega)) (by ((try clear h5); (try clear h6); (try clear hm); (try clear n5); (try clear n6); (try clear n5'); (try clear n6'); (try clear n56); (try clear n65); (try clear hh_ir); (try clear r1); (try clear r2); (try clear r3); (try clear hh_i8); (try clear hh_i10); (try clear a1); (try clear a2); (try clear a3); (try clear a4); (try clear a5); (try clear a6); (try clear h1); (try clear h2); (try clear h3); (try clear h4); (try clear b1); (try clear b2); (try clear b3); (try clear b4); (try clear b5); (try clear b6); (try clear hh_i12); (try clear c1); (try clear c2); (try clear c3); (try clear hh_i13); omega)) (by ((try clear h5); (try clear h6); (try clear hm); (try clear n5); (try clear n6); (try clear n5'); (try clear n6'); (try clear n56); (try clear n65); (try clear hh_ir); (try clear r1); (try clear r2); (try clear r3); (try clear hh_i8); (try clear hh_i10); (try clear a1); (try clear a2); (try clear a3); (try clear a4); (try clear a5); (try clear a6); (try clear h1); (try clear h2); (try clear h3); (try clear h4); (try clear b1); (try clear b2); (try clear b3); (try clear b4); (try clear b5); (try clear b6); (try clear hh_i12); (try clear c1); (try clear c2); (try clear c3); (try clear hh_i13); omega)) hoo.1 hoo.2.1 hoo.2.2 hr) ?_
            simp only [vsAll, loadA, loadRow, partA, partOk, fieldAddrA, cellA, cellsA, opA, allocA, newCells, okCells, storeObj, dstOk, quietOk, Nat.reduceAdd, Nat.reduceLT, Nat.reduceEqDiff, ↓reduceIte, eq_self, wtAll, h1, h2, hh_i12, hh_i13]
            intro i15 hh_i15; (try simp only [ite_none] at hh_i15)
            cases hpi : pv i with
            | none =>
              rw [hpi] at hpn
              simp only [comb] at hpn
              simp only [vsAll, loadA, loadRow, partA, partOk, cellA, cellsA, fillA, okParts, partsA, partsOk, opA, newCells, okCells, storeObj, dstOk, quietOk, Nat.reduceAdd, Nat.reduceLT, Nat.reduceLeDiff, Nat.reduceEqDiff, ↓reduceIte, eq_self, wtAll, h1, h2, hh_i12, hh_i13, hh_i15]
              refine ⟨⟨_, _, rfl⟩, _, ⟨(), rfl⟩, ?_⟩
              rw [hpn]
              simp only [Option.getD_some, Option.isSome_some]
              (repeat (first | exact HSub_rfl | refine HSub_put_eq (by simp only [vsAll, ↓reduceIte, eq_self, hh_i10, h1, h2, h4, hh_i12, hh_i13, hh_i15]) ?_ | refine HSub_drop2 (by simp only [eq_self, hh_ir, hh_i10, h1, h2, hh_i12, hh_i13, hh_i15]) ?_ | refine HSub_keep_eq (by simp only [vsAll, binA, binLitA, intA, aggA, boolA, nilA2, isConst, unA, loadA, loadRow, partA, partOk, fieldAddrA, indexAddrA, indexA, fieldA, extractA, lenA, nilCheckA, boxA, cellA, cellsA, fillA, okParts, buildSliceA, buildMutA, makeSliceA, partIdx, elemsA, lensA, ifaceA, convA, mmA, pickA, okAll, stAll, opsA, partsA, partsOk, opA, allocA, boxMutA, newCells, okCells, storeObj, appendA, guardV, taA, nM, mapUpA, lookA, sliceA, boundsA, opO, okO, copyA, dstOk, nilA, quietOk, nilSliceOp, panA, resA, argFr, retA.eq_1, retA.eq_2, Nat.reduceAdd, Nat.reduceSub, Nat.reduceMul, Nat.reduceLT, Nat.reduceLeDiff, Nat.reduceEqDiff, Nat.reduceBEq, Int.reduceAdd, Int.reduceSub, Int.reduceMul, Int.reduceNeg, Int.reduceLE, Int.reduceLT, Int.reduceEq, Int.reduceNe, Int.reduceToNat, ↓reduceIte, reduceCtorEq, implies_true, forall_const, eq_self, ne_eq, wtAll, Try.ntmps95, Try.results95, h5, h6, hm, n5, n6, n5', n6', n56, n65, hh_ir, r1, r2, r3, hh_i8, hh_i10, a1, a2, a3, a4, a5, a6, h1, h2, h3, h4, b1, b2, b3, b4, b5, b6, hh_i12, c1, c2, c3, hh_i13, hh_i15]) ?_))
            | some z =>
              have hz : T.V (n + 1) (i * 5 ^ n) z := tlP_V T.vd (f := f) (s := s) (l := N) hlt hV i (by ((try clear h5); (try clear h6); (try clear hm); (try clear n5); (try clear n6); (try clear n5'); (try clear n6'); (try clear n56); (try clear n65); (try clear hh_ir); (try clear r1); (try clear r2); (try clear r3); (try clear hh_i8); (try clear hh_i10); (try clear a1); (try clear a2); (try clear a3); (try clear a4); (try clear a5); (try clear a6); (try clear h1); (try clear h2); (try clear h3); (try clear h4); (try clear b1); (try clear b2); (try clear b3); (try clear b4); (try clear b5); (try clear b6); (try clear hh_i12); (try clear c1); (try clear c2); (try clear c3); (try clear hh_i13); (try clear hh_i15); omega)) z (by rw [← hpi, ← hpv])
              have hw : i * 5 ^ n ≤ 5 * 5 ^ 5 := Nat.mul_le_mul (by ((try clear h5); (try clear h6); (try clear hm); (try clear n5); (try clear n6); (try clear n5'); (try clear n6'); (try clear n56); (try clear n65); (try clear hh_ir); (try clear r1); (try clear r2); (try clear r3); (try clear hh_i8); (try clear hh_i10); (try clear a1); (try clear a2); (try clear a3); (try clear a4); (try clear a5); (try clear a6); (try clear h1); (try clear h2); (try clear h3); (try clear h4); (try clear b1); (try clear b2); (try clear b3); (try clear b4); (try clear b5); (try clear b6); (try clear hh_i12); (try clear c1); (try clear c2); (try clear c3); (try clear hh_i13); (try clear hh_i15); omega)) hpow
              rw [hpi] at hpn
              simp only [comb] at hpn
              simp only [vsAll, loadA, loadRow, partA, partOk, fieldAddrA, okAll, stAll, opsA, opA, dstOk, quietOk, argFr, Nat.reduceLT, Nat.reduceLeDiff, Nat.reduceEqDiff, ↓reduceIte, eq_self, wtAll, h1, h2, hh_i12, hh_i13, hh_i15, Option.getD_some]
              refine callK_pure (T.tJ (n + 1) (i * 5 ^ n) (5 ^ n) z (more s o r) _ (by ((try clear h5); (try clear h6); (try clear hm); (try clear n5); (try clear n6); (try clear n5'); (try clear n6'); (try clear n56); (try clear n65); (try clear hh_ir); (try clear r1); (try clear r2); (try clear r3); (try clear hh_i8); (try clear hh_i10); (try clear a1); (try clear a2); (try clear a3); (try clear a4); (try clear a5); (try clear a6); (try clear h1); (try clear h2); (try clear h3); (try clear h4); (try clear b1); (try clear b2); (try clear b3); (try clear b4); (try clear b5); (try clear b6); (try clear hh_i12); (try clear c1); (try clear c2); (try clear c3); (try clear hh_i13); (try clear hh_i15); omega)) (by ((try clear h5); (try clear h6); (try clear hm); (try clear n5); (try clear n6); (try clear n5'); (try clear n6'); (try clear n56); (try clear n65); (try clear hh_ir); (try clear r1); (try clear r2); (try clear r3); (try clear hh_i8); (try clear hh_i10); (try clear a1); (try clear a2); (try clear a3); (try clear a4); (try clear a5); (try clear a6); (try clear h1); (try clear h2); (try clear h3); (try clear h4); (try clear b1); (try clear b2); (try clear b3); (try clear b4); (try clear b5); (try clear b6); (try clear hh_i12); (try clear c1); (try clear c2); (try clear c3); (try clear hh_i13); (try clear hh_i15); omega)) hz (T.vd.hM n _ s o r (by ((try clear h5); (try clear h6); (try clear hm); (try clear n5); (try clear n6); (try clear n5'); (try clear n6'); (try clear n56); (try clear n65); (try clear hh_ir); (try clear r1); (try clear r2); (try clear r3); (try clear hh_i8); (try clear hh_i10); (try clear a1); (try clear a2); (try clear a3); (try clear a4); (try clear a5); (try clear a6); (try clear h1); (try clear h2); (try clear h3); (try clear h4); (try clear b1); (try clear b2); (try clear b3); (try clear b4); (try clear b5); (try clear b6); (try clear hh_i12); (try clear c1); (try clear c2); (try clear c3); (try clear hh_i13); (try clear hh_i15); omega)) hr)) ?_
              simp only [vsAll, loadA, loadRow, partA, partOk, cellA, cellsA, fillA, okParts, partsA, partsOk, opA, newCells, okCells, storeObj, dstOk, quietOk, Nat.reduceAdd, Nat.reduceLT, Nat.reduceLeDiff, Nat.reduceEqDiff, ↓reduceIte, eq_self, wtAll, h1, h2, hh_i12, hh_i13, hh_i15]
              refine ⟨⟨_, _, rfl⟩, _, ⟨(), rfl⟩, ?_⟩
              rw [hpn]
              simp only [Option.getD_some, Option.isSome_some]
              (repeat (first | exact HSub_rfl | refine HSub_put_eq (by simp only [vsAll, ↓reduceIte, eq_self, hh_i10, h1, h2, h4, hh_i12, hh_i13, hh_i15]) ?_ | refine HSub_drop2 (by simp only [eq_self, hh_ir, hh_i10, h1, h2, hh_i12, hh_i13, hh_i15]) ?_ | refine HSub_keep_eq (by simp only [vsAll, binA, binLitA, intA, aggA, boolA, nilA2, isConst, unA, loadA, loadRow, partA, partOk, fieldAddrA, indexAddrA, indexA, fieldA, extractA, lenA, nilCheckA, boxA, cellA, cellsA, fillA, okParts, buildSliceA, buildMutA, makeSliceA, partIdx, elemsA, lensA, ifaceA, convA, mmA, pickA, okAll, stAll, opsA, partsA, partsOk, opA, allocA, boxMutA, newCells, okCells, storeObj, appendA, guardV, taA, nM, mapUpA, lookA, sliceA, boundsA, opO, okO, copyA, dstOk, nilA, quietOk, nilSliceOp, panA, resA, argFr, retA.eq_1, retA.eq_2, Nat.reduceAdd, Nat.reduceSub, Nat.reduceMul, Nat.reduceLT, Nat.reduceLeDiff, Nat.reduceEqDiff, Nat.reduceBEq, Int.reduceAdd, Int.reduceSub, Int.reduceMul, Int.reduceNeg, Int.reduceLE, Int.reduceLT, Int.reduceEq, Int.reduceNe, Int.reduceToNat, ↓reduceIte, reduceCtorEq, implies_true, forall_const, eq_self, ne_eq, wtAll, Try.ntmps95, Try.results95, h5, h6, hm, n5, n6, n5', n6', n56, n65, hh_ir, r1, r2, r3, hh_i8, hh_i10, a1, a2, a3, a4, a5, a6, h1, h2, h3, h4, b1, b2, b3, b4, b5, b6, hh_i12, c1, c2, c3, hh_i13, hh_i15]) ?_))
        · rintro ⟨⟩ _ lid did lo h1 h2 h3
          simp only [Hp.set_none] at h1 h2
          have h4 : ¬ did = lid := fun e => h3 e.symm
          have b1 := ne_some h1.2.2 h5
          have b2 := ne_some h1.2.2 h6
          have b3 := ne_some h1.2.2 hm
          have b4 := ne_some h2.2.2 h5
          have b5 := ne_some h2.2.2 h6
          have b6 := ne_some h2.2.2 hm
          skip
          have el : (nextL x S C m s [a, b, c, d, e]).length = N.length := by rw [nextL_eq, hN, List.length_map]
          have epv : pv N.length = tl x S C m e0 more join (n + 1) s [a, b, c, d, e] := by rw [htl, ← hpv]; simp only [List.take_length]
          rw [el, epv]
          generalize htv : tl x S C m e0 more join (n + 1) s [a, b, c, d, e] = tv
          simp only [vsAll, loadA, loadRow, partA, partOk, opA, mapUpA, dstOk, argFr, Nat.reduceLT, Nat.reduceEqDiff, ↓reduceIte, eq_self, wtAll, h5, hm, hh_ir, r1, hh_i10, a4, h1, h2, b1, b3, b4, b6]
          refine ⟨103, 127, und125, key103, hkey, fun q v h => memW_key k h, ⟨s, a, b, c, d, e, by ((try clear h5); (try clear h6); (try clear hm); (try clear n5); (try clear n6); (try clear n5'); (try clear n6'); (try clear n56); (try clear n65); (try clear hh_ir); (try clear r1); (try clear r2); (try clear r3); (try clear hh_i8); (try clear hh_i10); (try clear a1); (try clear a2); (try clear a3); (try clear a4); (try clear a5); (try clear a6); (try clear h1); (try clear h2); (try clear h3); (try clear h4); (try clear b1); (try clear b2); (try clear b3); (try clear b4); (try clear b5); (try clear b6); omega), hu, rfl, by rw [show x.st.length - s = n + 1 by ((try clear h5); (try clear h6); (try clear hm); (try clear n5); (try clear n6); (try clear n5'); (try clear n6'); (try clear n56); (try clear n65); (try clear hh_ir); (try clear r1); (try clear r2); (try clear r3); (try clear hh_i8); (try clear hh_i10); (try clear a1); (try clear a2); (try clear a3); (try clear a4); (try clear a5); (try clear a6); (try clear h1); (try clear h2); (try clear h3); (try clear h4); (try clear b1); (try clear b2); (try clear b3); (try clear b4); (try clear b5); (try clear b6); omega), htv]⟩, ?_⟩
          refine vs_draw2 [0, 0, 0, 0, 1, 3] [([0, 1, 2, 3], [3], 4), ([], [], 5)] [] (by decide +kernel) ?_
          simp only [vsAll, loadA, loadRow, partA, partOk, fieldAddrA, cellA, cellsA, opA, newCells, okCells, storeObj, dstOk, nilSliceOp, resA, retA.eq_2, Nat.reduceAdd, Nat.reduceLT, Nat.reduceLeDiff, Nat.reduceEqDiff, ↓reduceIte, eq_self, wtAll, Try.results95, hh_i10, h1, h2, h4]
          exact dropR_pure rfl (by (repeat (first | exact HSub_rfl | refine HSub_put_eq (by simp only [vsAll, binA, binLitA, intA, aggA, boolA, nilA2, isConst, unA, loadA, loadRow, partA, partOk, fieldAddrA, indexAddrA, indexA, fieldA, extractA, lenA, nilCheckA, boxA, cellA, cellsA, fillA, okParts, buildSliceA, buildMutA, makeSliceA, partIdx, elemsA, lensA, ifaceA, convA, mmA, pickA, okAll, stAll, opsA, partsA, partsOk, opA, allocA, boxMutA, newCells, okCells, storeObj, appendA, guardV, taA, nM, mapUpA, lookA, sliceA, boundsA, opO, okO, copyA, dstOk, nilA, quietOk, nilSliceOp, panA, resA, argFr, retA.eq_1, retA.eq_2, Nat.reduceAdd, Nat.reduceSub, Nat.reduceMul, Nat.reduceLT, Nat.reduceLeDiff, Nat.reduceEqDiff, Nat.reduceBEq, Int.reduceAdd, Int.reduceSub, Int.reduceMul, Int.reduceNeg, Int.reduceLE, Int.reduceLT, Int.reduceEq, Int.reduceNe, Int.reduceToNat, ↓reduceIte, reduceCtorEq, implies_true, forall_const, eq_self, ne_eq, wtAll, Try.ntmps95, Try.results95, h5, h6, hm, n5, n6, n5', n6', n56, n65, hh_ir, r1, r2, r3, hh_i8, hh_i10, a1, a2, a3, a4, a5, a6, h1, h2, h3, h4, b1, b2, b3, b4, b5, b6]) ?_ | refine HSub_drop2 (by simp only [eq_self, hh_ir, hh_i10, h1, h2]) ?_ | refine HSub_keep_eq (by simp only [vsAll, binA, binLitA, intA, aggA, boolA, nilA2, isConst, unA, loadA, loadRow, partA, partOk, fieldAddrA, indexAddrA, indexA, fieldA, extractA, lenA, nilCheckA, boxA, cellA, cellsA, fillA, okParts, buildSliceA, buildMutA, makeSliceA, partIdx, elemsA, lensA, ifaceA, convA, mmA, pickA, okAll, stAll, opsA, partsA, partsOk, opA, allocA, boxMutA, newCells, okCells, storeObj, appendA, guardV, taA, nM, mapUpA, lookA, sliceA, boundsA, opO, okO, copyA, dstOk, nilA, quietOk, nilSliceOp, panA, resA, argFr, retA.eq_1, retA.eq_2, Nat.reduceAdd, Nat.reduceSub, Nat.reduceMul, Nat.reduceLT, Nat.reduceLeDiff, Nat.reduceEqDiff, Nat.reduceBEq, Int.reduceAdd, Int.reduceSub, Int.reduceMul, Int.reduceNeg, Int.reduceLE, Int.reduceLT, Int.reduceEq, Int.reduceNe, Int.reduceToNat, ↓reduceIte, reduceCtorEq, implies_true, forall_const, eq_self, ne_eq, wtAll, Try.ntmps95, Try.results95, h5, h6, hm, n5, n6, n5', n6', n56, n65, hh_ir, r1, r2, r3, hh_i8, hh_i10, a1, a2, a3, a4, a5, a6, h1, h2, h3, h4, b1, b2, b3, b4, b5, b6]) ?_)))
      · obtain ⟨s', a', b', c', d', e', h1, h2, h3, h4⟩ := hes en (by
          have := Array.getElem?_eq_some_iff.1 hj
          obtain ⟨hl, rfl⟩ := this
          simp)
        have hval : en.val = knVW (tl x S C m e0 more join (n + 1) s [a, b, c, d, e]) := by
          rw [hkn] at h3
          simp only [givV, Value.agg.injEq, Array.mk.injEq, List.cons.injEq, Value.int.injEq, true_and, and_true] at h3
          obtain ⟨q1, rfl, rfl, rfl, rfl, rfl⟩ := h3
          have q2 : s' = s := by ((try clear h5); (try clear h6); (try clear hm); (try clear n5); (try clear n6); (try clear n5'); (try clear n6'); (try clear n56); (try clear n65); (try clear hh_ir); (try clear r1); (try clear r2); (try clear r3); omega)
          subst q2
          rw [h4, show x.st.length - s' = n + 1 by ((try clear h5); (try clear h6); (try clear hm); (try clear n5); (try clear n6); (try clear n5'); (try clear n6'); (try clear n56); (try clear n65); (try clear hh_ir); (try clear r1); (try clear r2); (try clear r3); omega)]
        generalize htl : tl x S C m e0 more join (n + 1) s [a, b, c, d, e] = tv at hval
        simp only [vsAll, cellA, okCells, Nat.reduceAdd, eq_self, hval]
        intro i8 hh_i8; (try simp only [ite_none] at hh_i8)
        refine vs_draw2 [0, 0, 0, 0, 1, 3] [([0, 1, 2, 3], [3], 4), ([], [], 5)] [] (by decide +kernel) ?_
        simp only [vsAll, loadA, loadRow, partA, partOk, fieldAddrA, cellA, cellsA, opA, newCells, okCells, storeObj, dstOk, nilSliceOp, resA, retA.eq_2, Nat.reduceAdd, Nat.reduceLT, Nat.reduceLeDiff, Nat.reduceEqDiff, ↓reduceIte, eq_self, wtAll, Try.results95, hh_i8]
        exact dropR_pure rfl (by first | exact HSub_drop2 hh_ir.2 (HSub_drop2 hh_i8.2.2 (HSub_drop2 hh_i8.2.2 (HSub_drop2 hh_ir.2 hback))) | exact HSub_drop2 hh_i8.2.2 (HSub_drop2 hh_ir.2 hback))
end Go.Proofs.Ytkonoggmdcdeeaa
end
section
set_option linter.unusedVariables false
set_option linter.unusedSimpArgs false
set_option maxHeartbeats 4000000
set_option maxRecDepth 100000
namespace Go.Proofs.Ytkonoggmdcdeeaa
open Go.V
def tellWR (x : Ir) (S C : Nat) (m : Bool) (e0 : Nat × Nat) (more : Nat → Int → Nat × Nat → Nat × Nat) (join : Nat × Nat → Nat × Nat → Nat × Nat) (fm fj : Fn) (cm cj : List AV) (H : Hp) : Res → Hp → Prop := fun r H' =>
  ∃ i5 i6 im, H im = none ∧ ((¬ i5 = im ∧ ¬ im = i5) ∧ H i5 = none) ∧ ((¬ i6 = i5 ∧ ¬ i5 = i6) ∧ (¬ i6 = im ∧ ¬ im = i6) ∧ H i6 = none) ∧ r = .ret (onW x S C m e0 fm fj cm cj i5 i6) ∧
    H' = ((H.set im (.memo (memW x S C m e0 more join))).set i5 (.box 1 1 fun _ => [.map im])).set i6 (.box 1 1 fun _ => [onW x S C m e0 fm fj cm cj i5 i6])
theorem tellW_tri (x : Ir) (S C : Nat) (m : Bool) (e0 : Nat × Nat) (more : Nat → Int → Nat × Nat → Nat × Nat) (join : Nat × Nat → Nat × Nat → Nat × Nat) (fm fj : Fn) (cm cj : List AV) (H : Hp) :
    Tri Try.prog (fnA 85) [irP x S C m, .agg [i64 (e0.1 : Nat), i64 (e0.2 : Nat), .func fm [] cm, .func fj [] cj]] H (tellWR x S C m e0 more join fm fj cm cj H) := by
  refine Tri.drop ?_
  refine tri_v0 (fun _ => false) Try.func85 (by kernel_rfl) rfl (by simp only [List.length_append, List.length_cons, List.length_nil, Try.ntmps85]; decide) ?_
  simp only [vsAll, loadA, loadRow, partA, partOk, boxA, cellA, cellsA, okAll, stAll, opsA, opA, allocA, newCells, okCells, storeObj, nM, dstOk, nilSliceOp, resA, argFr, retA.eq_1, Nat.reduceAdd, Nat.reduceLT, Nat.reduceEqDiff, ↓reduceIte, eq_self, wtAll, Try.ntmps85, Try.results85, azT125, azT107]
  intro im hh_im; (try simp only [Hp.set_none, ite_none] at hh_im); intro i5 hh_i5; (try simp only [ite_none] at hh_i5); intro i6 hh_i6; (try simp only [ite_none] at hh_i6)
  rw [Hp.set_set, Hp.set_set]
  refine ⟨((H.set im (.memo (memW x S C m e0 more join))).set i5 (.box 1 1 fun _ => [.map im])).set i6 (.box 1 1 fun _ => [onW x S C m e0 fm fj cm cj i5 i6]), HSub.set (HSub.set (HSub.set (HSub.refl _) (memo_le (by simp) (by simp))) (.refl _)) (.refl _), i5, i6, im, hh_im, hh_i5, ⟨hh_i6.1, hh_i6.2.2⟩, rfl, rfl⟩

def moreL (x : Ir) (C : Nat) (s : Nat) (o : Int) (r : Nat × Nat) : Nat × Nat := (r.1 + (wrO x C s o x.cl.length).1, r.2 + (wrO x C s o x.cl.length).2)
def lessB (a b : Nat × Nat) : Bool := decide (a.1 < b.1) || decide (a.1 = b.1) && decide (a.2 < b.2)
def joinL (a b : Nat × Nat) : Nat × Nat := if lessB b a = true then b else a
theorem least1_tri (x : Ir) (S C : Nat) (m : Bool) (s : Nat) (o : Int) (r : Nat × Nat) (H : Hp) (k : Gd x) (hC : C < 2 ^ 60) (hr : r.1 < 1000 ∧ r.2 < 100000) :
    PTri Try.prog (.func (.func 86) [] [.rptr 1 1 (fun _ => [irP x S C m]) 0 0]) [i64 s, i64 o, wrA r] H (wrA (moreL x C s o r)) := by
  have nC := k.nC
  refine Tri.drop ?_
  refine tri_v0 (fun _ => false) Try.func86 (by kernel_rfl) rfl (by simp only [List.length_append, List.length_cons, List.length_nil, Try.ntmps86]; decide) ?_
  simp only [vsAll, boxA, opA, allocA, dstOk, argFr, Nat.reduceAdd, Nat.reduceLT, eq_self, wtAll, Try.ntmps86]
  intro i7 hh_i7; (try simp only [Hp.set_none, ite_none] at hh_i7)
  refine vs_draw2 [0, 0, 0, 0, 0, 0, 0, 1] [([0, 1, 2, 3, 4, 5, 6], [], 7)] [] (by decide +kernel) ?_
  simp only [vsAll, loadA, loadRow, partA, partOk, opA, dstOk, argFr, Nat.reduceLT, Nat.reduceEqDiff, ↓reduceIte, reduceCtorEq, eq_self, wtAll]
  refine qcall _ ⟨trivial, by simp only [vsAll, okAll, opsA, opA, Nat.reduceEqDiff, ↓reduceIte, eq_self], wrong_tri x S C m s o _ k hC⟩ ?_
  have hw := wrO_lt x C s o x.cl.length
  have hp : 2 ^ x.cl.length ≤ 2 ^ 8 := Nat.pow_le_pow_right (by decide) nC
  simp only [vsAll, cellsA, okParts, buildSliceA, partIdx, elemsA, lensA, partsA, partsOk, opA, dstOk, Nat.reduceAdd, Nat.reduceMul, Nat.reduceLT, Nat.reduceLeDiff, ↓reduceIte, eq_self, wtAll]
  refine qcall _ ⟨trivial, by simp only [vsAll, okAll, opsA, opA, Nat.reduceEqDiff, ↓reduceIte, eq_self], plus_tri r (wrO x C s o x.cl.length) _ rfl _ hr ⟨by ((try clear hh_i7); omega), by ((try clear hh_i7); omega)⟩⟩ ?_
  simp only [vsAll, loadA, loadRow, partA, partOk, cellA, cellsA, opA, newCells, okCells, storeObj, dstOk, resA, retA.eq_1, Nat.reduceAdd, Nat.reduceLT, Nat.reduceEqDiff, ↓reduceIte, eq_self, wtAll, Try.results86]
  exact dropR_pure rfl (by (repeat (first | exact HSub_rfl | refine HSub_put_eq (by simp only [vsAll, binA, binLitA, intA, aggA, boolA, nilA2, isConst, unA, loadA, loadRow, partA, partOk, fieldAddrA, indexAddrA, indexA, fieldA, extractA, lenA, nilCheckA, boxA, cellA, cellsA, fillA, okParts, buildSliceA, buildMutA, makeSliceA, partIdx, elemsA, lensA, ifaceA, convA, mmA, pickA, okAll, stAll, opsA, partsA, partsOk, opA, allocA, boxMutA, newCells, okCells, storeObj, appendA, guardV, taA, nM, mapUpA, lookA, sliceA, boundsA, opO, okO, copyA, dstOk, nilA, quietOk, nilSliceOp, panA, resA, argFr, retA.eq_1, retA.eq_2, Nat.reduceAdd, Nat.reduceSub, Nat.reduceMul, Nat.reduceLT, Nat.reduceLeDiff, Nat.reduceEqDiff, Nat.reduceBEq, Int.reduceAdd, Int.reduceSub, Int.reduceMul, Int.reduceNeg, Int.reduceLE, Int.reduceLT, Int.reduceEq, Int.reduceNe, Int.reduceToNat, ↓reduceIte, reduceCtorEq, implies_true, forall_const, eq_self, ne_eq, wtAll, Try.ntmps86, Try.results86, hh_i7]) ?_ | refine HSub_drop2 (by simp only [eq_self, hh_i7]) ?_ | refine HSub_keep_eq (by simp only [vsAll, binA, binLitA, intA, aggA, boolA, nilA2, isConst, unA, loadA, loadRow, partA, partOk, fieldAddrA, indexAddrA, indexA, fieldA, extractA, lenA, nilCheckA, boxA, cellA, cellsA, fillA, okParts, buildSliceA, buildMutA, makeSliceA, partIdx, elemsA, lensA, ifaceA, convA, mmA, pickA, okAll, stAll, opsA, partsA, partsOk, opA, allocA, boxMutA, newCells, okCells, storeObj, appendA, guardV, taA, nM, mapUpA, lookA, sliceA, boundsA, opO, okO, copyA, dstOk, nilA, quietOk, nilSliceOp, panA, resA, argFr, retA.eq_1, retA.eq_2, Nat.reduceAdd, Nat.reduceSub, Nat.reduceMul, Nat.reduceLT, Nat.reduceLeDiff, Nat.reduceEqDiff, Nat.reduceBEq, Int.reduceAdd, Int.reduceSub, Int.reduceMul, Int.reduceNeg, Int.reduceLE, Int.reduceLT, Int.reduceEq, Int.reduceNe, Int.reduceToNat, ↓reduceIte, reduceCtorEq, implies_true, forall_const, eq_self, ne_eq, wtAll, Try.ntmps86, Try.results86, hh_i7]) ?_)))
theorem least2_tri (a b : Nat × Nat) (H : Hp) : PTri Try.prog (fnA 89) [wrA a, wrA b] H (wrA (joinL a b)) := by
  refine Tri.drop ?_
  refine tri_v0 (fun _ => false) Try.func89 (by kernel_rfl) rfl (by simp only [List.length_append, List.length_cons, List.length_nil, Try.ntmps89]; decide) ?_
  simp only [vsAll, loadA, loadRow, partA, partOk, boxA, okAll, stAll, opsA, opA, allocA, dstOk, argFr, Nat.reduceAdd, Nat.reduceLT, Nat.reduceEqDiff, ↓reduceIte, eq_self, wtAll, Try.ntmps89]
  intro i4 hh_i4; (try simp only [Hp.set_none, ite_none] at hh_i4)
  refine callK_pure (less_tri b a _) ?_
  simp only [vsAll, opA, ↓reduceIte, eq_self]
  refine condV (fun hc => ?_) (fun hc => ?_)
  · have e : joinL a b = b := if_pos hc
    rw [e]
    simp only [vsAll, loadA, loadRow, partA, partOk, cellA, cellsA, opA, newCells, okCells, storeObj, dstOk, resA, retA.eq_1, Nat.reduceAdd, Nat.reduceLT, Nat.reduceEqDiff, ↓reduceIte, eq_self, wtAll, Try.results89]
    exact dropR_pure rfl (by (repeat (first | exact HSub_rfl | refine HSub_put_eq (by simp only [vsAll, binA, binLitA, intA, aggA, boolA, nilA2, isConst, unA, loadA, loadRow, partA, partOk, fieldAddrA, indexAddrA, indexA, fieldA, extractA, lenA, nilCheckA, boxA, cellA, cellsA, fillA, okParts, buildSliceA, buildMutA, makeSliceA, partIdx, elemsA, lensA, ifaceA, convA, mmA, pickA, okAll, stAll, opsA, partsA, partsOk, opA, allocA, boxMutA, newCells, okCells, storeObj, appendA, guardV, taA, nM, mapUpA, lookA, sliceA, boundsA, opO, okO, copyA, dstOk, nilA, quietOk, nilSliceOp, panA, resA, argFr, retA.eq_1, retA.eq_2, Nat.reduceAdd, Nat.reduceSub, Nat.reduceMul, Nat.reduceLT, Nat.reduceLeDiff, Nat.reduceEqDiff, Nat.reduceBEq, Int.reduceAdd, Int.reduceSub, Int.reduceMul, Int.reduceNeg, Int.reduceLE, Int.reduceLT, Int.reduceEq, Int.reduceNe, Int.reduceToNat, ↓reduceIte, reduceCtorEq, implies_true, forall_const, eq_self, ne_eq, wtAll, Try.ntmps89, Try.results89, hh_i4]) ?_ | refine HSub_drop2 (by simp only [eq_self, hh_i4]) ?_ | refine HSub_keep_eq (by simp only [vsAll, binA, binLitA, intA, aggA, boolA, nilA2, isConst, unA, loadA, loadRow, partA, partOk, fieldAddrA, indexAddrA, indexA, fieldA, extractA, lenA, nilCheckA, boxA, cellA, cellsA, fillA, okParts, buildSliceA, buildMutA, makeSliceA, partIdx, elemsA, lensA, ifaceA, convA, mmA, pickA, okAll, stAll, opsA, partsA, partsOk, opA, allocA, boxMutA, newCells, okCells, storeObj, appendA, guardV, taA, nM, mapUpA, lookA, sliceA, boundsA, opO, okO, copyA, dstOk, nilA, quietOk, nilSliceOp, panA, resA, argFr, retA.eq_1, retA.eq_2, Nat.reduceAdd, Nat.reduceSub, Nat.reduceMul, Nat.reduceLT, Nat.reduceLeDiff, Nat.reduceEqDiff, Nat.reduceBEq, Int.reduceAdd, Int.reduceSub, Int.reduceMul, Int.reduceNeg, Int.reduceLE, Int.reduceLT, Int.reduceEq, Int.reduceNe, Int.reduceToNat, ↓reduceIte, reduceCtorEq, implies_true, forall_const, eq_self, ne_eq, wtAll, Try.ntmps89, Try.results89, hh_i4]) ?_)))
  · have e : joinL a b = a := if_neg (by rw [Bool.not_eq_true]; exact hc)
    rw [e]
    simp only [vsAll, loadA, loadRow, partA, partOk, cellA, cellsA, opA, newCells, okCells, storeObj, dstOk, resA, retA.eq_1, Nat.reduceAdd, Nat.reduceLT, Nat.reduceEqDiff, ↓reduceIte, eq_self, wtAll, Try.results89]
    exact dropR_pure rfl (by (repeat (first | exact HSub_rfl | refine HSub_put_eq (by simp only [vsAll, binA, binLitA, intA, aggA, boolA, nilA2, isConst, unA, loadA, loadRow, partA, partOk, fieldAddrA, indexAddrA, indexA, fieldA, extractA, lenA, nilCheckA, boxA, cellA, cellsA, fillA, okParts, buildSliceA, buildMutA, makeSliceA, partIdx, elemsA, lensA, ifaceA, convA, mmA, pickA, okAll, stAll, opsA, partsA, partsOk, opA, allocA, boxMutA, newCells, okCells, storeObj, appendA, guardV, taA, nM, mapUpA, lookA, sliceA, boundsA, opO, okO, copyA, dstOk, nilA, quietOk, nilSliceOp, panA, resA, argFr, retA.eq_1, retA.eq_2, Nat.reduceAdd, Nat.reduceSub, Nat.reduceMul, Nat.reduceLT, Nat.reduceLeDiff, Nat.reduceEqDiff, Nat.reduceBEq, Int.reduceAdd, Int.reduceSub, Int.reduceMul, Int.reduceNeg, Int.reduceLE, Int.reduceLT, Int.reduceEq, Int.reduceNe, Int.reduceToNat, ↓reduceIte, reduceCtorEq, implies_true, forall_const, eq_self, ne_eq, wtAll, Try.ntmps89, Try.results89, hh_i4]) ?_ | refine HSub_drop2 (by simp only [eq_self, hh_i4]) ?_ | refine HSub_keep_eq (by simp only [vsAll, binA, binLitA, intA, aggA, boolA, nilA2, isConst, unA, loadA, loadRow, partA, partOk, fieldAddrA, indexAddrA, indexA, fieldA, extractA, lenA, nilCheckA, boxA, cellA, cellsA, fillA, okParts, buildSliceA, buildMutA, makeSliceA, partIdx, elemsA, lensA, ifaceA, convA, mmA, pickA, okAll, stAll, opsA, partsA, partsOk, opA, allocA, boxMutA, newCells, okCells, storeObj, appendA, guardV, taA, nM, mapUpA, lookA, sliceA, boundsA, opO, okO, copyA, dstOk, nilA, quietOk, nilSliceOp, panA, resA, argFr, retA.eq_1, retA.eq_2, Nat.reduceAdd, Nat.reduceSub, Nat.reduceMul, Nat.reduceLT, Nat.reduceLeDiff, Nat.reduceEqDiff, Nat.reduceBEq, Int.reduceAdd, Int.reduceSub, Int.reduceMul, Int.reduceNeg, Int.reduceLE, Int.reduceLT, Int.reduceEq, Int.reduceNe, Int.reduceToNat, ↓reduceIte, reduceCtorEq, implies_true, forall_const, eq_self, ne_eq, wtAll, Try.ntmps89, Try.results89, hh_i4]) ?_)))
theorem joinL_or (a b : Nat × Nat) : joinL a b = a ∨ joinL a b = b := by
  unfold joinL
  split
  · exact .inr rfl
  · exact .inl rfl
def leastT (x : Ir) (S C : Nat) (m : Bool) (k : Gd x) (hC : C < 2 ^ 60) : TelW x S (0, 0) (moreL x C) joinL (.func 86) (.func 89) [.rptr 1 1 (fun _ => [irP x S C m]) 0 0] [] where
  V := fun n _ w => w.1 ≤ 8 * n ∧ w.2 ≤ 255 * n
  vd := ⟨fun n j k a h h2 => h2, ⟨Nat.le_refl _, Nat.le_refl _⟩, fun n _ s o r ho h => by
    have hw := wrO_lt x C s o x.cl.length
    have nC := k.nC
    have hp : 2 ^ x.cl.length ≤ 2 ^ 8 := Nat.pow_le_pow_right (by decide) nC
    show r.1 + _ ≤ _ ∧ r.2 + _ ≤ _
    omega, fun n j k a b h h2 => by rcases joinL_or a b with e | e <;> rw [e] <;> assumption⟩
  tM := fun n _ s o r H hn _ hs h1 h2 h3 hr => least1_tri x S C m s o r H k hC (by omega)
  tJ := fun n j k a b H _ _ ha hb => least2_tri a b H
def tlW (x : Ir) (S C : Nat) (m : Bool) : Option (Nat × Nat) := tl x S C m (0, 0) (moreL x C) joinL x.st.length 0 u0
theorem least_tri (x : Ir) (S C : Nat) (m : Bool) (H : Hp) (k : Gd x) (hS : S < 2 ^ 60) (hC : C < 2 ^ 60) : PTri Try.prog (fnA 62) [irP x S C m] H (knAW (tlW x S C m)) := by
  refine Tri.drop ?_
  refine tri_v0 (fun _ => false) Try.func62 (by kernel_rfl) rfl (by simp only [List.length_append, List.length_cons, List.length_nil, Try.ntmps62]; decide) ?_
  simp only [vsAll, loadA, loadRow, partA, partOk, boxA, cellA, cellsA, fillA, okParts, okAll, stAll, opsA, partsA, partsOk, opA, allocA, dstOk, nilSliceOp, argFr, Nat.reduceAdd, Nat.reduceLT, Nat.reduceLeDiff, Nat.reduceEqDiff, ↓reduceIte, eq_self, wtAll, Try.ntmps62]
  intro i2 hh_i2; (try simp only [Hp.set_none, ite_none] at hh_i2)
  refine callK (tellW_tri x S C m (0, 0) (moreL x C) joinL (.func 86) (.func 89) [.rptr 1 1 (fun _ => [irP x S C m]) 0 0] [] _) ?_
  rintro r H' ⟨i5, i6, im, hm, h5, h6, rfl, rfl⟩
  simp only [Hp.set_none] at hm h5 h6
  have a1 := hm.1
  have a2 := h5.1
  have a3 := h5.2.1
  have a4 := h6.1
  have a5 := h6.2.1
  have a6 := h6.2.2.1
  have a7 := hm.2
  have a8 := h5.2.2
  have a9 := h6.2.2.2
  skip
  simp only [vsAll, fillA, okParts, okAll, stAll, opsA, partsA, partsOk, opA, dstOk, Nat.reduceLT, Nat.reduceEqDiff, ↓reduceIte, eq_self, wtAll]
  refine callK_pure (onw_tri (i5 := i5) (i6 := i6) (im := im) k hS hC (leastT x S C m k hC) x.st.length 0 0 0 0 0 0 _ (by ((try clear hh_i2); (try clear a1); (try clear a2); (try clear a3); (try clear a4); (try clear a5); (try clear a6); (try clear a7); (try clear a8); (try clear a9); omega)) u0_ok (by simp only [vsAll, ↓reduceIte, eq_self, a4]) (by simp only [vsAll, ↓reduceIte, eq_self]) (by simp only [vsAll, ↓reduceIte, eq_self, a2, a5])) ?_
  simp only [vsAll, loadA, loadRow, partA, partOk, extractA, cellA, cellsA, opA, newCells, okCells, storeObj, dstOk, nilSliceOp, resA, retA.eq_2, Nat.reduceAdd, Nat.reduceLT, Nat.reduceEqDiff, ↓reduceIte, eq_self, wtAll, Try.results62, a1, a3, a6]
  exact dropR_pure rfl (by (repeat (first | exact HSub_rfl | refine HSub_put_eq (by simp only [vsAll, binA, binLitA, intA, aggA, boolA, nilA2, isConst, unA, loadA, loadRow, partA, partOk, fieldAddrA, indexAddrA, indexA, fieldA, extractA, lenA, nilCheckA, boxA, cellA, cellsA, fillA, okParts, buildSliceA, buildMutA, makeSliceA, partIdx, elemsA, lensA, ifaceA, convA, mmA, pickA, okAll, stAll, opsA, partsA, partsOk, opA, allocA, boxMutA, newCells, okCells, storeObj, appendA, guardV, taA, nM, mapUpA, lookA, sliceA, boundsA, opO, okO, copyA, dstOk, nilA, quietOk, nilSliceOp, panA, resA, argFr, retA.eq_1, retA.eq_2, Nat.reduceAdd, Nat.reduceSub, Nat.reduceMul, Nat.reduceLT, Nat.reduceLeDiff, Nat.reduceEqDiff, Nat.reduceBEq, Int.reduceAdd, Int.reduceSub, Int.reduceMul, Int.reduceNeg, Int.reduceLE, Int.reduceLT, Int.reduceEq, Int.reduceNe, Int.reduceToNat, ↓reduceIte, reduceCtorEq, implies_true, forall_const, eq_self, ne_eq, wtAll, Try.ntmps62, Try.results62, hh_i2, a1, a2, a3, a4, a5, a6, a7, a8, a9]) ?_ | refine HSub_drop2 (by simp only [eq_self, hh_i2, a7, a8, a9]) ?_ | refine HSub_keep_eq (by simp only [vsAll, binA, binLitA, intA, aggA, boolA, nilA2, isConst, unA, loadA, loadRow, partA, partOk, fieldAddrA, indexAddrA, indexA, fieldA, extractA, lenA, nilCheckA, boxA, cellA, cellsA, fillA, okParts, buildSliceA, buildMutA, makeSliceA, partIdx, elemsA, lensA, ifaceA, convA, mmA, pickA, okAll, stAll, opsA, partsA, partsOk, opA, allocA, boxMutA, newCells, okCells, storeObj, appendA, guardV, taA, nM, mapUpA, lookA, sliceA, boundsA, opO, okO, copyA, dstOk, nilA, quietOk, nilSliceOp, panA, resA, argFr, retA.eq_1, retA.eq_2, Nat.reduceAdd, Nat.reduceSub, Nat.reduceMul, Nat.reduceLT, Nat.reduceLeDiff, Nat.reduceEqDiff, Nat.reduceBEq, Int.reduceAdd, Int.reduceSub, Int.reduceMul, Int.reduceNeg, Int.reduceLE, Int.reduceLT, Int.reduceEq, Int.reduceNe, Int.reduceToNat, ↓reduceIte, reduceCtorEq, implies_true, forall_const, eq_self, ne_eq, wtAll, Try.ntmps62, Try.results62, hh_i2, a1, a2, a3, a4, a5, a6, a7, a8, a9]) ?_)))
end Go.Proofs.Ytkonoggmdcdeeaa
end
section
set_option linter.unusedVariables false
set_option linter.unusedSimpArgs false
namespace Go.V
/-- The same value, with some leaves told otherwise. -/
inductive FrzX (L : AV → AV → Prop) : AV → AV → Prop
  | same (x : AV) : FrzX L x x
  | leaf {x y : AV} (h : L x y) : FrzX L x y
  | agg {cs cs' : List AV} (hl : cs'.length = cs.length) (h : ∀ k, k < cs.length → FrzX L (cs.getD k .any) (cs'.getD k .any)) : FrzX L (.agg cs) (.agg cs')
  | tuple {cs cs' : List AV} (hl : cs'.length = cs.length) (h : ∀ k, k < cs.length → FrzX L (cs.getD k .any) (cs'.getD k .any)) : FrzX L (.tuple cs) (.tuple cs')
  | rptr {n st i j : Nat} {f g : Nat → List AV} (hl : ∀ k, k < n → (f k).length = st → (g k).length = st) (h : ∀ k l, k < n → l < st → FrzX L ((f k).getD l .any) ((g k).getD l .any)) : FrzX L (.rptr n st f i j) (.rptr n st g i j)
  | func {fn : Fn} {a b a' b' : List AV} (hl : a'.length = a.length) (hm : b'.length = b.length) (h : ∀ k, k < a.length → FrzX L (a.getD k .any) (a'.getD k .any)) (h' : ∀ k, k < b.length → FrzX L (b.getD k .any) (b'.getD k .any)) : FrzX L (.func fn a b) (.func fn a' b')

theorem FrzX.conv {L : AV → AV → Prop} {S S2 : St} (hle : Le S S2) (hc : ∀ x y, L x y → ∀ v, VRel S x v → VRel S2 y v) {x y : AV} (hxy : FrzX L x y) : ∀ v, VRel S x v → VRel S2 y v := by
  induction hxy with
  | same x => intro v hv; exact hv.mono hle
  | leaf h => intro v hv; exact hc _ _ h v hv
  | agg hl h ih =>
    intro v hv
    cases hv with
    | agg hn hv => exact .agg (hn.trans hl.symm) fun k hk => ih k (by omega) _ (hv k (by omega))
  | tuple hl h ih =>
    intro v hv
    cases hv with
    | tuple hn hv => exact .tuple (hn.trans hl.symm) fun k hk => ih k (by omega) _ (hv k (by omega))
  | @rptr n st i j f g hl h ih =>
    intro v hv
    cases hv with
    | rptr hi hb hsz hf hh =>
      exact .rptr (hle.imm _ hi) ((hle.keep _ hi).trans hb) hsz (fun k hk => hl k hk (hf k hk)) (fun k l hk hl2 => ih k l hk hl2 _ (hh k l hk hl2))
  | func hl hm h h' ih ih' =>
    intro v hv
    cases hv with
    | func hn hn' h1 h2 => exact .func (hn.trans hl.symm) (hn'.trans hm.symm) (fun k hk => ih k (by omega) _ (h1 k (by omega))) (fun k hk => ih' k (by omega) _ (h2 k (by omega)))

def Lb (id st n : Nat) (f : Nat → List AV) (x y : AV) : Prop := ∃ i j, x = .ref id 0 st i j ∧ y = .rptr n st f i j
def Lr (id st n : Nat) (f : Nat → List AV) (x y : AV) : Prop := x = .sl id st n ∧ ∃ g, (∀ i, i < n → f i = g i) ∧ y = .rsl n st g

/-- A box that is handed over inside arguments, to be written no more. -/
theorem tri_freezeB {P : Program} {fv : AV} {args args' : List AV} {H : Hp} {R : Res → Hp → Prop} {id st n : Nat} {f : Nat → List AV} (ho : H id = some (.box st n f)) (hl : args'.length = args.length)
    (hs : ∀ k, k < args.length → FrzX (Lb id st n f) (args.getD k .any) (args'.getD k .any)) (h : Tri P fv args' (H.del id) R) : Tri P fv args H R := by
  intro S vf vs hH hvf ha
  obtain ⟨S2, hw, hle, h2, hc⟩ := frz_stepB hH ho
  have conv : ∀ x y, FrzX (Lb id st n f) x y → ∀ v, VRel S x v → VRel S2 y v := fun x y hxy => hxy.conv hle (fun x y hxy v hv => by obtain ⟨i, j, rfl, rfl⟩ := hxy; exact hc _ _ _ hv)
  obtain ⟨nx, h1, h3⟩ := h S2 vf vs h2 (hvf.mono hle) ⟨by rw [hl]; exact ha.1, fun k hk => conv _ _ (hs k (by omega)) _ (ha.2 k (by omega))⟩
  rw [hw] at h1
  have hout : ∀ e w, Out S2 R e w → Out S R e w := fun e w ⟨S3, r, H2, a, b, c, d, e'⟩ => ⟨S3, r, H2, a, hle.trans b, c, d, e'⟩
  refine ⟨nx, h1, ?_⟩
  cases nx <;> simp only [NextOk] at h3 ⊢
  · rw [hw] at h3; exact Calls.mono h3 hout
  · rw [hw] at h3; exact h3.mono hout
end Go.V
end
section
set_option linter.unusedVariables false
set_option linter.unusedSimpArgs false
set_option maxHeartbeats 4000000
set_option maxRecDepth 100000
namespace Go.Proofs.Ytkonoggmdcdeeaa
open Go.V
/-- The ones of a number, counted as the library does. -/
def ones1 (s : Nat) : Nat := ((s >>> 1) &&& 6148914691236517205) + (s &&& 6148914691236517205)
def ones2 (s : Nat) : Nat := ((s >>> 2) &&& 3689348814741910323) + (s &&& 3689348814741910323)
def ones3 (s : Nat) : Nat := ((s >>> 4) + s) &&& 1085102592571150095
def ones4 (s : Nat) : Nat := s + (s >>> 8)
def ones5 (s : Nat) : Nat := s + (s >>> 16)
def ones6 (s : Nat) : Nat := s + (s >>> 32)
def ones (s : Nat) : Nat := ones6 (ones5 (ones4 (ones3 (ones2 (ones1 s))))) &&& 127

theorem shr_int (s k : Nat) : ((s : Int) / 2 ^ k) = ((s >>> k : Nat) : Int) := by
  rw [Nat.shiftRight_eq_div_pow]; simp
theorem bits64 : (IntKind.u64.bits = 64) = True := eq_true rfl
theorem ones1_le (s : Nat) : ones1 s ≤ 12297829382473034410 := by
  have h1 := @Nat.and_le_right (s >>> 1) 6148914691236517205
  have h2 := @Nat.and_le_right s 6148914691236517205
  unfold ones1; omega
theorem ones2_le (s : Nat) : ones2 s ≤ 7378697629483820646 := by
  have h1 := @Nat.and_le_right (s >>> 2) 3689348814741910323
  have h2 := @Nat.and_le_right s 3689348814741910323
  unfold ones2; omega
theorem ones3_le (s : Nat) : ones3 s ≤ 1085102592571150095 := Nat.and_le_right
theorem shr_le (s k : Nat) : s >>> k ≤ s := by rw [Nat.shiftRight_eq_div_pow]; exact Nat.div_le_self _ _

theorem ones64_tri (s : Nat) (H : Hp) (hs : s < 2 ^ 64) : PTri Try.prog (fnA 97) [u64 s] H (i64 (ones s)) := by
  refine tri_w0 Try.func97 (by kernel_rfl) rfl (by simp only [List.length_append, List.length_cons, List.length_nil, Try.ntmps97]; decide) ?_
  refine wps_cut (m := fun _ => false) [(0, u64 s)] H [] (by simp only [vsAll, opA, dstOk, nilSliceOp, argFr, Nat.reduceLT, ↓reduceIte, reduceCtorEq, eq_self, Try.ntmps97]) ?_
  refine wps_cut (m := fun _ => false) [(0, u64 (ones1 s))] H [] ?_ ?_
  · have h1 := ones1_le s
    have h2 := shr_le s 1
    have e : ((s >>> 1 &&& 6148914691236517205 : Nat) : Int) + ((s &&& 6148914691236517205 : Nat) : Int) = (ones1 s : Int) := by simp only [ones1]; omega
    simp only [vsAll, binA, binLitA, intA, opA, dstOk, nilSliceOp, Nat.reduceLT, Nat.reduceEqDiff, Int.reduceLE, Int.reduceLT, Int.reduceToNat, ↓reduceIte, reduceCtorEq, eq_self, Try.ntmps97, shr_int, bits64, InR_u64, e]
    omega
  have hs1 := ones1_le s
  generalize es1 : ones1 s = s1 at *
  refine wps_cut (m := fun _ => false) [(0, u64 (ones2 s1))] H [] ?_ ?_
  · have h1 := ones2_le s1
    have h2 := shr_le s1 2
    have e : ((s1 >>> 2 &&& 3689348814741910323 : Nat) : Int) + ((s1 &&& 3689348814741910323 : Nat) : Int) = (ones2 s1 : Int) := by simp only [ones2]; omega
    simp only [vsAll, binA, binLitA, intA, opA, dstOk, nilSliceOp, Nat.reduceLT, Nat.reduceEqDiff, Int.reduceLE, Int.reduceLT, Int.reduceToNat, ↓reduceIte, reduceCtorEq, eq_self, Try.ntmps97, shr_int, bits64, InR_u64, e]
    omega
  have hs2 := ones2_le s1
  generalize es2 : ones2 s1 = s2 at *
  refine wps_cut (m := fun _ => false) [(0, u64 (ones3 s2))] H [] ?_ ?_
  · have h1 := ones3_le s2
    have h2 := shr_le s2 4
    have e0 : ((s2 >>> 4 : Nat) : Int) + (s2 : Int) = ((s2 >>> 4 + s2 : Nat) : Int) := by omega
    have e : (((s2 >>> 4 + s2) &&& 1085102592571150095 : Nat) : Int) = (ones3 s2 : Int) := rfl
    simp only [vsAll, binA, binLitA, intA, opA, dstOk, nilSliceOp, Nat.reduceLT, Nat.reduceEqDiff, Int.reduceLE, Int.reduceLT, Int.reduceToNat, ↓reduceIte, reduceCtorEq, eq_self, Try.ntmps97, shr_int, bits64, InR_u64, e0, e]
    omega
  have hs3 := ones3_le s2
  generalize es3 : ones3 s2 = s3 at *
  refine wps_cut (m := fun _ => false) [(0, u64 (ones4 s3))] H [] ?_ ?_
  · have h2 := shr_le s3 8
    have e0 : (s3 : Int) + ((s3 >>> 8 : Nat) : Int) = (ones4 s3 : Int) := by simp only [ones4]; omega
    simp only [vsAll, binA, binLitA, intA, opA, dstOk, nilSliceOp, Nat.reduceLT, Nat.reduceEqDiff, Int.reduceLE, Int.reduceLT, Int.reduceToNat, ↓reduceIte, reduceCtorEq, eq_self, Try.ntmps97, shr_int, bits64, InR_u64, e0]
    simp only [ones4]; omega
  have hs4 : ones4 s3 ≤ 2 * 1085102592571150095 := by have := shr_le s3 8; simp only [ones4]; omega
  generalize es4 : ones4 s3 = s4 at *
  refine wps_cut (m := fun _ => false) [(0, u64 (ones5 s4))] H [] ?_ ?_
  · have h2 := shr_le s4 16
    have e0 : (s4 : Int) + ((s4 >>> 16 : Nat) : Int) = (ones5 s4 : Int) := by simp only [ones5]; omega
    simp only [vsAll, binA, binLitA, intA, opA, dstOk, nilSliceOp, Nat.reduceLT, Nat.reduceEqDiff, Int.reduceLE, Int.reduceLT, Int.reduceToNat, ↓reduceIte, reduceCtorEq, eq_self, Try.ntmps97, shr_int, bits64, InR_u64, e0]
    simp only [ones5]; omega
  have hs5 : ones5 s4 ≤ 4 * 1085102592571150095 := by have := shr_le s4 16; simp only [ones5]; omega
  generalize es5 : ones5 s4 = s5 at *
  refine wps_cut (m := fun _ => false) [(0, u64 (ones6 s5))] H [] ?_ ?_
  · have h2 := shr_le s5 32
    have e0 : (s5 : Int) + ((s5 >>> 32 : Nat) : Int) = (ones6 s5 : Int) := by simp only [ones6]; omega
    simp only [vsAll, binA, binLitA, intA, opA, dstOk, nilSliceOp, Nat.reduceLT, Nat.reduceEqDiff, Int.reduceLE, Int.reduceLT, Int.reduceToNat, ↓reduceIte, reduceCtorEq, eq_self, Try.ntmps97, shr_int, bits64, InR_u64, e0]
    simp only [ones6]; omega
  have hs6 : ones6 s5 ≤ 8 * 1085102592571150095 := by have := shr_le s5 32; simp only [ones6]; omega
  generalize es6 : ones6 s5 = s6 at *
  refine wps_vs (m := fun _ => false) ?_
  simp only [vsAll, binA, binLitA, intA, convA, opA, dstOk, nilSliceOp, resA, retA.eq_1, Nat.reduceLT, Int.reduceLE, Int.reduceToNat, ↓reduceIte, eq_self, wtAll, Try.ntmps97, Try.results97]
  refine ⟨by simp only [InR_i64]; omega, by simp only [InR_i64]; omega, ?_⟩
  simp only [ones, es1, es2, es3, es4, es5, es6]

theorem ones_pop (s : Nat) (hs : s < 4096) : ones s = pop s := by
  have : ∀ a, a < 64 → ∀ b, b < 64 → ones (64 * a + b) = pop (64 * a + b) := by decide +kernel
  have h := this (s / 64) (by omega) (s % 64) (by omega)
  rwa [show 64 * (s / 64) + s % 64 = s by omega] at h
theorem count_tri (s : Nat) (H : Hp) (hs : s < 4096) : PTri Try.prog (fnA 91) [u64 s] H (i64 (pop s)) := by
  refine tri_v0 (fun _ => false) Try.func91 (by kernel_rfl) rfl (by simp only [List.length_append, List.length_cons, List.length_nil, Try.ntmps91]; decide) ?_
  simp only [vsAll, okAll, stAll, opsA, opA, dstOk, nilSliceOp, argFr, Nat.reduceLT, ↓reduceIte, reduceCtorEq, eq_self, Try.ntmps91]
  refine callK_pure (ones64_tri s H (by omega)) ?_
  simp only [vsAll, opA, dstOk, nilSliceOp, resA, retA.eq_1, Nat.reduceLT, ↓reduceIte, eq_self, Try.results91, ones_pop s hs]


/-- The first set of a size, from one on, that suits. -/
def inn (f : Nat → Bool) (z : Nat) : Nat → Nat → Option Nat
  | 0, _ => none
  | n + 1, j => if (decide (pop j = z) && f j) = true then some j else inn f z n (j + 1)
def outF (f : Nat → Bool) (m : Nat) : Nat → Nat → Option Nat
  | 0, _ => none
  | n + 1, z => match inn f z (2 ^ m) 0 with
    | some j => some j
    | none => outF f m n (z + 1)
def fewV (f : Nat → Bool) (m : Nat) : Option Nat := outF f m (m + 1) 0
theorem dec_cast (a b : Nat) (x : Bool) : (decide ((a : Int) = (b : Int)) && x) = (decide (a = b) && x) := by
  rw [show decide ((a : Int) = (b : Int)) = decide (a = b) from decide_eq_decide.2 (by omega)]
theorem fewest_tri (f : Nat → Bool) (m : Nat) (fv : AV) (H : Hp) (hm : m ≤ 8) (hok : fv.ok) (hst : fv.st = fv) (hf : ∀ j : Nat, j < 2 ^ m → PTri Try.prog fv [u64 j] H (boo (f j))) :
    PTri Try.prog (fnA 67) [i64 m, fv] H (.tuple [u64 ((fewV f m).getD 0 : Nat), boo (fewV f m).isSome]) := by
  have hp : 2 ^ m ≤ 2 ^ 8 := Nat.pow_le_pow_right (by decide) hm
  have hp0 : 0 < 2 ^ m := Nat.pow_pos (by decide)
  have ep : (1 : Int) * 2 ^ m = ((2 ^ m : Nat) : Int) := by rw [Int.one_mul]; simp
  refine tri_v0 (fun _ => false) Try.func67 (by kernel_rfl) rfl (by simp only [List.length_append, List.length_cons, List.length_nil, Try.ntmps67]; decide) ?_
  skip
  simp only [vsAll, binA, binLitA, intA, opA, dstOk, nilSliceOp, argFr, Nat.reduceLT, ↓reduceIte, reduceCtorEq, eq_self, Try.ntmps67]
  refine ⟨by simp only [InR_i64]; ((try clear hok); (try clear hst); omega), ?_⟩
  refine vs_loop (σ := Nat) (fun i => i ≤ m + 1 ∧ fewV f m = outF f m (m + 1 - i) i) (fun i => [(0, i64 m), (1, fv), (9, i64 ((m : Int) + 1)), (10, i64 i)]) (fun _ => H) (fun i => m + 1 - i) 0 ⟨by ((try clear hok); (try clear hst); omega), rfl⟩ ?_ (HSub.refl _) fun i hi => ?_
  · simp only [vsAll, argFr, Nat.reduceEqDiff, ↓reduceIte, reduceCtorEq, eq_self, Int.natCast_zero]
  · obtain ⟨hi, hv⟩ := hi
    simp only [vsAll, binA, binLitA, intA, opA, dstOk, Nat.reduceLT, Nat.reduceEqDiff, ↓reduceIte, reduceCtorEq, eq_self]
    refine condD (fun hd => ?_) (fun hd => ?_)
    · rw [show m + 1 - i = (m - i) + 1 by ((try clear hok); (try clear hst); omega)] at hv
      simp only [vsAll, binA, binLitA, intA, opA, dstOk, nilSliceOp, Nat.reduceLT, Nat.reduceEqDiff, ↓reduceIte, reduceCtorEq, eq_self, ep]
      refine ⟨⟨by ((try clear hok); (try clear hst); omega), by ((try clear hok); (try clear hst); omega), by simp only [InR_u64]; ((try clear hok); (try clear hst); omega)⟩, ?_⟩
      refine vs_loop (σ := Nat) (fun j => j ≤ 2 ^ m ∧ inn f i (2 ^ m) 0 = inn f i (2 ^ m - j) j) (fun j => [(0, i64 m), (1, fv), (6, i64 i), (9, i64 ((m : Int) + 1)), (10, i64 i), (14, u64 ((2 ^ m : Nat) : Int)), (15, u64 j)]) (fun _ => H) (fun j => 2 ^ m - j) 0 ⟨by ((try clear hok); (try clear hst); omega), rfl⟩ ?_ (HSub.refl _) fun j hj => ?_
      · simp only [vsAll, Nat.reduceEqDiff, ↓reduceIte, reduceCtorEq, eq_self, Int.natCast_zero]
      · obtain ⟨hj, hw⟩ := hj
        simp only [vsAll, binA, binLitA, intA, opA, dstOk, Nat.reduceLT, Nat.reduceEqDiff, ↓reduceIte, reduceCtorEq, eq_self]
        refine condD (fun hd2 => ?_) (fun hd2 => ?_)
        · rw [show 2 ^ m - j = (2 ^ m - (j + 1)) + 1 by ((try clear hok); (try clear hst); omega), inn] at hw
          simp only [vsAll, okAll, stAll, opsA, opA, dstOk, nilSliceOp, Nat.reduceLT, Nat.reduceEqDiff, ↓reduceIte, reduceCtorEq, eq_self]
          refine callK_pure (count_tri j _ (by ((try clear hok); (try clear hst); omega))) ?_
          simp only [vsAll, binA, binLitA, intA, opA, guardV, dstOk, Nat.reduceLT, Nat.reduceEqDiff, ↓reduceIte, reduceCtorEq, implies_true, eq_self, hok, hst]
          refine gcall _ (fun g => ⟨by simp only [vsAll, opA, Nat.reduceEqDiff, ↓reduceIte, eq_self, g], by simp only [vsAll, okAll, opsA, opA, ↓reduceIte, eq_self, g], hf j (by ((try clear hok); (try clear hst); omega))⟩) ?_
          simp only [vsAll, pickA, opA, dstOk, Nat.reduceLT, Nat.reduceEqDiff, ↓reduceIte, implies_true, eq_self]
          rw [dec_cast]
          refine condV (fun hb => ?_) (fun hb => ?_)
          · rw [hb, if_pos rfl] at hw
            have hr : fewV f m = some j := by rw [hv, outF, hw]
            simp only [vsAll, opA, dstOk, nilSliceOp, resA, retA.eq_2, Nat.reduceLT, Nat.reduceEqDiff, ↓reduceIte, eq_self, Try.results67, hr, Option.getD_some]
          · rw [hb, if_neg (by decide)] at hw
            simp only [vsAll, binA, binLitA, intA, opA, dstOk, Nat.reduceLT, Nat.reduceEqDiff, ↓reduceIte, reduceCtorEq, eq_self]
            refine ⟨by simp only [InR_u64]; ((try clear hok); (try clear hst); omega), loop_next (j + 1) ⟨by ((try clear hok); (try clear hst); omega), hw⟩ (by ((try clear hok); (try clear hst); omega)) ?_ (HSub.refl _)⟩
            simp only [vsAll, Nat.reduceEqDiff, ↓reduceIte, reduceCtorEq, eq_self, Int.natCast_add, Int.natCast_one]
        · have ej : j = 2 ^ m := by ((try clear hok); (try clear hst); omega)
          subst ej
          rw [Nat.sub_self, inn] at hw
          rw [outF, hw, show m - i = m + 1 - (i + 1) by ((try clear hok); (try clear hst); omega)] at hv
          simp only [] at hv
          simp only [vsAll, binA, binLitA, intA, opA, dstOk, Nat.reduceLT, Nat.reduceEqDiff, ↓reduceIte, reduceCtorEq, eq_self]
          refine ⟨by simp only [InR_i64]; ((try clear hok); (try clear hst); omega), loop_next (i + 1) ⟨by ((try clear hok); (try clear hst); omega), hv⟩ (by ((try clear hok); (try clear hst); omega)) ?_ (HSub.refl _)⟩
          simp only [vsAll, Nat.reduceEqDiff, ↓reduceIte, reduceCtorEq, eq_self, Int.natCast_add, Int.natCast_one]
    · have ei : i = m + 1 := by ((try clear hok); (try clear hst); omega)
      subst ei
      rw [Nat.sub_self, outF] at hv
      simp only [vsAll, opA, dstOk, nilSliceOp, resA, retA.eq_2, Nat.reduceLT, Nat.reduceEqDiff, ↓reduceIte, eq_self, Try.results67, hv, Option.getD_none, Int.natCast_zero]
end Go.Proofs.Ytkonoggmdcdeeaa
end
section
set_option linter.unusedVariables false
set_option linter.unusedSimpArgs false
namespace Go.Proofs.Ytkonoggmdcdeeaa
open Go.V
theorem lessB_iff (a b : Nat × Nat) : lessB a b = true ↔ (a.1 < b.1 ∨ a.1 = b.1 ∧ a.2 < b.2) := by
  simp [lessB]
theorem joinL_assoc (a b c : Nat × Nat) : joinL (joinL a b) c = joinL a (joinL b c) := by
  have h1 := lessB_iff b a
  have h2 := lessB_iff c b
  have h3 := lessB_iff c a
  unfold joinL
  by_cases q1 : lessB b a = true
  · rw [if_pos q1]
    by_cases q2 : lessB c b = true
    · rw [if_pos q2]
      have q3 : lessB c a = true := h3.2 (by have := h1.1 q1; have := h2.1 q2; omega)
      rw [if_pos q3]
    · rw [if_neg q2, if_pos q1]
  · rw [if_neg q1]
    by_cases q2 : lessB c b = true
    · rw [if_pos q2]
    · rw [if_neg q2, if_neg q1]
      have q3 : ¬ lessB c a = true := fun q => by
        have := h3.1 q
        have n1 : ¬ (b.1 < a.1 ∨ b.1 = a.1 ∧ b.2 < a.2) := fun p => q1 (h1.2 p)
        have n2 : ¬ (c.1 < b.1 ∨ c.1 = b.1 ∧ c.2 < b.2) := fun p => q2 (h2.2 p)
        omega
      rw [if_neg q3]
theorem moreL_join (x : Ir) (C s : Nat) (o : Int) (a b : Nat × Nat) : moreL x C s o (joinL a b) = joinL (moreL x C s o a) (moreL x C s o b) := by
  have h1 := lessB_iff b a
  have h2 := lessB_iff (moreL x C s o b) (moreL x C s o a)
  have e : lessB (moreL x C s o b) (moreL x C s o a) = lessB b a := by
    rw [Bool.eq_iff_iff, h1, h2]
    simp only [moreL]
    omega
  unfold joinL
  rw [e]
  split <;> rfl
theorem tlW_eq (x : Ir) (S C : Nat) (m : Bool) : tlW x S C m = foldJ joinL ((cont x S C m x.st.length 0 u0).map (valT (0, 0) (moreL x C) 0)) :=
  tl_eq x S C m (0, 0) (moreL x C) joinL joinL_assoc (fun s o a b => moreL_join x C s o a b) _ _ _
theorem tlW_some {x : Ir} (k : Gd x) (C : Nat) : (tlW x (fullS x) C false).isSome = decide (0 < (truA x).length) := by
  have h : truA x = cont x (fullS x) C false x.st.length 0 u0 := truS_cont x (fullS x) C k
  rw [tlW_eq, ← h]
  cases hl : truA x with
  | nil => rfl
  | cons t l =>
    simp only [List.map_cons, foldJ]
    cases foldJ joinL (l.map (valT (0, 0) (moreL x C) 0)) <;> simp [comb]
end Go.Proofs.Ytkonoggmdcdeeaa
end
section
set_option linter.unusedVariables false
set_option linter.unusedSimpArgs false
set_option maxHeartbeats 4000000
set_option maxRecDepth 100000
namespace Go.Proofs.Ytkonoggmdcdeeaa
open Go.V
def falseE (x : Ir) : Int := errE x true true
def falseP (x : Ir) : Nat × Nat := if falseE x = 0 then (tlW x (fullS x) (fullC x) false).getD (0, 0) else (0, 0)
theorem wfalse_tri (x : Ir) (H : Hp) (kn : Near x) : PTri Try.prog (fnA 23) [x.av] H (.tuple [i64 ((falseP x).1 : Nat), i64 ((falseP x).2 : Nat), i64 (falseE x)]) := by
  refine Tri.drop ?_
  refine tri_a (m := fun _ => false) ans43 Try.func23 (by kernel_rfl) rfl (by simp only [List.length_append, List.length_cons, List.length_nil, Try.ntmps23]; decide) ?_
  simp only [vsAll, loadA, loadRow, partA, partOk, boxA, okAll, stAll, opsA, opA, allocA, dstOk, nilSliceOp, argFr, Nat.reduceAdd, Nat.reduceLT, Nat.reduceEqDiff, ↓reduceIte, eq_self, wtAll, Try.ntmps23]
  intro i4 hh_i4; (try simp only [Hp.set_none, ite_none] at hh_i4)
  refine open_call (open_tri x _ true _ kn trivial rfl (fun hk H' => always_tri _ H')) (fun hno => ?_) (fun hk hv => ?_) (fun hk hv => ?_)
  · have e : falseE x = 1 := errE_no hno _ _
    have ev : falseP x = (0, 0) := by simp only [falseP, e]; rfl
    simp only [vsAll]
    refine ⟨1, i4, _, rfl, rfl, by simp only [vsAll, ↓reduceIte, eq_self]; try rfl, ?_⟩
    simp only [vsAll, loadA, loadRow, partA, partOk, resA, retA.eq_2, Nat.reduceLT, Nat.reduceEqDiff, ↓reduceIte, eq_self, wtAll, Try.results23]
    refine dropR_pure ?_ (by (repeat (first | exact HSub_rfl | refine HSub_put_eq (by simp only [vsAll, binA, binLitA, intA, aggA, boolA, nilA2, isConst, unA, loadA, loadRow, partA, partOk, fieldAddrA, indexAddrA, indexA, fieldA, extractA, lenA, nilCheckA, boxA, cellA, cellsA, fillA, okParts, buildSliceA, buildMutA, makeSliceA, partIdx, elemsA, lensA, ifaceA, convA, mmA, pickA, okAll, stAll, opsA, partsA, partsOk, opA, allocA, boxMutA, newCells, okCells, storeObj, appendA, guardV, taA, nM, mapUpA, lookA, sliceA, boundsA, opO, okO, copyA, dstOk, nilA, quietOk, nilSliceOp, panA, resA, argFr, retA.eq_1, retA.eq_2, Nat.reduceAdd, Nat.reduceSub, Nat.reduceMul, Nat.reduceLT, Nat.reduceLeDiff, Nat.reduceEqDiff, Nat.reduceBEq, Int.reduceAdd, Int.reduceSub, Int.reduceMul, Int.reduceNeg, Int.reduceLE, Int.reduceLT, Int.reduceEq, Int.reduceNe, Int.reduceToNat, ↓reduceIte, reduceCtorEq, implies_true, forall_const, eq_self, ne_eq, wtAll, Try.ntmps23, Try.results23, hh_i4]) ?_ | refine HSub_drop2 (by simp only [eq_self, hh_i4]) ?_ | refine HSub_keep_eq (by simp only [vsAll, binA, binLitA, intA, aggA, boolA, nilA2, isConst, unA, loadA, loadRow, partA, partOk, fieldAddrA, indexAddrA, indexA, fieldA, extractA, lenA, nilCheckA, boxA, cellA, cellsA, fillA, okParts, buildSliceA, buildMutA, makeSliceA, partIdx, elemsA, lensA, ifaceA, convA, mmA, pickA, okAll, stAll, opsA, partsA, partsOk, opA, allocA, boxMutA, newCells, okCells, storeObj, appendA, guardV, taA, nM, mapUpA, lookA, sliceA, boundsA, opO, okO, copyA, dstOk, nilA, quietOk, nilSliceOp, panA, resA, argFr, retA.eq_1, retA.eq_2, Nat.reduceAdd, Nat.reduceSub, Nat.reduceMul, Nat.reduceLT, Nat.reduceLeDiff, Nat.reduceEqDiff, Nat.reduceBEq, Int.reduceAdd, Int.reduceSub, Int.reduceMul, Int.reduceNeg, Int.reduceLE, Int.reduceLT, Int.reduceEq, Int.reduceNe, Int.reduceToNat, ↓reduceIte, reduceCtorEq, implies_true, forall_const, eq_self, ne_eq, wtAll, Try.ntmps23, Try.results23, hh_i4]) ?_)))
    simp only [eq_self, ev, e, Int.natCast_zero]
  · cases hv
  · simp only [vsAll, okAll, stAll, opsA, opA, dstOk, Nat.reduceLT, ↓reduceIte, eq_self]
    refine callK_pure (least_tri x (fullS x) (fullC x) false _ hk.gd (full_lt hk).1 (full_lt hk).2) ?_
    have hsm := tlW_some hk.gd (fullC x)
    generalize htw : tlW x (fullS x) (fullC x) false = tw at hsm
    simp only [vsAll, extractA, cellA, cellsA, okAll, stAll, opsA, opA, allocA, newCells, okCells, storeObj, dstOk, nilSliceOp, Nat.reduceAdd, Nat.reduceLT, Nat.reduceEqDiff, ↓reduceIte, eq_self, wtAll]
    intro i5 hh_i5; (try simp only [ite_none] at hh_i5)
    refine ask_call (fun h => ?_) (fun h => ?_)
    · rw [h] at hsm
      have hl := of_decide_eq_true hsm.symm
      have e : falseE x = 0 := errE_told hk hl
      have ev : falseP x = tw.getD (0, 0) := by simp only [falseP, e, if_true, htw]
      simp only [vsAll]
      refine vs_draw2 [0, 0, 0, 0, 1, 3, 5] [([0, 1, 2, 3], [3], 4), ([], [], 5), ([], [], 6)] [] (by decide +kernel) ?_
      simp only [vsAll, loadA, loadRow, partA, partOk, fieldAddrA, cellA, cellsA, opA, newCells, okCells, storeObj, dstOk, nilSliceOp, Nat.reduceLT, Nat.reduceEqDiff, ↓reduceIte, eq_self, wtAll, hh_i5]
      refine Ent.ret ⟨i4, _, rfl, by simp only [vsAll, ↓reduceIte, eq_self]; try rfl, ?_⟩
      simp only [vsAll, loadA, loadRow, partA, partOk, resA, retA.eq_2, Nat.reduceLT, Nat.reduceEqDiff, ↓reduceIte, eq_self, wtAll, Try.results23]
      refine dropR_pure ?_ (by (repeat (first | exact HSub_rfl | refine HSub_put_eq (by simp only [vsAll, binA, binLitA, intA, aggA, boolA, nilA2, isConst, unA, loadA, loadRow, partA, partOk, fieldAddrA, indexAddrA, indexA, fieldA, extractA, lenA, nilCheckA, boxA, cellA, cellsA, fillA, okParts, buildSliceA, buildMutA, makeSliceA, partIdx, elemsA, lensA, ifaceA, convA, mmA, pickA, okAll, stAll, opsA, partsA, partsOk, opA, allocA, boxMutA, newCells, okCells, storeObj, appendA, guardV, taA, nM, mapUpA, lookA, sliceA, boundsA, opO, okO, copyA, dstOk, nilA, quietOk, nilSliceOp, panA, resA, argFr, retA.eq_1, retA.eq_2, Nat.reduceAdd, Nat.reduceSub, Nat.reduceMul, Nat.reduceLT, Nat.reduceLeDiff, Nat.reduceEqDiff, Nat.reduceBEq, Int.reduceAdd, Int.reduceSub, Int.reduceMul, Int.reduceNeg, Int.reduceLE, Int.reduceLT, Int.reduceEq, Int.reduceNe, Int.reduceToNat, ↓reduceIte, reduceCtorEq, implies_true, forall_const, eq_self, ne_eq, wtAll, Try.ntmps23, Try.results23, hh_i4, hh_i5]) ?_ | refine HSub_drop2 (by simp only [eq_self, hh_i4, hh_i5]) ?_ | refine HSub_keep_eq (by simp only [vsAll, binA, binLitA, intA, aggA, boolA, nilA2, isConst, unA, loadA, loadRow, partA, partOk, fieldAddrA, indexAddrA, indexA, fieldA, extractA, lenA, nilCheckA, boxA, cellA, cellsA, fillA, okParts, buildSliceA, buildMutA, makeSliceA, partIdx, elemsA, lensA, ifaceA, convA, mmA, pickA, okAll, stAll, opsA, partsA, partsOk, opA, allocA, boxMutA, newCells, okCells, storeObj, appendA, guardV, taA, nM, mapUpA, lookA, sliceA, boundsA, opO, okO, copyA, dstOk, nilA, quietOk, nilSliceOp, panA, resA, argFr, retA.eq_1, retA.eq_2, Nat.reduceAdd, Nat.reduceSub, Nat.reduceMul, Nat.reduceLT, Nat.reduceLeDiff, Nat.reduceEqDiff, Nat.reduceBEq, Int.reduceAdd, Int.reduceSub, Int.reduceMul, Int.reduceNeg, Int.reduceLE, Int.reduceLT, Int.reduceEq, Int.reduceNe, Int.reduceToNat, ↓reduceIte, reduceCtorEq, implies_true, forall_const, eq_self, ne_eq, wtAll, Try.ntmps23, Try.results23, hh_i4, hh_i5]) ?_)))
      simp only [eq_self, e, ev]
    · rw [h] at hsm
      have hl := of_decide_eq_false hsm.symm
      have e : falseE x = 10 := errE_clash hk (by ((try clear hh_i4); (try clear hh_i5); omega))
      have ev : falseP x = (0, 0) := by simp only [falseP, e]; rfl
      simp only [vsAll]
      refine ⟨10, i4, _, rfl, rfl, by simp only [vsAll, ↓reduceIte, eq_self, hh_i5]; try rfl, ?_⟩
      simp only [vsAll, loadA, loadRow, partA, partOk, resA, retA.eq_2, Nat.reduceLT, Nat.reduceEqDiff, ↓reduceIte, eq_self, wtAll, Try.results23]
      refine dropR_pure ?_ (by (repeat (first | exact HSub_rfl | refine HSub_put_eq (by simp only [vsAll, binA, binLitA, intA, aggA, boolA, nilA2, isConst, unA, loadA, loadRow, partA, partOk, fieldAddrA, indexAddrA, indexA, fieldA, extractA, lenA, nilCheckA, boxA, cellA, cellsA, fillA, okParts, buildSliceA, buildMutA, makeSliceA, partIdx, elemsA, lensA, ifaceA, convA, mmA, pickA, okAll, stAll, opsA, partsA, partsOk, opA, allocA, boxMutA, newCells, okCells, storeObj, appendA, guardV, taA, nM, mapUpA, lookA, sliceA, boundsA, opO, okO, copyA, dstOk, nilA, quietOk, nilSliceOp, panA, resA, argFr, retA.eq_1, retA.eq_2, Nat.reduceAdd, Nat.reduceSub, Nat.reduceMul, Nat.reduceLT, Nat.reduceLeDiff, Nat.reduceEqDiff, Nat.reduceBEq, Int.reduceAdd, Int.reduceSub, Int.reduceMul, Int.reduceNeg, Int.reduceLE, Int.reduceLT, Int.reduceEq, Int.reduceNe, Int.reduceToNat, ↓reduceIte, reduceCtorEq, implies_true, forall_const, eq_self, ne_eq, wtAll, Try.ntmps23, Try.results23, hh_i4, hh_i5]) ?_ | refine HSub_drop2 (by simp only [eq_self, hh_i4, hh_i5]) ?_ | refine HSub_keep_eq (by simp only [vsAll, binA, binLitA, intA, aggA, boolA, nilA2, isConst, unA, loadA, loadRow, partA, partOk, fieldAddrA, indexAddrA, indexA, fieldA, extractA, lenA, nilCheckA, boxA, cellA, cellsA, fillA, okParts, buildSliceA, buildMutA, makeSliceA, partIdx, elemsA, lensA, ifaceA, convA, mmA, pickA, okAll, stAll, opsA, partsA, partsOk, opA, allocA, boxMutA, newCells, okCells, storeObj, appendA, guardV, taA, nM, mapUpA, lookA, sliceA, boundsA, opO, okO, copyA, dstOk, nilA, quietOk, nilSliceOp, panA, resA, argFr, retA.eq_1, retA.eq_2, Nat.reduceAdd, Nat.reduceSub, Nat.reduceMul, Nat.reduceLT, Nat.reduceLeDiff, Nat.reduceEqDiff, Nat.reduceBEq, Int.reduceAdd, Int.reduceSub, Int.reduceMul, Int.reduceNeg, Int.reduceLE, Int.reduceLT, Int.reduceEq, Int.reduceNe, Int.reduceToNat, ↓reduceIte, reduceCtorEq, implies_true, forall_const, eq_self, ne_eq, wtAll, Try.ntmps23, Try.results23, hh_i4, hh_i5]) ?_)))
      simp only [eq_self, ev, e, Int.natCast_zero]

def clP (x : Ir) (set : Nat) : Bool := decide ((tlN x (fullS x) set true).getD 0 = 0)
def shP (x : Ir) (set : Nat) : Bool := decide ((tlN x set (fullC x) false).getD 0 = 0)
theorem dec_zero (n : Nat) : decide ((n : Int) = 0) = decide (n = 0) := decide_eq_decide.2 (by omega)
theorem clash1_tri (x : Ir) (i4 set : Nat) (H : Hp) (k : Ok x) (h4 : H i4 = some (.box 1 1 fun _ => [irP x (fullS x) (fullC x) false])) (hs : set < 2 ^ 60) :
    PTri Try.prog (.func (.func 68) [] [.ref i4 0 1 0 0]) [u64 set] H (boo (clP x set)) := by
  refine Tri.drop ?_
  refine tri_v0 (fun _ => false) Try.func68 (by kernel_rfl) rfl (by simp only [List.length_append, List.length_cons, List.length_nil, Try.ntmps68]; decide) ?_
  skip
  simp only [vsAll, loadA, loadRow, partA, partOk, fieldAddrA, nilCheckA, cellA, cellsA, okAll, stAll, opsA, opA, allocA, newCells, okCells, storeObj, dstOk, nilSliceOp, argFr, Nat.reduceAdd, Nat.reduceLT, Nat.reduceLeDiff, Nat.reduceEqDiff, ↓reduceIte, reduceCtorEq, eq_self, wtAll, Try.ntmps68, h4]
  intro ip hh_ip; (try simp only [Hp.set_none, ite_none] at hh_ip)
  have a1 := ne_some hh_ip h4
  skip
  rw [Hp.set_set, Hp.set_set, Hp.set_set]
  refine callK (tri_freezeB (id := ip) (args' := [irP x (fullS x) set true]) (Hp.set_same _ _ _) rfl (fun q hq => ?_) (ways_tri x (fullS x) set true _ k.gd (full_lt k).1 hs)) ?_
  · match q, hq with
    | 0, _ => exact .leaf ⟨0, 0, rfl, rfl⟩
  rw [set_del hh_ip]
  rintro r H' ⟨rfl, rfl⟩
  simp only [vsAll, binA, binLitA, intA, opA, dstOk, nilSliceOp, resA, retA.eq_1, Nat.reduceLT, ↓reduceIte, eq_self, Try.results68]
  rw [dec_zero]
  exact dropR_pure rfl (HSub.refl _)
theorem short1_tri (x : Ir) (i4 set : Nat) (H : Hp) (k : Ok x) (h4 : H i4 = some (.box 1 1 fun _ => [irP x (fullS x) (fullC x) false])) (hs : set < 2 ^ 60) :
    PTri Try.prog (.func (.func 70) [] [.ref i4 0 1 0 0]) [u64 set] H (boo (shP x set)) := by
  refine Tri.drop ?_
  refine tri_v0 (fun _ => false) Try.func70 (by kernel_rfl) rfl (by simp only [List.length_append, List.length_cons, List.length_nil, Try.ntmps70]; decide) ?_
  skip
  simp only [vsAll, loadA, loadRow, partA, partOk, fieldAddrA, nilCheckA, cellA, cellsA, okAll, stAll, opsA, opA, allocA, newCells, okCells, storeObj, dstOk, nilSliceOp, argFr, Nat.reduceAdd, Nat.reduceLT, Nat.reduceLeDiff, Nat.reduceEqDiff, ↓reduceIte, reduceCtorEq, eq_self, wtAll, Try.ntmps70, h4]
  intro ip hh_ip; (try simp only [Hp.set_none, ite_none] at hh_ip)
  have a1 := ne_some hh_ip h4
  skip
  rw [Hp.set_set, Hp.set_set]
  refine callK (tri_freezeB (id := ip) (args' := [irP x set (fullC x) false]) (Hp.set_same _ _ _) rfl (fun q hq => ?_) (ways_tri x set (fullC x) false _ k.gd hs (full_lt k).2)) ?_
  · match q, hq with
    | 0, _ => exact .leaf ⟨0, 0, rfl, rfl⟩
  rw [set_del hh_ip]
  rintro r H' ⟨rfl, rfl⟩
  simp only [vsAll, binA, binLitA, intA, opA, dstOk, nilSliceOp, resA, retA.eq_1, Nat.reduceLT, ↓reduceIte, eq_self, Try.results70]
  rw [dec_zero]
  exact dropR_pure rfl (HSub.refl _)
def setE (e : Int) (r : Option Nat) : Int := if e = 0 then (if r.isSome = true then 0 else 4) else e
def setV (e : Int) (r : Option Nat) : Nat := if setE e r = 0 then r.getD 0 else 0
theorem setV_no {e : Int} {r : Option Nat} (h : e ≠ 0) : setE e r = e ∧ setV e r = 0 := by
  have h1 : setE e r = e := if_neg h
  exact ⟨h1, by rw [setV, h1, if_neg h]⟩
theorem setV_none {r : Option Nat} (h : r.isSome = false) : setE 0 r = 4 ∧ setV 0 r = 0 := by
  have h1 : setE 0 r = 4 := by rw [setE, if_pos rfl, h]; rfl
  exact ⟨h1, by rw [setV, h1, if_neg (by decide)]⟩
theorem setV_some {r : Option Nat} (h : r.isSome = true) : setE 0 r = 0 ∧ setV 0 r = r.getD 0 := by
  have h1 : setE 0 r = 0 := by rw [setE, if_pos rfl, if_pos h]
  exact ⟨h1, by rw [setV, h1, if_pos rfl]⟩
theorem inn_lt (f : Nat → Bool) (z n : Nat) : ∀ j r, inn f z n j = some r → j ≤ r ∧ r < j + n ∧ pop r = z ∧ f r = true := by
  induction n with
  | zero => intro j r h; cases h
  | succ n ih =>
    intro j r h
    simp only [inn] at h
    split at h
    · rename_i hc
      cases h
      simp only [Bool.and_eq_true, decide_eq_true_eq] at hc
      exact ⟨Nat.le_refl _, by omega, hc.1, hc.2⟩
    · obtain ⟨h1, h2, h3⟩ := ih _ _ h
      exact ⟨by omega, by omega, h3⟩
theorem outF_lt (f : Nat → Bool) (m n : Nat) : ∀ z r, outF f m n z = some r → r < 2 ^ m ∧ f r = true := by
  induction n with
  | zero => intro z r h; cases h
  | succ n ih =>
    intro z r h
    simp only [outF] at h
    split at h
    · rename_i j hj
      cases h
      have := inn_lt _ _ _ _ _ hj
      exact ⟨by omega, this.2.2.2⟩
    · exact ih _ _ h
theorem fewV_lt (f : Nat → Bool) (m : Nat) : (fewV f m).getD 0 < 2 ^ m := by
  cases h : fewV f m with
  | none => exact Nat.pow_pos (by decide)
  | some r => exact (outF_lt _ _ _ _ _ h).1
abbrev clashR (x : Ir) : Option Nat := fewV (clP x) x.cl.length
abbrev shortR (x : Ir) : Option Nat := fewV (shP x) x.st.length
theorem wclash_tri (x : Ir) (H : Hp) (kn : Near x) : PTri Try.prog (fnA 27) [x.av] H (.tuple [i64 (setV (errE x true true) (clashR x) : Nat), i64 (setE (errE x true true) (clashR x))]) := by
  refine Tri.drop ?_
  refine tri_a (m := fun _ => false) ans43 Try.func27 (by kernel_rfl) rfl (by simp only [List.length_append, List.length_cons, List.length_nil, Try.ntmps27]; decide) ?_
  simp only [vsAll, loadA, loadRow, partA, partOk, boxA, okAll, stAll, opsA, opA, allocA, dstOk, nilSliceOp, argFr, Nat.reduceAdd, Nat.reduceLT, Nat.reduceEqDiff, ↓reduceIte, eq_self, wtAll, Try.ntmps27]
  intro i3 hh_i3; (try simp only [Hp.set_none, ite_none] at hh_i3)
  refine open_call (open_tri x _ true _ kn trivial rfl (fun hk H' => always_tri _ H')) (fun hno => ?_) (fun hk hv => ?_) (fun hk hv => ?_)
  · have e : errE x true true = 1 := errE_no hno _ _
    obtain ⟨e1, e2⟩ := setV_no (e := 1) (r := clashR x) (by decide)
    rw [e, e1, e2]
    simp only [vsAll]
    refine ⟨1, i3, _, rfl, rfl, by simp only [vsAll, ↓reduceIte, eq_self]; try rfl, ?_⟩
    simp only [vsAll, loadA, loadRow, partA, partOk, resA, retA.eq_2, Nat.reduceLT, Nat.reduceEqDiff, ↓reduceIte, eq_self, wtAll, Try.results27]
    refine dropR_pure ?_ (by (repeat (first | exact HSub_rfl | refine HSub_put_eq (by simp only [vsAll, binA, binLitA, intA, aggA, boolA, nilA2, isConst, unA, loadA, loadRow, partA, partOk, fieldAddrA, indexAddrA, indexA, fieldA, extractA, lenA, nilCheckA, boxA, cellA, cellsA, fillA, okParts, buildSliceA, buildMutA, makeSliceA, partIdx, elemsA, lensA, ifaceA, convA, mmA, pickA, okAll, stAll, opsA, partsA, partsOk, opA, allocA, boxMutA, newCells, okCells, storeObj, appendA, guardV, taA, nM, mapUpA, lookA, sliceA, boundsA, opO, okO, copyA, dstOk, nilA, quietOk, nilSliceOp, panA, resA, argFr, retA.eq_1, retA.eq_2, Nat.reduceAdd, Nat.reduceSub, Nat.reduceMul, Nat.reduceLT, Nat.reduceLeDiff, Nat.reduceEqDiff, Nat.reduceBEq, Int.reduceAdd, Int.reduceSub, Int.reduceMul, Int.reduceNeg, Int.reduceLE, Int.reduceLT, Int.reduceEq, Int.reduceNe, Int.reduceToNat, ↓reduceIte, reduceCtorEq, implies_true, forall_const, eq_self, ne_eq, wtAll, Try.ntmps27, Try.results27, hh_i3]) ?_ | refine HSub_drop2 (by simp only [eq_self, hh_i3]) ?_ | refine HSub_keep_eq (by simp only [vsAll, binA, binLitA, intA, aggA, boolA, nilA2, isConst, unA, loadA, loadRow, partA, partOk, fieldAddrA, indexAddrA, indexA, fieldA, extractA, lenA, nilCheckA, boxA, cellA, cellsA, fillA, okParts, buildSliceA, buildMutA, makeSliceA, partIdx, elemsA, lensA, ifaceA, convA, mmA, pickA, okAll, stAll, opsA, partsA, partsOk, opA, allocA, boxMutA, newCells, okCells, storeObj, appendA, guardV, taA, nM, mapUpA, lookA, sliceA, boundsA, opO, okO, copyA, dstOk, nilA, quietOk, nilSliceOp, panA, resA, argFr, retA.eq_1, retA.eq_2, Nat.reduceAdd, Nat.reduceSub, Nat.reduceMul, Nat.reduceLT, Nat.reduceLeDiff, Nat.reduceEqDiff, Nat.reduceBEq, Int.reduceAdd, Int.reduceSub, Int.reduceMul, Int.reduceNeg, Int.reduceLE, Int.reduceLT, Int.reduceEq, Int.reduceNe, Int.reduceToNat, ↓reduceIte, reduceCtorEq, implies_true, forall_const, eq_self, ne_eq, wtAll, Try.ntmps27, Try.results27, hh_i3]) ?_)))
    simp only [eq_self, Int.natCast_zero]
  · cases hv
  · simp only [vsAll, okAll, stAll, opsA, opA, dstOk, Nat.reduceLT, ↓reduceIte, eq_self]
    refine told_call hk (full_lt hk).2 (fun hl => ?_) (fun hl => ?_)
    · have e : errE x true true = 0 := errE_told hk hl
      rw [e]
      have nC := hk.nC
      simp only [vsAll, loadA, loadRow, partA, partOk, fieldAddrA, lenA, cellA, cellsA, okAll, stAll, opsA, opA, allocA, newCells, okCells, storeObj, dstOk, Nat.reduceLT, Nat.reduceEqDiff, ↓reduceIte, eq_self, wtAll]
      intro i4 hh_i4; (try simp only [ite_none] at hh_i4)
      refine callK_pure (fewest_tri (clP x) x.cl.length _ _ nC trivial rfl (fun j hj => clash1_tri x i4 j _ hk (by simp only [vsAll, ↓reduceIte, eq_self]) (Nat.lt_of_lt_of_le hj (Nat.pow_le_pow_right (by decide) (by ((try clear hh_i3); (try clear hh_i4); omega)))))) ?_
      have hlt := fewV_lt (clP x) x.cl.length
      have hp : 2 ^ x.cl.length ≤ 2 ^ 8 := Nat.pow_le_pow_right (by decide) nC
      have h1 := setV_some (r := clashR x)
      have h2 := setV_none (r := clashR x)
      simp only [clashR] at h1 h2 ⊢
      generalize fewV (clP x) x.cl.length = cr at hlt h1 h2 ⊢
      simp only [vsAll, extractA, okAll, stAll, opsA, opA, dstOk, nilSliceOp, Nat.reduceAdd, Nat.reduceLT, Nat.reduceEqDiff, ↓reduceIte, eq_self]
      refine ask_call (fun h => ?_) (fun h => ?_)
      · obtain ⟨e1, e2⟩ := h1 h
        rw [e1, e2]
        simp only [vsAll, cellA, cellsA, convA, opA, newCells, okCells, storeObj, dstOk, nilSliceOp, Nat.reduceLT, Nat.reduceEqDiff, ↓reduceIte, eq_self, wtAll, hh_i4]
        refine ⟨by simp only [InR_i64]; ((try clear hh_i3); (try clear hh_i4); omega), ?_⟩
        refine Ent.ret ⟨i3, _, rfl, by simp only [vsAll, ↓reduceIte, eq_self]; try rfl, ?_⟩
        simp only [vsAll, loadA, loadRow, partA, partOk, resA, retA.eq_2, Nat.reduceLT, Nat.reduceEqDiff, ↓reduceIte, eq_self, wtAll, Try.results27]
        refine dropR_pure ?_ (by (repeat (first | exact HSub_rfl | refine HSub_put_eq (by simp only [vsAll, binA, binLitA, intA, aggA, boolA, nilA2, isConst, unA, loadA, loadRow, partA, partOk, fieldAddrA, indexAddrA, indexA, fieldA, extractA, lenA, nilCheckA, boxA, cellA, cellsA, fillA, okParts, buildSliceA, buildMutA, makeSliceA, partIdx, elemsA, lensA, ifaceA, convA, mmA, pickA, okAll, stAll, opsA, partsA, partsOk, opA, allocA, boxMutA, newCells, okCells, storeObj, appendA, guardV, taA, nM, mapUpA, lookA, sliceA, boundsA, opO, okO, copyA, dstOk, nilA, quietOk, nilSliceOp, panA, resA, argFr, retA.eq_1, retA.eq_2, Nat.reduceAdd, Nat.reduceSub, Nat.reduceMul, Nat.reduceLT, Nat.reduceLeDiff, Nat.reduceEqDiff, Nat.reduceBEq, Int.reduceAdd, Int.reduceSub, Int.reduceMul, Int.reduceNeg, Int.reduceLE, Int.reduceLT, Int.reduceEq, Int.reduceNe, Int.reduceToNat, ↓reduceIte, reduceCtorEq, implies_true, forall_const, eq_self, ne_eq, wtAll, Try.ntmps27, Try.results27, hh_i3, hh_i4]) ?_ | refine HSub_drop2 (by simp only [eq_self, hh_i3, hh_i4]) ?_ | refine HSub_keep_eq (by simp only [vsAll, binA, binLitA, intA, aggA, boolA, nilA2, isConst, unA, loadA, loadRow, partA, partOk, fieldAddrA, indexAddrA, indexA, fieldA, extractA, lenA, nilCheckA, boxA, cellA, cellsA, fillA, okParts, buildSliceA, buildMutA, makeSliceA, partIdx, elemsA, lensA, ifaceA, convA, mmA, pickA, okAll, stAll, opsA, partsA, partsOk, opA, allocA, boxMutA, newCells, okCells, storeObj, appendA, guardV, taA, nM, mapUpA, lookA, sliceA, boundsA, opO, okO, copyA, dstOk, nilA, quietOk, nilSliceOp, panA, resA, argFr, retA.eq_1, retA.eq_2, Nat.reduceAdd, Nat.reduceSub, Nat.reduceMul, Nat.reduceLT, Nat.reduceLeDiff, Nat.reduceEqDiff, Nat.reduceBEq, Int.reduceAdd, Int.reduceSub, Int.reduceMul, Int.reduceNeg, Int.reduceLE, Int.reduceLT, Int.reduceEq, Int.reduceNe, Int.reduceToNat, ↓reduceIte, reduceCtorEq, implies_true, forall_const, eq_self, ne_eq, wtAll, Try.ntmps27, Try.results27, hh_i3, hh_i4]) ?_)))
        rfl
      · obtain ⟨e1, e2⟩ := h2 h
        rw [e1, e2]
        simp only [vsAll]
        refine ⟨4, i3, _, rfl, rfl, by simp only [vsAll, ↓reduceIte, eq_self, hh_i4]; try rfl, ?_⟩
        simp only [vsAll, loadA, loadRow, partA, partOk, resA, retA.eq_2, Nat.reduceLT, Nat.reduceEqDiff, ↓reduceIte, eq_self, wtAll, Try.results27]
        refine dropR_pure ?_ (by (repeat (first | exact HSub_rfl | refine HSub_put_eq (by simp only [vsAll, binA, binLitA, intA, aggA, boolA, nilA2, isConst, unA, loadA, loadRow, partA, partOk, fieldAddrA, indexAddrA, indexA, fieldA, extractA, lenA, nilCheckA, boxA, cellA, cellsA, fillA, okParts, buildSliceA, buildMutA, makeSliceA, partIdx, elemsA, lensA, ifaceA, convA, mmA, pickA, okAll, stAll, opsA, partsA, partsOk, opA, allocA, boxMutA, newCells, okCells, storeObj, appendA, guardV, taA, nM, mapUpA, lookA, sliceA, boundsA, opO, okO, copyA, dstOk, nilA, quietOk, nilSliceOp, panA, resA, argFr, retA.eq_1, retA.eq_2, Nat.reduceAdd, Nat.reduceSub, Nat.reduceMul, Nat.reduceLT, Nat.reduceLeDiff, Nat.reduceEqDiff, Nat.reduceBEq, Int.reduceAdd, Int.reduceSub, Int.reduceMul, Int.reduceNeg, Int.reduceLE, Int.reduceLT, Int.reduceEq, Int.reduceNe, Int.reduceToNat, ↓reduceIte, reduceCtorEq, implies_true, forall_const, eq_self, ne_eq, wtAll, Try.ntmps27, Try.results27, hh_i3, hh_i4]) ?_ | refine HSub_drop2 (by simp only [eq_self, hh_i3, hh_i4]) ?_ | refine HSub_keep_eq (by simp only [vsAll, binA, binLitA, intA, aggA, boolA, nilA2, isConst, unA, loadA, loadRow, partA, partOk, fieldAddrA, indexAddrA, indexA, fieldA, extractA, lenA, nilCheckA, boxA, cellA, cellsA, fillA, okParts, buildSliceA, buildMutA, makeSliceA, partIdx, elemsA, lensA, ifaceA, convA, mmA, pickA, okAll, stAll, opsA, partsA, partsOk, opA, allocA, boxMutA, newCells, okCells, storeObj, appendA, guardV, taA, nM, mapUpA, lookA, sliceA, boundsA, opO, okO, copyA, dstOk, nilA, quietOk, nilSliceOp, panA, resA, argFr, retA.eq_1, retA.eq_2, Nat.reduceAdd, Nat.reduceSub, Nat.reduceMul, Nat.reduceLT, Nat.reduceLeDiff, Nat.reduceEqDiff, Nat.reduceBEq, Int.reduceAdd, Int.reduceSub, Int.reduceMul, Int.reduceNeg, Int.reduceLE, Int.reduceLT, Int.reduceEq, Int.reduceNe, Int.reduceToNat, ↓reduceIte, reduceCtorEq, implies_true, forall_const, eq_self, ne_eq, wtAll, Try.ntmps27, Try.results27, hh_i3, hh_i4]) ?_)))
        simp only [eq_self, Int.natCast_zero]
    · have e : errE x true true = 10 := errE_clash hk hl
      obtain ⟨e1, e2⟩ := setV_no (e := 10) (r := clashR x) (by decide)
      rw [e, e1, e2]
      simp only [vsAll]
      refine ⟨10, i3, _, rfl, rfl, by simp only [vsAll, ↓reduceIte, eq_self]; try rfl, ?_⟩
      simp only [vsAll, loadA, loadRow, partA, partOk, resA, retA.eq_2, Nat.reduceLT, Nat.reduceEqDiff, ↓reduceIte, eq_self, wtAll, Try.results27]
      refine dropR_pure ?_ (by (repeat (first | exact HSub_rfl | refine HSub_put_eq (by simp only [vsAll, binA, binLitA, intA, aggA, boolA, nilA2, isConst, unA, loadA, loadRow, partA, partOk, fieldAddrA, indexAddrA, indexA, fieldA, extractA, lenA, nilCheckA, boxA, cellA, cellsA, fillA, okParts, buildSliceA, buildMutA, makeSliceA, partIdx, elemsA, lensA, ifaceA, convA, mmA, pickA, okAll, stAll, opsA, partsA, partsOk, opA, allocA, boxMutA, newCells, okCells, storeObj, appendA, guardV, taA, nM, mapUpA, lookA, sliceA, boundsA, opO, okO, copyA, dstOk, nilA, quietOk, nilSliceOp, panA, resA, argFr, retA.eq_1, retA.eq_2, Nat.reduceAdd, Nat.reduceSub, Nat.reduceMul, Nat.reduceLT, Nat.reduceLeDiff, Nat.reduceEqDiff, Nat.reduceBEq, Int.reduceAdd, Int.reduceSub, Int.reduceMul, Int.reduceNeg, Int.reduceLE, Int.reduceLT, Int.reduceEq, Int.reduceNe, Int.reduceToNat, ↓reduceIte, reduceCtorEq, implies_true, forall_const, eq_self, ne_eq, wtAll, Try.ntmps27, Try.results27, hh_i3]) ?_ | refine HSub_drop2 (by simp only [eq_self, hh_i3]) ?_ | refine HSub_keep_eq (by simp only [vsAll, binA, binLitA, intA, aggA, boolA, nilA2, isConst, unA, loadA, loadRow, partA, partOk, fieldAddrA, indexAddrA, indexA, fieldA, extractA, lenA, nilCheckA, boxA, cellA, cellsA, fillA, okParts, buildSliceA, buildMutA, makeSliceA, partIdx, elemsA, lensA, ifaceA, convA, mmA, pickA, okAll, stAll, opsA, partsA, partsOk, opA, allocA, boxMutA, newCells, okCells, storeObj, appendA, guardV, taA, nM, mapUpA, lookA, sliceA, boundsA, opO, okO, copyA, dstOk, nilA, quietOk, nilSliceOp, panA, resA, argFr, retA.eq_1, retA.eq_2, Nat.reduceAdd, Nat.reduceSub, Nat.reduceMul, Nat.reduceLT, Nat.reduceLeDiff, Nat.reduceEqDiff, Nat.reduceBEq, Int.reduceAdd, Int.reduceSub, Int.reduceMul, Int.reduceNeg, Int.reduceLE, Int.reduceLT, Int.reduceEq, Int.reduceNe, Int.reduceToNat, ↓reduceIte, reduceCtorEq, implies_true, forall_const, eq_self, ne_eq, wtAll, Try.ntmps27, Try.results27, hh_i3]) ?_)))
      simp only [eq_self, Int.natCast_zero]
theorem wshort_tri (x : Ir) (H : Hp) (kn : Near x) : PTri Try.prog (fnA 29) [x.av] H (.tuple [i64 (setV (errE x true false) (shortR x) : Nat), i64 (setE (errE x true false) (shortR x))]) := by
  refine Tri.drop ?_
  refine tri_a (m := fun _ => false) ans43 Try.func29 (by kernel_rfl) rfl (by simp only [List.length_append, List.length_cons, List.length_nil, Try.ntmps29]; decide) ?_
  simp only [vsAll, loadA, loadRow, partA, partOk, boxA, okAll, stAll, opsA, opA, allocA, dstOk, nilSliceOp, argFr, Nat.reduceAdd, Nat.reduceLT, Nat.reduceEqDiff, ↓reduceIte, eq_self, wtAll, Try.ntmps29]
  intro i3 hh_i3; (try simp only [Hp.set_none, ite_none] at hh_i3)
  refine open_call (open_tri x _ true _ kn trivial rfl (fun hk H' => always_tri _ H')) (fun hno => ?_) (fun hk hv => ?_) (fun hk hv => ?_)
  · have e : errE x true false = 1 := errE_no hno _ _
    obtain ⟨e1, e2⟩ := setV_no (e := 1) (r := shortR x) (by decide)
    rw [e, e1, e2]
    simp only [vsAll]
    refine ⟨1, i3, _, rfl, rfl, by simp only [vsAll, ↓reduceIte, eq_self]; try rfl, ?_⟩
    simp only [vsAll, loadA, loadRow, partA, partOk, resA, retA.eq_2, Nat.reduceLT, Nat.reduceEqDiff, ↓reduceIte, eq_self, wtAll, Try.results29]
    refine dropR_pure ?_ (by (repeat (first | exact HSub_rfl | refine HSub_put_eq (by simp only [vsAll, binA, binLitA, intA, aggA, boolA, nilA2, isConst, unA, loadA, loadRow, partA, partOk, fieldAddrA, indexAddrA, indexA, fieldA, extractA, lenA, nilCheckA, boxA, cellA, cellsA, fillA, okParts, buildSliceA, buildMutA, makeSliceA, partIdx, elemsA, lensA, ifaceA, convA, mmA, pickA, okAll, stAll, opsA, partsA, partsOk, opA, allocA, boxMutA, newCells, okCells, storeObj, appendA, guardV, taA, nM, mapUpA, lookA, sliceA, boundsA, opO, okO, copyA, dstOk, nilA, quietOk, nilSliceOp, panA, resA, argFr, retA.eq_1, retA.eq_2, Nat.reduceAdd, Nat.reduceSub, Nat.reduceMul, Nat.reduceLT, Nat.reduceLeDiff, Nat.reduceEqDiff, Nat.reduceBEq, Int.reduceAdd, Int.reduceSub, Int.reduceMul, Int.reduceNeg, Int.reduceLE, Int.reduceLT, Int.reduceEq, Int.reduceNe, Int.reduceToNat, ↓reduceIte, reduceCtorEq, implies_true, forall_const, eq_self, ne_eq, wtAll, Try.ntmps29, Try.results29, hh_i3]) ?_ | refine HSub_drop2 (by simp only [eq_self, hh_i3]) ?_ | refine HSub_keep_eq (by simp only [vsAll, binA, binLitA, intA, aggA, boolA, nilA2, isConst, unA, loadA, loadRow, partA, partOk, fieldAddrA, indexAddrA, indexA, fieldA, extractA, lenA, nilCheckA, boxA, cellA, cellsA, fillA, okParts, buildSliceA, buildMutA, makeSliceA, partIdx, elemsA, lensA, ifaceA, convA, mmA, pickA, okAll, stAll, opsA, partsA, partsOk, opA, allocA, boxMutA, newCells, okCells, storeObj, appendA, guardV, taA, nM, mapUpA, lookA, sliceA, boundsA, opO, okO, copyA, dstOk, nilA, quietOk, nilSliceOp, panA, resA, argFr, retA.eq_1, retA.eq_2, Nat.reduceAdd, Nat.reduceSub, Nat.reduceMul, Nat.reduceLT, Nat.reduceLeDiff, Nat.reduceEqDiff, Nat.reduceBEq, Int.reduceAdd, Int.reduceSub, Int.reduceMul, Int.reduceNeg, Int.reduceLE, Int.reduceLT, Int.reduceEq, Int.reduceNe, Int.reduceToNat, ↓reduceIte, reduceCtorEq, implies_true, forall_const, eq_self, ne_eq, wtAll, Try.ntmps29, Try.results29, hh_i3]) ?_)))
    simp only [eq_self, Int.natCast_zero]
  · cases hv
  · have e : errE x true false = 0 := errE_ok hk
    rw [e]
    have nS : x.st.length ≤ 8 := Nat.le_trans hk.nS (by decide)
    simp only [vsAll, loadA, loadRow, partA, partOk, fieldAddrA, lenA, cellA, cellsA, okAll, stAll, opsA, opA, allocA, newCells, okCells, storeObj, dstOk, Nat.reduceLT, Nat.reduceEqDiff, ↓reduceIte, eq_self, wtAll]
    intro i4 hh_i4; (try simp only [ite_none] at hh_i4)
    refine callK_pure (fewest_tri (shP x) x.st.length _ _ nS trivial rfl (fun j hj => short1_tri x i4 j _ hk (by simp only [vsAll, ↓reduceIte, eq_self]) (Nat.lt_of_lt_of_le hj (Nat.pow_le_pow_right (by decide) (by ((try clear hh_i3); (try clear hh_i4); omega)))))) ?_
    have hlt := fewV_lt (shP x) x.st.length
    have hp : 2 ^ x.st.length ≤ 2 ^ 8 := Nat.pow_le_pow_right (by decide) nS
    have h1 := setV_some (r := shortR x)
    have h2 := setV_none (r := shortR x)
    simp only [shortR] at h1 h2 ⊢
    generalize fewV (shP x) x.st.length = cr at hlt h1 h2 ⊢
    simp only [vsAll, extractA, okAll, stAll, opsA, opA, dstOk, nilSliceOp, Nat.reduceAdd, Nat.reduceLT, Nat.reduceEqDiff, ↓reduceIte, eq_self]
    refine ask_call (fun h => ?_) (fun h => ?_)
    · obtain ⟨e1, e2⟩ := h1 h
      rw [e1, e2]
      simp only [vsAll, cellA, cellsA, convA, opA, newCells, okCells, storeObj, dstOk, nilSliceOp, Nat.reduceLT, Nat.reduceEqDiff, ↓reduceIte, eq_self, wtAll, hh_i4]
      refine ⟨by simp only [InR_i64]; ((try clear hh_i3); (try clear hh_i4); omega), ?_⟩
      refine Ent.ret ⟨i3, _, rfl, by simp only [vsAll, ↓reduceIte, eq_self]; try rfl, ?_⟩
      simp only [vsAll, loadA, loadRow, partA, partOk, resA, retA.eq_2, Nat.reduceLT, Nat.reduceEqDiff, ↓reduceIte, eq_self, wtAll, Try.results29]
      refine dropR_pure ?_ (by (repeat (first | exact HSub_rfl | refine HSub_put_eq (by simp only [vsAll, binA, binLitA, intA, aggA, boolA, nilA2, isConst, unA, loadA, loadRow, partA, partOk, fieldAddrA, indexAddrA, indexA, fieldA, extractA, lenA, nilCheckA, boxA, cellA, cellsA, fillA, okParts, buildSliceA, buildMutA, makeSliceA, partIdx, elemsA, lensA, ifaceA, convA, mmA, pickA, okAll, stAll, opsA, partsA, partsOk, opA, allocA, boxMutA, newCells, okCells, storeObj, appendA, guardV, taA, nM, mapUpA, lookA, sliceA, boundsA, opO, okO, copyA, dstOk, nilA, quietOk, nilSliceOp, panA, resA, argFr, retA.eq_1, retA.eq_2, Nat.reduceAdd, Nat.reduceSub, Nat.reduceMul, Nat.reduceLT, Nat.reduceLeDiff, Nat.reduceEqDiff, Nat.reduceBEq, Int.reduceAdd, Int.reduceSub, Int.reduceMul, Int.reduceNeg, Int.reduceLE, Int.reduceLT, Int.reduceEq, Int.reduceNe, Int.reduceToNat, ↓reduceIte, reduceCtorEq, implies_true, forall_const, eq_self, ne_eq, wtAll, Try.ntmps29, Try.results29, hh_i3, hh_i4]) ?_ | refine HSub_drop2 (by simp only [eq_self, hh_i3, hh_i4]) ?_ | refine HSub_keep_eq (by simp only [vsAll, binA, binLitA, intA, aggA, boolA, nilA2, isConst, unA, loadA, loadRow, partA, partOk, fieldAddrA, indexAddrA, indexA, fieldA, extractA, lenA, nilCheckA, boxA, cellA, cellsA, fillA, okParts, buildSliceA, buildMutA, makeSliceA, partIdx, elemsA, lensA, ifaceA, convA, mmA, pickA, okAll, stAll, opsA, partsA, partsOk, opA, allocA, boxMutA, newCells, okCells, storeObj, appendA, guardV, taA, nM, mapUpA, lookA, sliceA, boundsA, opO, okO, copyA, dstOk, nilA, quietOk, nilSliceOp, panA, resA, argFr, retA.eq_1, retA.eq_2, Nat.reduceAdd, Nat.reduceSub, Nat.reduceMul, Nat.reduceLT, Nat.reduceLeDiff, Nat.reduceEqDiff, Nat.reduceBEq, Int.reduceAdd, Int.reduceSub, Int.reduceMul, Int.reduceNeg, Int.reduceLE, Int.reduceLT, Int.reduceEq, Int.reduceNe, Int.reduceToNat, ↓reduceIte, reduceCtorEq, implies_true, forall_const, eq_self, ne_eq, wtAll, Try.ntmps29, Try.results29, hh_i3, hh_i4]) ?_)))
      rfl
    · obtain ⟨e1, e2⟩ := h2 h
      rw [e1, e2]
      simp only [vsAll]
      refine ⟨4, i3, _, rfl, rfl, by simp only [vsAll, ↓reduceIte, eq_self, hh_i4]; try rfl, ?_⟩
      simp only [vsAll, loadA, loadRow, partA, partOk, resA, retA.eq_2, Nat.reduceLT, Nat.reduceEqDiff, ↓reduceIte, eq_self, wtAll, Try.results29]
      refine dropR_pure ?_ (by (repeat (first | exact HSub_rfl | refine HSub_put_eq (by simp only [vsAll, binA, binLitA, intA, aggA, boolA, nilA2, isConst, unA, loadA, loadRow, partA, partOk, fieldAddrA, indexAddrA, indexA, fieldA, extractA, lenA, nilCheckA, boxA, cellA, cellsA, fillA, okParts, buildSliceA, buildMutA, makeSliceA, partIdx, elemsA, lensA, ifaceA, convA, mmA, pickA, okAll, stAll, opsA, partsA, partsOk, opA, allocA, boxMutA, newCells, okCells, storeObj, appendA, guardV, taA, nM, mapUpA, lookA, sliceA, boundsA, opO, okO, copyA, dstOk, nilA, quietOk, nilSliceOp, panA, resA, argFr, retA.eq_1, retA.eq_2, Nat.reduceAdd, Nat.reduceSub, Nat.reduceMul, Nat.reduceLT, Nat.reduceLeDiff, Nat.reduceEqDiff, Nat.reduceBEq, Int.reduceAdd, Int.reduceSub, Int.reduceMul, Int.reduceNeg, Int.reduceLE, Int.reduceLT, Int.reduceEq, Int.reduceNe, Int.reduceToNat, ↓reduceIte, reduceCtorEq, implies_true, forall_const, eq_self, ne_eq, wtAll, Try.ntmps29, Try.results29, hh_i3, hh_i4]) ?_ | refine HSub_drop2 (by simp only [eq_self, hh_i3, hh_i4]) ?_ | refine HSub_keep_eq (by simp only [vsAll, binA, binLitA, intA, aggA, boolA, nilA2, isConst, unA, loadA, loadRow, partA, partOk, fieldAddrA, indexAddrA, indexA, fieldA, extractA, lenA, nilCheckA, boxA, cellA, cellsA, fillA, okParts, buildSliceA, buildMutA, makeSliceA, partIdx, elemsA, lensA, ifaceA, convA, mmA, pickA, okAll, stAll, opsA, partsA, partsOk, opA, allocA, boxMutA, newCells, okCells, storeObj, appendA, guardV, taA, nM, mapUpA, lookA, sliceA, boundsA, opO, okO, copyA, dstOk, nilA, quietOk, nilSliceOp, panA, resA, argFr, retA.eq_1, retA.eq_2, Nat.reduceAdd, Nat.reduceSub, Nat.reduceMul, Nat.reduceLT, Nat.reduceLeDiff, Nat.reduceEqDiff, Nat.reduceBEq, Int.reduceAdd, Int.reduceSub, Int.reduceMul, Int.reduceNeg, Int.reduceLE, Int.reduceLT, Int.reduceEq, Int.reduceNe, Int.reduceToNat, ↓reduceIte, reduceCtorEq, implies_true, forall_const, eq_self, ne_eq, wtAll, Try.ntmps29, Try.results29, hh_i3, hh_i4]) ?_)))
      simp only [eq_self, Int.natCast_zero]

end Go.Proofs.Ytkonoggmdcdeeaa
end
section
set_option linter.unusedVariables false
set_option linter.unusedSimpArgs false
namespace Go.V
theorem row_leA {st n : Nat} {f g : Nat → List AV} (hl : ∀ i, i < n → (g i).length = (f i).length) (h : ∀ i, i < n → ∀ j, j < st → AV.Le ((f i).getD j .any) ((g i).getD j .any)) : Obj.Le (.row st n f) (.row st n g) := by
  refine ⟨rfl, fun S i k => ?_⟩
  obtain ⟨hg, hc⟩ := k
  refine ⟨hg, hc.imp (fun x => x) ?_⟩
  rintro ⟨b, c, e, h1, h2, h3, h4⟩
  exact ⟨b, c, e, h1, h2, h3, h4.1, fun i hi => (hl i hi).trans (h4.2.1 i hi), fun i j hi hj => h i hi j hj _ _ (h4.2.2 i j hi hj)⟩
theorem HSub_del {A B : Hp} {i : Nat} (h : B i = none) (k : Go.V.HSub A B) : Go.V.HSub (A.del i) B := by
  intro j o hj
  have e : j ≠ i := fun e => by rw [e, h] at hj; cases hj
  obtain ⟨o', h1, h2⟩ := k j o hj
  exact ⟨o', by rw [Hp.del_ne _ e]; exact h1, h2⟩
end Go.V
end
section
set_option linter.unusedVariables false
set_option linter.unusedSimpArgs false
namespace Go.V
theorem Ent.step {s : Fr} {ds : List AD} {H : Hp} {K : Fr → List AD → Hp → Prop} (h : Ent s ds H fun s ds H => Ent s ds H K) : Ent s ds H K := Ent.bind h fun _ _ _ h => h
/-- A row that is written no more, of which another row tells. -/
theorem Ent.freezeRow {s s' : Fr} {ds : List AD} {H : Hp} {K : Fr → List AD → Hp → Prop} {id st n j st' n' : Nat} {f g g' : Nat → List AV} (ho : H id = some (.row st n f)) (hj : H j = some (.row st' n' g)) (hne : j ≠ id)
    (hs : ∀ t, Frz id st n f (s t) (s' t)) (hl : ∀ k, k < n' → (g' k).length = st') (hg : ∀ k c, k < n' → c < st' → Frz id st n f ((g k).getD c .any) ((g' k).getD c .any))
    (h : K s' ds ((H.del id).set j (.row st' n' g'))) : Ent s ds H K := by
  intro S a hH hF hD
  obtain ⟨S2, hw, hle, h2, hc⟩ := frz_step hH ho
  have conv : ∀ x y v, Frz id st n f x y → VRel S x v → VRel S2 y v := fun x y v hxy hv => by
    rcases hxy with rfl | ⟨rfl, rfl⟩
    · exact hv.mono hle
    · exact hc v hv
  have hj2 : (H.del id) j = some (.row st' n' g) := by rw [Hp.del_ne _ hne]; exact hj
  refine ⟨S2, s', ds, _, hw, hle, ?_, fun t => conv _ _ _ (hs t) (hF t), hD.mono hle, h⟩
  obtain ⟨g1, acase⟩ := hH.obj j _ hj
  obtain ⟨g2, qcase⟩ := h2.obj j _ hj2
  have hnew : (Obj.row st' n' g').gen = n' := rfl
  refine ⟨fun i hi => ⟨?_, (h2.fresh i hi).2⟩, h2.immlt, ?_, ?_⟩
  · have hi' := (h2.fresh i hi).1
    by_cases ei : i = j
    · subst ei; rw [hj2] at hi'; cases hi'
    · rw [Hp.set_ne _ _ ei]; exact hi'
  · intro i o hi
    by_cases ei : i = j
    · subst ei
      rw [Hp.set_same] at hi
      cases hi
      refine ⟨g2, ?_⟩
      rcases qcase with q | ⟨b2, c2, e2, q1, q2, q3, q4⟩
      · exact .inl q
      · right
        rcases acase with ⟨a0, a1⟩ | ⟨b, c, e, a1, a2, a3, a4⟩
        · have := hle.locNil a1
          rw [a0] at q1
          rw [this] at q1; cases q1
        · have eb : b2 = b := by
            have := hle.locBlk a1
            rw [this] at q1
            cases q1; rfl
          subst eb
          exact ⟨b2, c, e, q1, by rw [hw]; exact a2, q3, a4.1, hl, fun k d hk hd => conv _ _ _ (hg k d hk hd) (a4.2.2 k d hk hd)⟩
    · rw [Hp.set_ne _ _ ei] at hi
      exact h2.obj i o hi
  · intro i i' o o' x hi hi' hx hx'
    have back : ∀ k o, ((H.del id).set j (.row st' n' g')) k = some o → ∃ p, (H.del id) k = some p ∧ p.gen = o.gen := fun k o hk => by
      by_cases ek : k = j
      · subst ek
        rw [Hp.set_same] at hk
        cases hk
        exact ⟨_, hj2, Eq.refl _⟩
      · rw [Hp.set_ne _ _ ek] at hk
        exact ⟨o, hk, Eq.refl _⟩
    obtain ⟨p, p1, p2⟩ := back i o hi
    obtain ⟨p', p1', p2'⟩ := back i' o' hi'
    exact h2.inj i i' p p' x p1 p1' (by rw [p2]; exact hx) (by rw [p2']; exact hx')
theorem box_leA {st n : Nat} {f g : Nat → List AV} (hl : ∀ i, i < n → (g i).length = (f i).length) (h : ∀ i, i < n → ∀ j, j < st → AV.Le ((f i).getD j .any) ((g i).getD j .any)) : Obj.Le (.box st n f) (.box st n g) := by
  refine ⟨rfl, fun S i k => ?_⟩
  obtain ⟨b, c, e, h1, h2, h3, h4⟩ := k
  exact ⟨b, c, e, h1, h2, h3, h4.1, fun i hi => (hl i hi).trans (h4.2.1 i hi), fun i j hi hj => h i hi j hj _ _ (h4.2.2 i j hi hj)⟩
theorem AV.Le.rslA {n st : Nat} {f g : Nat → List AV} (hl : ∀ i, i < n → (g i).length = (f i).length) (h : ∀ i, i < n → ∀ j, j < st → AV.Le ((f i).getD j .any) ((g i).getD j .any)) : AV.Le (.rsl n st f) (.rsl n st g) := by
  intro S v hv
  cases hv with
  | rsl0 => exact .rsl0
  | rsl hi hb hsz hf hh => exact .rsl hi hb hsz (fun i hi => (hl i hi).trans (hf i hi)) (fun i j hi hj => h i hi j hj _ _ (hh i j hi hj))
theorem loop_ent {r : Option Nat} {P : Program} {m : Option Tmp → Bool} {n : Nat} {k : List It} {Q : Post} {s : Fr} {ds0 ds : List AD} {H : Hp} {σ : Type} {inv : σ → Prop} {fr : σ → List (Nat × AV)} {hp : σ → Hp} {μ : σ → Nat} {x : σ}
    (h : Ent s ds H fun s ds H => LoopQ r P m n inv fr hp μ ds0 k Q x .normal s ds H) : LoopQ r P m n inv fr hp μ ds0 k Q x .normal s ds H := Ent.step h
theorem fn_ent {P : Program} {fn : Func} {R : Res → Hp → Prop} {s : Fr} {ds : List AD} {H : Hp} (h : Ent s ds H fun s ds H => FnPost P fn R .ret s ds H) : FnPost P fn R .ret s ds H := Ent.step h
end Go.V
end
