/- WHAT IS PROVED: the given statement of this claim. Conditions: none beyond the given row. -/
import Derived.Test.YtkonoggmdcdeeaaRows
import Derived.Test.YtkonoggmdcdeeaaCn4
section
set_option linter.unusedVariables false
set_option linter.unusedSimpArgs false
set_option maxHeartbeats 4000000
set_option maxRecDepth 100000
namespace Go.Proofs.Ytkonoggmdcdeeaa
open Go.V
theorem withI_ow {x : Ir} {s o i : Nat} (hi : i < x.ow.length) : (withI x s o).ow.getD i [] = owW x o i := getD_mapR _ _ _ _ hi
theorem withI_st {x : Ir} {s o i : Nat} (hi : i < x.st.length) : (withI x s o).st.getD i [] = stW x s i := getD_mapR _ _ _ _ hi
theorem withI_gd {x : Ir} (k : Ok x) (s o : Nat) : Gd (withI x s o) := by
  have lo : (withI x s o).ow.length = x.ow.length := by simp [withI]
  have ls : (withI x s o).st.length = x.st.length := by simp [withI]
  have hF := k.F
  refine ⟨by show 0 ≤ x.F + 1 ∧ x.F + 1 ≤ 5; omega, by rw [lo]; exact k.nO, by rw [lo]; exact k.nM, by rw [ls]; exact k.nS, k.nC, fun i hi => ?_, fun i hi => k.mo i (by omega), fun i hi q hq => ?_, fun i hi => ?_, fun i hi q hq => ?_, fun i hi q hq => ?_, fun i hi => by rw [ls]; exact k.cs i hi, fun i hi => by rw [lo]; exact k.co i hi⟩
  · rw [lo] at hi
    rw [withI_ow hi, owW, List.length_append]
    have := k.ow i hi
    show ((_ + 1 : Nat) : Int) = x.F + 1
    omega
  · rw [lo] at hi
    rw [withI_ow hi, owW, getD_snoc]
    have h1 := k.ow i hi
    have h2 : (q : Int) < x.F + 1 := hq
    split
    · split <;> omega
    · exact k.ov i hi q (by omega)
  · rw [ls] at hi
    rw [withI_st hi, stW]
    have := k.st i hi
    split
    · rw [List.length_append]; show _ + 1 ≤ 7; omega
    · omega
  · rw [ls] at hi
    rw [withI_st hi] at hq ⊢
    show 0 ≤ _ ∧ _ < x.F + 1
    unfold stW at hq ⊢
    split at hq <;> rename_i e
    · rw [if_pos e, getD_snoc]
      split
      · show 0 ≤ x.F ∧ x.F < x.F + 1; omega
      · rename_i hne
        rw [List.length_append] at hq
        have := k.sf i hi q (by simp only [List.length_cons, List.length_nil] at hq; omega)
        omega
    · rw [if_neg e]
      have := k.sf i hi q hq
      omega
  · rw [ls] at hi
    rw [withI_st hi] at hq ⊢
    unfold stW at hq ⊢
    split at hq <;> rename_i e
    · rw [if_pos e, getD_snoc]
      split
      · exact ⟨(by decide : (0 : Int) ≤ 1), (by decide : (1 : Int) ≤ 1), (by decide : (1 : Int) ≤ 9)⟩
      · rename_i hne
        rw [List.length_append] at hq
        exact k.sl i hi q (by simp only [List.length_cons, List.length_nil] at hq; omega)
    · rw [if_neg e]
      exact k.sl i hi q hq

def likB (x : Ir) (s o : Nat) : Bool := fitB x o s && ((tlW (withI x s o) (fullS x) (fullC x) false).isSome && decide (((tlW (withI x s o) (fullS x) (fullC x) false).getD (0, 0)).1 = ((tlW x (fullS x) (fullC x) false).getD (0, 0)).1))
def likN (x : Ir) (s : Nat) : Nat → Nat
  | 0 => 0
  | o + 1 => likN x s o + if likB x s o = true then 2 ^ o else 0
theorem likN_lt (x : Ir) (s o : Nat) : likN x s o < 2 ^ o := by
  induction o with
  | zero => simp [likN]
  | succ o ih => simp only [likN, Nat.pow_succ]; split <;> omega
def likE (x : Ir) (s : Int) : Int := errE x (strB x s) true
def likV (x : Ir) (s : Int) : Nat := if likE x s = 0 then likN x s.toNat x.ow.length else 0
theorem dec_cast2 (a b : Nat) (x : Bool) : (x && decide ((a : Int) = (b : Int))) = (x && decide (a = b)) := by
  rw [show decide ((a : Int) = (b : Int)) = decide (a = b) from decide_eq_decide.2 (by omega)]
theorem wlikely_tri (x : Ir) (s : Int) (H : Hp) (kn : Near x) : PTri Try.prog (fnA 25) [x.av, i64 s] H (.tuple [i64 (likV x s : Nat), i64 (likE x s)]) := by
  refine Tri.drop ?_
  refine tri_a (m := fun _ => false) ans43 Try.func25 (by kernel_rfl) rfl (by simp only [List.length_append, List.length_cons, List.length_nil, Try.ntmps25]; decide) ?_
  simp only [vsAll, boxA, okAll, stAll, opsA, opA, allocA, dstOk, nilSliceOp, argFr, Nat.reduceAdd, Nat.reduceLT, ↓reduceIte, eq_self, wtAll, Try.ntmps25]
  intro i5 hh_i5; (try simp only [Hp.set_none, ite_none] at hh_i5)
  refine vs_draw2 [0, 0, 0, 1, 3, 4] [([0, 1, 2], [], 3), ([], [], 4)] [5] (by decide +kernel) ?_
  simp only [vsAll, loadA, loadRow, partA, partOk, opA, dstOk, argFr, Nat.reduceLT, Nat.reduceEqDiff, ↓reduceIte, eq_self, wtAll]
  refine qcall _ ⟨trivial, by simp only [vsAll, okAll, opsA, opA, ↓reduceIte, eq_self], isStrakeF_tri s _⟩ ?_
  simp only [vsAll, okAll, stAll, opsA, opA, dstOk, Nat.reduceLT, Nat.reduceEqDiff, ↓reduceIte, eq_self]
  refine open_call (open_tri x _ (strB x s) _ kn trivial rfl (fun hk H' => isStrake1_tri x _ _ _ s H' kn)) (fun hno => ?_) (fun hk hv => ?_) (fun hk hv => ?_)
  · have e : likE x s = 1 := errE_no hno _ _
    have ev : likV x s = 0 := by simp only [likV, e]; rfl
    simp only [vsAll]
    refine ⟨1, i5, _, rfl, rfl, by simp only [vsAll, ↓reduceIte, eq_self]; try rfl, ?_⟩
    simp only [vsAll, loadA, loadRow, partA, partOk, resA, retA.eq_2, Nat.reduceLT, Nat.reduceEqDiff, ↓reduceIte, eq_self, wtAll, Try.results25]
    refine dropR_pure ?_ (by (repeat (first | exact HSub_rfl | refine HSub_put_eq (by simp only [vsAll, binA, binLitA, intA, aggA, boolA, nilA2, isConst, unA, loadA, loadRow, partA, partOk, fieldAddrA, indexAddrA, indexA, fieldA, extractA, lenA, nilCheckA, boxA, cellA, cellsA, fillA, okParts, buildSliceA, buildMutA, makeSliceA, partIdx, elemsA, lensA, ifaceA, convA, mmA, pickA, okAll, stAll, opsA, partsA, partsOk, opA, allocA, boxMutA, newCells, okCells, storeObj, appendA, guardV, taA, nM, mapUpA, lookA, sliceA, boundsA, opO, okO, copyA, dstOk, nilA, quietOk, nilSliceOp, panA, resA, argFr, retA.eq_1, retA.eq_2, Nat.reduceAdd, Nat.reduceSub, Nat.reduceMul, Nat.reduceLT, Nat.reduceLeDiff, Nat.reduceEqDiff, Nat.reduceBEq, Int.reduceAdd, Int.reduceSub, Int.reduceMul, Int.reduceNeg, Int.reduceLE, Int.reduceLT, Int.reduceEq, Int.reduceNe, Int.reduceToNat, ↓reduceIte, reduceCtorEq, implies_true, forall_const, eq_self, ne_eq, wtAll, Try.ntmps25, Try.results25, hh_i5]) ?_ | refine HSub_drop2 (by simp only [eq_self, hh_i5]) ?_ | refine HSub_keep_eq (by simp only [vsAll, binA, binLitA, intA, aggA, boolA, nilA2, isConst, unA, loadA, loadRow, partA, partOk, fieldAddrA, indexAddrA, indexA, fieldA, extractA, lenA, nilCheckA, boxA, cellA, cellsA, fillA, okParts, buildSliceA, buildMutA, makeSliceA, partIdx, elemsA, lensA, ifaceA, convA, mmA, pickA, okAll, stAll, opsA, partsA, partsOk, opA, allocA, boxMutA, newCells, okCells, storeObj, appendA, guardV, taA, nM, mapUpA, lookA, sliceA, boundsA, opO, okO, copyA, dstOk, nilA, quietOk, nilSliceOp, panA, resA, argFr, retA.eq_1, retA.eq_2, Nat.reduceAdd, Nat.reduceSub, Nat.reduceMul, Nat.reduceLT, Nat.reduceLeDiff, Nat.reduceEqDiff, Nat.reduceBEq, Int.reduceAdd, Int.reduceSub, Int.reduceMul, Int.reduceNeg, Int.reduceLE, Int.reduceLT, Int.reduceEq, Int.reduceNe, Int.reduceToNat, ↓reduceIte, reduceCtorEq, implies_true, forall_const, eq_self, ne_eq, wtAll, Try.ntmps25, Try.results25, hh_i5]) ?_)))
    simp only [eq_self, ev, e, Int.natCast_zero]
  · have e : likE x s = 2 := by unfold likE; rw [hv]; exact errE_bad hk _
    have ev : likV x s = 0 := by simp only [likV, e]; rfl
    simp only [vsAll]
    refine ⟨2, i5, _, rfl, rfl, by simp only [vsAll, ↓reduceIte, eq_self]; try rfl, ?_⟩
    simp only [vsAll, loadA, loadRow, partA, partOk, resA, retA.eq_2, Nat.reduceLT, Nat.reduceEqDiff, ↓reduceIte, eq_self, wtAll, Try.results25]
    refine dropR_pure ?_ (by (repeat (first | exact HSub_rfl | refine HSub_put_eq (by simp only [vsAll, binA, binLitA, intA, aggA, boolA, nilA2, isConst, unA, loadA, loadRow, partA, partOk, fieldAddrA, indexAddrA, indexA, fieldA, extractA, lenA, nilCheckA, boxA, cellA, cellsA, fillA, okParts, buildSliceA, buildMutA, makeSliceA, partIdx, elemsA, lensA, ifaceA, convA, mmA, pickA, okAll, stAll, opsA, partsA, partsOk, opA, allocA, boxMutA, newCells, okCells, storeObj, appendA, guardV, taA, nM, mapUpA, lookA, sliceA, boundsA, opO, okO, copyA, dstOk, nilA, quietOk, nilSliceOp, panA, resA, argFr, retA.eq_1, retA.eq_2, Nat.reduceAdd, Nat.reduceSub, Nat.reduceMul, Nat.reduceLT, Nat.reduceLeDiff, Nat.reduceEqDiff, Nat.reduceBEq, Int.reduceAdd, Int.reduceSub, Int.reduceMul, Int.reduceNeg, Int.reduceLE, Int.reduceLT, Int.reduceEq, Int.reduceNe, Int.reduceToNat, ↓reduceIte, reduceCtorEq, implies_true, forall_const, eq_self, ne_eq, wtAll, Try.ntmps25, Try.results25, hh_i5]) ?_ | refine HSub_drop2 (by simp only [eq_self, hh_i5]) ?_ | refine HSub_keep_eq (by simp only [vsAll, binA, binLitA, intA, aggA, boolA, nilA2, isConst, unA, loadA, loadRow, partA, partOk, fieldAddrA, indexAddrA, indexA, fieldA, extractA, lenA, nilCheckA, boxA, cellA, cellsA, fillA, okParts, buildSliceA, buildMutA, makeSliceA, partIdx, elemsA, lensA, ifaceA, convA, mmA, pickA, okAll, stAll, opsA, partsA, partsOk, opA, allocA, boxMutA, newCells, okCells, storeObj, appendA, guardV, taA, nM, mapUpA, lookA, sliceA, boundsA, opO, okO, copyA, dstOk, nilA, quietOk, nilSliceOp, panA, resA, argFr, retA.eq_1, retA.eq_2, Nat.reduceAdd, Nat.reduceSub, Nat.reduceMul, Nat.reduceLT, Nat.reduceLeDiff, Nat.reduceEqDiff, Nat.reduceBEq, Int.reduceAdd, Int.reduceSub, Int.reduceMul, Int.reduceNeg, Int.reduceLE, Int.reduceLT, Int.reduceEq, Int.reduceNe, Int.reduceToNat, ↓reduceIte, reduceCtorEq, implies_true, forall_const, eq_self, ne_eq, wtAll, Try.ntmps25, Try.results25, hh_i5]) ?_)))
    simp only [eq_self, ev, e, Int.natCast_zero]
  · simp only [vsAll, okAll, stAll, opsA, opA, dstOk, Nat.reduceLT, ↓reduceIte, eq_self]
    refine told_call hk (full_lt hk).2 (fun hl => ?_) (fun hl => ?_)
    · have e : likE x s = 0 := by unfold likE; rw [hv]; exact errE_told hk hl
      rw [strB_iff] at hv
      obtain ⟨q, rfl⟩ : ∃ q : Nat, s = (q : Int) := ⟨s.toNat, by ((try clear hh_i5); omega)⟩
      have nO := hk.nO
      simp only [vsAll, okAll, stAll, opsA, opA, dstOk, Nat.reduceLT, ↓reduceIte, eq_self]
      refine callK_pure (least_tri x (fullS x) (fullC x) false _ hk.gd (full_lt hk).1 (full_lt hk).2) ?_
      simp only [vsAll, loadA, loadRow, partA, partOk, fieldAddrA, extractA, lenA, cellA, cellsA, opA, allocA, newCells, okCells, storeObj, dstOk, nilSliceOp, Nat.reduceAdd, Nat.reduceLT, Nat.reduceEqDiff, ↓reduceIte, eq_self, wtAll]
      intro i7 hh_i7; (try simp only [ite_none] at hh_i7)
      refine vs_loop (σ := Nat) (fun i => i ≤ x.ow.length) (fun i => [(1, i64 q), (5, .ref i5 0 1 0 0), (6, irP x (fullS x) (fullC x) false), (7, .ref i7 0 2 0 0), (9, i64 (likN x q i : Nat)), (27, i64 x.ow.length), (28, i64 i)])
        (fun _ => (H.set i5 (.box 1 1 fun _ => [i64 0])).set i7 (.box 2 1 fun _ => [i64 (((tlW x (fullS x) (fullC x) false).getD (0, 0)).1 : Nat), i64 (((tlW x (fullS x) (fullC x) false).getD (0, 0)).2 : Nat)])) (fun i => x.ow.length - i) 0 (by ((try clear hh_i5); (try clear hh_i7); omega)) ?_ ?_ fun i hi => ?_
      · simp only [vsAll, argFr, Nat.reduceEqDiff, ↓reduceIte, eq_self, Int.natCast_zero, likN]
      · (repeat (first | exact HSub_rfl | refine HSub_put_eq (by simp only [vsAll, ↓reduceIte, eq_self, hh_i7]) ?_ | refine HSub_drop2 (by simp only [eq_self, hh_i5, hh_i7]) ?_ | refine HSub_keep_eq (by simp only [vsAll, binA, binLitA, intA, aggA, boolA, nilA2, isConst, unA, loadA, loadRow, partA, partOk, fieldAddrA, indexAddrA, indexA, fieldA, extractA, lenA, nilCheckA, boxA, cellA, cellsA, fillA, okParts, buildSliceA, buildMutA, makeSliceA, partIdx, elemsA, lensA, ifaceA, convA, mmA, pickA, okAll, stAll, opsA, partsA, partsOk, opA, allocA, boxMutA, newCells, okCells, storeObj, appendA, guardV, taA, nM, mapUpA, lookA, sliceA, boundsA, opO, okO, copyA, dstOk, nilA, quietOk, nilSliceOp, panA, resA, argFr, retA.eq_1, retA.eq_2, Nat.reduceAdd, Nat.reduceSub, Nat.reduceMul, Nat.reduceLT, Nat.reduceLeDiff, Nat.reduceEqDiff, Nat.reduceBEq, Int.reduceAdd, Int.reduceSub, Int.reduceMul, Int.reduceNeg, Int.reduceLE, Int.reduceLT, Int.reduceEq, Int.reduceNe, Int.reduceToNat, ↓reduceIte, reduceCtorEq, implies_true, forall_const, eq_self, ne_eq, wtAll, Try.ntmps25, Try.results25, hh_i5, hh_i7]) ?_))
      · simp only [vsAll, binA, binLitA, intA, opA, dstOk, Nat.reduceLT, Nat.reduceEqDiff, ↓reduceIte, eq_self]
        refine condD (fun hd => ?_) (fun hd => ?_)
        · have hb := likN_lt x q i
          have hp : 2 ^ i ≤ 2 ^ 5 := Nat.pow_le_pow_right (by decide) (by ((try clear hh_i5); (try clear hh_i7); omega))
          have ep : (1 : Int) * 2 ^ i = ((2 ^ i : Nat) : Int) := by rw [Int.one_mul]; simp
          simp only [vsAll, okAll, stAll, opsA, opA, dstOk, nilSliceOp, Nat.reduceLT, Nat.reduceEqDiff, ↓reduceIte, eq_self]
          refine callK_pure (with1_tri x _ _ _ q i _ hk (by ((try clear hh_i5); (try clear hh_i7); omega)) (by ((try clear hh_i5); (try clear hh_i7); omega))) ?_
          simp only [vsAll, extractA, opA, dstOk, nilSliceOp, Nat.reduceAdd, Nat.reduceLT, Nat.reduceEqDiff, ↓reduceIte, eq_self]
          refine condV (fun hf => ?_) (fun hf => ?_)
          · simp only [vsAll, okAll, stAll, opsA, opA, dstOk, Nat.reduceLT, Nat.reduceEqDiff, ↓reduceIte, eq_self]
            refine callK_pure (least_tri (withI x q i) (fullS x) (fullC x) false _ (withI_gd hk q i) (full_lt hk).1 (full_lt hk).2) ?_
            have hlb : likB x q i = ((tlW (withI x q i) (fullS x) (fullC x) false).isSome && decide (((tlW (withI x q i) (fullS x) (fullC x) false).getD (0, 0)).1 = ((tlW x (fullS x) (fullC x) false).getD (0, 0)).1)) := by simp only [likB, hf, Bool.true_and]
            generalize tlW (withI x q i) (fullS x) (fullC x) false = tv at hlb ⊢
            simp only [vsAll, binA, binLitA, intA, loadA, loadRow, partA, partOk, fieldAddrA, extractA, cellA, cellsA, pickA, opA, allocA, newCells, okCells, storeObj, guardV, dstOk, nilSliceOp, Nat.reduceAdd, Nat.reduceLT, Nat.reduceEqDiff, ↓reduceIte, implies_true, eq_self, wtAll]
            intro i13 hh_i13; (try simp only [ite_none] at hh_i13)
            simp only [vsAll, Nat.reduceLT, ↓reduceIte, eq_self, hh_i13]
            rw [dec_cast2, ← hlb]
            refine condV (fun hc => ?_) (fun hc => ?_)
            · have e2 : likN x q (i + 1) = likN x q i + 2 ^ i := by simp only [likN, hc, if_true]
              simp only [vsAll, binA, binLitA, intA, opA, dstOk, nilSliceOp, Nat.reduceLT, Nat.reduceEqDiff, ↓reduceIte, eq_self, ep]
              have eo : likN x q i ||| 2 ^ i = likN x q (i + 1) := by rw [or_bit _ _ hb, e2]
              refine ⟨⟨by ((try clear hh_i5); (try clear hh_i7); (try clear hh_i13); omega), by ((try clear hh_i5); (try clear hh_i7); (try clear hh_i13); omega), by simp only [InR_i64]; ((try clear hh_i5); (try clear hh_i7); (try clear hh_i13); omega)⟩, ⟨by ((try clear hh_i5); (try clear hh_i7); (try clear hh_i13); omega), by ((try clear hh_i5); (try clear hh_i7); (try clear hh_i13); omega), by simp only [InR_i64]; ((try clear hh_i5); (try clear hh_i7); (try clear hh_i13); omega), by simp only [InR_i64]; ((try clear hh_i5); (try clear hh_i7); (try clear hh_i13); omega)⟩, by simp only [InR_i64]; ((try clear hh_i5); (try clear hh_i7); (try clear hh_i13); omega), loop_next (i + 1) (by ((try clear hh_i5); (try clear hh_i7); (try clear hh_i13); omega)) (by ((try clear hh_i5); (try clear hh_i7); (try clear hh_i13); omega)) ?_ ?_⟩
              · simp only [vsAll, Nat.reduceEqDiff, ↓reduceIte, eq_self, Int.natCast_add, Int.natCast_one, eo]
              · (repeat (first | exact HSub_rfl | refine HSub_put_eq (by simp only [vsAll, ↓reduceIte, eq_self, hh_i7, hh_i13]) ?_ | refine HSub_drop2 (by simp only [eq_self, hh_i5, hh_i7, hh_i13]) ?_ | refine HSub_keep_eq (by simp only [vsAll, binA, binLitA, intA, aggA, boolA, nilA2, isConst, unA, loadA, loadRow, partA, partOk, fieldAddrA, indexAddrA, indexA, fieldA, extractA, lenA, nilCheckA, boxA, cellA, cellsA, fillA, okParts, buildSliceA, buildMutA, makeSliceA, partIdx, elemsA, lensA, ifaceA, convA, mmA, pickA, okAll, stAll, opsA, partsA, partsOk, opA, allocA, boxMutA, newCells, okCells, storeObj, appendA, guardV, taA, nM, mapUpA, lookA, sliceA, boundsA, opO, okO, copyA, dstOk, nilA, quietOk, nilSliceOp, panA, resA, argFr, retA.eq_1, retA.eq_2, Nat.reduceAdd, Nat.reduceSub, Nat.reduceMul, Nat.reduceLT, Nat.reduceLeDiff, Nat.reduceEqDiff, Nat.reduceBEq, Int.reduceAdd, Int.reduceSub, Int.reduceMul, Int.reduceNeg, Int.reduceLE, Int.reduceLT, Int.reduceEq, Int.reduceNe, Int.reduceToNat, ↓reduceIte, reduceCtorEq, implies_true, forall_const, eq_self, ne_eq, wtAll, Try.ntmps25, Try.results25, hh_i5, hh_i7, hh_i13]) ?_))
            · have e2 : likN x q (i + 1) = likN x q i := by simp only [likN, hc, Bool.false_eq_true, if_false, Nat.add_zero]
              simp only [vsAll, binA, binLitA, intA, opA, dstOk, Nat.reduceLT, Nat.reduceEqDiff, ↓reduceIte, eq_self]
              refine ⟨by simp only [InR_i64]; ((try clear hh_i5); (try clear hh_i7); (try clear hh_i13); omega), loop_next (i + 1) (by ((try clear hh_i5); (try clear hh_i7); (try clear hh_i13); omega)) (by ((try clear hh_i5); (try clear hh_i7); (try clear hh_i13); omega)) ?_ ?_⟩
              · simp only [vsAll, Nat.reduceEqDiff, ↓reduceIte, eq_self, Int.natCast_add, Int.natCast_one, e2]
              · (repeat (first | exact HSub_rfl | refine HSub_put_eq (by simp only [vsAll, ↓reduceIte, eq_self, hh_i7, hh_i13]) ?_ | refine HSub_drop2 (by simp only [eq_self, hh_i5, hh_i7, hh_i13]) ?_ | refine HSub_keep_eq (by simp only [vsAll, binA, binLitA, intA, aggA, boolA, nilA2, isConst, unA, loadA, loadRow, partA, partOk, fieldAddrA, indexAddrA, indexA, fieldA, extractA, lenA, nilCheckA, boxA, cellA, cellsA, fillA, okParts, buildSliceA, buildMutA, makeSliceA, partIdx, elemsA, lensA, ifaceA, convA, mmA, pickA, okAll, stAll, opsA, partsA, partsOk, opA, allocA, boxMutA, newCells, okCells, storeObj, appendA, guardV, taA, nM, mapUpA, lookA, sliceA, boundsA, opO, okO, copyA, dstOk, nilA, quietOk, nilSliceOp, panA, resA, argFr, retA.eq_1, retA.eq_2, Nat.reduceAdd, Nat.reduceSub, Nat.reduceMul, Nat.reduceLT, Nat.reduceLeDiff, Nat.reduceEqDiff, Nat.reduceBEq, Int.reduceAdd, Int.reduceSub, Int.reduceMul, Int.reduceNeg, Int.reduceLE, Int.reduceLT, Int.reduceEq, Int.reduceNe, Int.reduceToNat, ↓reduceIte, reduceCtorEq, implies_true, forall_const, eq_self, ne_eq, wtAll, Try.ntmps25, Try.results25, hh_i5, hh_i7, hh_i13]) ?_))
          · have e2 : likN x q (i + 1) = likN x q i := by simp only [likN, likB, hf, Bool.false_and, Bool.false_eq_true, if_false, Nat.add_zero]
            simp only [vsAll, binA, binLitA, intA, opA, dstOk, Nat.reduceLT, Nat.reduceEqDiff, ↓reduceIte, eq_self]
            refine ⟨by simp only [InR_i64]; ((try clear hh_i5); (try clear hh_i7); omega), loop_next (i + 1) (by ((try clear hh_i5); (try clear hh_i7); omega)) (by ((try clear hh_i5); (try clear hh_i7); omega)) ?_ ?_⟩
            · simp only [vsAll, Nat.reduceEqDiff, ↓reduceIte, eq_self, Int.natCast_add, Int.natCast_one, e2]
            · (repeat (first | exact HSub_rfl | refine HSub_put_eq (by simp only [vsAll, binA, binLitA, intA, aggA, boolA, nilA2, isConst, unA, loadA, loadRow, partA, partOk, fieldAddrA, indexAddrA, indexA, fieldA, extractA, lenA, nilCheckA, boxA, cellA, cellsA, fillA, okParts, buildSliceA, buildMutA, makeSliceA, partIdx, elemsA, lensA, ifaceA, convA, mmA, pickA, okAll, stAll, opsA, partsA, partsOk, opA, allocA, boxMutA, newCells, okCells, storeObj, appendA, guardV, taA, nM, mapUpA, lookA, sliceA, boundsA, opO, okO, copyA, dstOk, nilA, quietOk, nilSliceOp, panA, resA, argFr, retA.eq_1, retA.eq_2, Nat.reduceAdd, Nat.reduceSub, Nat.reduceMul, Nat.reduceLT, Nat.reduceLeDiff, Nat.reduceEqDiff, Nat.reduceBEq, Int.reduceAdd, Int.reduceSub, Int.reduceMul, Int.reduceNeg, Int.reduceLE, Int.reduceLT, Int.reduceEq, Int.reduceNe, Int.reduceToNat, ↓reduceIte, reduceCtorEq, implies_true, forall_const, eq_self, ne_eq, wtAll, Try.ntmps25, Try.results25, hh_i5, hh_i7]) ?_ | refine HSub_drop2 (by simp only [vsAll, binA, binLitA, intA, aggA, boolA, nilA2, isConst, unA, loadA, loadRow, partA, partOk, fieldAddrA, indexAddrA, indexA, fieldA, extractA, lenA, nilCheckA, boxA, cellA, cellsA, fillA, okParts, buildSliceA, buildMutA, makeSliceA, partIdx, elemsA, lensA, ifaceA, convA, mmA, pickA, okAll, stAll, opsA, partsA, partsOk, opA, allocA, boxMutA, newCells, okCells, storeObj, appendA, guardV, taA, nM, mapUpA, lookA, sliceA, boundsA, opO, okO, copyA, dstOk, nilA, quietOk, nilSliceOp, panA, resA, argFr, retA.eq_1, retA.eq_2, Nat.reduceAdd, Nat.reduceSub, Nat.reduceMul, Nat.reduceLT, Nat.reduceLeDiff, Nat.reduceEqDiff, Nat.reduceBEq, Int.reduceAdd, Int.reduceSub, Int.reduceMul, Int.reduceNeg, Int.reduceLE, Int.reduceLT, Int.reduceEq, Int.reduceNe, Int.reduceToNat, ↓reduceIte, reduceCtorEq, implies_true, forall_const, eq_self, ne_eq, wtAll, Try.ntmps25, Try.results25, hh_i5, hh_i7]) ?_ | refine HSub_keep_eq (by simp only [vsAll, binA, binLitA, intA, aggA, boolA, nilA2, isConst, unA, loadA, loadRow, partA, partOk, fieldAddrA, indexAddrA, indexA, fieldA, extractA, lenA, nilCheckA, boxA, cellA, cellsA, fillA, okParts, buildSliceA, buildMutA, makeSliceA, partIdx, elemsA, lensA, ifaceA, convA, mmA, pickA, okAll, stAll, opsA, partsA, partsOk, opA, allocA, boxMutA, newCells, okCells, storeObj, appendA, guardV, taA, nM, mapUpA, lookA, sliceA, boundsA, opO, okO, copyA, dstOk, nilA, quietOk, nilSliceOp, panA, resA, argFr, retA.eq_1, retA.eq_2, Nat.reduceAdd, Nat.reduceSub, Nat.reduceMul, Nat.reduceLT, Nat.reduceLeDiff, Nat.reduceEqDiff, Nat.reduceBEq, Int.reduceAdd, Int.reduceSub, Int.reduceMul, Int.reduceNeg, Int.reduceLE, Int.reduceLT, Int.reduceEq, Int.reduceNe, Int.reduceToNat, ↓reduceIte, reduceCtorEq, implies_true, forall_const, eq_self, ne_eq, wtAll, Try.ntmps25, Try.results25, hh_i5, hh_i7]) ?_))
        · have ei : i = x.ow.length := by ((try clear hh_i5); (try clear hh_i7); omega)
          have ev : likV x (q : Int) = likN x q i := by simp only [likV, e, if_true, Int.toNat_natCast, ei]
          simp only [vsAll, cellA, cellsA, opA, newCells, okCells, storeObj, dstOk, nilSliceOp, Nat.reduceLT, Nat.reduceEqDiff, ↓reduceIte, eq_self, wtAll, hh_i7]
          refine Ent.ret ⟨i5, _, rfl, by simp only [vsAll, ↓reduceIte, eq_self]; try rfl, ?_⟩
          simp only [vsAll, loadA, loadRow, partA, partOk, resA, retA.eq_2, Nat.reduceLT, Nat.reduceEqDiff, ↓reduceIte, eq_self, wtAll, Try.results25]
          refine dropR_pure ?_ (by (repeat (first | exact HSub_rfl | refine HSub_put_eq (by simp only [vsAll, binA, binLitA, intA, aggA, boolA, nilA2, isConst, unA, loadA, loadRow, partA, partOk, fieldAddrA, indexAddrA, indexA, fieldA, extractA, lenA, nilCheckA, boxA, cellA, cellsA, fillA, okParts, buildSliceA, buildMutA, makeSliceA, partIdx, elemsA, lensA, ifaceA, convA, mmA, pickA, okAll, stAll, opsA, partsA, partsOk, opA, allocA, boxMutA, newCells, okCells, storeObj, appendA, guardV, taA, nM, mapUpA, lookA, sliceA, boundsA, opO, okO, copyA, dstOk, nilA, quietOk, nilSliceOp, panA, resA, argFr, retA.eq_1, retA.eq_2, Nat.reduceAdd, Nat.reduceSub, Nat.reduceMul, Nat.reduceLT, Nat.reduceLeDiff, Nat.reduceEqDiff, Nat.reduceBEq, Int.reduceAdd, Int.reduceSub, Int.reduceMul, Int.reduceNeg, Int.reduceLE, Int.reduceLT, Int.reduceEq, Int.reduceNe, Int.reduceToNat, ↓reduceIte, reduceCtorEq, implies_true, forall_const, eq_self, ne_eq, wtAll, Try.ntmps25, Try.results25, hh_i5, hh_i7]) ?_ | refine HSub_drop2 (by simp only [eq_self, hh_i5, hh_i7]) ?_ | refine HSub_keep_eq (by simp only [vsAll, binA, binLitA, intA, aggA, boolA, nilA2, isConst, unA, loadA, loadRow, partA, partOk, fieldAddrA, indexAddrA, indexA, fieldA, extractA, lenA, nilCheckA, boxA, cellA, cellsA, fillA, okParts, buildSliceA, buildMutA, makeSliceA, partIdx, elemsA, lensA, ifaceA, convA, mmA, pickA, okAll, stAll, opsA, partsA, partsOk, opA, allocA, boxMutA, newCells, okCells, storeObj, appendA, guardV, taA, nM, mapUpA, lookA, sliceA, boundsA, opO, okO, copyA, dstOk, nilA, quietOk, nilSliceOp, panA, resA, argFr, retA.eq_1, retA.eq_2, Nat.reduceAdd, Nat.reduceSub, Nat.reduceMul, Nat.reduceLT, Nat.reduceLeDiff, Nat.reduceEqDiff, Nat.reduceBEq, Int.reduceAdd, Int.reduceSub, Int.reduceMul, Int.reduceNeg, Int.reduceLE, Int.reduceLT, Int.reduceEq, Int.reduceNe, Int.reduceToNat, ↓reduceIte, reduceCtorEq, implies_true, forall_const, eq_self, ne_eq, wtAll, Try.ntmps25, Try.results25, hh_i5, hh_i7]) ?_)))
          simp only [eq_self, ev, e]
    · have e : likE x s = 10 := by unfold likE; rw [hv]; exact errE_clash hk hl
      have ev : likV x s = 0 := by simp only [likV, e]; rfl
      simp only [vsAll]
      refine ⟨10, i5, _, rfl, rfl, by simp only [vsAll, ↓reduceIte, eq_self]; try rfl, ?_⟩
      simp only [vsAll, loadA, loadRow, partA, partOk, resA, retA.eq_2, Nat.reduceLT, Nat.reduceEqDiff, ↓reduceIte, eq_self, wtAll, Try.results25]
      refine dropR_pure ?_ (by (repeat (first | exact HSub_rfl | refine HSub_put_eq (by simp only [vsAll, binA, binLitA, intA, aggA, boolA, nilA2, isConst, unA, loadA, loadRow, partA, partOk, fieldAddrA, indexAddrA, indexA, fieldA, extractA, lenA, nilCheckA, boxA, cellA, cellsA, fillA, okParts, buildSliceA, buildMutA, makeSliceA, partIdx, elemsA, lensA, ifaceA, convA, mmA, pickA, okAll, stAll, opsA, partsA, partsOk, opA, allocA, boxMutA, newCells, okCells, storeObj, appendA, guardV, taA, nM, mapUpA, lookA, sliceA, boundsA, opO, okO, copyA, dstOk, nilA, quietOk, nilSliceOp, panA, resA, argFr, retA.eq_1, retA.eq_2, Nat.reduceAdd, Nat.reduceSub, Nat.reduceMul, Nat.reduceLT, Nat.reduceLeDiff, Nat.reduceEqDiff, Nat.reduceBEq, Int.reduceAdd, Int.reduceSub, Int.reduceMul, Int.reduceNeg, Int.reduceLE, Int.reduceLT, Int.reduceEq, Int.reduceNe, Int.reduceToNat, ↓reduceIte, reduceCtorEq, implies_true, forall_const, eq_self, ne_eq, wtAll, Try.ntmps25, Try.results25, hh_i5]) ?_ | refine HSub_drop2 (by simp only [eq_self, hh_i5]) ?_ | refine HSub_keep_eq (by simp only [vsAll, binA, binLitA, intA, aggA, boolA, nilA2, isConst, unA, loadA, loadRow, partA, partOk, fieldAddrA, indexAddrA, indexA, fieldA, extractA, lenA, nilCheckA, boxA, cellA, cellsA, fillA, okParts, buildSliceA, buildMutA, makeSliceA, partIdx, elemsA, lensA, ifaceA, convA, mmA, pickA, okAll, stAll, opsA, partsA, partsOk, opA, allocA, boxMutA, newCells, okCells, storeObj, appendA, guardV, taA, nM, mapUpA, lookA, sliceA, boundsA, opO, okO, copyA, dstOk, nilA, quietOk, nilSliceOp, panA, resA, argFr, retA.eq_1, retA.eq_2, Nat.reduceAdd, Nat.reduceSub, Nat.reduceMul, Nat.reduceLT, Nat.reduceLeDiff, Nat.reduceEqDiff, Nat.reduceBEq, Int.reduceAdd, Int.reduceSub, Int.reduceMul, Int.reduceNeg, Int.reduceLE, Int.reduceLT, Int.reduceEq, Int.reduceNe, Int.reduceToNat, ↓reduceIte, reduceCtorEq, implies_true, forall_const, eq_self, ne_eq, wtAll, Try.ntmps25, Try.results25, hh_i5]) ?_)))
      simp only [eq_self, ev, e, Int.natCast_zero]
end Go.Proofs.Ytkonoggmdcdeeaa
end
section
set_option linter.unusedVariables false
set_option linter.unusedSimpArgs false
namespace Go.V
/-- What one cell holds. -/
inductive CK where
  | int (k : IntKind)
  | bool
  | sl (ks : List CK)

/-- The cells of a type. -/
def cellsT (P : Program) : Nat → TypeId → Option (List CK)
  | 0, _ => none
  | d + 1, t => match P.underlying t with
    | some .bool => some [.bool]
    | some (.int k) => some [.int k]
    | some (.slice e) => match cellsT P d e with
      | some ks => if P.cellsOf e = ks.length ∧ 0 < ks.length then some [.sl ks] else none
      | none => none
    | some (.array n e) => match cellsT P d e with
      | some ks => if P.cellsOf e = ks.length ∧ P.cellsOf t = n * ks.length then some ((List.replicate n ks).flatten) else none
      | none => none
    | some (.struct fs) => match fs.toList.foldl (fun acc f => match acc with
        | some ks => match cellsT P d f.type with
          | some l => if f.offset = ks.length ∧ P.cellsOf f.type = l.length then some (ks ++ l) else none
          | none => none
        | none => none) (some []) with
      | some ks => if P.cellsOf t = ks.length then some ks else none
      | none => none
    | _ => none

/-- Such an abstract value. -/
inductive CKA : CK → AV → Prop
  | int {k : IntKind} {z : Int} (h : (Lit.int k z).wf = true) : CKA (.int k) (.lit (.int k z))
  | bool {b : Bool} : CKA .bool (.lit (.bool b))
  | sl {ks : List CK} {n : Nat} {f : Nat → List AV} (hn : n ≤ maxLen) (hl : ∀ i, i < n → (f i).length = ks.length) (h : ∀ i j k, i < n → ks[j]? = some k → CKA k ((f i).getD j .any)) : CKA (.sl ks) (.rsl n ks.length f)

def CellIs (W : World) (k : CK) (v : Value) : Prop := ∃ av, CKA k av ∧ VRel (st0 W) av v
def CellsOk (W : World) (ks : List CK) (cs : List Value) : Prop := cs.length = ks.length ∧ ∀ (i : Nat) (k : CK) (v : Value), ks[i]? = some k → cs[i]? = some v → CellIs W k v

theorem CellsOk.append {W : World} {ks ls : List CK} {cs ds : List Value} (h : CellsOk W ks cs) (h' : CellsOk W ls ds) : CellsOk W (ks ++ ls) (cs ++ ds) := by
  refine ⟨by simp [h.1, h'.1], fun i k v hk hv => ?_⟩
  by_cases hi : i < ks.length
  · rw [List.getElem?_append_left hi] at hk
    rw [List.getElem?_append_left (by rw [h.1]; exact hi)] at hv
    exact h.2 i k v hk hv
  · rw [List.getElem?_append_right (by omega)] at hk
    rw [List.getElem?_append_right (by rw [h.1]; omega), h.1] at hv
    exact h'.2 _ k v hk hv

theorem trod_cells {H : Type} {enc : TypeId × Value → H} {P : Program} {W : World} {held : Bool} {sp : Nat → Bool} :
    ∀ (d fuel : Nat) (t : TypeId) (cs : List Value) (x : DataW H × List MemPlace) (ks : List CK), cellsT P d t = some ks → DataW.trod enc P W 0 sp held fuel t cs = some x → CellsOk W ks cs := by
  intro d
  induction d with
  | zero => intro fuel t cs x ks hg; cases hg
  | succ d ih =>
    intro fuel t cs x ks hg h
    cases fuel with
    | zero => cases h
    | succ fuel =>
      unfold cellsT at hg
      unfold DataW.trod at h
      cases hu : P.underlying t with
      | none => rw [hu] at hg; cases hg
      | some td =>
        rw [hu] at hg h
        cases td <;> simp only at hg <;> try (cases hg; done)
        case bool =>
          cases hg
          split at h <;> simp_all
          rename_i b
          exact ⟨rfl, fun i k v hk hv => by cases i <;> simp at hk hv; subst hk hv; exact ⟨_, .bool, .lit _⟩⟩
        case int k =>
          cases hg
          split at h <;> simp_all
          rename_i n hh
          exact ⟨rfl, fun i k v hk hv => by cases i <;> simp at hk hv; subst hk hv; exact ⟨_, .int h.1.2, .lit _⟩⟩
        case array n e =>
          cases hke : cellsT P d e with
          | none => rw [hke] at hg; cases hg
          | some lk =>
            rw [hke] at hg
            simp only at hg
            by_cases hc : P.cellsOf e = lk.length ∧ P.cellsOf t = n * lk.length
            case neg => rw [if_neg hc] at hg; cases hg
            rw [if_pos hc] at hg
            cases hg
            split at h <;> try (simp_all; done)
            case _ n' e' heq =>
              simp only [Option.some.injEq, TypeDesc.array.injEq] at heq
              obtain ⟨rfl, rfl⟩ := heq
              split at h
              case isFalse hl => cases h
              case isTrue hl =>
                rw [Option.map_eq_some_iff] at h
                obtain ⟨ys, hy, rfl⟩ := h
                have key : ∀ (c : List Value), (∀ i, i < n → ∃ y, DataW.trod enc P W 0 sp held fuel e ((c.drop (i * P.cellsOf e)).take (P.cellsOf e)) = some y) → ∀ m, m ≤ n → CellsOk W (List.replicate m lk).flatten (c.take (m * lk.length)) := by
                  intro c hcy m
                  induction m with
                  | zero => intro _; exact ⟨by simp, fun i k v hk => by simp at hk⟩
                  | succ m ihm =>
                    intro hm
                    have h0 := ihm (by omega)
                    obtain ⟨y, h2⟩ := hcy m (by omega)
                    have h3 := ih fuel e _ y lk hke h2
                    rw [hc.1] at h3
                    have := h0.append h3
                    rw [List.replicate_succ', List.flatten_append, Nat.succ_mul, List.take_add]
                    simpa using this
                have := key _ (fun i hi => by
                  obtain ⟨y, _, h2⟩ := (mapM_get _ _ hy).2 i i (by simp [hi])
                  exact ⟨y, h2⟩) n (Nat.le_refl _)
                rw [List.take_of_length_le (by rw [hl, hc.2]; exact Nat.le_refl _)] at this
                exact this
        case slice e =>
          cases hke : cellsT P d e with
          | none => rw [hke] at hg; cases hg
          | some lk =>
            rw [hke] at hg
            simp only at hg
            by_cases hc : P.cellsOf e = lk.length ∧ 0 < lk.length
            case neg => rw [if_neg hc] at hg; cases hg
            rw [if_pos hc] at hg
            cases hg
            obtain ⟨hsz, hpos⟩ := hc
            split at h <;> try (simp_all; done)
            · rename_i heq
              refine ⟨rfl, fun i k v hk hv => ?_⟩
              cases i <;> simp at hk hv
              subst hk hv
              exact ⟨.rsl 0 lk.length fun _ => [], .sl (Nat.zero_le _) (fun i hi => by omega) (fun i j k hi => by omega), .rsl0⟩
            · rename_i e' a len cap heq
              simp only [Option.some.injEq, TypeDesc.slice.injEq] at heq
              subst heq
              simp only at h
              split at h
              case isFalse hl => cases h
              case isTrue hl =>
                rw [Option.bind_eq_some_iff] at h
                obtain ⟨es, he, -⟩ := h
                let g : Nat → List Value := fun i => match W.cells? 0 (a.add (i * P.cellsOf e)) (P.cellsOf e) with
                  | some c => c
                  | none => []
                have hel : ∀ i, i < len → W.cells? 0 (a.add (i * P.cellsOf e)) (P.cellsOf e) = some (g i) ∧ CellsOk W lk (g i) := by
                  intro i hi
                  obtain ⟨y, _, hy⟩ := (mapM_get _ _ he).2 i i (by simp [hi])
                  rw [Option.bind_eq_some_iff] at hy
                  obtain ⟨c, h1, h2⟩ := hy
                  have : g i = c := by simp only [g, h1]
                  rw [this]
                  exact ⟨h1, ih fuel e c y lk hke h2⟩
                -- the abstract cells
                have hch : ∀ i j, ∃ av, i < len → j < lk.length → ∃ k v, lk[j]? = some k ∧ (g i)[j]? = some v ∧ CKA k av ∧ VRel (st0 W) av v := by
                  intro i j
                  by_cases hi : i < len
                  · by_cases hj : j < lk.length
                    · obtain ⟨l1, l2⟩ := (hel i hi).2
                      obtain ⟨av, c1, c2⟩ := l2 j lk[j] (g i)[j] (List.getElem?_eq_getElem hj) (List.getElem?_eq_getElem (by omega))
                      exact ⟨av, fun _ _ => ⟨_, _, List.getElem?_eq_getElem hj, List.getElem?_eq_getElem (by omega), c1, c2⟩⟩
                    · exact ⟨.any, fun _ x => absurd x hj⟩
                  · exact ⟨.any, fun x => absurd x hi⟩
                have hf := fun i => Classical.axiomOfChoice (hch i)
                obtain ⟨F, hF⟩ := Classical.axiomOfChoice hf
                have hget : ∀ i j, j < lk.length → ((List.range lk.length).map (F i)).getD j .any = F i j := fun i j hj => by
                  rw [List.getD_eq_getElem?_getD, List.getElem?_map, List.getElem?_range hj]; rfl
                refine ⟨rfl, fun i k v hk hv => ?_⟩
                cases i <;> simp at hk hv
                subst hk hv
                refine ⟨.rsl len lk.length fun i => (List.range lk.length).map (F i), .sl (Nat.le_trans hl.2.1 hl.2.2) (fun i hi => by simp) (fun i j k hi hk => ?_), ?_⟩
                · have hj := (List.getElem?_eq_some_iff.1 hk).1
                  rw [hget i j hj]
                  obtain ⟨k', v, h1, h2, h3, h4⟩ := hF i j hi hj
                  rw [hk] at h1; cases h1
                  exact h3
                by_cases h0 : len = 0
                · subst h0; exact .rsl0
                have hcell : ∀ i j, i < len → j < lk.length → ∃ u, (g i)[j]? = some u ∧ W.cell? ((a.add (i * P.cellsOf e)).add j) = some u := by
                  intro i j hi hj
                  have h1 := (hel i hi).1
                  unfold World.cells? at h1
                  rw [if_pos (Nat.zero_le _)] at h1
                  exact (mapM_get _ _ h1).2 j j (by simp [hsz, hj])
                obtain ⟨b, off, spot⟩ := a
                obtain ⟨u0, _, hc0⟩ := hcell 0 0 (by omega) hpos
                rw [show ((⟨b, off, spot⟩ : Addr).add (0 * P.cellsOf e)).add 0 = ⟨b, off, spot⟩ from by simp [Addr.add]] at hc0
                unfold World.cell? at hc0
                split at hc0
                case h_2 => cases hc0
                case h_1 c ct fz hb =>
                  have hspot : spot = none := by
                    cases spot with
                    | none => rfl
                    | some s => simp at hc0
                  subst hspot
                  have hadd : ∀ i j, (((⟨b, off, none⟩ : Addr).add (i * P.cellsOf e)).add j) = ⟨b, off + i * P.cellsOf e + j, none⟩ := fun i j => by rw [addr_add, addr_add]
                  have hall : ∀ i j, i < len → j < lk.length → ∃ u, (g i)[j]? = some u ∧ c[off + i * lk.length + j]? = some u := by
                    intro i j hi hj
                    obtain ⟨u, h1, h2⟩ := hcell i j hi hj
                    rw [hadd] at h2
                    unfold World.cell? at h2
                    simp only at hb
                    rw [show W.heap[(⟨b, off + i * P.cellsOf e + j, none⟩ : Addr).block]? = some (.cells c ct fz) from hb] at h2
                    simp only [Option.isSome_none, Bool.false_eq_true, if_false, hsz] at h2
                    exact ⟨u, h1, h2⟩
                  refine .rsl (c := c) (e := ct) (fz := fz) ?_ hb ?_ (fun i hi => by simp) fun i j hi hj => ?_
                  · exact (Array.getElem?_eq_some_iff.1 hb).1
                  · obtain ⟨u, _, h2⟩ := hall (len - 1) (lk.length - 1) (by omega) (by omega)
                    have := (Array.getElem?_eq_some_iff.1 h2).1
                    have e1 : len * lk.length = (len - 1) * lk.length + lk.length := by
                      obtain ⟨q, rfl⟩ : ∃ q, len = q + 1 := ⟨len - 1, by omega⟩
                      rw [Nat.add_sub_cancel, Nat.succ_mul]
                    omega
                  · obtain ⟨u, h1, h2⟩ := hall i j hi hj
                    obtain ⟨k', v, q1, q2, q3, q4⟩ := hF i j hi hj
                    rw [h1] at q2; cases q2
                    rw [hget i j hj, Array.getD_eq_getD_getElem?, h2]
                    exact q4
        case struct fs =>
          split at h <;> try (simp_all; done)
          case _ fs' heq =>
            simp only [Option.some.injEq, TypeDesc.struct.injEq] at heq
            subst heq
            split at h
            case isFalse hl => cases h
            case isTrue hl =>
              rw [Option.map_eq_some_iff] at h
              obtain ⟨ys, hy, rfl⟩ := h
              have key : ∀ (c : List Value) (l : List Field) (acc ks : List CK), (∀ f ∈ l, ∃ y, DataW.trod enc P W 0 sp held fuel f.type ((c.drop f.offset).take (P.cellsOf f.type)) = some y) → CellsOk W acc (c.take acc.length) →
                  l.foldl (fun acc f => match acc with
                    | some ks => match cellsT P d f.type with
                      | some l => if f.offset = ks.length ∧ P.cellsOf f.type = l.length then some (ks ++ l) else none
                      | none => none
                    | none => none) (some acc) = some ks → CellsOk W ks (c.take ks.length) := by
                intro c l
                induction l with
                | nil => intro acc ks _ ha he; simp at he; subst he; exact ha
                | cons f l ih2 =>
                  intro acc ks hf ha he
                  simp only [List.foldl_cons] at he
                  have hnone : ∀ l : List Field, l.foldl (fun acc f => match acc with
                    | some ks => match cellsT P d f.type with
                      | some l => if f.offset = ks.length ∧ P.cellsOf f.type = l.length then some (ks ++ l) else none
                      | none => none
                    | none => none) none = (none : Option (List CK)) := by
                    intro l; induction l with
                    | nil => rfl
                    | cons a l ih => simpa using ih
                  cases hl2 : cellsT P d f.type with
                  | none => rw [hl2] at he; simp only at he; rw [hnone] at he; cases he
                  | some lk =>
                    rw [hl2] at he
                    simp only at he
                    by_cases hc : f.offset = acc.length ∧ P.cellsOf f.type = lk.length
                    · rw [if_pos hc] at he
                      obtain ⟨y, hy⟩ := hf f (by simp)
                      have := ih fuel f.type _ y lk hl2 hy
                      rw [hc.1, hc.2] at this
                      have hap := ha.append this
                      refine ih2 (acc ++ lk) ks (fun g hg => hf g (by simp [hg])) ?_ he
                      rw [List.length_append, List.take_add]
                      exact hap
                    · rw [if_neg hc, hnone] at he; cases he
              split at hg
              case h_2 => cases hg
              case h_1 ks' he =>
                split at hg
                case isFalse => cases hg
                case isTrue hc =>
                  cases hg
                  have := key _ fs.toList [] ks (fun f hf => by
                    obtain ⟨i, hi⟩ := List.getElem?_of_mem hf
                    obtain ⟨y, _, h2⟩ := (mapM_get _ _ hy).2 i f hi
                    exact ⟨y, h2⟩) ⟨by simp, fun i k v hk => by simp at hk⟩ he
                  rw [List.take_of_length_le (by rw [hl, hc]; exact Nat.le_refl _)] at this
                  exact this

end Go.V
end
section
set_option linter.unusedVariables false
set_option linter.unusedSimpArgs false
namespace Go.V
open Go.ChangeShapes
theorem AV.Le.rslD {n st : Nat} {f g : Nat → List AV} (h : ∀ i, i < n → (g i).length = st ∧ ∀ j, j < st → AV.Le ((f i).getD j .any) ((g i).getD j .any)) : AV.Le (.rsl n st f) (.rsl n st g) := by
  intro S v hv
  cases hv with
  | rsl0 => exact .rsl0
  | rsl hi hb hsz hf hh => exact .rsl hi hb hsz (fun i hi => (h i hi).1) fun i j hi hj => (h i hi).2 j hj _ _ (hh i j hi hj)
theorem AV.Le.aggD {cs ds : List AV} (hl : ds.length = cs.length) (h : ∀ j, j < cs.length → AV.Le (cs.getD j .any) (ds.getD j .any)) : AV.Le (.agg cs) (.agg ds) := by
  intro S v hv
  cases hv with
  | agg hn hh => exact .agg (hn.trans hl.symm) fun k hk => h k (by omega) _ _ (hh k (by omega))

/-- Cells that are told. -/
def Told (ks : List CK) (cs : List AV) : Prop := cs.length = ks.length ∧ ∀ j k, ks[j]? = some k → CKA k (cs.getD j .any)

/-- A struct that is handed in. -/
theorem trod_agg {H : Type} {enc : TypeId × Value → H} {P : Program} {W : World} {held : Bool} {sp : Nat → Bool} {t dd : Nat} {v : Value} {d : DataW H} {ps : List MemPlace} {ks : List CK}
    (hk : cellsT P dd t = some ks) (hn : 2 ≤ ks.length) (h : DataW.Trod enc P W 0 sp held t v d ps) : ∃ cs : List AV, Told ks cs ∧ VRel (st0 W) (.agg cs) v := by
  obtain ⟨fuel, h⟩ := h
  obtain ⟨hl, hz⟩ := trod_cells dd fuel t _ _ ks hk h
  cases v with
  | agg vs =>
    simp only [Value.cells] at hl hz
    have hl2 : vs.size = ks.length := by simpa using hl
    have hch : ∀ j : Nat, ∃ av : AV, ∀ (k : CK) (u : Value), ks[j]? = some k → vs[j]? = some u → CKA k av ∧ VRel (st0 W) av u := fun j => by
      cases hkj : ks[j]? with
      | none => exact ⟨.any, fun k u h => by cases h⟩
      | some k =>
        cases hvj : vs[j]? with
        | none => exact ⟨.any, fun k u _ h => by cases h⟩
        | some u =>
          obtain ⟨av, h1, h2⟩ := hz j k u hkj (by simpa using hvj)
          exact ⟨av, fun k' u' e1 e2 => by cases e1; cases e2; exact ⟨h1, h2⟩⟩
    obtain ⟨F, hF⟩ := Classical.axiomOfChoice hch
    have hget : ∀ j, j < ks.length → ((List.range ks.length).map F).getD j .any = F j := fun j hj => by
      rw [List.getD_eq_getElem?_getD, List.getElem?_map, List.getElem?_range hj]; rfl
    refine ⟨(List.range ks.length).map F, ⟨by simp, fun j k hk => ?_⟩, .agg (by simpa using hl2) fun j hj => ?_⟩
    · have hj := (List.getElem?_eq_some_iff.1 hk).1
      rw [hget j hj]
      exact (hF j k vs[j] hk (by simp [show j < vs.size by omega])).1
    · have hj : j < ks.length := by simpa using hj
      rw [hget j hj, Array.getD_eq_getD_getElem?, Array.getElem?_eq_getElem (by omega)]
      exact (hF j ks[j] vs[j] (List.getElem?_eq_getElem hj) (by simp [show j < vs.size by omega])).2
  | _ => simp [Value.cells] at hl; omega
/-- A slice of what can be told. -/
theorem told_slice {α : Type} {ks : List CK} (en : α → List AV) (d0 : α) (hd : ∀ cs, Told ks cs → ∃ x : α, (en x).length = ks.length ∧ ∀ j, j < ks.length → AV.Le (cs.getD j .any) ((en x).getD j .any)) {av : AV} (h : CKA (.sl ks) av) :
    ∃ l : List α, l.length ≤ maxLen ∧ AV.Le av (.rsl l.length ks.length fun i => en (l.getD i d0)) := by
  cases h with
  | @sl _ n f hn hl hh =>
    have hch : ∀ i, ∃ x : α, i < n → (en x).length = ks.length ∧ ∀ j, j < ks.length → AV.Le ((f i).getD j .any) ((en x).getD j .any) := fun i => by
      by_cases hi : i < n
      · obtain ⟨x, h1⟩ := hd (f i) ⟨hl i hi, fun j k hk => hh i j k hi hk⟩
        exact ⟨x, fun _ => h1⟩
      · exact ⟨d0, fun x => absurd x hi⟩
    obtain ⟨F, hF⟩ := Classical.axiomOfChoice hch
    refine ⟨(List.range n).map F, by simpa using hn, ?_⟩
    rw [List.length_map, List.length_range]
    refine AV.Le.rslD fun i hi => ?_
    have e : ((List.range n).map F).getD i d0 = F i := by
      rw [List.getD_eq_getElem?_getD, List.getElem?_map, List.getElem?_range hi]; rfl
    rw [e]
    exact hF i hi
theorem told_int {cs : List AV} {k : IntKind} (j : Nat) {ks : List CK} (h : Told ks cs) (hk : ks[j]? = some (.int k)) : ∃ z : Int, cs.getD j .any = .lit (.int k z) ∧ (Lit.int k z).wf = true := by
  have := h.2 j _ hk
  generalize cs.getD j .any = x at *
  cases this with
  | int hw => exact ⟨_, rfl, hw⟩
theorem told_bool {cs : List AV} (j : Nat) {ks : List CK} (h : Told ks cs) (hk : ks[j]? = some .bool) : ∃ b : Bool, cs.getD j .any = .lit (.bool b) := by
  have := h.2 j _ hk
  generalize cs.getD j .any = x at *
  cases this with
  | bool => exact ⟨_, rfl⟩

end Go.V
end
section
set_option linter.unusedVariables false
set_option linter.unusedSimpArgs false
set_option maxHeartbeats 4000000
set_option maxRecDepth 100000
namespace Go.Proofs.Ytkonoggmdcdeeaa
open Go.V
def farO (x : Ir) : Nat → Int
  | 0 => max (max (max (x.ow.length : Int) x.mo.length) x.st.length) x.cl.length
  | i + 1 => max (farO x i) (x.ow.getD i []).length
def farS (x : Ir) : Nat → Int
  | 0 => farO x x.ow.length
  | i + 1 => max (farS x i) (x.st.getD i []).length
def farB (x : Ir) : Bool := decide (40 < farS x x.st.length)
theorem far_tri (x : Ir) (H : Hp) (hO : x.ow.length < 2 ^ 63) (hS : x.st.length < 2 ^ 63) : PTri Try.prog (fnA 35) [x.av] H (boo (farB x)) := by
  refine tri_v0 (fun _ => false) Try.func35 (by kernel_rfl) rfl (by simp only [List.length_append, List.length_cons, List.length_nil, Try.ntmps35]; decide) ?_
  simp only [vsAll, loadA, loadRow, partA, partOk, fieldAddrA, lenA, boxA, mmA, okAll, stAll, opsA, opA, dstOk, nilSliceOp, argFr, Nat.reduceAdd, Nat.reduceLT, Nat.reduceEqDiff, ↓reduceIte, eq_self, wtAll, Try.ntmps35]
  refine vs_loop (σ := Nat) (fun i => i ≤ x.ow.length) (fun i => [(1, .rptr 1 5 (fun _ => x.cs) 0 0), (3, i64 (farO x i)), (22, llAV x.ow), (23, i64 x.ow.length), (24, i64 i)]) (fun _ => H) (fun i => x.ow.length - i) 0 (by omega) ?_ (HSub.refl _) fun i hi => ?_
  · simp only [vsAll, Nat.reduceEqDiff, ↓reduceIte, eq_self, Int.natCast_zero, farO]
  · simp only [vsAll, binA, binLitA, intA, opA, dstOk, Nat.reduceLT, Nat.reduceEqDiff, ↓reduceIte, eq_self]
    refine condD (fun hd => ?_) (fun hd => ?_)
    · simp only [vsAll, binA, binLitA, intA, loadA, loadRow, partA, partOk, indexAddrA, lenA, mmA, okAll, stAll, opsA, opA, dstOk, nilSliceOp, Nat.reduceLT, Nat.reduceEqDiff, ↓reduceIte, eq_self, wtAll, llF_at]
      refine ⟨by omega, by omega, by simp only [InR_i64]; omega, loop_next (i + 1) (by omega) (by omega) ?_ (HSub.refl _)⟩
      simp only [vsAll, Nat.reduceEqDiff, ↓reduceIte, eq_self, Int.natCast_add, Int.natCast_one, farO]
    · have ei : i = x.ow.length := by omega
      subst ei
      simp only [vsAll, loadA, loadRow, partA, partOk, fieldAddrA, lenA, opA, dstOk, Nat.reduceLT, Nat.reduceEqDiff, ↓reduceIte, eq_self, wtAll]
      refine vs_loop (σ := Nat) (fun i => i ≤ x.st.length) (fun i => [(3, i64 (farS x i)), (34, stAV x.st), (35, i64 x.st.length), (36, i64 i)]) (fun _ => H) (fun i => x.st.length - i) 0 (by omega) ?_ (HSub.refl _) fun i hi => ?_
      · simp only [vsAll, Nat.reduceEqDiff, ↓reduceIte, eq_self, Int.natCast_zero, farS]
      · simp only [vsAll, binA, binLitA, intA, opA, dstOk, Nat.reduceLT, Nat.reduceEqDiff, ↓reduceIte, eq_self]
        refine condD (fun hd => ?_) (fun hd => ?_)
        · simp only [vsAll, binA, binLitA, intA, loadA, loadRow, partA, partOk, indexAddrA, lenA, mmA, okAll, stAll, opsA, opA, dstOk, nilSliceOp, Nat.reduceLT, Nat.reduceEqDiff, ↓reduceIte, eq_self, wtAll, stF_at]
          refine ⟨by omega, by omega, by simp only [InR_i64]; omega, loop_next (i + 1) (by omega) (by omega) ?_ (HSub.refl _)⟩
          simp only [vsAll, Nat.reduceEqDiff, ↓reduceIte, eq_self, Int.natCast_add, Int.natCast_one, farS]
        · have ei : i = x.st.length := by omega
          subst ei
          simp only [vsAll, binA, binLitA, intA, opA, dstOk, nilSliceOp, resA, retA.eq_1, Nat.reduceLT, Nat.reduceEqDiff, ↓reduceIte, eq_self, Try.results35]
          rfl
theorem farO_le (x : Ir) (i : Nat) : (x.ow.length : Int) ≤ farO x i ∧ (x.mo.length : Int) ≤ farO x i ∧ (x.st.length : Int) ≤ farO x i ∧ (x.cl.length : Int) ≤ farO x i ∧ ∀ j, j < i → ((x.ow.getD j []).length : Int) ≤ farO x i := by
  induction i with
  | zero => exact ⟨by simp only [farO]; omega, by simp only [farO]; omega, by simp only [farO]; omega, by simp only [farO]; omega, fun j hj => absurd hj (by omega)⟩
  | succ i ih =>
    obtain ⟨h1, h2, h3, h4, h5⟩ := ih
    simp only [farO]
    refine ⟨by omega, by omega, by omega, by omega, fun j hj => ?_⟩
    by_cases e : j = i
    · subst e; omega
    · have := h5 j (by omega); omega
theorem farS_le (x : Ir) (i : Nat) : farO x x.ow.length ≤ farS x i ∧ ∀ j, j < i → ((x.st.getD j []).length : Int) ≤ farS x i := by
  induction i with
  | zero => exact ⟨Int.le_refl _, fun j hj => absurd hj (by omega)⟩
  | succ i ih =>
    obtain ⟨h1, h2⟩ := ih
    simp only [farS]
    refine ⟨by omega, fun j hj => ?_⟩
    by_cases e : j = i
    · subst e; omega
    · have := h2 j (by omega); omega
theorem far_near {x : Ir} (h : farB x = false) : Near x := by
  have h0 := of_decide_eq_false h
  obtain ⟨h1, h2⟩ := farS_le x x.st.length
  obtain ⟨q1, q2, q3, q4, q5⟩ := farO_le x x.ow.length
  exact ⟨by omega, by omega, by omega, by omega, fun i hi => by have := q5 i hi; omega, fun i hi => by have := h2 i hi; omega⟩

def hvB (x : Ir) (most : Nat) : Bool := if (farB x || !decide (Ok x)) = true then farB x else decide (most < (max 1 x.ow.length) ^ x.st.length)
theorem mark_tri (a b c : Int) (H : Hp) : PTri Try.prog (fnA 40) [i64 a, i64 b, i64 c] H (.agg [i64 a, i64 b, i64 c]) := by
  refine tri_vs (m := fun _ => false) Try.func40 (by kernel_rfl) rfl (by simp only [List.length_append, List.length_cons, List.length_nil, Try.ntmps40]; decide) ?_
  simp only [vsAll, cellA, cellsA, fillA, okParts, partsA, partsOk, opA, allocA, newCells, okCells, storeObj, dstOk, argFr, Nat.reduceAdd, Nat.reduceLT, Nat.reduceLeDiff, Nat.reduceEqDiff, ↓reduceIte, reduceCtorEq, eq_self, wtAll, Try.ntmps40]
  intro i4 hh_i4; (try simp only [Hp.set_none, ite_none] at hh_i4)
  refine ret0 ?_
  simp only [vsAll, loadA, loadRow, partA, partOk, resA, retA.eq_1, Nat.reduceLT, Nat.reduceEqDiff, ↓reduceIte, eq_self, wtAll, Try.results40]
  exact dropR_pure rfl (by (repeat (first | exact HSub_rfl | refine HSub_put_eq (by simp only [vsAll, binA, binLitA, intA, aggA, boolA, nilA2, isConst, unA, loadA, loadRow, partA, partOk, fieldAddrA, indexAddrA, indexA, fieldA, extractA, lenA, nilCheckA, boxA, cellA, cellsA, fillA, okParts, buildSliceA, buildMutA, makeSliceA, partIdx, elemsA, lensA, ifaceA, convA, mmA, pickA, okAll, stAll, opsA, partsA, partsOk, opA, allocA, boxMutA, newCells, okCells, storeObj, appendA, guardV, taA, nM, mapUpA, lookA, sliceA, boundsA, opO, okO, copyA, dstOk, nilA, quietOk, nilSliceOp, panA, resA, argFr, retA.eq_1, retA.eq_2, Nat.reduceAdd, Nat.reduceSub, Nat.reduceMul, Nat.reduceLT, Nat.reduceLeDiff, Nat.reduceEqDiff, Nat.reduceBEq, Int.reduceAdd, Int.reduceSub, Int.reduceMul, Int.reduceNeg, Int.reduceLE, Int.reduceLT, Int.reduceEq, Int.reduceNe, Int.reduceToNat, ↓reduceIte, reduceCtorEq, implies_true, forall_const, eq_self, ne_eq, wtAll, Try.ntmps40, Try.results40, hh_i4]) ?_ | refine HSub_drop2 (by simp only [eq_self, hh_i4]) ?_ | refine HSub_keep_eq (by simp only [vsAll, binA, binLitA, intA, aggA, boolA, nilA2, isConst, unA, loadA, loadRow, partA, partOk, fieldAddrA, indexAddrA, indexA, fieldA, extractA, lenA, nilCheckA, boxA, cellA, cellsA, fillA, okParts, buildSliceA, buildMutA, makeSliceA, partIdx, elemsA, lensA, ifaceA, convA, mmA, pickA, okAll, stAll, opsA, partsA, partsOk, opA, allocA, boxMutA, newCells, okCells, storeObj, appendA, guardV, taA, nM, mapUpA, lookA, sliceA, boundsA, opO, okO, copyA, dstOk, nilA, quietOk, nilSliceOp, panA, resA, argFr, retA.eq_1, retA.eq_2, Nat.reduceAdd, Nat.reduceSub, Nat.reduceMul, Nat.reduceLT, Nat.reduceLeDiff, Nat.reduceEqDiff, Nat.reduceBEq, Int.reduceAdd, Int.reduceSub, Int.reduceMul, Int.reduceNeg, Int.reduceLE, Int.reduceLT, Int.reduceEq, Int.reduceNe, Int.reduceToNat, ↓reduceIte, reduceCtorEq, implies_true, forall_const, eq_self, ne_eq, wtAll, Try.ntmps40, Try.results40, hh_i4]) ?_)))
theorem lhis_tri (a b : Int) (H : Hp) : PTri Try.prog (fnA 73) [i64 a, i64 b] H (.agg [i64 a, i64 b, boo false]) := by
  refine tri_vs (m := fun _ => false) Try.func73 (by kernel_rfl) rfl (by simp only [List.length_append, List.length_cons, List.length_nil, Try.ntmps73]; decide) ?_
  simp only [vsAll, cellA, cellsA, fillA, okParts, partsA, partsOk, opA, allocA, newCells, okCells, storeObj, dstOk, argFr, Nat.reduceAdd, Nat.reduceLT, Nat.reduceLeDiff, Nat.reduceEqDiff, ↓reduceIte, reduceCtorEq, eq_self, wtAll, Try.ntmps73]
  intro i4 hh_i4; (try simp only [Hp.set_none, ite_none] at hh_i4)
  refine ret0 ?_
  simp only [vsAll, loadA, loadRow, partA, partOk, resA, retA.eq_1, Nat.reduceLT, Nat.reduceEqDiff, ↓reduceIte, eq_self, wtAll, Try.results73]
  exact dropR_pure rfl (by (repeat (first | exact HSub_rfl | refine HSub_put_eq (by simp only [vsAll, binA, binLitA, intA, aggA, boolA, nilA2, isConst, unA, loadA, loadRow, partA, partOk, fieldAddrA, indexAddrA, indexA, fieldA, extractA, lenA, nilCheckA, boxA, cellA, cellsA, fillA, okParts, buildSliceA, buildMutA, makeSliceA, partIdx, elemsA, lensA, ifaceA, convA, mmA, pickA, okAll, stAll, opsA, partsA, partsOk, opA, allocA, boxMutA, newCells, okCells, storeObj, appendA, guardV, taA, nM, mapUpA, lookA, sliceA, boundsA, opO, okO, copyA, dstOk, nilA, quietOk, nilSliceOp, panA, resA, argFr, retA.eq_1, retA.eq_2, Nat.reduceAdd, Nat.reduceSub, Nat.reduceMul, Nat.reduceLT, Nat.reduceLeDiff, Nat.reduceEqDiff, Nat.reduceBEq, Int.reduceAdd, Int.reduceSub, Int.reduceMul, Int.reduceNeg, Int.reduceLE, Int.reduceLT, Int.reduceEq, Int.reduceNe, Int.reduceToNat, ↓reduceIte, reduceCtorEq, implies_true, forall_const, eq_self, ne_eq, wtAll, Try.ntmps73, Try.results73, hh_i4]) ?_ | refine HSub_drop2 (by simp only [eq_self, hh_i4]) ?_ | refine HSub_keep_eq (by simp only [vsAll, binA, binLitA, intA, aggA, boolA, nilA2, isConst, unA, loadA, loadRow, partA, partOk, fieldAddrA, indexAddrA, indexA, fieldA, extractA, lenA, nilCheckA, boxA, cellA, cellsA, fillA, okParts, buildSliceA, buildMutA, makeSliceA, partIdx, elemsA, lensA, ifaceA, convA, mmA, pickA, okAll, stAll, opsA, partsA, partsOk, opA, allocA, boxMutA, newCells, okCells, storeObj, appendA, guardV, taA, nM, mapUpA, lookA, sliceA, boundsA, opO, okO, copyA, dstOk, nilA, quietOk, nilSliceOp, panA, resA, argFr, retA.eq_1, retA.eq_2, Nat.reduceAdd, Nat.reduceSub, Nat.reduceMul, Nat.reduceLT, Nat.reduceLeDiff, Nat.reduceEqDiff, Nat.reduceBEq, Int.reduceAdd, Int.reduceSub, Int.reduceMul, Int.reduceNeg, Int.reduceLE, Int.reduceLT, Int.reduceEq, Int.reduceNe, Int.reduceToNat, ↓reduceIte, reduceCtorEq, implies_true, forall_const, eq_self, ne_eq, wtAll, Try.ntmps73, Try.results73, hh_i4]) ?_)))
theorem lother_tri (a b : Int) (H : Hp) : PTri Try.prog (fnA 74) [i64 a, i64 b] H (.agg [i64 a, i64 b, boo true]) := by
  refine tri_vs (m := fun _ => false) Try.func74 (by kernel_rfl) rfl (by simp only [List.length_append, List.length_cons, List.length_nil, Try.ntmps74]; decide) ?_
  simp only [vsAll, cellA, cellsA, fillA, okParts, partsA, partsOk, opA, allocA, newCells, okCells, storeObj, dstOk, argFr, Nat.reduceAdd, Nat.reduceLT, Nat.reduceLeDiff, Nat.reduceEqDiff, ↓reduceIte, reduceCtorEq, eq_self, wtAll, Try.ntmps74]
  intro i4 hh_i4; (try simp only [Hp.set_none, ite_none] at hh_i4)
  refine ret0 ?_
  simp only [vsAll, loadA, loadRow, partA, partOk, resA, retA.eq_1, Nat.reduceLT, Nat.reduceEqDiff, ↓reduceIte, eq_self, wtAll, Try.results74]
  exact dropR_pure rfl (by (repeat (first | exact HSub_rfl | refine HSub_put_eq (by simp only [vsAll, binA, binLitA, intA, aggA, boolA, nilA2, isConst, unA, loadA, loadRow, partA, partOk, fieldAddrA, indexAddrA, indexA, fieldA, extractA, lenA, nilCheckA, boxA, cellA, cellsA, fillA, okParts, buildSliceA, buildMutA, makeSliceA, partIdx, elemsA, lensA, ifaceA, convA, mmA, pickA, okAll, stAll, opsA, partsA, partsOk, opA, allocA, boxMutA, newCells, okCells, storeObj, appendA, guardV, taA, nM, mapUpA, lookA, sliceA, boundsA, opO, okO, copyA, dstOk, nilA, quietOk, nilSliceOp, panA, resA, argFr, retA.eq_1, retA.eq_2, Nat.reduceAdd, Nat.reduceSub, Nat.reduceMul, Nat.reduceLT, Nat.reduceLeDiff, Nat.reduceEqDiff, Nat.reduceBEq, Int.reduceAdd, Int.reduceSub, Int.reduceMul, Int.reduceNeg, Int.reduceLE, Int.reduceLT, Int.reduceEq, Int.reduceNe, Int.reduceToNat, ↓reduceIte, reduceCtorEq, implies_true, forall_const, eq_self, ne_eq, wtAll, Try.ntmps74, Try.results74, hh_i4]) ?_ | refine HSub_drop2 (by simp only [eq_self, hh_i4]) ?_ | refine HSub_keep_eq (by simp only [vsAll, binA, binLitA, intA, aggA, boolA, nilA2, isConst, unA, loadA, loadRow, partA, partOk, fieldAddrA, indexAddrA, indexA, fieldA, extractA, lenA, nilCheckA, boxA, cellA, cellsA, fillA, okParts, buildSliceA, buildMutA, makeSliceA, partIdx, elemsA, lensA, ifaceA, convA, mmA, pickA, okAll, stAll, opsA, partsA, partsOk, opA, allocA, boxMutA, newCells, okCells, storeObj, appendA, guardV, taA, nM, mapUpA, lookA, sliceA, boundsA, opO, okO, copyA, dstOk, nilA, quietOk, nilSliceOp, panA, resA, argFr, retA.eq_1, retA.eq_2, Nat.reduceAdd, Nat.reduceSub, Nat.reduceMul, Nat.reduceLT, Nat.reduceLeDiff, Nat.reduceEqDiff, Nat.reduceBEq, Int.reduceAdd, Int.reduceSub, Int.reduceMul, Int.reduceNeg, Int.reduceLE, Int.reduceLT, Int.reduceEq, Int.reduceNe, Int.reduceToNat, ↓reduceIte, reduceCtorEq, implies_true, forall_const, eq_self, ne_eq, wtAll, Try.ntmps74, Try.results74, hh_i4]) ?_)))
def smI (m : Int) : Ir := ⟨2, [[3, 5], [3, 7], [6, 5]], [m, 2, m], [[⟨0, 3, 3⟩], [⟨1, 5, 6⟩], []], [⟨0, 0, false⟩, ⟨1, 2, true⟩, ⟨1, 2, false⟩]⟩
theorem ret_le {P : Program} {fv : AV} {args : List AV} {H : Hp} {v v' : AV} (h : PTri P fv args H v) (hle : AV.Le v v') : PTri P fv args H v' := by
  intro S vf vs hH hvf ha
  obtain ⟨nx, h1, h2⟩ := h S vf vs hH hvf ha
  have ho : ∀ e w, Out S (fun r H' => r = .ret v ∧ H' = H) e w → Out S (fun r H' => r = .ret v' ∧ H' = H) e w := by
    rintro e w ⟨S', r, H', hw, hl, hH', hrr, rfl, rfl⟩
    refine ⟨S', .ret v', H', hw, hl, hH', ?_, rfl, rfl⟩
    cases e with
    | returned cv => exact hle S' cv hrr
    | panicked ch => exact hrr.elim
    | outgrown => exact hrr.elim
  refine ⟨nx, h1, ?_⟩
  cases nx <;> simp only [NextOk] at h2 ⊢
  · exact Calls.mono h2 ho
  · exact h2.mono ho
theorem sample_tri (m : Int) (H : Hp) : PTri Try.prog (fnA 42) [i64 m] H (smI m).av := by
  refine ret_le (v := .agg [i64 2, .rsl 3 1 (fun i => [[.rsl 2 1 (fun i => [[i64 3], [i64 5]].getD i [])], [.rsl 2 1 (fun i => [[i64 3], [i64 7]].getD i [])], [.rsl 2 1 (fun i => [[i64 6], [i64 5]].getD i [])]].getD i []),
    .rsl 3 1 (fun i => [[i64 m], [i64 2], [i64 m]].getD i []),
    .rsl 3 1 (fun i => [[.rsl 1 3 (fun i => [[i64 0, i64 3, i64 3]].getD i [])], [.rsl 1 3 (fun i => [[i64 1, i64 5, i64 6]].getD i [])], [.lit (.slice none 0 0)]].getD i []),
    .rsl 3 3 (fun i => [[i64 0, i64 0, boo false], [i64 1, i64 2, boo true], [i64 1, i64 2, boo false]].getD i [])]) ?_ ?_
  · refine tri_vs (m := fun _ => false) Try.func42 (by kernel_rfl) rfl (by simp only [List.length_append, List.length_cons, List.length_nil, Try.ntmps42]; decide) ?_
    simp only [vsAll, cellA, cellsA, okParts, buildSliceA, partIdx, elemsA, lensA, okAll, stAll, opsA, partsA, partsOk, opA, allocA, dstOk, argFr, Nat.reduceAdd, Nat.reduceMul, Nat.reduceLT, Nat.reduceLeDiff, Nat.reduceEqDiff, ↓reduceIte, reduceCtorEq, eq_self, wtAll, Try.ntmps42]
    intro i2 hh_i2; (try simp only [Hp.set_none, ite_none] at hh_i2)
    refine callK_pure (mark_tri 0 3 3 _) ?_
    simp only [vsAll, cellsA, okParts, buildSliceA, partIdx, elemsA, lensA, okAll, stAll, opsA, partsA, partsOk, opA, dstOk, Nat.reduceAdd, Nat.reduceMul, Nat.reduceLT, Nat.reduceLeDiff, ↓reduceIte, eq_self, wtAll]
    refine callK_pure (mark_tri 1 5 6 _) ?_
    simp only [vsAll, cellA, cellsA, okParts, buildSliceA, partIdx, elemsA, lensA, okAll, stAll, opsA, partsA, partsOk, opA, dstOk, Nat.reduceAdd, Nat.reduceMul, Nat.reduceLT, Nat.reduceLeDiff, Nat.reduceEqDiff, ↓reduceIte, eq_self, wtAll]
    refine callK_pure (lhis_tri 0 0 _) ?_
    simp only [vsAll, okAll, stAll, opsA, opA, dstOk, Nat.reduceLT]
    refine callK_pure (lother_tri 1 2 _) ?_
    simp only [vsAll, okAll, stAll, opsA, opA, dstOk, Nat.reduceLT]
    refine callK_pure (lhis_tri 1 2 _) ?_
    simp only [vsAll, cellA, cellsA, fillA, okParts, buildSliceA, partIdx, elemsA, lensA, partsA, partsOk, opA, newCells, okCells, storeObj, dstOk, Nat.reduceAdd, Nat.reduceMul, Nat.reduceLT, Nat.reduceLeDiff, Nat.reduceEqDiff, ↓reduceIte, eq_self, wtAll]
    refine ret0 ?_
    simp only [vsAll, loadA, loadRow, partA, partOk, resA, retA.eq_1, Nat.reduceLT, Nat.reduceEqDiff, ↓reduceIte, eq_self, wtAll, Try.results42]
    exact dropR_pure rfl (by (repeat (first | exact HSub_rfl | refine HSub_put_eq (by simp only [vsAll, binA, binLitA, intA, aggA, boolA, nilA2, isConst, unA, loadA, loadRow, partA, partOk, fieldAddrA, indexAddrA, indexA, fieldA, extractA, lenA, nilCheckA, boxA, cellA, cellsA, fillA, okParts, buildSliceA, buildMutA, makeSliceA, partIdx, elemsA, lensA, ifaceA, convA, mmA, pickA, okAll, stAll, opsA, partsA, partsOk, opA, allocA, boxMutA, newCells, okCells, storeObj, appendA, guardV, taA, nM, mapUpA, lookA, sliceA, boundsA, opO, okO, copyA, dstOk, nilA, quietOk, nilSliceOp, panA, resA, argFr, retA.eq_1, retA.eq_2, Nat.reduceAdd, Nat.reduceSub, Nat.reduceMul, Nat.reduceLT, Nat.reduceLeDiff, Nat.reduceEqDiff, Nat.reduceBEq, Int.reduceAdd, Int.reduceSub, Int.reduceMul, Int.reduceNeg, Int.reduceLE, Int.reduceLT, Int.reduceEq, Int.reduceNe, Int.reduceToNat, ↓reduceIte, reduceCtorEq, implies_true, forall_const, eq_self, ne_eq, wtAll, Try.ntmps42, Try.results42, hh_i2]) ?_ | refine HSub_drop2 (by simp only [eq_self, hh_i2]) ?_ | refine HSub_keep_eq (by simp only [vsAll, binA, binLitA, intA, aggA, boolA, nilA2, isConst, unA, loadA, loadRow, partA, partOk, fieldAddrA, indexAddrA, indexA, fieldA, extractA, lenA, nilCheckA, boxA, cellA, cellsA, fillA, okParts, buildSliceA, buildMutA, makeSliceA, partIdx, elemsA, lensA, ifaceA, convA, mmA, pickA, okAll, stAll, opsA, partsA, partsOk, opA, allocA, boxMutA, newCells, okCells, storeObj, appendA, guardV, taA, nM, mapUpA, lookA, sliceA, boundsA, opO, okO, copyA, dstOk, nilA, quietOk, nilSliceOp, panA, resA, argFr, retA.eq_1, retA.eq_2, Nat.reduceAdd, Nat.reduceSub, Nat.reduceMul, Nat.reduceLT, Nat.reduceLeDiff, Nat.reduceEqDiff, Nat.reduceBEq, Int.reduceAdd, Int.reduceSub, Int.reduceMul, Int.reduceNeg, Int.reduceLE, Int.reduceLT, Int.reduceEq, Int.reduceNe, Int.reduceToNat, ↓reduceIte, reduceCtorEq, implies_true, forall_const, eq_self, ne_eq, wtAll, Try.ntmps42, Try.results42, hh_i2]) ?_)))
  · have two : ∀ a b : Int, AV.Le (.rsl 2 1 (fun i => [[i64 a], [i64 b]].getD i [])) (intsAV [a, b]) := fun a b => AV.Le.rsl fun i hi => by
      match i, hi with
      | 0, _ => rfl
      | 1, _ => rfl
    have one : ∀ a b c : Int, AV.Le (.rsl 1 3 (fun i => [[i64 a, i64 b, i64 c]].getD i [])) (mksAV [⟨a, b, c⟩]) := fun a b c => AV.Le.rsl fun i hi => by
      match i, hi with
      | 0, _ => rfl
    refine AV.Le.aggD rfl fun j hj => ?_
    match j, hj with
    | 0, _ => exact AV.Le.refl _
    | 1, _ =>
      refine AV.Le.rslA (fun i hi => ?_) fun i hi j hj => ?_
      · match i, hi with
        | 0, _ => rfl
        | 1, _ => rfl
        | 2, _ => rfl
      · match i, hi, j, hj with
        | 0, _, 0, _ => exact two 3 5
        | 1, _, 0, _ => exact two 3 7
        | 2, _, 0, _ => exact two 6 5
    | 2, _ =>
      refine AV.Le.rsl fun i hi => ?_
      match i, hi with
      | 0, _ => rfl
      | 1, _ => rfl
      | 2, _ => rfl
    | 3, _ =>
      refine AV.Le.rslA (fun i hi => ?_) fun i hi j hj => ?_
      · match i, hi with
        | 0, _ => rfl
        | 1, _ => rfl
        | 2, _ => rfl
      · match i, hi, j, hj with
        | 0, _, 0, _ => exact one 0 3 3
        | 1, _, 0, _ => exact one 1 5 6
        | 2, _, 0, _ => exact AV.Le.nil 3 _
    | 4, _ =>
      refine AV.Le.rsl fun i hi => ?_
      match i, hi with
      | 0, _ => rfl
      | 1, _ => rfl
      | 2, _ => rfl
end Go.Proofs.Ytkonoggmdcdeeaa
end
section
set_option linter.unusedVariables false
set_option linter.unusedSimpArgs false
set_option maxHeartbeats 4000000
set_option maxRecDepth 100000
namespace Go.Proofs.Ytkonoggmdcdeeaa
open Go.V
theorem sm_ok : Ok (smI 1) ∧ Ok (smI 0) := by decide +kernel
theorem sm1 : ((fitsV (smI 1) 1 : Nat) : Int) = 5 := by decide +kernel
theorem sm2 : fitsE (smI 1) 1 = 0 := by decide +kernel
theorem sm3 : ((countV (smI 1) : Nat) : Int) = 5 := by decide +kernel
theorem sm4 : countE (smI 1) = 0 := by decide +kernel
theorem sm5 : ((canV (smI 1) 2 : Nat) : Int) = 7 := by decide +kernel
theorem sm6 : canE (smI 1) 2 = 0 := by decide +kernel
theorem sm7 : claimV (smI 1) 1 = 1 := by decide +kernel
theorem sm8 : claimE (smI 1) 1 = 0 := by decide +kernel
theorem sm9 : (((falseP (smI 1)).1 : Nat) : Int) = 1 := by decide +kernel
theorem sm10 : (((falseP (smI 1)).2 : Nat) : Int) = 2 := by decide +kernel
theorem sm11 : falseE (smI 1) = 0 := by decide +kernel
theorem sm12 : ((likV (smI 1) 2 : Nat) : Int) = 2 := by decide +kernel
theorem sm13 : likE (smI 1) 2 = 0 := by decide +kernel
theorem sm14 : ((setV (errE (smI 1) true true) (clashR (smI 1)) : Nat) : Int) = 3 := by decide +kernel
theorem sm15 : setE (errE (smI 1) true true) (clashR (smI 1)) = 0 := by decide +kernel
theorem sm16 : ((setV (errE (smI 0) true false) (shortR (smI 0)) : Nat) : Int) = 2 := by decide +kernel
theorem sm17 : setE (errE (smI 0) true false) (shortR (smI 0)) = 0 := by decide +kernel
theorem awake_tri (H : Hp) : PTri Try.prog (fnA 14) [] H (boo true) := by
  have k1 := sm_ok.1.near
  have k0 := sm_ok.2.near
  refine Tri.drop ?_
  refine tri_v0 (fun _ => false) Try.func14 (by kernel_rfl) rfl (by simp only [List.length_append, List.length_nil, Try.ntmps14]; decide) ?_
  simp only [vsAll, okAll, stAll, opsA, opA, dstOk, nilSliceOp, Nat.reduceLT, eq_self, Try.ntmps14]
  refine callK_pure (sample_tri 1 _) ?_
  simp only [vsAll, loadA, loadRow, partA, partOk, cellA, cellsA, okAll, stAll, opsA, opA, allocA, newCells, okCells, storeObj, dstOk, Nat.reduceAdd, Nat.reduceLT, Nat.reduceEqDiff, ↓reduceIte, eq_self, wtAll]
  intro i1 hh_i1; (try simp only [Hp.set_none, ite_none] at hh_i1)
  refine callK_pure (wfits_tri (smI 1) 1 _ k1) ?_
  simp only [vsAll, loadA, loadRow, partA, partOk, extractA, okAll, stAll, opsA, opA, dstOk, nilSliceOp, Nat.reduceAdd, Nat.reduceLT, Nat.reduceEqDiff, ↓reduceIte, eq_self, wtAll, sm1, sm2]
  refine callK_pure (wcount_tri (smI 1) _ k1) ?_
  simp only [vsAll, loadA, loadRow, partA, partOk, extractA, okAll, stAll, opsA, opA, dstOk, nilSliceOp, Nat.reduceAdd, Nat.reduceLT, Nat.reduceEqDiff, ↓reduceIte, eq_self, wtAll, sm3, sm4]
  refine callK_pure (wcan_tri (smI 1) 2 _ k1) ?_
  simp only [vsAll, loadA, loadRow, partA, partOk, extractA, okAll, stAll, opsA, opA, dstOk, nilSliceOp, Nat.reduceAdd, Nat.reduceLT, Nat.reduceEqDiff, ↓reduceIte, eq_self, wtAll, sm5, sm6]
  refine callK_pure (wclaim_tri (smI 1) 1 _ k1) ?_
  simp only [vsAll, loadA, loadRow, partA, partOk, extractA, okAll, stAll, opsA, opA, dstOk, nilSliceOp, Nat.reduceAdd, Nat.reduceLT, Nat.reduceEqDiff, ↓reduceIte, eq_self, wtAll, sm7, sm8]
  refine callK_pure (wfalse_tri (smI 1) _ k1) ?_
  simp only [vsAll, loadA, loadRow, partA, partOk, extractA, okAll, stAll, opsA, opA, dstOk, nilSliceOp, Nat.reduceAdd, Nat.reduceLT, Nat.reduceEqDiff, ↓reduceIte, eq_self, wtAll, sm9, sm10, sm11]
  refine callK_pure (wlikely_tri (smI 1) 2 _ k1) ?_
  simp only [vsAll, loadA, loadRow, partA, partOk, extractA, okAll, stAll, opsA, opA, dstOk, nilSliceOp, Nat.reduceAdd, Nat.reduceLT, Nat.reduceEqDiff, ↓reduceIte, eq_self, wtAll, sm12, sm13]
  refine callK_pure (wclash_tri (smI 1) _ k1) ?_
  simp only [vsAll, extractA, okAll, stAll, opsA, opA, dstOk, nilSliceOp, Nat.reduceAdd, Nat.reduceLT, Nat.reduceEqDiff, ↓reduceIte, eq_self, sm14, sm15]
  refine callK_pure (sample_tri 0 _) ?_
  simp only [vsAll, okAll, stAll, opsA, opA, dstOk, Nat.reduceLT, ↓reduceIte, eq_self]
  refine callK_pure (wshort_tri (smI 0) _ k0) ?_
  simp only [vsAll, binA, binLitA, intA, extractA, pickA, opA, guardV, dstOk, nilSliceOp, resA, retA.eq_1, Nat.reduceAdd, Nat.reduceLT, Nat.reduceEqDiff, ↓reduceIte, implies_true, eq_self, Try.results14, sm16, sm17]
  exact dropR_pure rfl (by (repeat (first | exact HSub_rfl | refine HSub_put_eq (by simp only [vsAll, binA, binLitA, intA, aggA, boolA, nilA2, isConst, unA, loadA, loadRow, partA, partOk, fieldAddrA, indexAddrA, indexA, fieldA, extractA, lenA, nilCheckA, boxA, cellA, cellsA, fillA, okParts, buildSliceA, buildMutA, makeSliceA, partIdx, elemsA, lensA, ifaceA, convA, mmA, pickA, okAll, stAll, opsA, partsA, partsOk, opA, allocA, boxMutA, newCells, okCells, storeObj, appendA, guardV, taA, nM, mapUpA, lookA, sliceA, boundsA, opO, okO, copyA, dstOk, nilA, quietOk, nilSliceOp, panA, resA, argFr, retA.eq_1, retA.eq_2, Nat.reduceAdd, Nat.reduceSub, Nat.reduceMul, Nat.reduceLT, Nat.reduceLeDiff, Nat.reduceEqDiff, Nat.reduceBEq, Int.reduceAdd, Int.reduceSub, Int.reduceMul, Int.reduceNeg, Int.reduceLE, Int.reduceLT, Int.reduceEq, Int.reduceNe, Int.reduceToNat, ↓reduceIte, reduceCtorEq, implies_true, forall_const, eq_self, ne_eq, wtAll, Try.ntmps14, Try.results14, hh_i1]) ?_ | refine HSub_drop2 (by simp only [eq_self, hh_i1]) ?_ | refine HSub_keep_eq (by simp only [vsAll, binA, binLitA, intA, aggA, boolA, nilA2, isConst, unA, loadA, loadRow, partA, partOk, fieldAddrA, indexAddrA, indexA, fieldA, extractA, lenA, nilCheckA, boxA, cellA, cellsA, fillA, okParts, buildSliceA, buildMutA, makeSliceA, partIdx, elemsA, lensA, ifaceA, convA, mmA, pickA, okAll, stAll, opsA, partsA, partsOk, opA, allocA, boxMutA, newCells, okCells, storeObj, appendA, guardV, taA, nM, mapUpA, lookA, sliceA, boundsA, opO, okO, copyA, dstOk, nilA, quietOk, nilSliceOp, panA, resA, argFr, retA.eq_1, retA.eq_2, Nat.reduceAdd, Nat.reduceSub, Nat.reduceMul, Nat.reduceLT, Nat.reduceLeDiff, Nat.reduceEqDiff, Nat.reduceBEq, Int.reduceAdd, Int.reduceSub, Int.reduceMul, Int.reduceNeg, Int.reduceLE, Int.reduceLT, Int.reduceEq, Int.reduceNe, Int.reduceToNat, ↓reduceIte, reduceCtorEq, implies_true, forall_const, eq_self, ne_eq, wtAll, Try.ntmps14, Try.results14, hh_i1]) ?_)))
end Go.Proofs.Ytkonoggmdcdeeaa
end
section
set_option linter.unusedVariables false
set_option linter.unusedSimpArgs false
set_option maxHeartbeats 4000000
set_option maxRecDepth 100000
namespace Go.Proofs.Ytkonoggmdcdeeaa
open Go.V
/-- How many claims are false in a truth. -/
def popW (x : Ir) (t : List Int) : Nat := pop (wrongT x t)
def clrB (x : Ir) (o : List (List Int)) (t : List Int) : Bool := decide (0 < o.length) && decide (popW x t < popW x (o.getD 0 []))
def addB (x : Ir) (o : List (List Int)) (t : List Int) : Bool := decide (o.length = 0) || decide (popW x t = popW x (o.getD 0 []))
def bst1 (x : Ir) (o : List (List Int)) (t : List Int) : List (List Int) := if addB x o t = true then o ++ [t] else o
def bstN (x : Ir) : Nat → List (List Int)
  | 0 => []
  | i + 1 => bst1 x (if clrB x (bstN x i) ((truA x).getD i []) = true then [] else bstN x i) ((truA x).getD i [])
def bestL (x : Ir) : List (List Int) := bstN x (truA x).length
end Go.Proofs.Ytkonoggmdcdeeaa
end
section
set_option linter.unusedVariables false
set_option linter.unusedSimpArgs false
set_option maxHeartbeats 4000000
set_option maxRecDepth 100000
namespace Go.Proofs.Ytkonoggmdcdeeaa
open Go.V
/-- The least set of false claims of the first ones. -/
def mnN (x : Ir) (L : List (List Int)) : Nat → Nat
  | 0 => wrongT x (L.getD 0 [])
  | i + 1 => min (mnN x L i) (wrongT x (L.getD i []))
def rfalP (x : Ir) : Nat × Nat := if falseE x = 0 then (pop (mnN x (bestL x) (bestL x).length), mnN x (bestL x) (bestL x).length) else (0, 0)
def rlikV (x : Ir) (s : Int) : Nat := if likE x s = 0 then who (bestL x) s.toNat else 0
end Go.Proofs.Ytkonoggmdcdeeaa
end
section
set_option linter.unusedVariables false
set_option linter.unusedSimpArgs false
namespace Go.Proofs.Ytkonoggmdcdeeaa
open Go.V
def moreK (x : Ir) (C k : Nat) (s : Nat) (o : Int) (r : Nat × Nat) : Nat × Nat := (r.1 + (wrO x C s o k).1, r.2 + (wrO x C s o k).2)
/-- A claim is false, and of one of these strakes. -/
def flB (x : Ir) (C k s : Nat) (t : List Int) : Bool := decide (s ≤ (x.cl.getD k cl0).s.toNat ∧ (x.cl.getD k cl0).s.toNat < s + t.length) && C.testBit k && !rightO (x.cl.getD k cl0) (t.getD ((x.cl.getD k cl0).s.toNat - s) 0)
end Go.Proofs.Ytkonoggmdcdeeaa
end
section
set_option linter.unusedVariables false
set_option linter.unusedSimpArgs false
namespace Go.Proofs.Ytkonoggmdcdeeaa
open Go.V
theorem fitB_with {x : Ir} (k : Ok x) {s o o' s' : Nat} (ho : o' < x.ow.length) (hs : s' < x.st.length) : fitB (withI x s o) o' s' = (fitB x o' s' && (decide (s' ≠ s) || decide (o' = o))) := by
  have hfl := k.ow o' ho
  unfold fitB
  rw [withI_ow ho, withI_st hs]
  have hold : (x.st.getD s' []).all (fitM (owW x o o')) = (x.st.getD s' []).all (fitM (x.ow.getD o' [])) := by
    rw [Bool.eq_iff_iff, List.all_eq_true, List.all_eq_true]
    have hm : ∀ m ∈ x.st.getD s' [], fitM (owW x o o') m = fitM (x.ow.getD o' []) m := fun m hm => by
      obtain ⟨i, hi, rfl⟩ := List.getElem_of_mem hm
      have hsf := k.sf s' hs i hi
      have e1 : (x.st.getD s' []).getD i mk0 = (x.st.getD s' [])[i] := by rw [List.getD_eq_getElem?_getD, List.getElem?_eq_getElem hi]; rfl
      rw [e1] at hsf
      unfold fitM
      rw [owW, getD_snoc, if_neg (by omega)]
    exact ⟨fun h m hm' => by rw [← hm m hm']; exact h m hm', fun h m hm' => by rw [hm m hm']; exact h m hm'⟩
  unfold stW
  by_cases e : s' = s
  · rw [if_pos e, List.all_append, hold]
    congr 1
    rw [show decide (s' ≠ s) = false from decide_eq_false (by simp [e]), Bool.false_or]
    simp only [List.all_cons, List.all_nil, Bool.and_true, fitM]
    have eg : (owW x o o').getD x.F.toNat 0 = if o' = o then 1 else 0 := by
      rw [owW, getD_snoc, if_pos (by omega)]
    rw [eg]
    by_cases e2 : o' = o
    · rw [if_pos e2, decide_eq_true e2]; rfl
    · rw [if_neg e2, decide_eq_false e2]; rfl
  · rw [if_neg e, hold, show decide (s' ≠ s) = true from decide_eq_true e, Bool.true_or, Bool.and_true]
theorem filter_flat {α β : Type} (p : β → Bool) (f : α → List β) (l : List α) : (l.flatMap f).filter p = l.flatMap fun a => (f a).filter p := by
  induction l with
  | nil => rfl
  | cons a l ih => simp only [List.flatMap_cons, List.filter_append, ih]
theorem flat_congr {α β : Type} {f g : α → List β} : ∀ {l : List α}, (∀ a ∈ l, f a = g a) → l.flatMap f = l.flatMap g
  | [], _ => rfl
  | a :: l, h => by
    simp only [List.flatMap_cons, h a (by simp), flat_congr (l := l) fun b hb => h b (by simp [hb])]
theorem tru_with {x : Ir} (k : Ok x) {s o : Nat} (hs : s < x.st.length) (ho : o < x.ow.length) (S : Nat) (hS : ∀ j, j < x.st.length → S.testBit j = true) :
    ∀ n b, b.length + n = x.st.length → tru (withI x s o) S n b = (tru x S n b).filter fun t => decide (s < b.length) || decide (t.getD s 0 = (o : Int)) := by
  have lo : (withI x s o).ow.length = x.ow.length := by simp [withI]
  intro n
  induction n with
  | zero =>
    intro b hb
    simp only [tru]
    rw [List.filter_cons_of_pos (by rw [decide_eq_true (by omega)]; rfl)]
    rfl
  | succ n ih =>
    intro b hb
    have hbit := hS b.length (by omega)
    simp only [tru, hbit, if_true, lo]
    rw [filter_flat]
    refine flat_congr fun o' ho' => ?_
    rw [List.mem_range] at ho'
    have hcan : canO (withI x s o) b o' = (canO x b o' && (decide (b.length ≠ s) || decide (o' = o))) := by
      simp only [canO, fitB_with k ho' (show b.length < x.st.length by omega)]
      rw [show (withI x s o).mo = x.mo from rfl, Bool.and_assoc, Bool.and_assoc, Bool.and_comm (decide _ || decide _)]
    rw [hcan]
    have hlen : (b ++ [(o' : Int)]).length = b.length + 1 := by simp
    by_cases hc : canO x b o' = true
    · rw [hc, Bool.true_and, if_pos rfl]
      have hm : ∀ t ∈ tru x S n (b ++ [(o' : Int)]), t.getD b.length 0 = (o' : Int) := fun t ht => by
        rw [(tru_mem ht).2.1 b.length (by omega), getD_snoc, if_pos rfl]
      by_cases e : b.length = s
      · have e1 : decide (b.length ≠ s) = false := decide_eq_false (by simp [e])
        rw [e1, Bool.false_or]
        by_cases e2 : o' = o
        · rw [if_pos (by rw [decide_eq_true e2]), ih _ (by omega)]
          subst e2
          rw [List.filter_eq_self.2 fun t ht => by rw [decide_eq_true (by omega)]; rfl]
          rw [List.filter_eq_self.2 fun t ht => by rw [← e, decide_eq_true (hm t ht)]; simp]
        · rw [if_neg (by rw [decide_eq_false e2]; decide)]
          rw [List.filter_eq_nil_iff.2]
          intro t ht
          have := hm t ht
          rw [e] at this
          rw [decide_eq_false (by omega), decide_eq_false (by omega)]
          decide
      · rw [if_pos (by rw [decide_eq_true e]; rfl), ih _ (by omega)]
        congr 1
        funext t
        rw [hlen]
        by_cases q : s < b.length
        · rw [decide_eq_true q, decide_eq_true (by omega : s < b.length + 1)]
        · rw [decide_eq_false q, decide_eq_false (by omega : ¬ s < b.length + 1)]
    · rw [Bool.not_eq_true] at hc
      rw [hc, Bool.false_and]
      rfl
theorem truA_with {x : Ir} (k : Ok x) {s o : Nat} (hs : s < x.st.length) (ho : o < x.ow.length) : truS (withI x s o) (fullS x) = (truA x).filter fun t => decide (t.getD s 0 = (o : Int)) := by
  have ls : (withI x s o).st.length = x.st.length := by simp [withI]
  have h := tru_with k hs ho (fullS x) (fun j hj => full_bit _ _ hj) x.st.length [] (by simp)
  rw [truS, ls, h]
  congr 1
end Go.Proofs.Ytkonoggmdcdeeaa
end
section
set_option linter.unusedVariables false
set_option linter.unusedSimpArgs false
namespace Go.Proofs.Ytkonoggmdcdeeaa
open Go.V
theorem tru_fit {x : Ir} {S : Nat} : ∀ {n : Nat} {b t : List Int}, t ∈ tru x S n b → ∀ j, b.length ≤ j → j < b.length + n → S.testBit j = true → fitB x (t.getD j 0).toNat j = true := by
  intro n
  induction n with
  | zero => intro b t _ j h1 h2; omega
  | succ n ih =>
    intro b t h j h1 h2 hj
    cases hb : S.testBit b.length with
    | true =>
      rw [tru_yes hb, truP_mem] at h
      obtain ⟨o, ho, hc, h⟩ := h
      by_cases e : j = b.length
      · subst e
        have := (tru_mem h).2.1 b.length (by simp)
        rw [this, getD_snoc, if_pos rfl, Int.toNat_natCast]
        simp only [canO, Bool.and_eq_true] at hc
        exact hc.1
      · exact ih h j (by simp; omega) (by simp; omega) hj
    | false =>
      rw [tru_no hb] at h
      by_cases e : j = b.length
      · subst e; rw [hb] at hj; cases hj
      · exact ih h j (by simp; omega) (by simp; omega) hj
end Go.Proofs.Ytkonoggmdcdeeaa
end
section
set_option linter.unusedVariables false
set_option linter.unusedSimpArgs false
set_option maxHeartbeats 4000000
set_option maxRecDepth 100000
namespace Go.Proofs.Ytkonoggmdcdeeaa
open Go.V
/-- All claims of a set, of the first ones, are right in a truth. -/
def okR (x : Ir) (set : Nat) (t : List Int) : Nat → Bool
  | 0 => true
  | n + 1 => okR x set t n && (!set.testBit n || rightT x t n)
/-- In no truth all are. -/
def clsB (x : Ir) (L : List (List Int)) (set : Nat) : Bool := L.all fun t => !okR x set t x.cl.length
/-- The smallest set, as the document looks for it: from all, each that is smaller. -/
def bsN (f : Nat → Bool) (b : Nat) : Nat → Nat
  | 0 => b
  | j + 1 => if (decide (pop j < pop (bsN f b j)) && f j) = true then j else bsN f b j
def rset (f : Nat → Bool) (m : Nat) : Option Nat := if f (2 ^ m - 1) = true then some (bsN f (2 ^ m - 1) (2 ^ m)) else none
end Go.Proofs.Ytkonoggmdcdeeaa
end
section
set_option linter.unusedVariables false
set_option linter.unusedSimpArgs false
set_option maxHeartbeats 4000000
set_option maxRecDepth 100000
namespace Go.Proofs.Ytkonoggmdcdeeaa
open Go.V
/-- There is no truth with the strakes of a set alone. -/
def shD (x : Ir) (set : Nat) : Bool := decide ((truS x set).length = 0)
end Go.Proofs.Ytkonoggmdcdeeaa
end
section
set_option linter.unusedVariables false
set_option linter.unusedSimpArgs false
namespace Go.Proofs.Ytkonoggmdcdeeaa
open Go.V
/-- The least set that suits. -/
structure LeastSet (f : Nat → Bool) (m r : Nat) : Prop where
  lt : r < 2 ^ m
  is : f r = true
  le : ∀ i, i < 2 ^ m → f i = true → pop r < pop i ∨ pop r = pop i ∧ r ≤ i
theorem LeastSet.uniq {f : Nat → Bool} {m r r' : Nat} (h : LeastSet f m r) (h' : LeastSet f m r') : r = r' := by
  have h1 := h.le r' h'.lt h'.is
  have h2 := h'.le r h.lt h.is
  omega
/-- No claim of a set is false from this strake on. -/
def noF (x : Ir) (C s : Nat) (t : List Int) : Bool := (List.range x.cl.length).all fun k => !flB x C k s t
end Go.Proofs.Ytkonoggmdcdeeaa
end
section
set_option linter.unusedVariables false
set_option linter.unusedSimpArgs false
set_option maxHeartbeats 4000000
set_option maxRecDepth 100000
namespace Go.Proofs.Ytkonoggmdcdeeaa
open Go.V
/-- Irons of which a strake is known to be an owner's are not too large. -/
def fxB (x : Ir) (s : Nat) : Bool := decide (x.F + 1 ≤ 4) && decide ((x.st.getD s []).length + 1 ≤ 6)
def rowF (x : Ir) (o : Nat) : Nat → List AV := fun j => [intsAV (owW x o j)]
theorem rowF_step {x : Ir} {o i : Nat} {z : Int} (ez : owW x o i = x.ow.getD i [] ++ [z]) :
    Obj.Le (.row 1 (i + 1) (appF i 1 (rowF x o) fun q => [[AV.rsl ((x.ow.getD i []).length + 1) 1 (extF (x.ow.getD i []) z)]].getD q [])) (.row 1 (i + 1) (rowF x o)) := by
  refine row_leA (fun q hq => ?_) fun q hq c hc => ?_
  · rw [appF_at (by omega)]
    split
    · rfl
    · rw [show q - i = 0 by omega]; rfl
  · have hc0 : c = 0 := by omega
    subst hc0
    rw [appF_at (by omega)]
    split
    · exact AV.Le.refl _
    · have hq2 : q = i := by omega
      subst hq2
      rw [Nat.sub_self]
      simp only [List.getD_cons_zero, rowF, ez, intsAV, List.length_append, List.length_cons, List.length_nil, Nat.zero_add]
      exact AV.Le.rsl fun j hj => cp_app _ _ j hj
theorem rowF_frz {x : Ir} {o i iz q c w : Nat} {F : Nat → List AV} (hq : q < i + 1) (hc : c < 1) :
    Frz iz 1 w F ((appF i 1 (rowF x o) (fun q => [[AV.sl iz 1 w]].getD q []) q).getD c .any) ((appF i 1 (rowF x o) (fun q => [[AV.rsl w 1 F]].getD q []) q).getD c .any) := by
  have hc0 : c = 0 := by omega
  subst hc0
  rw [appF_at (by omega), appF_at (by omega)]
  split
  · exact Frz.rfl
  · rw [show q - i = 0 by omega]; exact Frz.hit
theorem rowF_le (x : Ir) (s o : Nat) : AV.Le (.rsl x.ow.length 1 (rowF x o)) (llAV (withI x s o).ow) := by
  have hl : (withI x s o).ow.length = x.ow.length := by simp [withI]
  simp only [llAV, hl]
  refine AV.Le.rsl fun i hi => ?_
  simp only [rowF, llF, withI, getD_mapR _ _ _ _ hi]
theorem st_leF (x : Ir) (s o : Nat) (hs : s < x.st.length) : AV.Le (.rsl x.st.length 1 fun j => if j = s then [.rsl ((x.st.getD s []).length + 1) 3 (extM (x.st.getD s []) x.F)] else stF x.st j) (stAV (withI x s o).st) := by
  have hl : (withI x s o).st.length = x.st.length := by simp [withI]
  simp only [stAV, hl]
  refine AV.Le.rslA (fun i hi => ?_) fun i hi j hj => ?_
  · split <;> rfl
  · have hj0 : j = 0 := by omega
    subst hj0
    have e : stF (withI x s o).st i = [mksAV (stW x s i)] := by simp only [stF, withI, getD_mapR _ _ _ _ hi]
    rw [e]
    by_cases eq : i = s
    · subst eq
      rw [if_pos rfl]
      simp only [List.getD_cons_zero, stW, if_true, mksAV, List.length_append, List.length_cons, List.length_nil, Nat.zero_add]
      exact AV.Le.rsl fun q hq => extM_at _ _ q hq
    · rw [if_neg eq]
      simp only [stW, eq, if_false]
      exact AV.Le.refl _
theorem stF_frz {x : Ir} {s im q c w : Nat} {F : Nat → List AV} (hs : s < x.st.length) (hq : q < x.st.length) (hc : c < 1) :
    Frz im 3 w F ((updF x.st.length s (stF x.st) [AV.sl im 3 w] q).getD c .any) ((if q = s then [AV.rsl w 3 F] else stF x.st q).getD c .any) := by
  have hc0 : c = 0 := by omega
  subst hc0
  rw [updF_at hs hq]
  split
  · exact Frz.hit
  · exact Frz.rfl
theorem fixed_tri (x : Ir) (s o : Nat) (H : Hp) (k : Ok x) (hs : s < x.st.length) (ho : o < x.ow.length) :
    PTri Try.prog (fnA 34) [x.av, i64 s, i64 o] H (.tuple [(withI x s o).av, boo (fxB x s)]) := by
  have nO := k.nO
  have nS := k.nS
  have hF := k.F
  refine tri_vs (m := mset [17, 20, 36, 38, 41, 43, 49, 55, 60]) Try.func34 (by kernel_rfl) rfl (by simp only [List.length_append, List.length_cons, List.length_nil, Try.ntmps34]; decide) ?_
  simp only [vsAll, binA, binLitA, intA, loadA, loadRow, partA, partOk, fieldAddrA, lenA, boxA, cellA, cellsA, okParts, buildMutA, partIdx, elemsA, lensA, partsA, partsOk, opA, allocA, newCells, okCells, storeObj, appendA, dstOk, nilSliceOp, argFr, Nat.reduceAdd, Nat.reduceMul, Nat.reduceLT, Nat.reduceLeDiff, Nat.reduceEqDiff, Nat.reduceBEq, ↓reduceIte, eq_self, wtAll, Try.ntmps34]
  intro i6 hh_i6; (try simp only [Hp.set_none, ite_none] at hh_i6)
  intro i8 hh_i8; (try simp only [ite_none] at hh_i8)
  refine ⟨by simp only [InR_i64]; ((try clear hh_i6); (try clear hh_i8); omega), ?_⟩
  intro ist hh_ist; (try simp only [ite_none] at hh_ist)
  simp only [vsAll, Nat.reduceLT, ↓reduceIte, eq_self, hh_ist]
  refine ⟨fun i hi => by simp [stF, okCells, cellA], by ((try clear hh_i6); (try clear hh_i8); (try clear hh_ist); omega), by ((try clear hh_i6); (try clear hh_i8); (try clear hh_ist); omega), ?_⟩
  refine vs_entL (Ent.nilBox 1 (fun _ => []) (fun id _ => [i64 (x.F + 1), .sl id 1 0, intsAV x.mo, .sl ist 1 x.st.length, clAV x.cl]) (j := i8) (st' := 5) (n' := 1) (g := fun _ => [i64 (x.F + 1), .lit (.slice none 0 0), intsAV x.mo, .sl ist 1 x.st.length, clAV x.cl]) (by simp only [vsAll, ↓reduceIte, eq_self]) (fun _ _ _ => rfl) (fun id q d hq hd => ?_) fun iow hiow => ?_)
  · match d, hd with
    | 0, _ => exact Nld.rfl
    | 1, _ => exact Nld.hit
    | 2, _ => exact Nld.rfl
    | 3, _ => exact Nld.rfl
    | 4, _ => exact Nld.rfl
  simp only [Hp.set_none] at hiow
  have d1 := hiow.1
  have d2 := hiow.2.1
  skip
  refine vs_loop (σ := Nat) (fun i => i ≤ x.ow.length) (fun i => [(1, i64 s), (2, i64 o), (3, .rptr 1 5 (fun _ => x.cs) 0 0), (6, .ref i6 0 5 0 0), (8, .ref i8 0 5 0 0), (24, llAV x.ow), (25, i64 x.ow.length), (26, i64 i)])
    (fun i => ((((H.set i6 (.box 5 1 fun _ => [i64 0, .lit (.slice none 0 0), .lit (.slice none 0 0), .lit (.slice none 0 0), .lit (.slice none 0 0)])).set ist (.row 1 x.st.length (stF x.st))).set iow (.row 1 i (rowF x o))).set i8 (.box 5 1 fun _ => [i64 (x.F + 1), .sl iow 1 i, intsAV x.mo, .sl ist 1 x.st.length, clAV x.cl]))) (fun i => x.ow.length - i) 0 (by ((try clear hh_i6); (try clear hh_i8); (try clear hh_ist); (try clear d1); (try clear d2); (try clear hiow); omega)) ?_ ?_ fun i hi => ?_
  · simp only [vsAll, argFr, Nat.reduceEqDiff, ↓reduceIte, eq_self, Int.natCast_zero]
  · refine HSub.set (HSub.set (HSub_drop2 (by simp only [vsAll, ↓reduceIte, eq_self, hh_i8, hh_ist]) (HSub_drop2 (by simp only [vsAll, ↓reduceIte, eq_self, hh_i8, hh_ist]) (HSub.set (HSub_drop2 (by simp only [vsAll, ↓reduceIte, eq_self, hh_ist]) (HSub_drop2 (by simp only [vsAll, ↓reduceIte, eq_self, hh_i8]) (HSub_drop2 (by simp only [vsAll, ↓reduceIte, eq_self, hh_i8]) (HSub_drop2 (by simp only [vsAll, ↓reduceIte, eq_self, hh_i8]) HSub_rfl)))) (row_ext fun q hq => ?_)))) (row_ext fun q hq => absurd hq (Nat.not_lt_zero q))) (.refl _)
    rw [appF_at (by ((try clear hh_i6); (try clear hh_i8); (try clear hh_ist); (try clear d1); (try clear d2); (try clear hiow); omega)), if_neg (by ((try clear hh_i6); (try clear hh_i8); (try clear hh_ist); (try clear d1); (try clear d2); (try clear hiow); omega)), Nat.sub_zero]
  · simp only [vsAll, binA, binLitA, intA, opA, dstOk, Nat.reduceLT, Nat.reduceEqDiff, ↓reduceIte, eq_self]
    refine condD (fun hd => ?_) (fun hd => ?_)
    · have hfl := k.ow i (by ((try clear hh_i6); (try clear hh_i8); (try clear hh_ist); (try clear d1); (try clear d2); (try clear hiow); omega))
      simp only [vsAll, binA, binLitA, intA, loadA, loadRow, partA, partOk, indexAddrA, opA, dstOk, nilSliceOp, Nat.reduceLT, Nat.reduceEqDiff, Nat.reduceBEq, ↓reduceIte, eq_self, wtAll, llF_at]
      refine ⟨by ((try clear hh_i6); (try clear hh_i8); (try clear hh_ist); (try clear d1); (try clear d2); (try clear hiow); omega), by ((try clear hh_i6); (try clear hh_i8); (try clear hh_ist); (try clear d1); (try clear d2); (try clear hiow); omega), condV (fun hc => ?_) (fun hc => ?_)⟩
      · have hc : i = o := by have := of_decide_eq_true hc; ((try clear hh_i6); (try clear hh_i8); (try clear hh_ist); (try clear d1); (try clear d2); (try clear hiow); omega)
        have ez : owW x o i = x.ow.getD i [] ++ [1] := by simp only [owW, hc, if_true]
        simp only [vsAll, opA, dstOk, nilSliceOp, Nat.reduceLT, Nat.reduceBEq, eq_self]
        refine vs_draw2 [0, 0, 1, 0, 3, 0, 0, 5, 6, 7, 8, 9] [([0, 1, 3, 5, 6], [1], 2), ([], [1], 4), ([], [1], 7), ([8], [], 9), ([10], [], 11)] [] (by decide +kernel) ?_
        simp only [vsAll, binA, binLitA, intA, loadA, loadRow, partA, partOk, fieldAddrA, cellA, cellsA, okParts, buildSliceA, buildMutA, partIdx, elemsA, lensA, partsA, partsOk, opA, newCells, okCells, storeObj, appendA, dstOk, Nat.reduceAdd, Nat.reduceMul, Nat.reduceLT, Nat.reduceLeDiff, Nat.reduceEqDiff, Nat.reduceBEq, ↓reduceIte, eq_self, wtAll, d1]
        intro iz hh_iz; (try simp only [ite_none] at hh_iz)
        simp only [vsAll, Nat.reduceLT, ↓reduceIte, eq_self, hh_iz]
        refine ⟨fun q hq => by simp [intF, okCells, cellA], by ((try clear hh_i6); (try clear hh_i8); (try clear hh_ist); (try clear d1); (try clear d2); (try clear hiow); (try clear hh_iz); omega), by ((try clear hh_i6); (try clear hh_i8); (try clear hh_ist); (try clear d1); (try clear d2); (try clear hiow); (try clear hh_iz); omega), fun q hq => by simp [okCells, cellA, show q = 0 by ((try clear hh_i6); (try clear hh_i8); (try clear hh_ist); (try clear d1); (try clear d2); (try clear hiow); (try clear hh_iz); omega)], by ((try clear hh_i6); (try clear hh_i8); (try clear hh_ist); (try clear d1); (try clear d2); (try clear hiow); (try clear hh_iz); omega), by ((try clear hh_i6); (try clear hh_i8); (try clear hh_ist); (try clear d1); (try clear d2); (try clear hiow); (try clear hh_iz); omega), fun q hq => by simp [okCells, cellA, show q = 0 by ((try clear hh_i6); (try clear hh_i8); (try clear hh_ist); (try clear d1); (try clear d2); (try clear hiow); (try clear hh_iz); omega)], by ((try clear hh_i6); (try clear hh_i8); (try clear hh_ist); (try clear d1); (try clear d2); (try clear hiow); (try clear hh_iz); omega), by ((try clear hh_i6); (try clear hh_i8); (try clear hh_ist); (try clear d1); (try clear d2); (try clear hiow); (try clear hh_iz); omega), by simp only [InR_i64]; ((try clear hh_i6); (try clear hh_i8); (try clear hh_ist); (try clear d1); (try clear d2); (try clear hiow); (try clear hh_iz); omega), ?_⟩
        rw [Hp.set_set, Hp.set_set]
        refine loop_ent (Ent.freezeRow (s' := _) (id := iz) (st := 1) (n := (x.ow.getD i []).length + 1) (f := extF (x.ow.getD i []) 1) (j := iow) (st' := 1) (n' := i + 1) (g := appF i 1 (rowF x o) (fun q => [[AV.sl iz 1 ((x.ow.getD i []).length + 1)]].getD q []))
          (g' := appF i 1 (rowF x o) (fun q => [[AV.rsl ((x.ow.getD i []).length + 1) 1 (extF (x.ow.getD i []) 1)]].getD q [])) (by simp only [vsAll, ↓reduceIte, eq_self, hh_iz]) (by simp only [vsAll, ↓reduceIte, eq_self, d1]) (by simp only [vsAll, ne_eq, hh_iz]) (fun t => .rfl) (fun q hq => ?_) (fun q c hq hc' => rowF_frz hq hc') ?_)
        · rw [appF_at (by ((try clear hh_i6); (try clear hh_i8); (try clear hh_ist); (try clear d1); (try clear d2); (try clear hiow); (try clear hh_iz); omega))]
          split
          · rfl
          · rw [show q - i = 0 by ((try clear hh_i6); (try clear hh_i8); (try clear hh_ist); (try clear d1); (try clear d2); (try clear hiow); (try clear hh_iz); omega)]; rfl
        · refine loop_next (i + 1) (by ((try clear hh_i6); (try clear hh_i8); (try clear hh_ist); (try clear d1); (try clear d2); (try clear hiow); (try clear hh_iz); omega)) (by ((try clear hh_i6); (try clear hh_i8); (try clear hh_ist); (try clear d1); (try clear d2); (try clear hiow); (try clear hh_iz); omega)) ?_ ?_
          · simp only [vsAll, Nat.reduceEqDiff, ↓reduceIte, eq_self, Int.natCast_add, Int.natCast_one]
          · exact HSub_put (o' := .box 5 1 fun _ => [i64 (x.F + 1), .sl iow 1 (i + 1), intsAV x.mo, .sl ist 1 x.st.length, clAV x.cl]) (by simp only [vsAll, ↓reduceIte, eq_self, d1, hh_iz, Hp.del_get]) (.refl _) (HSub.set (HSub_del (by simp only [vsAll, ↓reduceIte, eq_self, hh_iz]) (HSub_drop2 (by simp only [vsAll, ↓reduceIte, eq_self, hh_i8, hh_ist]) (HSub_drop2 (by simp only [vsAll, ↓reduceIte, eq_self, hiow]) (HSub_drop2 (by simp only [vsAll, ↓reduceIte, eq_self, hh_iz]) (HSub_drop2 (by simp only [vsAll, ↓reduceIte, eq_self, hh_i8, hh_ist]) (HSub_drop2 (by simp only [vsAll, ↓reduceIte, eq_self, hiow]) HSub_rfl)))))) (rowF_step ez))
      · have hc : ¬ i = o := by have := of_decide_eq_false hc; ((try clear hh_i6); (try clear hh_i8); (try clear hh_ist); (try clear d1); (try clear d2); (try clear hiow); omega)
        have ez : owW x o i = x.ow.getD i [] ++ [0] := by simp only [owW, hc, if_false]
        simp only [vsAll]
        refine vs_draw2 [0, 0, 1, 0, 3, 0, 0, 5, 6, 7, 8, 9] [([0, 1, 3, 5, 6], [1], 2), ([], [1], 4), ([], [1], 7), ([8], [], 9), ([10], [], 11)] [] (by decide +kernel) ?_
        simp only [vsAll, binA, binLitA, intA, loadA, loadRow, partA, partOk, fieldAddrA, cellA, cellsA, okParts, buildSliceA, buildMutA, partIdx, elemsA, lensA, partsA, partsOk, opA, newCells, okCells, storeObj, appendA, dstOk, Nat.reduceAdd, Nat.reduceMul, Nat.reduceLT, Nat.reduceLeDiff, Nat.reduceEqDiff, Nat.reduceBEq, ↓reduceIte, eq_self, wtAll, d1]
        intro iz hh_iz; (try simp only [ite_none] at hh_iz)
        simp only [vsAll, Nat.reduceLT, ↓reduceIte, eq_self, hh_iz]
        refine ⟨fun q hq => by simp [intF, okCells, cellA], by ((try clear hh_i6); (try clear hh_i8); (try clear hh_ist); (try clear d1); (try clear d2); (try clear hiow); (try clear hh_iz); omega), by ((try clear hh_i6); (try clear hh_i8); (try clear hh_ist); (try clear d1); (try clear d2); (try clear hiow); (try clear hh_iz); omega), fun q hq => by simp [okCells, cellA, show q = 0 by ((try clear hh_i6); (try clear hh_i8); (try clear hh_ist); (try clear d1); (try clear d2); (try clear hiow); (try clear hh_iz); omega)], by ((try clear hh_i6); (try clear hh_i8); (try clear hh_ist); (try clear d1); (try clear d2); (try clear hiow); (try clear hh_iz); omega), by ((try clear hh_i6); (try clear hh_i8); (try clear hh_ist); (try clear d1); (try clear d2); (try clear hiow); (try clear hh_iz); omega), fun q hq => by simp [okCells, cellA, show q = 0 by ((try clear hh_i6); (try clear hh_i8); (try clear hh_ist); (try clear d1); (try clear d2); (try clear hiow); (try clear hh_iz); omega)], by ((try clear hh_i6); (try clear hh_i8); (try clear hh_ist); (try clear d1); (try clear d2); (try clear hiow); (try clear hh_iz); omega), by ((try clear hh_i6); (try clear hh_i8); (try clear hh_ist); (try clear d1); (try clear d2); (try clear hiow); (try clear hh_iz); omega), by simp only [InR_i64]; ((try clear hh_i6); (try clear hh_i8); (try clear hh_ist); (try clear d1); (try clear d2); (try clear hiow); (try clear hh_iz); omega), ?_⟩
        rw [Hp.set_set, Hp.set_set]
        refine loop_ent (Ent.freezeRow (s' := _) (id := iz) (st := 1) (n := (x.ow.getD i []).length + 1) (f := extF (x.ow.getD i []) 0) (j := iow) (st' := 1) (n' := i + 1) (g := appF i 1 (rowF x o) (fun q => [[AV.sl iz 1 ((x.ow.getD i []).length + 1)]].getD q []))
          (g' := appF i 1 (rowF x o) (fun q => [[AV.rsl ((x.ow.getD i []).length + 1) 1 (extF (x.ow.getD i []) 0)]].getD q [])) (by simp only [vsAll, ↓reduceIte, eq_self, hh_iz]) (by simp only [vsAll, ↓reduceIte, eq_self, d1]) (by simp only [vsAll, ne_eq, hh_iz]) (fun t => .rfl) (fun q hq => ?_) (fun q c hq hc' => rowF_frz hq hc') ?_)
        · rw [appF_at (by ((try clear hh_i6); (try clear hh_i8); (try clear hh_ist); (try clear d1); (try clear d2); (try clear hiow); (try clear hh_iz); omega))]
          split
          · rfl
          · rw [show q - i = 0 by ((try clear hh_i6); (try clear hh_i8); (try clear hh_ist); (try clear d1); (try clear d2); (try clear hiow); (try clear hh_iz); omega)]; rfl
        · refine loop_next (i + 1) (by ((try clear hh_i6); (try clear hh_i8); (try clear hh_ist); (try clear d1); (try clear d2); (try clear hiow); (try clear hh_iz); omega)) (by ((try clear hh_i6); (try clear hh_i8); (try clear hh_ist); (try clear d1); (try clear d2); (try clear hiow); (try clear hh_iz); omega)) ?_ ?_
          · simp only [vsAll, Nat.reduceEqDiff, ↓reduceIte, eq_self, Int.natCast_add, Int.natCast_one]
          · exact HSub_put (o' := .box 5 1 fun _ => [i64 (x.F + 1), .sl iow 1 (i + 1), intsAV x.mo, .sl ist 1 x.st.length, clAV x.cl]) (by simp only [vsAll, ↓reduceIte, eq_self, d1, hh_iz, Hp.del_get]) (.refl _) (HSub.set (HSub_del (by simp only [vsAll, ↓reduceIte, eq_self, hh_iz]) (HSub_drop2 (by simp only [vsAll, ↓reduceIte, eq_self, hh_i8, hh_ist]) (HSub_drop2 (by simp only [vsAll, ↓reduceIte, eq_self, hiow]) (HSub_drop2 (by simp only [vsAll, ↓reduceIte, eq_self, hh_iz]) (HSub_drop2 (by simp only [vsAll, ↓reduceIte, eq_self, hh_i8, hh_ist]) (HSub_drop2 (by simp only [vsAll, ↓reduceIte, eq_self, hiow]) HSub_rfl)))))) (rowF_step ez))
    · have ei : i = x.ow.length := by ((try clear hh_i6); (try clear hh_i8); (try clear hh_ist); (try clear d1); (try clear d2); (try clear hiow); omega)
      subst ei
      have hml := k.st s hs
      simp only [vsAll, ↓reduceIte, eq_self]
      refine vs_draw2 [0, 0, 0, 1, 0, 0, 0, 0, 0, 3, 0, 0, 4, 4, 5, 6, 7] [([0, 1, 2, 4, 5, 6, 7, 8, 10, 11], [1, 5, 8, 11], 3), ([], [1, 11], 9), ([12, 13], [1], 14), ([15], [], 16)] [] (by decide +kernel) ?_
      simp only [vsAll, loadA, loadRow, partA, partOk, fieldAddrA, indexAddrA, okParts, buildMutA, partIdx, elemsA, lensA, partsA, partsOk, opA, appendA, dstOk, Nat.reduceMul, Nat.reduceLT, Nat.reduceLeDiff, Nat.reduceEqDiff, Nat.reduceBEq, ↓reduceIte, eq_self, wtAll, stF_at]
      refine ⟨by ((try clear hh_i6); (try clear hh_i8); (try clear hh_ist); (try clear d1); (try clear d2); (try clear hiow); omega), by ((try clear hh_i6); (try clear hh_i8); (try clear hh_ist); (try clear d1); (try clear d2); (try clear hiow); omega), ?_⟩
      intro im hh_im; (try simp only [ite_none] at hh_im)
      simp only [vsAll, Nat.reduceLT, ↓reduceIte, eq_self, hh_im]
      refine ⟨by ((try clear hh_i6); (try clear hh_i8); (try clear hh_ist); (try clear d1); (try clear d2); (try clear hiow); (try clear hh_im); omega), fun q hq => by simp [mkF, okCells, cellA], by ((try clear hh_i6); (try clear hh_i8); (try clear hh_ist); (try clear d1); (try clear d2); (try clear hiow); (try clear hh_im); omega), by ((try clear hh_i6); (try clear hh_i8); (try clear hh_ist); (try clear d1); (try clear d2); (try clear hiow); (try clear hh_im); omega), ?_⟩
      refine qcall _ ⟨trivial, by simp only [vsAll, okAll, opsA, opA, Nat.reduceEqDiff, ↓reduceIte, eq_self], mark_tri x.F 1 1 _⟩ ?_
      simp only [vsAll, loadA, loadRow, partA, partOk, indexAddrA, cellA, cellsA, okParts, buildSliceA, partIdx, elemsA, lensA, partsA, partsOk, opA, newCells, okCells, storeObj, appendA, dstOk, Nat.reduceAdd, Nat.reduceMul, Nat.reduceLT, Nat.reduceLeDiff, Nat.reduceEqDiff, ↓reduceIte, eq_self, wtAll, hh_ist, hiow, hh_im, stF_at]
      refine ⟨fun q hq => by simp [okCells, cellA, show q = 0 by ((try clear hh_i6); (try clear hh_i8); (try clear hh_ist); (try clear d1); (try clear d2); (try clear hiow); (try clear hh_im); omega)], by ((try clear hh_i6); (try clear hh_i8); (try clear hh_ist); (try clear d1); (try clear d2); (try clear hiow); (try clear hh_im); omega), by ((try clear hh_i6); (try clear hh_i8); (try clear hh_ist); (try clear d1); (try clear d2); (try clear hiow); (try clear hh_im); omega), by ((try clear hh_i6); (try clear hh_i8); (try clear hh_ist); (try clear d1); (try clear d2); (try clear hiow); (try clear hh_im); omega), by ((try clear hh_i6); (try clear hh_i8); (try clear hh_ist); (try clear d1); (try clear d2); (try clear hiow); (try clear hh_im); omega), ?_⟩
      rw [Hp.set_set, Hp.set_set]
      refine vs_entR (Ent.of [(1, i64 s), (3, .rptr 1 5 (fun _ => x.cs) 0 0), (6, .ref i6 0 5 0 0), (8, .ref i8 0 5 0 0)] (H' := (((((H.set i6 (.box 5 1 fun _ => [i64 0, .lit (.slice none 0 0), .lit (.slice none 0 0), .lit (.slice none 0 0), .lit (.slice none 0 0)])).set i8 (.box 5 1 fun _ => [i64 (x.F + 1), .sl iow 1 x.ow.length, intsAV x.mo, .sl ist 1 x.st.length, clAV x.cl])).set iow (.row 1 x.ow.length (rowF x o))).set im (.row 3 ((x.st.getD s []).length + 1) (extM (x.st.getD s []) x.F))).set ist (.row 1 x.st.length (updF x.st.length s (stF x.st) [.sl im 3 ((x.st.getD s []).length + 1)])))) (by simp only [vsAll, Nat.reduceEqDiff, ↓reduceIte, eq_self]) (by (repeat (first | exact HSub_rfl | refine HSub_put_eq (by simp only [vsAll, ↓reduceIte, eq_self, hh_i8, hh_ist, d1, hiow, hh_im]) ?_ | refine HSub_drop2 (by simp only [eq_self, hh_i6, hh_i8, hh_ist, hiow, hh_im]) ?_ | refine HSub_keep_eq (by simp only [vsAll, binA, binLitA, intA, aggA, boolA, nilA2, isConst, unA, loadA, loadRow, partA, partOk, fieldAddrA, indexAddrA, indexA, fieldA, extractA, lenA, nilCheckA, boxA, cellA, cellsA, fillA, okParts, buildSliceA, buildMutA, makeSliceA, partIdx, elemsA, lensA, ifaceA, convA, mmA, pickA, okAll, stAll, opsA, partsA, partsOk, opA, allocA, boxMutA, newCells, okCells, storeObj, appendA, guardV, taA, nM, mapUpA, lookA, sliceA, boundsA, opO, okO, copyA, dstOk, nilA, quietOk, nilSliceOp, panA, resA, argFr, retA.eq_1, retA.eq_2, Nat.reduceAdd, Nat.reduceSub, Nat.reduceMul, Nat.reduceLT, Nat.reduceLeDiff, Nat.reduceEqDiff, Nat.reduceBEq, Int.reduceAdd, Int.reduceSub, Int.reduceMul, Int.reduceNeg, Int.reduceLE, Int.reduceLT, Int.reduceEq, Int.reduceNe, Int.reduceToNat, ↓reduceIte, reduceCtorEq, implies_true, forall_const, eq_self, ne_eq, wtAll, Try.ntmps34, Try.results34, hh_i6, hh_i8, hh_ist, d1, d2, hiow, hh_im]) ?_))) ?_)
      refine vs_entR (Ent.freezeRow (s' := _) (id := im) (st := 3) (n := (x.st.getD s []).length + 1) (f := extM (x.st.getD s []) x.F) (j := ist) (st' := 1) (n' := x.st.length) (g := (updF x.st.length s (stF x.st) [.sl im 3 ((x.st.getD s []).length + 1)])) (g' := (fun j => if j = s then [.rsl ((x.st.getD s []).length + 1) 3 (extM (x.st.getD s []) x.F)] else stF x.st j)) (by simp only [vsAll, ↓reduceIte, eq_self, hh_im]) (by simp only [vsAll, ↓reduceIte, eq_self]) (by simp only [vsAll, ne_eq, hh_im]) (fun t => .rfl) (fun q hq => ?_) (fun q c hq hc => stF_frz hs hq hc) ?_)
      · show (ite _ _ _ : List AV).length = 1
        split <;> rfl
      refine vs_entR (Ent.of [(1, i64 s), (3, .rptr 1 5 (fun _ => x.cs) 0 0), (6, .ref i6 0 5 0 0), (8, .ref i8 0 5 0 0)] (H' := ((((H.set i6 (.box 5 1 fun _ => [i64 0, .lit (.slice none 0 0), .lit (.slice none 0 0), .lit (.slice none 0 0), .lit (.slice none 0 0)])).set i8 (.box 5 1 fun _ => [i64 (x.F + 1), .sl iow 1 x.ow.length, intsAV x.mo, .sl ist 1 x.st.length, clAV x.cl])).set iow (.row 1 x.ow.length (rowF x o))).set ist (.row 1 x.st.length (fun j => if j = s then [.rsl ((x.st.getD s []).length + 1) 3 (extM (x.st.getD s []) x.F)] else stF x.st j)))) (by simp only [vsAll, Nat.reduceEqDiff, ↓reduceIte, eq_self]) ?_ ?_)
      · exact HSub.set (HSub_del (by simp only [vsAll, ↓reduceIte, eq_self, hh_im]) (HSub_drop2 (by simp only [vsAll, ↓reduceIte, eq_self, hh_ist, hiow]) (HSub_drop2 (by simp only [vsAll, ↓reduceIte, eq_self, hh_im]) HSub_rfl))) (.refl _)
      refine vs_entR (Ent.freezeBox (s' := _) (id := iow) (st := 1) (n := x.ow.length) (f := rowF x o) (j := i8) (st' := 5) (n' := 1) (g := fun _ => [i64 (x.F + 1), .sl iow 1 x.ow.length, intsAV x.mo, .sl ist 1 x.st.length, clAV x.cl]) (g' := fun _ => [i64 (x.F + 1), .rsl x.ow.length 1 (rowF x o), intsAV x.mo, .sl ist 1 x.st.length, clAV x.cl]) (by simp only [vsAll, ↓reduceIte, eq_self, hiow]) (by simp only [vsAll, ↓reduceIte, eq_self, hh_ist, d1]) (fun t => .rfl) (fun _ _ => rfl) (fun q c hq hc => ?_) ?_)
      · match c, hc with
        | 0, _ => exact .rfl
        | 1, _ => exact .hit
        | 2, _ => exact .rfl
        | 3, _ => exact .rfl
        | 4, _ => exact .rfl
      refine vs_entR (Ent.of [(1, i64 s), (3, .rptr 1 5 (fun _ => x.cs) 0 0), (6, .ref i6 0 5 0 0), (8, .ref i8 0 5 0 0)] (H' := ((H.set i6 (.box 5 1 fun _ => [i64 0, .lit (.slice none 0 0), .lit (.slice none 0 0), .lit (.slice none 0 0), .lit (.slice none 0 0)])).set i8 (.box 5 1 fun _ => [i64 (x.F + 1), .rsl x.ow.length 1 (rowF x o), intsAV x.mo, .sl ist 1 x.st.length, clAV x.cl])).set ist (.row 1 x.st.length (fun j => if j = s then [.rsl ((x.st.getD s []).length + 1) 3 (extM (x.st.getD s []) x.F)] else stF x.st j))) (by simp only [vsAll, Nat.reduceEqDiff, ↓reduceIte, eq_self]) ?_ ?_)
      · exact HSub_put (o' := .row 1 x.st.length (fun j => if j = s then [.rsl ((x.st.getD s []).length + 1) 3 (extM (x.st.getD s []) x.F)] else stF x.st j)) (by simp only [vsAll, ↓reduceIte, eq_self, hh_ist, hiow, Hp.del_get]) (.refl _) (HSub.set (HSub_del (by simp only [vsAll, ↓reduceIte, eq_self, hiow]) (HSub_drop2 (by simp only [vsAll, ↓reduceIte, eq_self, hh_ist]) (HSub_drop2 (by simp only [vsAll, ↓reduceIte, eq_self, hiow]) (HSub_drop2 (by simp only [vsAll, ↓reduceIte, eq_self, hh_i8]) HSub_rfl)))) (.refl _))
      refine vs_entR (Ent.freezeBox (s' := _) (id := ist) (st := 1) (n := x.st.length) (f := (fun j => if j = s then [.rsl ((x.st.getD s []).length + 1) 3 (extM (x.st.getD s []) x.F)] else stF x.st j)) (j := i8) (st' := 5) (n' := 1) (g := fun _ => [i64 (x.F + 1), .rsl x.ow.length 1 (rowF x o), intsAV x.mo, .sl ist 1 x.st.length, clAV x.cl]) (g' := fun _ => [i64 (x.F + 1), .rsl x.ow.length 1 (rowF x o), intsAV x.mo, .rsl x.st.length 1 (fun j => if j = s then [.rsl ((x.st.getD s []).length + 1) 3 (extM (x.st.getD s []) x.F)] else stF x.st j), clAV x.cl]) (by simp only [vsAll, ↓reduceIte, eq_self]) (by simp only [vsAll, ↓reduceIte, eq_self, hh_ist]) (fun t => .rfl) (fun _ _ => rfl) (fun q c hq hc => ?_) ?_)
      · match c, hc with
        | 0, _ => exact .rfl
        | 1, _ => exact .rfl
        | 2, _ => exact .rfl
        | 3, _ => exact .hit
        | 4, _ => exact .rfl
      refine vs_entR (Ent.of [(1, i64 s), (3, .rptr 1 5 (fun _ => x.cs) 0 0), (6, .ref i6 0 5 0 0), (8, .ref i8 0 5 0 0)] (H' := (H.set i6 (.box 5 1 fun _ => [i64 0, .lit (.slice none 0 0), .lit (.slice none 0 0), .lit (.slice none 0 0), .lit (.slice none 0 0)])).set i8 (.box 5 1 fun _ => (withI x s o).cs)) (by simp only [vsAll, Nat.reduceEqDiff, ↓reduceIte, eq_self]) ?_ ?_)
      · refine HSub.set (HSub_del (by simp only [vsAll, ↓reduceIte, eq_self, hh_ist]) (HSub_drop2 (by simp only [vsAll, ↓reduceIte, eq_self, hh_ist]) (HSub_drop2 (by simp only [vsAll, ↓reduceIte, eq_self, hh_i8]) HSub_rfl))) (box_leA (fun _ _ => rfl) fun q hq c hc => ?_)
        match c, hc with
        | 0, _ => exact AV.Le.refl _
        | 1, _ => exact rowF_le x s o
        | 2, _ => exact AV.Le.refl _
        | 3, _ => exact st_leF x s o hs
        | 4, _ => exact AV.Le.refl _
      have ls : (withI x s o).st.length = x.st.length := by simp [withI]
      have lF : (withI x s o).F = x.F + 1 := rfl
      have lm : ((withI x s o).st.getD s []).length = (x.st.getD s []).length + 1 := by rw [withI_st hs, stW, if_pos rfl, List.length_append]; rfl
      generalize hy : withI x s o = y at ls lF lm ⊢
      refine vs_draw2 [0, 0, 0, 0, 0, 0, 0, 0, 0, 0, 0, 0, 0, 1, 3] [([0, 1, 2, 3, 4, 5, 6, 7, 8, 9, 10, 11, 12], [6, 9], 13), ([], [], 14)] [] (by decide +kernel) ?_
      simp only [vsAll, binA, binLitA, intA, loadA, loadRow, partA, partOk, fieldAddrA, indexAddrA, lenA, cellA, cellsA, pickA, opA, newCells, okCells, storeObj, guardV, dstOk, nilSliceOp, Nat.reduceAdd, Nat.reduceLT, Nat.reduceEqDiff, Nat.reduceBEq, ↓reduceIte, implies_true, eq_self, wtAll, hh_i8, stF_at]
      have eb : (decide (y.F ≤ 4) && decide (((y.st.getD s []).length : Int) ≤ 6)) = fxB x s := by
        rw [lF, lm, fxB, show decide ((((x.st.getD s []).length + 1 : Nat) : Int) ≤ 6) = decide ((x.st.getD s []).length + 1 ≤ 6) from decide_eq_decide.2 (by ((try clear hh_i6); (try clear hh_i8); (try clear hh_ist); (try clear d1); (try clear d2); (try clear hiow); (try clear hh_im); omega))]
      rw [eb]
      refine ⟨fun g => ⟨g, g, by ((try clear hh_i6); (try clear hh_i8); (try clear hh_ist); (try clear d1); (try clear d2); (try clear hiow); (try clear hh_im); omega), by ((try clear hh_i6); (try clear hh_i8); (try clear hh_ist); (try clear d1); (try clear d2); (try clear hiow); (try clear hh_im); omega)⟩, fun g => ⟨g, by ((try clear hh_i6); (try clear hh_i8); (try clear hh_ist); (try clear d1); (try clear d2); (try clear hiow); (try clear hh_im); omega)⟩, fun g => ⟨g, by ((try clear hh_i6); (try clear hh_i8); (try clear hh_ist); (try clear d1); (try clear d2); (try clear hiow); (try clear hh_im); omega)⟩, ?_⟩
      refine ret0 ?_
      simp only [vsAll, loadA, loadRow, partA, partOk, resA, retA.eq_2, Nat.reduceLT, Nat.reduceEqDiff, ↓reduceIte, eq_self, wtAll, Try.results34]
      exact dropR_pure rfl (by (repeat (first | exact HSub_rfl | refine HSub_put_eq (by simp only [vsAll, binA, binLitA, intA, aggA, boolA, nilA2, isConst, unA, loadA, loadRow, partA, partOk, fieldAddrA, indexAddrA, indexA, fieldA, extractA, lenA, nilCheckA, boxA, cellA, cellsA, fillA, okParts, buildSliceA, buildMutA, makeSliceA, partIdx, elemsA, lensA, ifaceA, convA, mmA, pickA, okAll, stAll, opsA, partsA, partsOk, opA, allocA, boxMutA, newCells, okCells, storeObj, appendA, guardV, taA, nM, mapUpA, lookA, sliceA, boundsA, opO, okO, copyA, dstOk, nilA, quietOk, nilSliceOp, panA, resA, argFr, retA.eq_1, retA.eq_2, Nat.reduceAdd, Nat.reduceSub, Nat.reduceMul, Nat.reduceLT, Nat.reduceLeDiff, Nat.reduceEqDiff, Nat.reduceBEq, Int.reduceAdd, Int.reduceSub, Int.reduceMul, Int.reduceNeg, Int.reduceLE, Int.reduceLT, Int.reduceEq, Int.reduceNe, Int.reduceToNat, ↓reduceIte, reduceCtorEq, implies_true, forall_const, eq_self, ne_eq, wtAll, Try.ntmps34, Try.results34, hh_i6, hh_i8, hh_ist, d1, d2, hiow, hh_im]) ?_ | refine HSub_drop2 (by simp only [eq_self, hh_i6, hh_i8]) ?_ | refine HSub_keep_eq (by simp only [vsAll, binA, binLitA, intA, aggA, boolA, nilA2, isConst, unA, loadA, loadRow, partA, partOk, fieldAddrA, indexAddrA, indexA, fieldA, extractA, lenA, nilCheckA, boxA, cellA, cellsA, fillA, okParts, buildSliceA, buildMutA, makeSliceA, partIdx, elemsA, lensA, ifaceA, convA, mmA, pickA, okAll, stAll, opsA, partsA, partsOk, opA, allocA, boxMutA, newCells, okCells, storeObj, appendA, guardV, taA, nM, mapUpA, lookA, sliceA, boundsA, opO, okO, copyA, dstOk, nilA, quietOk, nilSliceOp, panA, resA, argFr, retA.eq_1, retA.eq_2, Nat.reduceAdd, Nat.reduceSub, Nat.reduceMul, Nat.reduceLT, Nat.reduceLeDiff, Nat.reduceEqDiff, Nat.reduceBEq, Int.reduceAdd, Int.reduceSub, Int.reduceMul, Int.reduceNeg, Int.reduceLE, Int.reduceLT, Int.reduceEq, Int.reduceNe, Int.reduceToNat, ↓reduceIte, reduceCtorEq, implies_true, forall_const, eq_self, ne_eq, wtAll, Try.ntmps34, Try.results34, hh_i6, hh_i8, hh_ist, d1, d2, hiow, hh_im]) ?_)))
end Go.Proofs.Ytkonoggmdcdeeaa
end
section
set_option linter.unusedVariables false
set_option linter.unusedSimpArgs false
namespace Go.Proofs.Ytkonoggmdcdeeaa
open Go.V
theorem withI_ok {x : Ir} (k : Ok x) {s : Nat} (hs : s < x.st.length) (o : Nat) (h : fxB x s = true) : Ok (withI x s o) := by
  have g := withI_gd k s o
  simp only [fxB, Bool.and_eq_true, decide_eq_true_eq] at h
  have ls : (withI x s o).st.length = x.st.length := by simp [withI]
  have hF := k.F
  refine ⟨by show 0 ≤ x.F + 1 ∧ x.F + 1 ≤ 4; omega, g.nO, g.nM, g.nS, g.nC, g.ow, g.mo, g.ov, fun i hi => ?_, g.sf, g.sl, g.cs, g.co⟩
  rw [ls] at hi
  rw [withI_st hi, stW]
  split
  · rename_i e
    subst e
    rw [List.length_append]
    exact h.2
  · exact k.st i hi
theorem count_with {x : Ir} (k : Ok x) {s o : Nat} (hs : s < x.st.length) (ho : o < x.ow.length) (h : fxB x s = true) : countE (withI x s o) = 0 ∧ countV (withI x s o) = ((truA x).filter fun t => decide (t.getD s 0 = (o : Int))).length := by
  have ls : (withI x s o).st.length = x.st.length := by simp [withI]
  have e : countE (withI x s o) = 0 := errE_ok (withI_ok k hs o h)
  refine ⟨e, ?_⟩
  rw [countV, if_pos e, truA, ls]
  exact congrArg List.length (truA_with k hs ho)
/-- How many truths there are with one of the first owners. -/
def sumO (x : Ir) (s : Nat) : Nat → Nat
  | 0 => 0
  | o + 1 => sumO x s o + ((truA x).filter fun t => decide (t.getD s 0 = (o : Int))).length
theorem sumO_le (x : Ir) (s : Nat) : ∀ n, sumO x s n = ((truA x).filter fun t => decide (0 ≤ t.getD s 0 ∧ t.getD s 0 < (n : Int))).length := by
  intro n
  induction n with
  | zero =>
    rw [sumO]
    symm
    rw [List.length_eq_zero_iff, List.filter_eq_nil_iff]
    intro t _
    rw [decide_eq_false (by omega)]
    decide
  | succ n ih =>
    rw [sumO, ih]
    generalize truA x = L
    induction L with
    | nil => rfl
    | cons t L ihL =>
      simp only [List.filter_cons]
      by_cases h1 : 0 ≤ t.getD s 0 ∧ t.getD s 0 < (n : Int)
      · rw [if_pos (by rw [decide_eq_true h1]), if_neg (by rw [decide_eq_false (by omega)]; decide), if_pos (by rw [decide_eq_true (by omega)])]
        simp only [List.length_cons]
        omega
      · by_cases h2 : t.getD s 0 = (n : Int)
        · rw [if_neg (by rw [decide_eq_false h1]; decide), if_pos (by rw [decide_eq_true h2]), if_pos (by rw [decide_eq_true (by omega)])]
          simp only [List.length_cons]
          omega
        · rw [if_neg (by rw [decide_eq_false h1]; decide), if_neg (by rw [decide_eq_false h2]; decide), if_neg (by rw [decide_eq_false (by omega)]; decide)]
          exact ihL
theorem sumO_all {x : Ir} (k : Ok x) {s : Nat} (hs : s < x.st.length) : sumO x s x.ow.length = (truA x).length := by
  rw [sumO_le]
  congr 1
  rw [List.filter_eq_self]
  intro t ht
  obtain ⟨o, h1, h2⟩ := (truA_mem ht).2 s hs
  rw [decide_eq_true (by omega)]
theorem filter_pos {x : Ir} (k : Ok x) {s o : Nat} (hs : s < x.st.length) : decide (0 < ((truA x).filter fun t => decide (t.getD s 0 = (o : Int))).length) = (who (truA x) s).testBit o := by
  rw [Bool.eq_iff_iff, who_bit (truA_own k hs), decide_eq_true_eq, List.length_pos_iff_exists_mem]
  constructor
  · rintro ⟨t, ht⟩
    obtain ⟨h1, h2⟩ := List.mem_filter.1 ht
    exact ⟨t, h1, of_decide_eq_true h2⟩
  · rintro ⟨t, h1, h2⟩
    exact ⟨t, List.mem_filter.2 ⟨h1, decide_eq_true h2⟩⟩
theorem fitsN_bit (x : Ir) (s n o : Nat) : (fitsN x s n).testBit o = (decide (o < n) && fitB x o s) := by
  induction n with
  | zero => simp [fitsN]
  | succ n ih =>
    have hlt := fitsN_lt x s n
    simp only [fitsN]
    by_cases h : fitB x n s = true
    · rw [if_pos h, ← or_bit _ _ hlt, Nat.testBit_or, ih, Nat.testBit_two_pow]
      by_cases e : n = o
      · subst e; simp [h]
      · rw [decide_eq_false e, Bool.or_false]
        congr 1
        exact decide_eq_decide.2 (by omega)
    · rw [if_neg h, Nat.add_zero, ih]
      by_cases e : n = o
      · subst e
        rw [Bool.not_eq_true] at h
        simp [h]
      · congr 1
        exact decide_eq_decide.2 (by omega)
theorem who_fits {x : Ir} (k : Ok x) {s : Nat} (hs : s < x.st.length) : who (truA x) s ^^^ (who (truA x) s &&& fitsN x s x.ow.length) = 0 := by
  apply Nat.eq_of_testBit_eq
  intro o
  rw [Nat.testBit_xor, Nat.testBit_and, Nat.zero_testBit]
  cases hb : (who (truA x) s).testBit o with
  | false => rfl
  | true =>
    obtain ⟨t, ht, h2⟩ := (who_bit (truA_own k hs) o).1 hb
    obtain ⟨o', h3, h4⟩ := (truA_mem ht).2 s hs
    have hoo : o = o' := by omega
    subst hoo
    have hfit : fitB x o s = true := by
      have := tru_fit ht s (Nat.zero_le _) (by simp; exact hs) (full_bit _ _ hs)
      rwa [h2, Int.toNat_natCast] at this
    rw [fitsN_bit, decide_eq_true h3, hfit]
    rfl

def wantW (own o : Nat) (nt : Bool) : Int :=
  if nt = true then 2 - (if own.testBit o = false then 0 else if own = 2 ^ o then 2 else 1) else if own.testBit o = false then 0 else if own = 2 ^ o then 2 else 1
theorem want_claim {x : Ir} (k : Ok x) {i : Nat} (hi : i < x.cl.length) (hp : 0 < (truA x).length) :
    wantW (who (truA x) (x.cl.getD i cl0).s.toNat) (x.cl.getD i cl0).o.toNat (x.cl.getD i cl0).nt = if rcN x i (truA x).length = (truA x).length then 2 else if rcN x i (truA x).length = 0 then 0 else 1 := by
  have hcs := k.cs i hi
  have hco := k.co i hi
  have hs : (x.cl.getD i cl0).s.toNat < x.st.length := by omega
  simp only [rcN_all, rcN_no]
  have hr : ∀ t ∈ truA x, rightT x t i = !(decide (t.getD (x.cl.getD i cl0).s.toNat 0 = (x.cl.getD i cl0).o) == (x.cl.getD i cl0).nt) := fun t _ => rfl
  generalize x.cl.getD i cl0 = c at hcs hco hs hr ⊢
  have hown := truA_own k hs
  have hb : (who (truA x) c.s.toNat).testBit c.o.toNat = false ↔ ∀ t ∈ truA x, ¬ t.getD c.s.toNat 0 = c.o := by
    rw [← Bool.not_eq_true, who_bit hown]
    constructor
    · intro h t ht e
      exact h ⟨t, ht, by omega⟩
    · rintro h ⟨t, ht, e⟩
      exact h t ht (by omega)
  have ha : who (truA x) c.s.toNat = 2 ^ c.o.toNat ↔ ∀ t ∈ truA x, t.getD c.s.toNat 0 = c.o := by
    constructor
    · intro h t ht
      obtain ⟨o, h1, h2⟩ := hown t ht
      have := (who_bit hown o).2 ⟨t, ht, h2⟩
      rw [h, Nat.testBit_two_pow, decide_eq_true_eq] at this
      omega
    · intro h
      apply Nat.eq_of_testBit_eq
      intro o
      rw [Bool.eq_iff_iff, who_bit hown, Nat.testBit_two_pow, decide_eq_true_eq]
      constructor
      · rintro ⟨t, ht, e⟩
        have := h t ht
        omega
      · intro e
        exact ⟨_, mem_getD (truA x) 0 [] hp, by have := h _ (mem_getD (truA x) 0 [] hp); omega⟩
  have hmem := mem_getD (truA x) 0 [] hp
  have hall : (∀ t ∈ truA x, rightT x t i = true) ↔ if c.nt = true then (∀ t ∈ truA x, ¬ t.getD c.s.toNat 0 = c.o) else ∀ t ∈ truA x, t.getD c.s.toNat 0 = c.o := by
    cases hn : c.nt with
    | true =>
      rw [if_pos rfl]
      exact ⟨fun h t ht e => (by have := h t ht; rw [hr t ht, hn, decide_eq_true e] at this; cases this), fun h t ht => by rw [hr t ht, hn, decide_eq_false (h t ht)]; rfl⟩
    | false =>
      rw [if_neg (by decide)]
      refine ⟨fun h t ht => ?_, fun h t ht => by rw [hr t ht, hn, decide_eq_true (h t ht)]; rfl⟩
      apply Classical.byContradiction
      intro e
      have := h t ht
      rw [hr t ht, hn, decide_eq_false e] at this
      cases this
  have hno : (∀ t ∈ truA x, ¬ rightT x t i = true) ↔ if c.nt = true then (∀ t ∈ truA x, t.getD c.s.toNat 0 = c.o) else ∀ t ∈ truA x, ¬ t.getD c.s.toNat 0 = c.o := by
    cases hn : c.nt with
    | true =>
      rw [if_pos rfl]
      refine ⟨fun h t ht => ?_, fun h t ht q => (by rw [hr t ht, hn, decide_eq_true (h t ht)] at q; cases q)⟩
      apply Classical.byContradiction
      intro e
      exact h t ht (by rw [hr t ht, hn, decide_eq_false e]; rfl)
    | false =>
      rw [if_neg (by decide)]
      exact ⟨fun h t ht e => h t ht (by rw [hr t ht, hn, decide_eq_true e]; rfl), fun h t ht q => (by rw [hr t ht, hn, decide_eq_false (h t ht)] at q; cases q)⟩
  unfold wantW
  by_cases q1 : ∀ t ∈ truA x, t.getD c.s.toNat 0 = c.o
  · have q2 : ¬ ∀ t ∈ truA x, ¬ t.getD c.s.toNat 0 = c.o := fun h => h _ hmem (q1 _ hmem)
    have e1 : ¬ (who (truA x) c.s.toNat).testBit c.o.toNat = false := fun h => q2 (hb.1 h)
    have e2 := ha.2 q1
    cases hn : c.nt with
    | true =>
      rw [hn, if_pos rfl] at hall hno
      rw [if_pos rfl, if_neg e1, if_pos e2, if_neg (fun h => q2 (hall.1 h)), if_pos (hno.2 q1)]; rfl
    | false =>
      rw [hn, if_neg (by decide)] at hall hno
      rw [if_neg (by decide), if_neg e1, if_pos e2, if_pos (hall.2 q1)]
  · by_cases q2 : ∀ t ∈ truA x, ¬ t.getD c.s.toNat 0 = c.o
    · have e1 := hb.2 q2
      cases hn : c.nt with
      | true =>
        rw [hn, if_pos rfl] at hall hno
        rw [if_pos rfl, if_pos e1, if_pos (hall.2 q2)]; rfl
      | false =>
        rw [hn, if_neg (by decide)] at hall hno
        rw [if_neg (by decide), if_pos e1, if_neg (fun h => q1 (hall.1 h)), if_pos (hno.2 q2)]
    · have e1 : ¬ (who (truA x) c.s.toNat).testBit c.o.toNat = false := fun h => q2 (hb.1 h)
      have e2 : ¬ who (truA x) c.s.toNat = 2 ^ c.o.toNat := fun h => q1 (ha.1 h)
      cases hn : c.nt with
      | true =>
        rw [hn, if_pos rfl] at hall hno
        rw [if_pos rfl, if_neg e1, if_neg e2, if_neg (fun h => q2 (hall.1 h)), if_neg (fun h => q1 (hno.1 h))]; rfl
      | false =>
        rw [hn, if_neg (by decide)] at hall hno
        rw [if_neg (by decide), if_neg e1, if_neg e2, if_neg (fun h => q1 (hall.1 h)), if_neg (fun h => q2 (hno.1 h))]
end Go.Proofs.Ytkonoggmdcdeeaa
end
section
set_option linter.unusedVariables false
set_option linter.unusedSimpArgs false
set_option maxHeartbeats 4000000
set_option maxRecDepth 100000
namespace Go.Proofs.Ytkonoggmdcdeeaa
open Go.V
theorem fine_tri (x : Ir) (H : Hp) (hO : x.ow.length < 2 ^ 63) (hS : x.st.length < 2 ^ 63) : PTri Try.prog (fnA 33) [x.av] H (boo (!farB x && decide (Ok x))) := by
  refine tri_v0 (fun _ => false) Try.func33 (by kernel_rfl) rfl (by simp only [List.length_append, List.length_cons, List.length_nil, Try.ntmps33]; decide) ?_
  simp only [vsAll, loadA, loadRow, partA, partOk, boxA, okAll, stAll, opsA, opA, dstOk, nilSliceOp, argFr, Nat.reduceAdd, Nat.reduceLT, Nat.reduceEqDiff, ↓reduceIte, eq_self, wtAll, Try.ntmps33]
  refine callK_pure (far_tri x _ hO hS) ?_
  simp only [vsAll, unA, loadA, loadRow, partA, partOk, opA, guardV, dstOk, Nat.reduceLT, Nat.reduceEqDiff, ↓reduceIte, implies_true, eq_self, wtAll]
  refine gcall _ (fun g => ⟨by simp only [vsAll, opA], by simp only [vsAll, okAll, opsA, opA, ↓reduceIte, eq_self, g], rirons_tri x _ (far_near (by simpa using g))⟩) ?_
  simp only [vsAll, pickA, opA, dstOk, nilSliceOp, resA, retA.eq_1, Nat.reduceLT, Nat.reduceEqDiff, ↓reduceIte, implies_true, eq_self, Try.results33]
theorem u8_mod {w : Int} (hw : 0 ≤ w ∧ w ≤ 255) (n : Nat) : w.tmod (n : Int) = ((w.toNat % n : Nat) : Int) := by
  obtain ⟨m, rfl⟩ : ∃ m : Nat, w = (m : Int) := ⟨w.toNat, by omega⟩
  rw [Int.toNat_natCast, Int.ofNat_tmod]
theorem can_law (x : Ir) (w c : Int) (H : Hp) (hw : 0 ≤ w ∧ w ≤ 255) (hc : 0 ≤ c ∧ c ≤ 255) (hO : x.ow.length < 2 ^ 63) (hS : x.st.length < 2 ^ 63) :
    PTri Try.prog (fnA 7) [x.av, .lit (.int .u8 w), .lit (.int .u8 c)] H (boo true) := by
  refine Tri.drop ?_
  refine tri_v0 (fun _ => false) Try.func7 (by kernel_rfl) rfl (by simp only [List.length_append, List.length_cons, List.length_nil, Try.ntmps7]; decide) ?_
  simp only [vsAll, loadA, loadRow, partA, partOk, boxA, okAll, stAll, opsA, opA, dstOk, nilSliceOp, argFr, Nat.reduceAdd, Nat.reduceLT, Nat.reduceEqDiff, ↓reduceIte, eq_self, wtAll, Try.ntmps7]
  refine callK_pure (fine_tri x _ hO hS) ?_
  simp only [vsAll, binA, binLitA, intA, unA, loadA, loadRow, partA, partOk, fieldAddrA, lenA, pickA, opA, guardV, dstOk, Nat.reduceLT, Nat.reduceEqDiff, ↓reduceIte, implies_true, eq_self, wtAll]
  refine condV (fun hf => ?_) (fun hf => ?_)
  · simp only [vsAll, okAll, stAll, opsA, opA, dstOk, Nat.reduceLT]
    refine callK_pure (awake_tri _) ?_
    simp only [vsAll, opA, dstOk, nilSliceOp, resA, retA.eq_1, Nat.reduceLT, ↓reduceIte, eq_self, Try.results7]
    exact dropR_pure rfl (HSub.refl _)
  · rw [Bool.or_eq_false_iff] at hf
    obtain ⟨hf1, hf2⟩ := hf
    have hk : Ok x := by
      simp only [Bool.not_eq_false', Bool.and_eq_true, decide_eq_true_eq] at hf1
      exact hf1.2
    have hf3 := of_decide_eq_false hf2
    have nS := hk.nS
    have nO := hk.nO
    have kn := hk.near
    have hmod := u8_mod hw x.st.length
    have hs : w.toNat % x.st.length < x.st.length := Nat.mod_lt _ (by omega)
    generalize w.toNat % x.st.length = s at hmod hs
    simp only [vsAll, binA, binLitA, intA, loadA, loadRow, partA, partOk, fieldAddrA, lenA, convA, okAll, stAll, opsA, opA, dstOk, nilSliceOp, argFr, Nat.reduceLT, Nat.reduceEqDiff, ↓reduceIte, eq_self, ne_eq, wtAll, hmod]
    refine ⟨by simp only [InR_i64]; omega, by omega, ?_⟩
    have hv : strB x (s : Int) = true := (strB_iff x s).2 ⟨by omega, by omega⟩
    have fE : fitsE x s = 0 := by unfold fitsE; rw [hv]; exact errE_ok hk
    have fV : fitsV x s = fitsN x s x.ow.length := by rw [fitsV, if_pos fE, Int.toNat_natCast]
    have cE : countE x = 0 := errE_ok hk
    have cV : countV x = (truA x).length := by rw [countV, if_pos cE]
    have hl : (truA x).length ≤ 15625 := truS_len hk (2 ^ x.st.length - 1)
    have wl := who_lt hk hs
    have hE : canE x s = if (truA x).length = 0 then 10 else 0 := by
      unfold canE
      rw [hv]
      by_cases h : (truA x).length = 0
      · rw [if_pos h]; exact errE_clash hk h
      · rw [if_neg h]; exact errE_told hk (by omega)
    have hV : canV x s = who (truA x) s := by
      rw [canV, hE, Int.toNat_natCast]
      by_cases h : (truA x).length = 0
      · rw [if_pos h, if_neg (by decide)]
        have : truA x = [] := List.length_eq_zero_iff.1 h
        rw [this]; rfl
      · rw [if_neg h, if_pos rfl]
    have hwf := who_fits hk hs
    have hfl := fitsN_lt x s x.ow.length
    refine callK_pure (wcan_tri x s _ kn) ?_
    rw [hV]
    simp only [vsAll, loadA, loadRow, partA, partOk, extractA, okAll, stAll, opsA, opA, dstOk, nilSliceOp, Nat.reduceAdd, Nat.reduceLT, Nat.reduceEqDiff, ↓reduceIte, eq_self, wtAll]
    refine callK_pure (wfits_tri x s _ kn) ?_
    rw [fV, fE]
    simp only [vsAll, loadA, loadRow, partA, partOk, extractA, okAll, stAll, opsA, opA, dstOk, nilSliceOp, Nat.reduceAdd, Nat.reduceLT, Nat.reduceEqDiff, ↓reduceIte, eq_self, wtAll]
    refine callK_pure (wcount_tri x _ kn) ?_
    rw [cV, cE]
    generalize hEE : canE x s = E at hE ⊢
    have q1 : ((fitsN x s x.ow.length : Nat) : Int) / 2 ^ x.ow.length = 0 := by
      have ep : ((2 ^ x.ow.length : Nat) : Int) = 2 ^ x.ow.length := by simp
      rw [← ep]
      exact Int.ediv_eq_zero_of_lt (by omega) (by omega)
    have hw0 : (truA x).length = 0 → who (truA x) s = 0 := fun h => by
      have : truA x = [] := List.length_eq_zero_iff.1 h
      rw [this]; rfl
    have hp5 : 2 ^ x.ow.length ≤ 2 ^ 5 := Nat.pow_le_pow_right (by decide) nO
    simp only [vsAll, binA, binLitA, intA, boolA, loadA, loadRow, partA, partOk, fieldAddrA, extractA, lenA, pickA, opA, guardV, dstOk, nilSliceOp, Nat.reduceAdd, Nat.reduceLT, Nat.reduceEqDiff, ↓reduceIte, implies_true, eq_self, wtAll]
    refine ⟨fun g => ⟨g, fun g2 => by rw [g, g2]; rfl⟩, fun g => ⟨g, fun g2 => by rw [g, g2]; rfl⟩, fun g => ⟨g, g, by omega, by omega, rfl⟩, fun g => ⟨g, g, by omega, by omega, by simp only [InR_i64]; omega, by simp only [InR_i64]; omega⟩, condV (fun hb => ?_) (fun hb => ?_)⟩
    · exfalso
      rw [hwf, q1] at hb
      by_cases h0 : (truA x).length = 0
      · rw [if_pos h0] at hE
        rw [hE, h0, hw0 h0] at hb
        revert hb
        simp
      · rw [if_neg h0] at hE
        rw [hE] at hb
        revert hb
        have h1 : (0 : Int) < ((truA x).length : Int) := by omega
        simp []
        intro h
        rw [h] at h0
        exact h0 rfl
    · simp only [vsAll, loadA, loadRow, partA, partOk, fieldAddrA, lenA, opA, dstOk, nilSliceOp, Nat.reduceLT, Nat.reduceEqDiff, ↓reduceIte, eq_self, wtAll]
      refine vs_loop (σ := Nat) (fun i => i ≤ x.ow.length) (fun i => [(2, .lit (.int .u8 c)), (3, .rptr 1 5 (fun _ => x.cs) 0 0), (7, i64 s), (8, i64 (who (truA x) s : Nat)), (9, i64 E), (12, i64 ((truA x).length : Nat)), (14, i64 (sumO x s i : Nat)), (113, i64 x.ow.length), (114, i64 i)]) (fun _ => H) (fun i => x.ow.length - i) 0 (by omega) ?_ (HSub.refl _) fun i hi => ?_
      · simp only [vsAll, argFr, Nat.reduceEqDiff, ↓reduceIte, eq_self, Int.natCast_zero, sumO]
      · simp only [vsAll, binA, binLitA, intA, opA, dstOk, Nat.reduceLT, Nat.reduceEqDiff, ↓reduceIte, eq_self]
        refine condD (fun hd => ?_) (fun hd => ?_)
        · have hi2 : i < x.ow.length := by omega
          have hsl : sumO x s (i + 1) ≤ (truA x).length := by rw [sumO_le]; exact List.length_filter_le _ _
          have hsu : sumO x s (i + 1) = sumO x s i + ((truA x).filter fun t => decide (t.getD s 0 = (i : Int))).length := rfl
          have hfp := filter_pos hk hs (o := i)
          simp only [vsAll, loadA, loadRow, partA, partOk, okAll, stAll, opsA, opA, dstOk, nilSliceOp, Nat.reduceLT, Nat.reduceEqDiff, ↓reduceIte, eq_self, wtAll]
          refine callK_pure (fixed_tri x s i _ hk hs hi2) ?_
          simp only [vsAll, unA, extractA, cellA, cellsA, opA, allocA, newCells, okCells, storeObj, dstOk, nilSliceOp, Nat.reduceAdd, Nat.reduceLT, Nat.reduceEqDiff, ↓reduceIte, eq_self, wtAll]
          intro iy hh_iy; (try simp only [Hp.set_none, ite_none] at hh_iy)
          refine condV (fun hx => ?_) (fun hx => ?_)
          · simp only [vsAll, okAll, stAll, opsA, opA, dstOk, Nat.reduceLT]
            refine callK_pure (awake_tri _) ?_
            simp only [vsAll, opA, dstOk, nilSliceOp, resA, retA.eq_1, Nat.reduceLT, ↓reduceIte, eq_self, Try.results7]
            exact dropR_pure rfl (by (repeat (first | exact HSub_rfl | refine HSub_put_eq (by simp only [vsAll, binA, binLitA, intA, aggA, boolA, nilA2, isConst, unA, loadA, loadRow, partA, partOk, fieldAddrA, indexAddrA, indexA, fieldA, extractA, lenA, nilCheckA, boxA, cellA, cellsA, fillA, okParts, buildSliceA, buildMutA, makeSliceA, partIdx, elemsA, lensA, ifaceA, convA, mmA, pickA, okAll, stAll, opsA, partsA, partsOk, opA, allocA, boxMutA, newCells, okCells, storeObj, appendA, guardV, taA, nM, mapUpA, lookA, sliceA, boundsA, opO, okO, copyA, dstOk, nilA, quietOk, nilSliceOp, panA, resA, argFr, retA.eq_1, retA.eq_2, Nat.reduceAdd, Nat.reduceSub, Nat.reduceMul, Nat.reduceLT, Nat.reduceLeDiff, Nat.reduceEqDiff, Nat.reduceBEq, Int.reduceAdd, Int.reduceSub, Int.reduceMul, Int.reduceNeg, Int.reduceLE, Int.reduceLT, Int.reduceEq, Int.reduceNe, Int.reduceToNat, ↓reduceIte, reduceCtorEq, implies_true, forall_const, eq_self, ne_eq, wtAll, Try.ntmps7, Try.results7, hh_iy]) ?_ | refine HSub_drop2 (by simp only [eq_self, hh_iy]) ?_ | refine HSub_keep_eq (by simp only [vsAll, binA, binLitA, intA, aggA, boolA, nilA2, isConst, unA, loadA, loadRow, partA, partOk, fieldAddrA, indexAddrA, indexA, fieldA, extractA, lenA, nilCheckA, boxA, cellA, cellsA, fillA, okParts, buildSliceA, buildMutA, makeSliceA, partIdx, elemsA, lensA, ifaceA, convA, mmA, pickA, okAll, stAll, opsA, partsA, partsOk, opA, allocA, boxMutA, newCells, okCells, storeObj, appendA, guardV, taA, nM, mapUpA, lookA, sliceA, boundsA, opO, okO, copyA, dstOk, nilA, quietOk, nilSliceOp, panA, resA, argFr, retA.eq_1, retA.eq_2, Nat.reduceAdd, Nat.reduceSub, Nat.reduceMul, Nat.reduceLT, Nat.reduceLeDiff, Nat.reduceEqDiff, Nat.reduceBEq, Int.reduceAdd, Int.reduceSub, Int.reduceMul, Int.reduceNeg, Int.reduceLE, Int.reduceLT, Int.reduceEq, Int.reduceNe, Int.reduceToNat, ↓reduceIte, reduceCtorEq, implies_true, forall_const, eq_self, ne_eq, wtAll, Try.ntmps7, Try.results7, hh_iy]) ?_)))
          · rw [Bool.not_eq_false'] at hx
            obtain ⟨y1, y2⟩ := count_with hk hs hi2 hx
            have yk := (withI_ok hk hs i hx).near
            simp only [vsAll, loadA, loadRow, partA, partOk, okAll, stAll, opsA, opA, dstOk, Nat.reduceLT, Nat.reduceEqDiff, ↓reduceIte, eq_self, wtAll]
            refine callK_pure (wcount_tri (withI x s i) _ yk) ?_
            rw [y1, y2]
            generalize ((truA x).filter fun t => decide (t.getD s 0 = (i : Int))).length = kk at hsu hfp ⊢
            simp only [vsAll, binA, binLitA, intA, boolA, extractA, pickA, opA, guardV, dstOk, nilSliceOp, Nat.reduceAdd, Nat.reduceLT, Nat.reduceEqDiff, Int.reduceLE, Int.reduceToNat, ↓reduceIte, implies_true, forall_const, eq_self, wtAll]
            have hd0 : 0 ≤ (who (truA x) s : Int) / 2 ^ i ∧ (who (truA x) s : Int) / 2 ^ i ≤ who (truA x) s := ⟨Int.ediv_nonneg (by ((try clear hh_iy); omega)) (Int.le_of_lt (Int.pow_pos (by decide))), Int.ediv_le_self _ (by ((try clear hh_iy); omega))⟩
            refine ⟨⟨by ((try clear hh_iy); omega), by ((try clear hh_iy); omega), rfl⟩, ⟨hd0.1, by simp only [InR_i64]; ((try clear hh_iy); omega), by simp only [InR_i64]; ((try clear hh_iy); omega)⟩, ?_⟩
            have ebb : (!decide ((0 : Int) < (kk : Int)) == decide (((((who (truA x) s : Nat) : Int) / 2 ^ i).toNat &&& 1 : Nat) = (1 : Int))) = false := by
              rw [bit_eq, ← hfp, show decide ((0 : Int) < (kk : Int)) = decide (0 < kk) from decide_eq_decide.2 (by ((try clear hh_iy); omega))]
              cases decide (0 < kk) <;> rfl
            simp only [vsAll, binA, binLitA, intA, opA, dstOk, nilSliceOp, Nat.reduceLT, Nat.reduceEqDiff, ↓reduceIte, eq_self, ebb]
            refine ⟨by simp only [InR_i64]; ((try clear hh_iy); omega), by simp only [InR_i64]; ((try clear hh_iy); omega), loop_next (i + 1) (by ((try clear hh_iy); omega)) (by ((try clear hh_iy); omega)) ?_ (by (repeat (first | exact HSub_rfl | refine HSub_put_eq (by simp only [vsAll, binA, binLitA, intA, aggA, boolA, nilA2, isConst, unA, loadA, loadRow, partA, partOk, fieldAddrA, indexAddrA, indexA, fieldA, extractA, lenA, nilCheckA, boxA, cellA, cellsA, fillA, okParts, buildSliceA, buildMutA, makeSliceA, partIdx, elemsA, lensA, ifaceA, convA, mmA, pickA, okAll, stAll, opsA, partsA, partsOk, opA, allocA, boxMutA, newCells, okCells, storeObj, appendA, guardV, taA, nM, mapUpA, lookA, sliceA, boundsA, opO, okO, copyA, dstOk, nilA, quietOk, nilSliceOp, panA, resA, argFr, retA.eq_1, retA.eq_2, Nat.reduceAdd, Nat.reduceSub, Nat.reduceMul, Nat.reduceLT, Nat.reduceLeDiff, Nat.reduceEqDiff, Nat.reduceBEq, Int.reduceAdd, Int.reduceSub, Int.reduceMul, Int.reduceNeg, Int.reduceLE, Int.reduceLT, Int.reduceEq, Int.reduceNe, Int.reduceToNat, ↓reduceIte, reduceCtorEq, implies_true, forall_const, eq_self, ne_eq, wtAll, Try.ntmps7, Try.results7, hh_iy]) ?_ | refine HSub_drop2 (by simp only [eq_self, hh_iy]) ?_ | refine HSub_keep_eq (by simp only [vsAll, binA, binLitA, intA, aggA, boolA, nilA2, isConst, unA, loadA, loadRow, partA, partOk, fieldAddrA, indexAddrA, indexA, fieldA, extractA, lenA, nilCheckA, boxA, cellA, cellsA, fillA, okParts, buildSliceA, buildMutA, makeSliceA, partIdx, elemsA, lensA, ifaceA, convA, mmA, pickA, okAll, stAll, opsA, partsA, partsOk, opA, allocA, boxMutA, newCells, okCells, storeObj, appendA, guardV, taA, nM, mapUpA, lookA, sliceA, boundsA, opO, okO, copyA, dstOk, nilA, quietOk, nilSliceOp, panA, resA, argFr, retA.eq_1, retA.eq_2, Nat.reduceAdd, Nat.reduceSub, Nat.reduceMul, Nat.reduceLT, Nat.reduceLeDiff, Nat.reduceEqDiff, Nat.reduceBEq, Int.reduceAdd, Int.reduceSub, Int.reduceMul, Int.reduceNeg, Int.reduceLE, Int.reduceLT, Int.reduceEq, Int.reduceNe, Int.reduceToNat, ↓reduceIte, reduceCtorEq, implies_true, forall_const, eq_self, ne_eq, wtAll, Try.ntmps7, Try.results7, hh_iy]) ?_)))⟩
            simp only [vsAll, Nat.reduceEqDiff, ↓reduceIte, eq_self, hsu, Int.natCast_add, Int.natCast_one]
        · have ei : i = x.ow.length := by omega
          subst ei
          rw [sumO_all hk hs]
          simp only [vsAll, binA, binLitA, intA, loadA, loadRow, partA, partOk, fieldAddrA, lenA, pickA, opA, guardV, dstOk, Nat.reduceLT, Nat.reduceEqDiff, ↓reduceIte, implies_true, eq_self, wtAll]
          refine condV (fun hcl => ?_) (fun hcl => ?_)
          · simp only [vsAll, okAll, stAll, opsA, opA, dstOk, Nat.reduceLT]
            refine callK_pure (awake_tri _) ?_
            simp only [vsAll, opA, dstOk, nilSliceOp, resA, retA.eq_1, Nat.reduceLT, ↓reduceIte, eq_self, Try.results7]
            exact dropR_pure rfl (HSub.refl _)
          · rw [Bool.or_eq_false_iff] at hcl
            have hcl1 := of_decide_eq_false hcl.1
            have hcl2 : E = 0 := by have := hcl.2; simpa using this
            have hpos : 0 < (truA x).length := by
              apply Nat.pos_of_ne_zero
              intro h
              rw [if_pos h] at hE
              omega
            have hmod2 := u8_mod hc x.cl.length
            have hj : c.toNat % x.cl.length < x.cl.length := Nat.mod_lt _ (by omega)
            generalize c.toNat % x.cl.length = j at hmod2 hj
            have hcs := hk.cs j hj
            have hco := hk.co j hj
            have hwant := want_claim hk hj hpos
            have hvj : numB x (j : Int) = true := (numB_iff x j).2 ⟨by omega, by omega⟩
            have cvE : claimE x j = 0 := by unfold claimE; rw [hvj]; exact errE_told hk hpos
            have cvV : claimV x j = if rcN x j (truA x).length = (truA x).length then 2 else if rcN x j (truA x).length = 0 then 0 else 1 := by rw [claimV, if_pos cvE, Int.toNat_natCast]
            rw [← hwant] at cvV
            obtain ⟨q, hq⟩ : ∃ q : Nat, (x.cl.getD j cl0).s = (q : Int) := ⟨(x.cl.getD j cl0).s.toNat, by omega⟩
            obtain ⟨p, hp⟩ : ∃ p : Nat, (x.cl.getD j cl0).o = (p : Int) := ⟨(x.cl.getD j cl0).o.toNat, by omega⟩
            rw [hq, hp, Int.toNat_natCast, Int.toNat_natCast] at cvV
            have hqv : strB x (q : Int) = true := (strB_iff x q).2 ⟨by omega, by omega⟩
            have hqE : canE x q = 0 := by unfold canE; rw [hqv]; exact errE_told hk hpos
            have hqV : canV x q = who (truA x) q := by rw [canV, if_pos hqE, Int.toNat_natCast]
            have hwl := who_lt hk (t := q) (by omega)
            have hp5 : p < 5 := by omega
            have ep : (1 : Int) * 2 ^ p = ((2 ^ p : Nat) : Int) := by rw [Int.one_mul]; simp
            have hpp : 2 ^ p ≤ 2 ^ 5 := Nat.pow_le_pow_right (by decide) (by omega)
            simp only [vsAll, binA, binLitA, intA, loadA, loadRow, partA, partOk, fieldAddrA, indexAddrA, lenA, cellsA, convA, okAll, stAll, opsA, opA, allocA, newCells, storeObj, dstOk, nilSliceOp, Nat.reduceAdd, Nat.reduceLT, Nat.reduceEqDiff, ↓reduceIte, eq_self, ne_eq, wtAll, hmod2]
            refine ⟨by simp only [InR_i64]; omega, by omega, ?_⟩
            simp only [vsAll, cellA, okCells, Nat.reduceAdd, eq_self, clF_at, hq, hp]
            refine ⟨by omega, by omega, ?_⟩
            intro ic hh_ic; (try simp only [Hp.set_none, ite_none] at hh_ic)
            refine callK_pure (wcan_tri x q _ kn) ?_
            rw [hqV, hqE]
            generalize who (truA x) q = own at hwl cvV ⊢
            have hP : 0 ≤ ((2 ^ p : Nat) : Int) ∧ ((2 ^ p : Nat) : Int) ≤ 32 := ⟨Int.natCast_nonneg _, Int.ofNat_le.2 hpp⟩
            simp only [vsAll, binA, binLitA, intA, loadA, loadRow, partA, partOk, fieldAddrA, extractA, opA, dstOk, nilSliceOp, Nat.reduceAdd, Nat.reduceLT, Nat.reduceEqDiff, ↓reduceIte, eq_self, wtAll, ep]
            have hd0 : 0 ≤ (own : Int) / 2 ^ p ∧ (own : Int) / 2 ^ p ≤ own := ⟨Int.ediv_nonneg (by ((try clear hh_ic); omega)) (Int.le_of_lt (Int.pow_pos (by decide))), Int.ediv_le_self _ (by ((try clear hh_ic); omega))⟩
            refine ⟨⟨by ((try clear hh_ic); omega), by ((try clear hh_ic); omega), by simp only [InR_i64]; exact ⟨by have := hP.1; exact Int.le_trans (by decide) this, Int.le_trans hP.2 (by decide)⟩⟩, condV (fun a1 => ?_) (fun a1 => ?_)⟩
            · have b1 : own = 2 ^ p := by have := of_decide_eq_true a1; ((try clear hh_ic); omega)
              simp only [vsAll, binA, binLitA, intA, loadA, loadRow, partA, partOk, fieldAddrA, opA, dstOk, nilSliceOp, Nat.reduceLT, Nat.reduceEqDiff, Int.reduceLE, Int.reduceToNat, ↓reduceIte, eq_self, wtAll]
              refine ⟨⟨by ((try clear hh_ic); omega), by ((try clear hh_ic); omega), rfl⟩, ⟨hd0.1, by simp only [InR_i64]; ((try clear hh_ic); omega), by simp only [InR_i64]; ((try clear hh_ic); omega)⟩, ?_⟩
              rw [bit_eq0]
              refine condV (fun a2 => ?_) (fun a2 => ?_)
              · have b2 : own.testBit p = false := by simpa using a2
                simp only [vsAll, loadA, loadRow, partA, partOk, fieldAddrA, opA, dstOk, nilSliceOp, Nat.reduceLT, Nat.reduceEqDiff, ↓reduceIte, eq_self, wtAll]
                refine condV (fun a3 => ?_) (fun a3 => ?_)
                · have hcv : claimV x j = 2 := by rw [cvV, wantW, if_pos a3, if_pos b2]; rfl
                  simp only [vsAll, binA, binLitA, intA, loadA, loadRow, partA, partOk, okAll, stAll, opsA, opA, dstOk, nilSliceOp, Nat.reduceLT, Nat.reduceEqDiff, Int.reduceSub, ↓reduceIte, eq_self, wtAll]
                  refine ⟨by simp only [InR_i64]; ((try clear hh_ic); omega), ?_⟩
                  refine callK_pure (wclaim_tri x j _ kn) ?_
                  rw [cvE, hcv]
                  simp only [vsAll, binA, binLitA, intA, extractA, pickA, opA, guardV, dstOk, nilSliceOp, Nat.reduceAdd, Nat.reduceLT, Nat.reduceEqDiff, ↓reduceIte, implies_true, eq_self]
                  refine gcall (boo true) (fun g => ⟨trivial, by simp only [okAll, opsA], awake_tri _⟩) ?_
                  simp only [vsAll, pickA, opA, dstOk, nilSliceOp, resA, retA.eq_1, Nat.reduceLT, Nat.reduceEqDiff, ↓reduceIte, implies_true, eq_self, Try.results7]
                  exact dropR_pure rfl (by (repeat (first | exact HSub_rfl | refine HSub_put_eq (by simp only [vsAll, binA, binLitA, intA, aggA, boolA, nilA2, isConst, unA, loadA, loadRow, partA, partOk, fieldAddrA, indexAddrA, indexA, fieldA, extractA, lenA, nilCheckA, boxA, cellA, cellsA, fillA, okParts, buildSliceA, buildMutA, makeSliceA, partIdx, elemsA, lensA, ifaceA, convA, mmA, pickA, okAll, stAll, opsA, partsA, partsOk, opA, allocA, boxMutA, newCells, okCells, storeObj, appendA, guardV, taA, nM, mapUpA, lookA, sliceA, boundsA, opO, okO, copyA, dstOk, nilA, quietOk, nilSliceOp, panA, resA, argFr, retA.eq_1, retA.eq_2, Nat.reduceAdd, Nat.reduceSub, Nat.reduceMul, Nat.reduceLT, Nat.reduceLeDiff, Nat.reduceEqDiff, Nat.reduceBEq, Int.reduceAdd, Int.reduceSub, Int.reduceMul, Int.reduceNeg, Int.reduceLE, Int.reduceLT, Int.reduceEq, Int.reduceNe, Int.reduceToNat, ↓reduceIte, reduceCtorEq, implies_true, forall_const, eq_self, ne_eq, wtAll, Try.ntmps7, Try.results7, hh_ic]) ?_ | refine HSub_drop2 (by simp only [eq_self, hh_ic]) ?_ | refine HSub_keep_eq (by simp only [vsAll, binA, binLitA, intA, aggA, boolA, nilA2, isConst, unA, loadA, loadRow, partA, partOk, fieldAddrA, indexAddrA, indexA, fieldA, extractA, lenA, nilCheckA, boxA, cellA, cellsA, fillA, okParts, buildSliceA, buildMutA, makeSliceA, partIdx, elemsA, lensA, ifaceA, convA, mmA, pickA, okAll, stAll, opsA, partsA, partsOk, opA, allocA, boxMutA, newCells, okCells, storeObj, appendA, guardV, taA, nM, mapUpA, lookA, sliceA, boundsA, opO, okO, copyA, dstOk, nilA, quietOk, nilSliceOp, panA, resA, argFr, retA.eq_1, retA.eq_2, Nat.reduceAdd, Nat.reduceSub, Nat.reduceMul, Nat.reduceLT, Nat.reduceLeDiff, Nat.reduceEqDiff, Nat.reduceBEq, Int.reduceAdd, Int.reduceSub, Int.reduceMul, Int.reduceNeg, Int.reduceLE, Int.reduceLT, Int.reduceEq, Int.reduceNe, Int.reduceToNat, ↓reduceIte, reduceCtorEq, implies_true, forall_const, eq_self, ne_eq, wtAll, Try.ntmps7, Try.results7, hh_ic]) ?_)))
                · have hcv : claimV x j = 0 := by rw [cvV, wantW, if_neg (by rw [a3]; decide), if_pos b2]
                  simp only [vsAll, loadA, loadRow, partA, partOk, okAll, stAll, opsA, opA, dstOk, Nat.reduceLT, Nat.reduceEqDiff, ↓reduceIte, eq_self, wtAll]
                  refine callK_pure (wclaim_tri x j _ kn) ?_
                  rw [cvE, hcv]
                  simp only [vsAll, binA, binLitA, intA, extractA, pickA, opA, guardV, dstOk, nilSliceOp, Nat.reduceAdd, Nat.reduceLT, Nat.reduceEqDiff, ↓reduceIte, implies_true, eq_self]
                  refine gcall (boo true) (fun g => ⟨trivial, by simp only [okAll, opsA], awake_tri _⟩) ?_
                  simp only [vsAll, pickA, opA, dstOk, nilSliceOp, resA, retA.eq_1, Nat.reduceLT, Nat.reduceEqDiff, ↓reduceIte, implies_true, eq_self, Try.results7]
                  exact dropR_pure rfl (by (repeat (first | exact HSub_rfl | refine HSub_put_eq (by simp only [vsAll, binA, binLitA, intA, aggA, boolA, nilA2, isConst, unA, loadA, loadRow, partA, partOk, fieldAddrA, indexAddrA, indexA, fieldA, extractA, lenA, nilCheckA, boxA, cellA, cellsA, fillA, okParts, buildSliceA, buildMutA, makeSliceA, partIdx, elemsA, lensA, ifaceA, convA, mmA, pickA, okAll, stAll, opsA, partsA, partsOk, opA, allocA, boxMutA, newCells, okCells, storeObj, appendA, guardV, taA, nM, mapUpA, lookA, sliceA, boundsA, opO, okO, copyA, dstOk, nilA, quietOk, nilSliceOp, panA, resA, argFr, retA.eq_1, retA.eq_2, Nat.reduceAdd, Nat.reduceSub, Nat.reduceMul, Nat.reduceLT, Nat.reduceLeDiff, Nat.reduceEqDiff, Nat.reduceBEq, Int.reduceAdd, Int.reduceSub, Int.reduceMul, Int.reduceNeg, Int.reduceLE, Int.reduceLT, Int.reduceEq, Int.reduceNe, Int.reduceToNat, ↓reduceIte, reduceCtorEq, implies_true, forall_const, eq_self, ne_eq, wtAll, Try.ntmps7, Try.results7, hh_ic]) ?_ | refine HSub_drop2 (by simp only [eq_self, hh_ic]) ?_ | refine HSub_keep_eq (by simp only [vsAll, binA, binLitA, intA, aggA, boolA, nilA2, isConst, unA, loadA, loadRow, partA, partOk, fieldAddrA, indexAddrA, indexA, fieldA, extractA, lenA, nilCheckA, boxA, cellA, cellsA, fillA, okParts, buildSliceA, buildMutA, makeSliceA, partIdx, elemsA, lensA, ifaceA, convA, mmA, pickA, okAll, stAll, opsA, partsA, partsOk, opA, allocA, boxMutA, newCells, okCells, storeObj, appendA, guardV, taA, nM, mapUpA, lookA, sliceA, boundsA, opO, okO, copyA, dstOk, nilA, quietOk, nilSliceOp, panA, resA, argFr, retA.eq_1, retA.eq_2, Nat.reduceAdd, Nat.reduceSub, Nat.reduceMul, Nat.reduceLT, Nat.reduceLeDiff, Nat.reduceEqDiff, Nat.reduceBEq, Int.reduceAdd, Int.reduceSub, Int.reduceMul, Int.reduceNeg, Int.reduceLE, Int.reduceLT, Int.reduceEq, Int.reduceNe, Int.reduceToNat, ↓reduceIte, reduceCtorEq, implies_true, forall_const, eq_self, ne_eq, wtAll, Try.ntmps7, Try.results7, hh_ic]) ?_)))
              · have b2 : ¬ own.testBit p = false := by simpa using a2
                simp only [vsAll, loadA, loadRow, partA, partOk, fieldAddrA, opA, dstOk, Nat.reduceLT, Nat.reduceEqDiff, ↓reduceIte, eq_self, wtAll]
                refine condV (fun a3 => ?_) (fun a3 => ?_)
                · have hcv : claimV x j = 0 := by rw [cvV, wantW, if_pos a3, if_neg b2, if_pos b1]; rfl
                  simp only [vsAll, binA, binLitA, intA, loadA, loadRow, partA, partOk, okAll, stAll, opsA, opA, dstOk, nilSliceOp, Nat.reduceLT, Nat.reduceEqDiff, Int.reduceSub, ↓reduceIte, eq_self, wtAll]
                  refine ⟨by simp only [InR_i64]; ((try clear hh_ic); omega), ?_⟩
                  refine callK_pure (wclaim_tri x j _ kn) ?_
                  rw [cvE, hcv]
                  simp only [vsAll, binA, binLitA, intA, extractA, pickA, opA, guardV, dstOk, nilSliceOp, Nat.reduceAdd, Nat.reduceLT, Nat.reduceEqDiff, ↓reduceIte, implies_true, eq_self]
                  refine gcall (boo true) (fun g => ⟨trivial, by simp only [okAll, opsA], awake_tri _⟩) ?_
                  simp only [vsAll, pickA, opA, dstOk, nilSliceOp, resA, retA.eq_1, Nat.reduceLT, Nat.reduceEqDiff, ↓reduceIte, implies_true, eq_self, Try.results7]
                  exact dropR_pure rfl (by (repeat (first | exact HSub_rfl | refine HSub_put_eq (by simp only [vsAll, binA, binLitA, intA, aggA, boolA, nilA2, isConst, unA, loadA, loadRow, partA, partOk, fieldAddrA, indexAddrA, indexA, fieldA, extractA, lenA, nilCheckA, boxA, cellA, cellsA, fillA, okParts, buildSliceA, buildMutA, makeSliceA, partIdx, elemsA, lensA, ifaceA, convA, mmA, pickA, okAll, stAll, opsA, partsA, partsOk, opA, allocA, boxMutA, newCells, okCells, storeObj, appendA, guardV, taA, nM, mapUpA, lookA, sliceA, boundsA, opO, okO, copyA, dstOk, nilA, quietOk, nilSliceOp, panA, resA, argFr, retA.eq_1, retA.eq_2, Nat.reduceAdd, Nat.reduceSub, Nat.reduceMul, Nat.reduceLT, Nat.reduceLeDiff, Nat.reduceEqDiff, Nat.reduceBEq, Int.reduceAdd, Int.reduceSub, Int.reduceMul, Int.reduceNeg, Int.reduceLE, Int.reduceLT, Int.reduceEq, Int.reduceNe, Int.reduceToNat, ↓reduceIte, reduceCtorEq, implies_true, forall_const, eq_self, ne_eq, wtAll, Try.ntmps7, Try.results7, hh_ic]) ?_ | refine HSub_drop2 (by simp only [eq_self, hh_ic]) ?_ | refine HSub_keep_eq (by simp only [vsAll, binA, binLitA, intA, aggA, boolA, nilA2, isConst, unA, loadA, loadRow, partA, partOk, fieldAddrA, indexAddrA, indexA, fieldA, extractA, lenA, nilCheckA, boxA, cellA, cellsA, fillA, okParts, buildSliceA, buildMutA, makeSliceA, partIdx, elemsA, lensA, ifaceA, convA, mmA, pickA, okAll, stAll, opsA, partsA, partsOk, opA, allocA, boxMutA, newCells, okCells, storeObj, appendA, guardV, taA, nM, mapUpA, lookA, sliceA, boundsA, opO, okO, copyA, dstOk, nilA, quietOk, nilSliceOp, panA, resA, argFr, retA.eq_1, retA.eq_2, Nat.reduceAdd, Nat.reduceSub, Nat.reduceMul, Nat.reduceLT, Nat.reduceLeDiff, Nat.reduceEqDiff, Nat.reduceBEq, Int.reduceAdd, Int.reduceSub, Int.reduceMul, Int.reduceNeg, Int.reduceLE, Int.reduceLT, Int.reduceEq, Int.reduceNe, Int.reduceToNat, ↓reduceIte, reduceCtorEq, implies_true, forall_const, eq_self, ne_eq, wtAll, Try.ntmps7, Try.results7, hh_ic]) ?_)))
                · have hcv : claimV x j = 2 := by rw [cvV, wantW, if_neg (by rw [a3]; decide), if_neg b2, if_pos b1]
                  simp only [vsAll, loadA, loadRow, partA, partOk, okAll, stAll, opsA, opA, dstOk, Nat.reduceLT, Nat.reduceEqDiff, ↓reduceIte, eq_self, wtAll]
                  refine callK_pure (wclaim_tri x j _ kn) ?_
                  rw [cvE, hcv]
                  simp only [vsAll, binA, binLitA, intA, extractA, pickA, opA, guardV, dstOk, nilSliceOp, Nat.reduceAdd, Nat.reduceLT, Nat.reduceEqDiff, ↓reduceIte, implies_true, eq_self]
                  refine gcall (boo true) (fun g => ⟨trivial, by simp only [okAll, opsA], awake_tri _⟩) ?_
                  simp only [vsAll, pickA, opA, dstOk, nilSliceOp, resA, retA.eq_1, Nat.reduceLT, Nat.reduceEqDiff, ↓reduceIte, implies_true, eq_self, Try.results7]
                  exact dropR_pure rfl (by (repeat (first | exact HSub_rfl | refine HSub_put_eq (by simp only [vsAll, binA, binLitA, intA, aggA, boolA, nilA2, isConst, unA, loadA, loadRow, partA, partOk, fieldAddrA, indexAddrA, indexA, fieldA, extractA, lenA, nilCheckA, boxA, cellA, cellsA, fillA, okParts, buildSliceA, buildMutA, makeSliceA, partIdx, elemsA, lensA, ifaceA, convA, mmA, pickA, okAll, stAll, opsA, partsA, partsOk, opA, allocA, boxMutA, newCells, okCells, storeObj, appendA, guardV, taA, nM, mapUpA, lookA, sliceA, boundsA, opO, okO, copyA, dstOk, nilA, quietOk, nilSliceOp, panA, resA, argFr, retA.eq_1, retA.eq_2, Nat.reduceAdd, Nat.reduceSub, Nat.reduceMul, Nat.reduceLT, Nat.reduceLeDiff, Nat.reduceEqDiff, Nat.reduceBEq, Int.reduceAdd, Int.reduceSub, Int.reduceMul, Int.reduceNeg, Int.reduceLE, Int.reduceLT, Int.reduceEq, Int.reduceNe, Int.reduceToNat, ↓reduceIte, reduceCtorEq, implies_true, forall_const, eq_self, ne_eq, wtAll, Try.ntmps7, Try.results7, hh_ic]) ?_ | refine HSub_drop2 (by simp only [eq_self, hh_ic]) ?_ | refine HSub_keep_eq (by simp only [vsAll, binA, binLitA, intA, aggA, boolA, nilA2, isConst, unA, loadA, loadRow, partA, partOk, fieldAddrA, indexAddrA, indexA, fieldA, extractA, lenA, nilCheckA, boxA, cellA, cellsA, fillA, okParts, buildSliceA, buildMutA, makeSliceA, partIdx, elemsA, lensA, ifaceA, convA, mmA, pickA, okAll, stAll, opsA, partsA, partsOk, opA, allocA, boxMutA, newCells, okCells, storeObj, appendA, guardV, taA, nM, mapUpA, lookA, sliceA, boundsA, opO, okO, copyA, dstOk, nilA, quietOk, nilSliceOp, panA, resA, argFr, retA.eq_1, retA.eq_2, Nat.reduceAdd, Nat.reduceSub, Nat.reduceMul, Nat.reduceLT, Nat.reduceLeDiff, Nat.reduceEqDiff, Nat.reduceBEq, Int.reduceAdd, Int.reduceSub, Int.reduceMul, Int.reduceNeg, Int.reduceLE, Int.reduceLT, Int.reduceEq, Int.reduceNe, Int.reduceToNat, ↓reduceIte, reduceCtorEq, implies_true, forall_const, eq_self, ne_eq, wtAll, Try.ntmps7, Try.results7, hh_ic]) ?_)))
            · have b1 : ¬ own = 2 ^ p := by have := of_decide_eq_false a1; ((try clear hh_ic); omega)
              simp only [vsAll, binA, binLitA, intA, loadA, loadRow, partA, partOk, fieldAddrA, opA, dstOk, Nat.reduceLT, Nat.reduceEqDiff, Int.reduceLE, Int.reduceToNat, ↓reduceIte, eq_self, wtAll]
              refine ⟨⟨by ((try clear hh_ic); omega), by ((try clear hh_ic); omega), rfl⟩, ⟨hd0.1, by simp only [InR_i64]; ((try clear hh_ic); omega), by simp only [InR_i64]; ((try clear hh_ic); omega)⟩, ?_⟩
              rw [bit_eq0]
              refine condV (fun a2 => ?_) (fun a2 => ?_)
              · have b2 : own.testBit p = false := by simpa using a2
                simp only [vsAll, loadA, loadRow, partA, partOk, fieldAddrA, opA, dstOk, nilSliceOp, Nat.reduceLT, Nat.reduceEqDiff, ↓reduceIte, eq_self, wtAll]
                refine condV (fun a3 => ?_) (fun a3 => ?_)
                · have hcv : claimV x j = 2 := by rw [cvV, wantW, if_pos a3, if_pos b2]; rfl
                  simp only [vsAll, binA, binLitA, intA, loadA, loadRow, partA, partOk, okAll, stAll, opsA, opA, dstOk, nilSliceOp, Nat.reduceLT, Nat.reduceEqDiff, Int.reduceSub, ↓reduceIte, eq_self, wtAll]
                  refine ⟨by simp only [InR_i64]; ((try clear hh_ic); omega), ?_⟩
                  refine callK_pure (wclaim_tri x j _ kn) ?_
                  rw [cvE, hcv]
                  simp only [vsAll, binA, binLitA, intA, extractA, pickA, opA, guardV, dstOk, nilSliceOp, Nat.reduceAdd, Nat.reduceLT, Nat.reduceEqDiff, ↓reduceIte, implies_true, eq_self]
                  refine gcall (boo true) (fun g => ⟨trivial, by simp only [okAll, opsA], awake_tri _⟩) ?_
                  simp only [vsAll, pickA, opA, dstOk, nilSliceOp, resA, retA.eq_1, Nat.reduceLT, Nat.reduceEqDiff, ↓reduceIte, implies_true, eq_self, Try.results7]
                  exact dropR_pure rfl (by (repeat (first | exact HSub_rfl | refine HSub_put_eq (by simp only [vsAll, binA, binLitA, intA, aggA, boolA, nilA2, isConst, unA, loadA, loadRow, partA, partOk, fieldAddrA, indexAddrA, indexA, fieldA, extractA, lenA, nilCheckA, boxA, cellA, cellsA, fillA, okParts, buildSliceA, buildMutA, makeSliceA, partIdx, elemsA, lensA, ifaceA, convA, mmA, pickA, okAll, stAll, opsA, partsA, partsOk, opA, allocA, boxMutA, newCells, okCells, storeObj, appendA, guardV, taA, nM, mapUpA, lookA, sliceA, boundsA, opO, okO, copyA, dstOk, nilA, quietOk, nilSliceOp, panA, resA, argFr, retA.eq_1, retA.eq_2, Nat.reduceAdd, Nat.reduceSub, Nat.reduceMul, Nat.reduceLT, Nat.reduceLeDiff, Nat.reduceEqDiff, Nat.reduceBEq, Int.reduceAdd, Int.reduceSub, Int.reduceMul, Int.reduceNeg, Int.reduceLE, Int.reduceLT, Int.reduceEq, Int.reduceNe, Int.reduceToNat, ↓reduceIte, reduceCtorEq, implies_true, forall_const, eq_self, ne_eq, wtAll, Try.ntmps7, Try.results7, hh_ic]) ?_ | refine HSub_drop2 (by simp only [eq_self, hh_ic]) ?_ | refine HSub_keep_eq (by simp only [vsAll, binA, binLitA, intA, aggA, boolA, nilA2, isConst, unA, loadA, loadRow, partA, partOk, fieldAddrA, indexAddrA, indexA, fieldA, extractA, lenA, nilCheckA, boxA, cellA, cellsA, fillA, okParts, buildSliceA, buildMutA, makeSliceA, partIdx, elemsA, lensA, ifaceA, convA, mmA, pickA, okAll, stAll, opsA, partsA, partsOk, opA, allocA, boxMutA, newCells, okCells, storeObj, appendA, guardV, taA, nM, mapUpA, lookA, sliceA, boundsA, opO, okO, copyA, dstOk, nilA, quietOk, nilSliceOp, panA, resA, argFr, retA.eq_1, retA.eq_2, Nat.reduceAdd, Nat.reduceSub, Nat.reduceMul, Nat.reduceLT, Nat.reduceLeDiff, Nat.reduceEqDiff, Nat.reduceBEq, Int.reduceAdd, Int.reduceSub, Int.reduceMul, Int.reduceNeg, Int.reduceLE, Int.reduceLT, Int.reduceEq, Int.reduceNe, Int.reduceToNat, ↓reduceIte, reduceCtorEq, implies_true, forall_const, eq_self, ne_eq, wtAll, Try.ntmps7, Try.results7, hh_ic]) ?_)))
                · have hcv : claimV x j = 0 := by rw [cvV, wantW, if_neg (by rw [a3]; decide), if_pos b2]
                  simp only [vsAll, loadA, loadRow, partA, partOk, okAll, stAll, opsA, opA, dstOk, Nat.reduceLT, Nat.reduceEqDiff, ↓reduceIte, eq_self, wtAll]
                  refine callK_pure (wclaim_tri x j _ kn) ?_
                  rw [cvE, hcv]
                  simp only [vsAll, binA, binLitA, intA, extractA, pickA, opA, guardV, dstOk, nilSliceOp, Nat.reduceAdd, Nat.reduceLT, Nat.reduceEqDiff, ↓reduceIte, implies_true, eq_self]
                  refine gcall (boo true) (fun g => ⟨trivial, by simp only [okAll, opsA], awake_tri _⟩) ?_
                  simp only [vsAll, pickA, opA, dstOk, nilSliceOp, resA, retA.eq_1, Nat.reduceLT, Nat.reduceEqDiff, ↓reduceIte, implies_true, eq_self, Try.results7]
                  exact dropR_pure rfl (by (repeat (first | exact HSub_rfl | refine HSub_put_eq (by simp only [vsAll, binA, binLitA, intA, aggA, boolA, nilA2, isConst, unA, loadA, loadRow, partA, partOk, fieldAddrA, indexAddrA, indexA, fieldA, extractA, lenA, nilCheckA, boxA, cellA, cellsA, fillA, okParts, buildSliceA, buildMutA, makeSliceA, partIdx, elemsA, lensA, ifaceA, convA, mmA, pickA, okAll, stAll, opsA, partsA, partsOk, opA, allocA, boxMutA, newCells, okCells, storeObj, appendA, guardV, taA, nM, mapUpA, lookA, sliceA, boundsA, opO, okO, copyA, dstOk, nilA, quietOk, nilSliceOp, panA, resA, argFr, retA.eq_1, retA.eq_2, Nat.reduceAdd, Nat.reduceSub, Nat.reduceMul, Nat.reduceLT, Nat.reduceLeDiff, Nat.reduceEqDiff, Nat.reduceBEq, Int.reduceAdd, Int.reduceSub, Int.reduceMul, Int.reduceNeg, Int.reduceLE, Int.reduceLT, Int.reduceEq, Int.reduceNe, Int.reduceToNat, ↓reduceIte, reduceCtorEq, implies_true, forall_const, eq_self, ne_eq, wtAll, Try.ntmps7, Try.results7, hh_ic]) ?_ | refine HSub_drop2 (by simp only [eq_self, hh_ic]) ?_ | refine HSub_keep_eq (by simp only [vsAll, binA, binLitA, intA, aggA, boolA, nilA2, isConst, unA, loadA, loadRow, partA, partOk, fieldAddrA, indexAddrA, indexA, fieldA, extractA, lenA, nilCheckA, boxA, cellA, cellsA, fillA, okParts, buildSliceA, buildMutA, makeSliceA, partIdx, elemsA, lensA, ifaceA, convA, mmA, pickA, okAll, stAll, opsA, partsA, partsOk, opA, allocA, boxMutA, newCells, okCells, storeObj, appendA, guardV, taA, nM, mapUpA, lookA, sliceA, boundsA, opO, okO, copyA, dstOk, nilA, quietOk, nilSliceOp, panA, resA, argFr, retA.eq_1, retA.eq_2, Nat.reduceAdd, Nat.reduceSub, Nat.reduceMul, Nat.reduceLT, Nat.reduceLeDiff, Nat.reduceEqDiff, Nat.reduceBEq, Int.reduceAdd, Int.reduceSub, Int.reduceMul, Int.reduceNeg, Int.reduceLE, Int.reduceLT, Int.reduceEq, Int.reduceNe, Int.reduceToNat, ↓reduceIte, reduceCtorEq, implies_true, forall_const, eq_self, ne_eq, wtAll, Try.ntmps7, Try.results7, hh_ic]) ?_)))
              · have b2 : ¬ own.testBit p = false := by simpa using a2
                simp only [vsAll, loadA, loadRow, partA, partOk, fieldAddrA, opA, dstOk, Nat.reduceLT, Nat.reduceEqDiff, ↓reduceIte, eq_self, wtAll]
                refine condV (fun a3 => ?_) (fun a3 => ?_)
                · have hcv : claimV x j = 1 := by rw [cvV, wantW, if_pos a3, if_neg b2, if_neg b1]; rfl
                  simp only [vsAll, binA, binLitA, intA, loadA, loadRow, partA, partOk, okAll, stAll, opsA, opA, dstOk, nilSliceOp, Nat.reduceLT, Nat.reduceEqDiff, Int.reduceSub, ↓reduceIte, eq_self, wtAll]
                  refine ⟨by simp only [InR_i64]; ((try clear hh_ic); omega), ?_⟩
                  refine callK_pure (wclaim_tri x j _ kn) ?_
                  rw [cvE, hcv]
                  simp only [vsAll, binA, binLitA, intA, extractA, pickA, opA, guardV, dstOk, nilSliceOp, Nat.reduceAdd, Nat.reduceLT, Nat.reduceEqDiff, ↓reduceIte, implies_true, eq_self]
                  refine gcall (boo true) (fun g => ⟨trivial, by simp only [okAll, opsA], awake_tri _⟩) ?_
                  simp only [vsAll, pickA, opA, dstOk, nilSliceOp, resA, retA.eq_1, Nat.reduceLT, Nat.reduceEqDiff, ↓reduceIte, implies_true, eq_self, Try.results7]
                  exact dropR_pure rfl (by (repeat (first | exact HSub_rfl | refine HSub_put_eq (by simp only [vsAll, binA, binLitA, intA, aggA, boolA, nilA2, isConst, unA, loadA, loadRow, partA, partOk, fieldAddrA, indexAddrA, indexA, fieldA, extractA, lenA, nilCheckA, boxA, cellA, cellsA, fillA, okParts, buildSliceA, buildMutA, makeSliceA, partIdx, elemsA, lensA, ifaceA, convA, mmA, pickA, okAll, stAll, opsA, partsA, partsOk, opA, allocA, boxMutA, newCells, okCells, storeObj, appendA, guardV, taA, nM, mapUpA, lookA, sliceA, boundsA, opO, okO, copyA, dstOk, nilA, quietOk, nilSliceOp, panA, resA, argFr, retA.eq_1, retA.eq_2, Nat.reduceAdd, Nat.reduceSub, Nat.reduceMul, Nat.reduceLT, Nat.reduceLeDiff, Nat.reduceEqDiff, Nat.reduceBEq, Int.reduceAdd, Int.reduceSub, Int.reduceMul, Int.reduceNeg, Int.reduceLE, Int.reduceLT, Int.reduceEq, Int.reduceNe, Int.reduceToNat, ↓reduceIte, reduceCtorEq, implies_true, forall_const, eq_self, ne_eq, wtAll, Try.ntmps7, Try.results7, hh_ic]) ?_ | refine HSub_drop2 (by simp only [eq_self, hh_ic]) ?_ | refine HSub_keep_eq (by simp only [vsAll, binA, binLitA, intA, aggA, boolA, nilA2, isConst, unA, loadA, loadRow, partA, partOk, fieldAddrA, indexAddrA, indexA, fieldA, extractA, lenA, nilCheckA, boxA, cellA, cellsA, fillA, okParts, buildSliceA, buildMutA, makeSliceA, partIdx, elemsA, lensA, ifaceA, convA, mmA, pickA, okAll, stAll, opsA, partsA, partsOk, opA, allocA, boxMutA, newCells, okCells, storeObj, appendA, guardV, taA, nM, mapUpA, lookA, sliceA, boundsA, opO, okO, copyA, dstOk, nilA, quietOk, nilSliceOp, panA, resA, argFr, retA.eq_1, retA.eq_2, Nat.reduceAdd, Nat.reduceSub, Nat.reduceMul, Nat.reduceLT, Nat.reduceLeDiff, Nat.reduceEqDiff, Nat.reduceBEq, Int.reduceAdd, Int.reduceSub, Int.reduceMul, Int.reduceNeg, Int.reduceLE, Int.reduceLT, Int.reduceEq, Int.reduceNe, Int.reduceToNat, ↓reduceIte, reduceCtorEq, implies_true, forall_const, eq_self, ne_eq, wtAll, Try.ntmps7, Try.results7, hh_ic]) ?_)))
                · have hcv : claimV x j = 1 := by rw [cvV, wantW, if_neg (by rw [a3]; decide), if_neg b2, if_neg b1]
                  simp only [vsAll, loadA, loadRow, partA, partOk, okAll, stAll, opsA, opA, dstOk, Nat.reduceLT, Nat.reduceEqDiff, ↓reduceIte, eq_self, wtAll]
                  refine callK_pure (wclaim_tri x j _ kn) ?_
                  rw [cvE, hcv]
                  simp only [vsAll, binA, binLitA, intA, extractA, pickA, opA, guardV, dstOk, nilSliceOp, Nat.reduceAdd, Nat.reduceLT, Nat.reduceEqDiff, ↓reduceIte, implies_true, eq_self]
                  refine gcall (boo true) (fun g => ⟨trivial, by simp only [okAll, opsA], awake_tri _⟩) ?_
                  simp only [vsAll, pickA, opA, dstOk, nilSliceOp, resA, retA.eq_1, Nat.reduceLT, Nat.reduceEqDiff, ↓reduceIte, implies_true, eq_self, Try.results7]
                  exact dropR_pure rfl (by (repeat (first | exact HSub_rfl | refine HSub_put_eq (by simp only [vsAll, binA, binLitA, intA, aggA, boolA, nilA2, isConst, unA, loadA, loadRow, partA, partOk, fieldAddrA, indexAddrA, indexA, fieldA, extractA, lenA, nilCheckA, boxA, cellA, cellsA, fillA, okParts, buildSliceA, buildMutA, makeSliceA, partIdx, elemsA, lensA, ifaceA, convA, mmA, pickA, okAll, stAll, opsA, partsA, partsOk, opA, allocA, boxMutA, newCells, okCells, storeObj, appendA, guardV, taA, nM, mapUpA, lookA, sliceA, boundsA, opO, okO, copyA, dstOk, nilA, quietOk, nilSliceOp, panA, resA, argFr, retA.eq_1, retA.eq_2, Nat.reduceAdd, Nat.reduceSub, Nat.reduceMul, Nat.reduceLT, Nat.reduceLeDiff, Nat.reduceEqDiff, Nat.reduceBEq, Int.reduceAdd, Int.reduceSub, Int.reduceMul, Int.reduceNeg, Int.reduceLE, Int.reduceLT, Int.reduceEq, Int.reduceNe, Int.reduceToNat, ↓reduceIte, reduceCtorEq, implies_true, forall_const, eq_self, ne_eq, wtAll, Try.ntmps7, Try.results7, hh_ic]) ?_ | refine HSub_drop2 (by simp only [eq_self, hh_ic]) ?_ | refine HSub_keep_eq (by simp only [vsAll, binA, binLitA, intA, aggA, boolA, nilA2, isConst, unA, loadA, loadRow, partA, partOk, fieldAddrA, indexAddrA, indexA, fieldA, extractA, lenA, nilCheckA, boxA, cellA, cellsA, fillA, okParts, buildSliceA, buildMutA, makeSliceA, partIdx, elemsA, lensA, ifaceA, convA, mmA, pickA, okAll, stAll, opsA, partsA, partsOk, opA, allocA, boxMutA, newCells, okCells, storeObj, appendA, guardV, taA, nM, mapUpA, lookA, sliceA, boundsA, opO, okO, copyA, dstOk, nilA, quietOk, nilSliceOp, panA, resA, argFr, retA.eq_1, retA.eq_2, Nat.reduceAdd, Nat.reduceSub, Nat.reduceMul, Nat.reduceLT, Nat.reduceLeDiff, Nat.reduceEqDiff, Nat.reduceBEq, Int.reduceAdd, Int.reduceSub, Int.reduceMul, Int.reduceNeg, Int.reduceLE, Int.reduceLT, Int.reduceEq, Int.reduceNe, Int.reduceToNat, ↓reduceIte, reduceCtorEq, implies_true, forall_const, eq_self, ne_eq, wtAll, Try.ntmps7, Try.results7, hh_ic]) ?_)))
end Go.Proofs.Ytkonoggmdcdeeaa
end
section
set_option linter.unusedVariables false
set_option linter.unusedSimpArgs false
set_option maxRecDepth 100000
namespace Go.Proofs.Ytkonoggmdcdeeaa
open Go.V Go.ChangeShapes Go.WideShapes Go.ChangeAt Go.RowKit
theorem irons_cells : cellsT Try.prog 9 27 = some [.int .i64, .sl [.sl [.int .i64]], .sl [.int .i64], .sl [.sl [.int .i64, .int .i64, .int .i64]], .sl [.int .i64, .int .i64, .bool]] := by kernel_rfl
theorem ints_of {av : AV} (h : CKA (.sl [.int .i64]) av) : ∃ l : List Int, l.length ≤ maxLen ∧ AV.Le av (intsAV l) := by
  obtain ⟨l, h1, h2⟩ := told_slice (α := Int) (fun z => [i64 z]) 0 (fun cs hcs => by
    obtain ⟨z, hz, _⟩ := told_int 0 hcs rfl
    exact ⟨z, rfl, fun j hj => by
      match j, hj with
      | 0, _ => rw [hz]; exact AV.Le.refl _⟩) h
  exact ⟨l, h1, h2⟩
theorem marks_of {av : AV} (h : CKA (.sl [.int .i64, .int .i64, .int .i64]) av) : ∃ l : List Mk, l.length ≤ maxLen ∧ AV.Le av (mksAV l) := by
  obtain ⟨l, h1, h2⟩ := told_slice (α := Mk) Mk.cs mk0 (fun cs hcs => by
    obtain ⟨a, ha, _⟩ := told_int 0 hcs rfl
    obtain ⟨b, hb, _⟩ := told_int 1 hcs rfl
    obtain ⟨c, hc, _⟩ := told_int 2 hcs rfl
    exact ⟨⟨a, b, c⟩, rfl, fun j hj => by
      match j, hj with
      | 0, _ => rw [ha]; exact AV.Le.refl _
      | 1, _ => rw [hb]; exact AV.Le.refl _
      | 2, _ => rw [hc]; exact AV.Le.refl _⟩) h
  exact ⟨l, h1, h2⟩
theorem claims_of {av : AV} (h : CKA (.sl [.int .i64, .int .i64, .bool]) av) : ∃ l : List Cl, l.length ≤ maxLen ∧ AV.Le av (clAV l) := by
  obtain ⟨l, h1, h2⟩ := told_slice (α := Cl) Cl.cs cl0 (fun cs hcs => by
    obtain ⟨a, ha, _⟩ := told_int 0 hcs rfl
    obtain ⟨b, hb, _⟩ := told_int 1 hcs rfl
    obtain ⟨c, hc⟩ := told_bool 2 hcs rfl
    exact ⟨⟨a, b, c⟩, rfl, fun j hj => by
      match j, hj with
      | 0, _ => rw [ha]; exact AV.Le.refl _
      | 1, _ => rw [hb]; exact AV.Le.refl _
      | 2, _ => rw [hc]; exact AV.Le.refl _⟩) h
  exact ⟨l, h1, h2⟩
theorem lists_of {av : AV} (h : CKA (.sl [.sl [.int .i64]]) av) : ∃ l : List (List Int), l.length ≤ maxLen ∧ AV.Le av (llAV l) := by
  obtain ⟨l, h1, h2⟩ := told_slice (α := List Int) (fun l => [intsAV l]) [] (fun cs hcs => by
    obtain ⟨l, _, hl⟩ := ints_of (hcs.2 0 _ rfl)
    exact ⟨l, rfl, fun j hj => by
      match j, hj with
      | 0, _ => exact hl⟩) h
  exact ⟨l, h1, h2⟩
theorem strakes_of {av : AV} (h : CKA (.sl [.sl [.int .i64, .int .i64, .int .i64]]) av) : ∃ l : List (List Mk), l.length ≤ maxLen ∧ AV.Le av (stAV l) := by
  obtain ⟨l, h1, h2⟩ := told_slice (α := List Mk) (fun l => [mksAV l]) [] (fun cs hcs => by
    obtain ⟨l, _, hl⟩ := marks_of (hcs.2 0 _ rfl)
    exact ⟨l, rfl, fun j hj => by
      match j, hj with
      | 0, _ => exact hl⟩) h
  exact ⟨l, h1, h2⟩
theorem iron_rel {H : Type} {enc : TypeId × Value → H} {W : World} {sp : Nat → Bool} {held : Bool} {v : Value} {d : DataW H} {ps : List MemPlace}
    (h : DataW.Trod enc Try.prog W 0 sp held 27 v d ps) : ∃ x : Ir, (x.ow.length < 2 ^ 63 ∧ x.st.length < 2 ^ 63) ∧ VRel (st0 W) x.av v := by
  obtain ⟨cs, hcs, hv⟩ := trod_agg irons_cells (by decide) h
  obtain ⟨F, h0, _⟩ := told_int 0 hcs rfl
  obtain ⟨ow, l1, h1⟩ := lists_of (hcs.2 1 _ rfl)
  obtain ⟨mo, l2, h2⟩ := ints_of (hcs.2 2 _ rfl)
  obtain ⟨st, l3, h3⟩ := strakes_of (hcs.2 3 _ rfl)
  obtain ⟨cl, l4, h4⟩ := claims_of (hcs.2 4 _ rfl)
  have hm : maxLen < 2 ^ 63 := by decide
  refine ⟨⟨F, ow, mo, st, cl⟩, ⟨by show ow.length < _; omega, by show st.length < _; omega⟩, AV.Le.aggD (cs := cs) hcs.1.symm (fun j hj => ?_) _ _ hv⟩
  have hj5 : j < 5 := by have := hcs.1; simp at this; omega
  match j, hj5 with
  | 0, _ => rw [h0]; exact AV.Le.refl _
  | 1, _ => exact h1
  | 2, _ => exact h2
  | 3, _ => exact h3
  | 4, _ => exact h4

theorem Try.own : ownKnob Try.prog.godebug = none := by kernel_rfl
theorem u4 : Try.prog.underlying 4 = some .bool := by kernel_rfl
end Go.Proofs.Ytkonoggmdcdeeaa
end
section
set_option linter.unusedVariables false
set_option linter.unusedSimpArgs false
set_option maxRecDepth 100000
namespace Go.Proofs.Ytkonoggmdcdeeaa
open Go.V Go.ChangeShapes Go.WideShapes Go.ChangeAt Go.RowKit
theorem ironCan_u5 : Try.prog.underlying 5 = some (.int .u8) := by kernel_rfl
theorem ironCan_b8 {n : Int} (h : (Lit.int .u8 n).wf = true) : 0 ≤ n ∧ n ≤ 255 := by
  simp [Lit.wf, IntKind.min, IntKind.max, IntKind.signed, IntKind.bits] at h
  omega

theorem ironCan_lifted (os : Os) (started : os.Started) (H : Type) (enc : TypeId × Value → H) :
    ReturnsInHanded {} Try.checked os 7 .any (Rows.ironCanSpec.pre6 enc Try.prog Try.f7 Rows.ironCanRow.domain false) (Rows.ironCanSpec.post enc Try.prog Try.f7 false true false false) := by
  refine returnsInHanded_of_change (C := Try.checked) Try.own started (by kernel_rfl) Try.func7
    (ChangeSpec.witness6 (enc := enc) (C := Try.checked) false ⟨#[], #[.agg #[.int .i64 0, .slice none 0 0, .slice none 0 0, .slice none 0 0, .slice none 0 0], .int .u8 0, .int .u8 0], []⟩ 8 (by kernel_rfl) (by kernel_rfl) (by kernel_rfl) (by kernel_rfl)) ?_
  intro W base args ds gs before hval hW hcnd _
  have hW' := hW
  obtain ⟨p, q, hA, hV, rfl, hfz, hnd⟩ := hW
  obtain ⟨rfl, rfl⟩ := trodVars_none hV
  rw [show Try.f7.params.toList = [27, 5, 5] from by kernel_rfl] at hA
  obtain ⟨v0, v1, v2, d0, d1, d2, p0, p1, p2, rfl, rfl, rfl, h0, h1, h2⟩ := trodAll_three hA
  have hval : ∀ (j : Nat) t v, Try.f7.params[j]? = some t → (#[v0, v1, v2] : Array Value)[j]? = some v → Value.okWide Try.prog W .any base t v := hval
  rw [show Try.f7.params = #[27, 5, 5] from by kernel_rfl] at hval
  obtain ⟨x1, rfl, rfl, rfl, w1⟩ := open_int ironCan_u5 (hval 1 5 v1 rfl rfl) h1
  obtain ⟨x2, rfl, rfl, rfl, w2⟩ := open_int ironCan_u5 (hval 2 5 v2 rfl rfl) h2
  obtain ⟨h, hbd, hr⟩ := iron_rel h0
  refine (law_calls Try.func7 (by kernel_rfl) rfl (Tri.mono (can_law h x1 x2 H0 (ironCan_b8 w1) (ironCan_b8 w2) hbd.1 hbd.2) ?_) ⟨rfl, fun k hk => match k, hk with | 0, _ => hr | 1, _ => .lit _ | 2, _ => .lit _⟩).mono fun e W' he => ?_
  · rintro r H' ⟨rfl, _⟩; rfl
  · obtain ⟨rfl, hh, ho, hp⟩ := he
    exact ⟨_, rfl, law_post (d := 6) rfl (tb := 4) (by kernel_rfl) u4 (by decide +kernel) hW' rfl hh ho hp⟩

theorem ironCan_holds : Rows.IronCanSaid :=
  OpenClaim.holds_of_wide (p := Try.pinned) (s := Rows.ironCanSpec) (c := Rows.ironCanRow) 7 Try.f7 rfl rfl rfl rfl rfl rfl rfl ⟨rfl, rfl, rfl, rfl, rfl⟩ rfl rfl rfl rfl rfl (by kernel_rfl) Try.func7 (by kernel_rfl)
    (of_decide_eq_true (by kernel_rfl)) (by unfold Func.isWrapper; first | (rw [if_pos (by decide +kernel)]; kernel_rfl) | (rw [if_neg (by decide +kernel)]; exact ⟨rfl, rfl⟩))
    (fun os started H enc _ => ironCan_lifted os started H enc)

end Go.Proofs.Ytkonoggmdcdeeaa
end
