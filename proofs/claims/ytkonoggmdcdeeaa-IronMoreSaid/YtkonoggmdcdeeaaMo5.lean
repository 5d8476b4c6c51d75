/- WHAT IS PROVED: the given statement of this claim. Conditions: none beyond the given row. -/
import Derived.Test.YtkonoggmdcdeeaaRows
import Derived.Test.YtkonoggmdcdeeaaMo4
section
set_option linter.unusedVariables false
set_option linter.unusedSimpArgs false
set_option maxHeartbeats 4000000
set_option maxRecDepth 100000
namespace Go.Proofs.Ytkonoggmdcdeeaa
open Go.V
theorem withI_ow {x : Ir} {s o i : Nat} (hi : i < x.ow.length) : (withI x s o).ow.getD i [] = owW x o i := getD_mapR _ _ _ _ hi
theorem withI_st {x : Ir} {s o i : Nat} (hi : i < x.st.length) : (withI x s o).st.getD i [] = stW x s i := getD_mapR _ _ _ _ hi
theorem withI_gd {x : Ir} (k : Ok x) (s o : Nat) : Gd (withI x s o) := by
  have lo : (withI x s o).ow.length = x.ow.length := by simp [withI]
  have ls : (withI x s o).st.length = x.st.length := by simp [withI]
  have hF := k.F
  refine ⟨by show 0 ≤ x.F + 1 ∧ x.F + 1 ≤ 5; omega, by rw [lo]; exact k.nO, by rw [lo]; exact k.nM, by rw [ls]; exact k.nS, k.nC, fun i hi => ?_, fun i hi => k.mo i (by omega), fun i hi q hq => ?_, fun i hi => ?_, fun i hi q hq => ?_, fun i hi q hq => ?_, fun i hi => by rw [ls]; exact k.cs i hi, fun i hi => by rw [lo]; exact k.co i hi⟩
  · rw [lo] at hi
    rw [withI_ow hi, owW, List.length_append]
    have := k.ow i hi
    show ((_ + 1 : Nat) : Int) = x.F + 1
    omega
  · rw [lo] at hi
    rw [withI_ow hi, owW, getD_snoc]
    have h1 := k.ow i hi
    have h2 : (q : Int) < x.F + 1 := hq
    split
    · split <;> omega
    · exact k.ov i hi q (by omega)
  · rw [ls] at hi
    rw [withI_st hi, stW]
    have := k.st i hi
    split
    · rw [List.length_append]; show _ + 1 ≤ 7; omega
    · omega
  · rw [ls] at hi
    rw [withI_st hi] at hq ⊢
    show 0 ≤ _ ∧ _ < x.F + 1
    unfold stW at hq ⊢
    split at hq <;> rename_i e
    · rw [if_pos e, getD_snoc]
      split
      · show 0 ≤ x.F ∧ x.F < x.F + 1; omega
      · rename_i hne
        rw [List.length_append] at hq
        have := k.sf i hi q (by simp only [List.length_cons, List.length_nil] at hq; omega)
        omega
    · rw [if_neg e]
      have := k.sf i hi q hq
      omega
  · rw [ls] at hi
    rw [withI_st hi] at hq ⊢
    unfold stW at hq ⊢
    split at hq <;> rename_i e
    · rw [if_pos e, getD_snoc]
      split
      · exact ⟨(by decide : (0 : Int) ≤ 1), (by decide : (1 : Int) ≤ 1), (by decide : (1 : Int) ≤ 9)⟩
      · rename_i hne
        rw [List.length_append] at hq
        exact k.sl i hi q (by simp only [List.length_cons, List.length_nil] at hq; omega)
    · rw [if_neg e]
      exact k.sl i hi q hq

def likB (x : Ir) (s o : Nat) : Bool := fitB x o s && ((tlW (withI x s o) (fullS x) (fullC x) false).isSome && decide (((tlW (withI x s o) (fullS x) (fullC x) false).getD (0, 0)).1 = ((tlW x (fullS x) (fullC x) false).getD (0, 0)).1))
def likN (x : Ir) (s : Nat) : Nat → Nat
  | 0 => 0
  | o + 1 => likN x s o + if likB x s o = true then 2 ^ o else 0
theorem likN_lt (x : Ir) (s o : Nat) : likN x s o < 2 ^ o := by
  induction o with
  | zero => simp [likN]
  | succ o ih => simp only [likN, Nat.pow_succ]; split <;> omega
def likE (x : Ir) (s : Int) : Int := errE x (strB x s) true
def likV (x : Ir) (s : Int) : Nat := if likE x s = 0 then likN x s.toNat x.ow.length else 0
theorem dec_cast2 (a b : Nat) (x : Bool) : (x && decide ((a : Int) = (b : Int))) = (x && decide (a = b)) := by
  rw [show decide ((a : Int) = (b : Int)) = decide (a = b) from decide_eq_decide.2 (by omega)]
theorem wlikely_tri (x : Ir) (s : Int) (H : Hp) (kn : Near x) : PTri Try.prog (fnA 25) [x.av, i64 s] H (.tuple [i64 (likV x s : Nat), i64 (likE x s)]) := by
  refine Tri.drop ?_
  refine tri_a (m := fun _ => false) ans43 Try.func25 (by kernel_rfl) rfl (by simp only [List.length_append, List.length_cons, List.length_nil, Try.ntmps25]; decide) ?_
  simp only [vsAll, boxA, okAll, stAll, opsA, opA, allocA, dstOk, nilSliceOp, argFr, Nat.reduceAdd, Nat.reduceLT, ↓reduceIte, eq_self, wtAll, Try.ntmps25]
  intro i5 hh_i5; (try simp only [Hp.set_none, ite_none] at hh_i5)
  refine vs_draw2 [0, 0, 0, 1, 3, 4] [([0, 1, 2], [], 3), ([], [], 4)] [5] (by decide +kernel) ?_
  simp only [vsAll, loadA, loadRow, partA, partOk, opA, dstOk, argFr, Nat.reduceLT, Nat.reduceEqDiff, ↓reduceIte, eq_self, wtAll]
  refine qcall _ ⟨trivial, by simp only [vsAll, okAll, opsA, opA, ↓reduceIte, eq_self], isStrakeF_tri s _⟩ ?_
  simp only [vsAll, okAll, stAll, opsA, opA, dstOk, Nat.reduceLT, Nat.reduceEqDiff, ↓reduceIte, eq_self]
  refine open_call (open_tri x _ (strB x s) _ kn trivial rfl (fun hk H' => isStrake1_tri x _ _ _ s H' kn)) (fun hno => ?_) (fun hk hv => ?_) (fun hk hv => ?_)
  · have e : likE x s = 1 := errE_no hno _ _
    have ev : likV x s = 0 := by simp only [likV, e]; rfl
    simp only [vsAll]
    refine ⟨1, i5, _, rfl, rfl, by simp only [vsAll, ↓reduceIte, eq_self]; try rfl, ?_⟩
    simp only [vsAll, loadA, loadRow, partA, partOk, resA, retA.eq_2, Nat.reduceLT, Nat.reduceEqDiff, ↓reduceIte, eq_self, wtAll, Try.results25]
    refine dropR_pure ?_ (by (repeat (first | exact HSub_rfl | refine HSub_put_eq (by simp only [vsAll, binA, binLitA, intA, aggA, boolA, nilA2, isConst, unA, loadA, loadRow, partA, partOk, fieldAddrA, indexAddrA, indexA, fieldA, extractA, lenA, nilCheckA, boxA, cellA, cellsA, fillA, okParts, buildSliceA, buildMutA, makeSliceA, partIdx, elemsA, lensA, ifaceA, convA, mmA, pickA, okAll, stAll, opsA, partsA, partsOk, opA, allocA, boxMutA, newCells, okCells, storeObj, appendA, guardV, taA, nM, mapUpA, lookA, sliceA, boundsA, opO, okO, copyA, dstOk, nilA, quietOk, nilSliceOp, panA, resA, argFr, retA.eq_1, retA.eq_2, Nat.reduceAdd, Nat.reduceSub, Nat.reduceMul, Nat.reduceLT, Nat.reduceLeDiff, Nat.reduceEqDiff, Nat.reduceBEq, Int.reduceAdd, Int.reduceSub, Int.reduceMul, Int.reduceNeg, Int.reduceLE, Int.reduceLT, Int.reduceEq, Int.reduceNe, Int.reduceToNat, ↓reduceIte, reduceCtorEq, implies_true, forall_const, eq_self, ne_eq, wtAll, Try.ntmps25, Try.results25, hh_i5]) ?_ | refine HSub_drop2 (by simp only [eq_self, hh_i5]) ?_ | refine HSub_keep_eq (by simp only [vsAll, binA, binLitA, intA, aggA, boolA, nilA2, isConst, unA, loadA, loadRow, partA, partOk, fieldAddrA, indexAddrA, indexA, fieldA, extractA, lenA, nilCheckA, boxA, cellA, cellsA, fillA, okParts, buildSliceA, buildMutA, makeSliceA, partIdx, elemsA, lensA, ifaceA, convA, mmA, pickA, okAll, stAll, opsA, partsA, partsOk, opA, allocA, boxMutA, newCells, okCells, storeObj, appendA, guardV, taA, nM, mapUpA, lookA, sliceA, boundsA, opO, okO, copyA, dstOk, nilA, quietOk, nilSliceOp, panA, resA, argFr, retA.eq_1, retA.eq_2, Nat.reduceAdd, Nat.reduceSub, Nat.reduceMul, Nat.reduceLT, Nat.reduceLeDiff, Nat.reduceEqDiff, Nat.reduceBEq, Int.reduceAdd, Int.reduceSub, Int.reduceMul, Int.reduceNeg, Int.reduceLE, Int.reduceLT, Int.reduceEq, Int.reduceNe, Int.reduceToNat, ↓reduceIte, reduceCtorEq, implies_true, forall_const, eq_self, ne_eq, wtAll, Try.ntmps25, Try.results25, hh_i5]) ?_)))
    simp only [eq_self, ev, e, Int.natCast_zero]
  · have e : likE x s = 2 := by unfold likE; rw [hv]; exact errE_bad hk _
    have ev : likV x s = 0 := by simp only [likV, e]; rfl
    simp only [vsAll]
    refine ⟨2, i5, _, rfl, rfl, by simp only [vsAll, ↓reduceIte, eq_self]; try rfl, ?_⟩
    simp only [vsAll, loadA, loadRow, partA, partOk, resA, retA.eq_2, Nat.reduceLT, Nat.reduceEqDiff, ↓reduceIte, eq_self, wtAll, Try.results25]
    refine dropR_pure ?_ (by (repeat (first | exact HSub_rfl | refine HSub_put_eq (by simp only [vsAll, binA, binLitA, intA, aggA, boolA, nilA2, isConst, unA, loadA, loadRow, partA, partOk, fieldAddrA, indexAddrA, indexA, fieldA, extractA, lenA, nilCheckA, boxA, cellA, cellsA, fillA, okParts, buildSliceA, buildMutA, makeSliceA, partIdx, elemsA, lensA, ifaceA, convA, mmA, pickA, okAll, stAll, opsA, partsA, partsOk, opA, allocA, boxMutA, newCells, okCells, storeObj, appendA, guardV, taA, nM, mapUpA, lookA, sliceA, boundsA, opO, okO, copyA, dstOk, nilA, quietOk, nilSliceOp, panA, resA, argFr, retA.eq_1, retA.eq_2, Nat.reduceAdd, Nat.reduceSub, Nat.reduceMul, Nat.reduceLT, Nat.reduceLeDiff, Nat.reduceEqDiff, Nat.reduceBEq, Int.reduceAdd, Int.reduceSub, Int.reduceMul, Int.reduceNeg, Int.reduceLE, Int.reduceLT, Int.reduceEq, Int.reduceNe, Int.reduceToNat, ↓reduceIte, reduceCtorEq, implies_true, forall_const, eq_self, ne_eq, wtAll, Try.ntmps25, Try.results25, hh_i5]) ?_ | refine HSub_drop2 (by simp only [eq_self, hh_i5]) ?_ | refine HSub_keep_eq (by simp only [vsAll, binA, binLitA, intA, aggA, boolA, nilA2, isConst, unA, loadA, loadRow, partA, partOk, fieldAddrA, indexAddrA, indexA, fieldA, extractA, lenA, nilCheckA, boxA, cellA, cellsA, fillA, okParts, buildSliceA, buildMutA, makeSliceA, partIdx, elemsA, lensA, ifaceA, convA, mmA, pickA, okAll, stAll, opsA, partsA, partsOk, opA, allocA, boxMutA, newCells, okCells, storeObj, appendA, guardV, taA, nM, mapUpA, lookA, sliceA, boundsA, opO, okO, copyA, dstOk, nilA, quietOk, nilSliceOp, panA, resA, argFr, retA.eq_1, retA.eq_2, Nat.reduceAdd, Nat.reduceSub, Nat.reduceMul, Nat.reduceLT, Nat.reduceLeDiff, Nat.reduceEqDiff, Nat.reduceBEq, Int.reduceAdd, Int.reduceSub, Int.reduceMul, Int.reduceNeg, Int.reduceLE, Int.reduceLT, Int.reduceEq, Int.reduceNe, Int.reduceToNat, ↓reduceIte, reduceCtorEq, implies_true, forall_const, eq_self, ne_eq, wtAll, Try.ntmps25, Try.results25, hh_i5]) ?_)))
    simp only [eq_self, ev, e, Int.natCast_zero]
  · simp only [vsAll, okAll, stAll, opsA, opA, dstOk, Nat.reduceLT, ↓reduceIte, eq_self]
    refine told_call hk (full_lt hk).2 (fun hl => ?_) (fun hl => ?_)
    · have e : likE x s = 0 := by unfold likE; rw [hv]; exact errE_told hk hl
      rw [strB_iff] at hv
      obtain ⟨q, rfl⟩ : ∃ q : Nat, s = (q : Int) := ⟨s.toNat, by ((try clear hh_i5); omega)⟩
      have nO := hk.nO
      simp only [vsAll, okAll, stAll, opsA, opA, dstOk, Nat.reduceLT, ↓reduceIte, eq_self]
      refine callK_pure (least_tri x (fullS x) (fullC x) false _ hk.gd (full_lt hk).1 (full_lt hk).2) ?_
      simp only [vsAll, loadA, loadRow, partA, partOk, fieldAddrA, extractA, lenA, cellA, cellsA, opA, allocA, newCells, okCells, storeObj, dstOk, nilSliceOp, Nat.reduceAdd, Nat.reduceLT, Nat.reduceEqDiff, ↓reduceIte, eq_self, wtAll]
      intro i7 hh_i7; (try simp only [ite_none] at hh_i7)
      refine vs_loop (σ := Nat) (fun i => i ≤ x.ow.length) (fun i => [(1, i64 q), (5, .ref i5 0 1 0 0), (6, irP x (fullS x) (fullC x) false), (7, .ref i7 0 2 0 0), (9, i64 (likN x q i : Nat)), (27, i64 x.ow.length), (28, i64 i)])
        (fun _ => (H.set i5 (.box 1 1 fun _ => [i64 0])).set i7 (.box 2 1 fun _ => [i64 (((tlW x (fullS x) (fullC x) false).getD (0, 0)).1 : Nat), i64 (((tlW x (fullS x) (fullC x) false).getD (0, 0)).2 : Nat)])) (fun i => x.ow.length - i) 0 (by ((try clear hh_i5); (try clear hh_i7); omega)) ?_ ?_ fun i hi => ?_
      · simp only [vsAll, argFr, Nat.reduceEqDiff, ↓reduceIte, eq_self, Int.natCast_zero, likN]
      · (repeat (first | exact HSub_rfl | refine HSub_put_eq (by simp only [vsAll, ↓reduceIte, eq_self, hh_i7]) ?_ | refine HSub_drop2 (by simp only [eq_self, hh_i5, hh_i7]) ?_ | refine HSub_keep_eq (by simp only [vsAll, binA, binLitA, intA, aggA, boolA, nilA2, isConst, unA, loadA, loadRow, partA, partOk, fieldAddrA, indexAddrA, indexA, fieldA, extractA, lenA, nilCheckA, boxA, cellA, cellsA, fillA, okParts, buildSliceA, buildMutA, makeSliceA, partIdx, elemsA, lensA, ifaceA, convA, mmA, pickA, okAll, stAll, opsA, partsA, partsOk, opA, allocA, boxMutA, newCells, okCells, storeObj, appendA, guardV, taA, nM, mapUpA, lookA, sliceA, boundsA, opO, okO, copyA, dstOk, nilA, quietOk, nilSliceOp, panA, resA, argFr, retA.eq_1, retA.eq_2, Nat.reduceAdd, Nat.reduceSub, Nat.reduceMul, Nat.reduceLT, Nat.reduceLeDiff, Nat.reduceEqDiff, Nat.reduceBEq, Int.reduceAdd, Int.reduceSub, Int.reduceMul, Int.reduceNeg, Int.reduceLE, Int.reduceLT, Int.reduceEq, Int.reduceNe, Int.reduceToNat, ↓reduceIte, reduceCtorEq, implies_true, forall_const, eq_self, ne_eq, wtAll, Try.ntmps25, Try.results25, hh_i5, hh_i7]) ?_))
      · simp only [vsAll, binA, binLitA, intA, opA, dstOk, Nat.reduceLT, Nat.reduceEqDiff, ↓reduceIte, eq_self]
        refine condD (fun hd => ?_) (fun hd => ?_)
        · have hb := likN_lt x q i
          have hp : 2 ^ i ≤ 2 ^ 5 := Nat.pow_le_pow_right (by decide) (by ((try clear hh_i5); (try clear hh_i7); omega))
          have ep : (1 : Int) * 2 ^ i = ((2 ^ i : Nat) : Int) := by rw [Int.one_mul]; simp
          simp only [vsAll, okAll, stAll, opsA, opA, dstOk, nilSliceOp, Nat.reduceLT, Nat.reduceEqDiff, ↓reduceIte, eq_self]
          refine callK_pure (with1_tri x _ _ _ q i _ hk (by ((try clear hh_i5); (try clear hh_i7); omega)) (by ((try clear hh_i5); (try clear hh_i7); omega))) ?_
          simp only [vsAll, extractA, opA, dstOk, nilSliceOp, Nat.reduceAdd, Nat.reduceLT, Nat.reduceEqDiff, ↓reduceIte, eq_self]
          refine condV (fun hf => ?_) (fun hf => ?_)
          · simp only [vsAll, okAll, stAll, opsA, opA, dstOk, Nat.reduceLT, Nat.reduceEqDiff, ↓reduceIte, eq_self]
            refine callK_pure (least_tri (withI x q i) (fullS x) (fullC x) false _ (withI_gd hk q i) (full_lt hk).1 (full_lt hk).2) ?_
            have hlb : likB x q i = ((tlW (withI x q i) (fullS x) (fullC x) false).isSome && decide (((tlW (withI x q i) (fullS x) (fullC x) false).getD (0, 0)).1 = ((tlW x (fullS x) (fullC x) false).getD (0, 0)).1)) := by simp only [likB, hf, Bool.true_and]
            generalize tlW (withI x q i) (fullS x) (fullC x) false = tv at hlb ⊢
            simp only [vsAll, binA, binLitA, intA, loadA, loadRow, partA, partOk, fieldAddrA, extractA, cellA, cellsA, pickA, opA, allocA, newCells, okCells, storeObj, guardV, dstOk, nilSliceOp, Nat.reduceAdd, Nat.reduceLT, Nat.reduceEqDiff, ↓reduceIte, implies_true, eq_self, wtAll]
            intro i13 hh_i13; (try simp only [ite_none] at hh_i13)
            simp only [vsAll, Nat.reduceLT, ↓reduceIte, eq_self, hh_i13]
            rw [dec_cast2, ← hlb]
            refine condV (fun hc => ?_) (fun hc => ?_)
            · have e2 : likN x q (i + 1) = likN x q i + 2 ^ i := by simp only [likN, hc, if_true]
              simp only [vsAll, binA, binLitA, intA, opA, dstOk, nilSliceOp, Nat.reduceLT, Nat.reduceEqDiff, ↓reduceIte, eq_self, ep]
              have eo : likN x q i ||| 2 ^ i = likN x q (i + 1) := by rw [or_bit _ _ hb, e2]
              refine ⟨⟨by ((try clear hh_i5); (try clear hh_i7); (try clear hh_i13); omega), by ((try clear hh_i5); (try clear hh_i7); (try clear hh_i13); omega), by simp only [InR_i64]; ((try clear hh_i5); (try clear hh_i7); (try clear hh_i13); omega)⟩, ⟨by ((try clear hh_i5); (try clear hh_i7); (try clear hh_i13); omega), by ((try clear hh_i5); (try clear hh_i7); (try clear hh_i13); omega), by simp only [InR_i64]; ((try clear hh_i5); (try clear hh_i7); (try clear hh_i13); omega), by simp only [InR_i64]; ((try clear hh_i5); (try clear hh_i7); (try clear hh_i13); omega)⟩, by simp only [InR_i64]; ((try clear hh_i5); (try clear hh_i7); (try clear hh_i13); omega), loop_next (i + 1) (by ((try clear hh_i5); (try clear hh_i7); (try clear hh_i13); omega)) (by ((try clear hh_i5); (try clear hh_i7); (try clear hh_i13); omega)) ?_ ?_⟩
              · simp only [vsAll, Nat.reduceEqDiff, ↓reduceIte, eq_self, Int.natCast_add, Int.natCast_one, eo]
              · (repeat (first | exact HSub_rfl | refine HSub_put_eq (by simp only [vsAll, ↓reduceIte, eq_self, hh_i7, hh_i13]) ?_ | refine HSub_drop2 (by simp only [eq_self, hh_i5, hh_i7, hh_i13]) ?_ | refine HSub_keep_eq (by simp only [vsAll, binA, binLitA, intA, aggA, boolA, nilA2, isConst, unA, loadA, loadRow, partA, partOk, fieldAddrA, indexAddrA, indexA, fieldA, extractA, lenA, nilCheckA, boxA, cellA, cellsA, fillA, okParts, buildSliceA, buildMutA, makeSliceA, partIdx, elemsA, lensA, ifaceA, convA, mmA, pickA, okAll, stAll, opsA, partsA, partsOk, opA, allocA, boxMutA, newCells, okCells, storeObj, appendA, guardV, taA, nM, mapUpA, lookA, sliceA, boundsA, opO, okO, copyA, dstOk, nilA, quietOk, nilSliceOp, panA, resA, argFr, retA.eq_1, retA.eq_2, Nat.reduceAdd, Nat.reduceSub, Nat.reduceMul, Nat.reduceLT, Nat.reduceLeDiff, Nat.reduceEqDiff, Nat.reduceBEq, Int.reduceAdd, Int.reduceSub, Int.reduceMul, Int.reduceNeg, Int.reduceLE, Int.reduceLT, Int.reduceEq, Int.reduceNe, Int.reduceToNat, ↓reduceIte, reduceCtorEq, implies_true, forall_const, eq_self, ne_eq, wtAll, Try.ntmps25, Try.results25, hh_i5, hh_i7, hh_i13]) ?_))
            · have e2 : likN x q (i + 1) = likN x q i := by simp only [likN, hc, Bool.false_eq_true, if_false, Nat.add_zero]
              simp only [vsAll, binA, binLitA, intA, opA, dstOk, Nat.reduceLT, Nat.reduceEqDiff, ↓reduceIte, eq_self]
              refine ⟨by simp only [InR_i64]; ((try clear hh_i5); (try clear hh_i7); (try clear hh_i13); omega), loop_next (i + 1) (by ((try clear hh_i5); (try clear hh_i7); (try clear hh_i13); omega)) (by ((try clear hh_i5); (try clear hh_i7); (try clear hh_i13); omega)) ?_ ?_⟩
              · simp only [vsAll, Nat.reduceEqDiff, ↓reduceIte, eq_self, Int.natCast_add, Int.natCast_one, e2]
              · (repeat (first | exact HSub_rfl | refine HSub_put_eq (by simp only [vsAll, ↓reduceIte, eq_self, hh_i7, hh_i13]) ?_ | refine HSub_drop2 (by simp only [eq_self, hh_i5, hh_i7, hh_i13]) ?_ | refine HSub_keep_eq (by simp only [vsAll, binA, binLitA, intA, aggA, boolA, nilA2, isConst, unA, loadA, loadRow, partA, partOk, fieldAddrA, indexAddrA, indexA, fieldA, extractA, lenA, nilCheckA, boxA, cellA, cellsA, fillA, okParts, buildSliceA, buildMutA, makeSliceA, partIdx, elemsA, lensA, ifaceA, convA, mmA, pickA, okAll, stAll, opsA, partsA, partsOk, opA, allocA, boxMutA, newCells, okCells, storeObj, appendA, guardV, taA, nM, mapUpA, lookA, sliceA, boundsA, opO, okO, copyA, dstOk, nilA, quietOk, nilSliceOp, panA, resA, argFr, retA.eq_1, retA.eq_2, Nat.reduceAdd, Nat.reduceSub, Nat.reduceMul, Nat.reduceLT, Nat.reduceLeDiff, Nat.reduceEqDiff, Nat.reduceBEq, Int.reduceAdd, Int.reduceSub, Int.reduceMul, Int.reduceNeg, Int.reduceLE, Int.reduceLT, Int.reduceEq, Int.reduceNe, Int.reduceToNat, ↓reduceIte, reduceCtorEq, implies_true, forall_const, eq_self, ne_eq, wtAll, Try.ntmps25, Try.results25, hh_i5, hh_i7, hh_i13]) ?_))
          · have e2 : likN x q (i + 1) = likN x q i := by simp only [likN, likB, hf, Bool.false_and, Bool.false_eq_true, if_false, Nat.add_zero]
            simp only [vsAll, binA, binLitA, intA, opA, dstOk, Nat.reduceLT, Nat.reduceEqDiff, ↓reduceIte, eq_self]
            refine ⟨by simp only [InR_i64]; ((try clear hh_i5); (try clear hh_i7); omega), loop_next (i + 1) (by ((try clear hh_i5); (try clear hh_i7); omega)) (by ((try clear hh_i5); (try clear hh_i7); omega)) ?_ ?_⟩
            · simp only [vsAll, Nat.reduceEqDiff, ↓reduceIte, eq_self, Int.natCast_add, Int.natCast_one, e2]
            · (repeat (first | exact HSub_rfl | refine HSub_put_eq (by simp only [vsAll, binA, binLitA, intA, aggA, boolA, nilA2, isConst, unA, loadA, loadRow, partA, partOk, fieldAddrA, indexAddrA, indexA, fieldA, extractA, lenA, nilCheckA, boxA, cellA, cellsA, fillA, okParts, buildSliceA, buildMutA, makeSliceA, partIdx, elemsA, lensA, ifaceA, convA, mmA, pickA, okAll, stAll, opsA, partsA, partsOk, opA, allocA, boxMutA, newCells, okCells, storeObj, appendA, guardV, taA, nM, mapUpA, lookA, sliceA, boundsA, opO, okO, copyA, dstOk, nilA, quietOk, nilSliceOp, panA, resA, argFr, retA.eq_1, retA.eq_2, Nat.reduceAdd, Nat.reduceSub, Nat.reduceMul, Nat.reduceLT, Nat.reduceLeDiff, Nat.reduceEqDiff, Nat.reduceBEq, Int.reduceAdd, Int.reduceSub, Int.reduceMul, Int.reduceNeg, Int.reduceLE, Int.reduceLT, Int.reduceEq, Int.reduceNe, Int.reduceToNat, ↓reduceIte, reduceCtorEq, implies_true, forall_const, eq_self, ne_eq, wtAll, Try.ntmps25, Try.results25, hh_i5, hh_i7]) ?_ | refine HSub_drop2 (by simp only [vsAll, binA, binLitA, intA, aggA, boolA, nilA2, isConst, unA, loadA, loadRow, partA, partOk, fieldAddrA, indexAddrA, indexA, fieldA, extractA, lenA, nilCheckA, boxA, cellA, cellsA, fillA, okParts, buildSliceA, buildMutA, makeSliceA, partIdx, elemsA, lensA, ifaceA, convA, mmA, pickA, okAll, stAll, opsA, partsA, partsOk, opA, allocA, boxMutA, newCells, okCells, storeObj, appendA, guardV, taA, nM, mapUpA, lookA, sliceA, boundsA, opO, okO, copyA, dstOk, nilA, quietOk, nilSliceOp, panA, resA, argFr, retA.eq_1, retA.eq_2, Nat.reduceAdd, Nat.reduceSub, Nat.reduceMul, Nat.reduceLT, Nat.reduceLeDiff, Nat.reduceEqDiff, Nat.reduceBEq, Int.reduceAdd, Int.reduceSub, Int.reduceMul, Int.reduceNeg, Int.reduceLE, Int.reduceLT, Int.reduceEq, Int.reduceNe, Int.reduceToNat, ↓reduceIte, reduceCtorEq, implies_true, forall_const, eq_self, ne_eq, wtAll, Try.ntmps25, Try.results25, hh_i5, hh_i7]) ?_ | refine HSub_keep_eq (by simp only [vsAll, binA, binLitA, intA, aggA, boolA, nilA2, isConst, unA, loadA, loadRow, partA, partOk, fieldAddrA, indexAddrA, indexA, fieldA, extractA, lenA, nilCheckA, boxA, cellA, cellsA, fillA, okParts, buildSliceA, buildMutA, makeSliceA, partIdx, elemsA, lensA, ifaceA, convA, mmA, pickA, okAll, stAll, opsA, partsA, partsOk, opA, allocA, boxMutA, newCells, okCells, storeObj, appendA, guardV, taA, nM, mapUpA, lookA, sliceA, boundsA, opO, okO, copyA, dstOk, nilA, quietOk, nilSliceOp, panA, resA, argFr, retA.eq_1, retA.eq_2, Nat.reduceAdd, Nat.reduceSub, Nat.reduceMul, Nat.reduceLT, Nat.reduceLeDiff, Nat.reduceEqDiff, Nat.reduceBEq, Int.reduceAdd, Int.reduceSub, Int.reduceMul, Int.reduceNeg, Int.reduceLE, Int.reduceLT, Int.reduceEq, Int.reduceNe, Int.reduceToNat, ↓reduceIte, reduceCtorEq, implies_true, forall_const, eq_self, ne_eq, wtAll, Try.ntmps25, Try.results25, hh_i5, hh_i7]) ?_))
        · have ei : i = x.ow.length := by ((try clear hh_i5); (try clear hh_i7); omega)
          have ev : likV x (q : Int) = likN x q i := by simp only [likV, e, if_true, Int.toNat_natCast, ei]
          simp only [vsAll, cellA, cellsA, opA, newCells, okCells, storeObj, dstOk, nilSliceOp, Nat.reduceLT, Nat.reduceEqDiff, ↓reduceIte, eq_self, wtAll, hh_i7]
          refine Ent.ret ⟨i5, _, rfl, by simp only [vsAll, ↓reduceIte, eq_self]; try rfl, ?_⟩
          simp only [vsAll, loadA, loadRow, partA, partOk, resA, retA.eq_2, Nat.reduceLT, Nat.reduceEqDiff, ↓reduceIte, eq_self, wtAll, Try.results25]
          refine dropR_pure ?_ (by (repeat (first | exact HSub_rfl | refine HSub_put_eq (by simp only [vsAll, binA, binLitA, intA, aggA, boolA, nilA2, isConst, unA, loadA, loadRow, partA, partOk, fieldAddrA, indexAddrA, indexA, fieldA, extractA, lenA, nilCheckA, boxA, cellA, cellsA, fillA, okParts, buildSliceA, buildMutA, makeSliceA, partIdx, elemsA, lensA, ifaceA, convA, mmA, pickA, okAll, stAll, opsA, partsA, partsOk, opA, allocA, boxMutA, newCells, okCells, storeObj, appendA, guardV, taA, nM, mapUpA, lookA, sliceA, boundsA, opO, okO, copyA, dstOk, nilA, quietOk, nilSliceOp, panA, resA, argFr, retA.eq_1, retA.eq_2, Nat.reduceAdd, Nat.reduceSub, Nat.reduceMul, Nat.reduceLT, Nat.reduceLeDiff, Nat.reduceEqDiff, Nat.reduceBEq, Int.reduceAdd, Int.reduceSub, Int.reduceMul, Int.reduceNeg, Int.reduceLE, Int.reduceLT, Int.reduceEq, Int.reduceNe, Int.reduceToNat, ↓reduceIte, reduceCtorEq, implies_true, forall_const, eq_self, ne_eq, wtAll, Try.ntmps25, Try.results25, hh_i5, hh_i7]) ?_ | refine HSub_drop2 (by simp only [eq_self, hh_i5, hh_i7]) ?_ | refine HSub_keep_eq (by simp only [vsAll, binA, binLitA, intA, aggA, boolA, nilA2, isConst, unA, loadA, loadRow, partA, partOk, fieldAddrA, indexAddrA, indexA, fieldA, extractA, lenA, nilCheckA, boxA, cellA, cellsA, fillA, okParts, buildSliceA, buildMutA, makeSliceA, partIdx, elemsA, lensA, ifaceA, convA, mmA, pickA, okAll, stAll, opsA, partsA, partsOk, opA, allocA, boxMutA, newCells, okCells, storeObj, appendA, guardV, taA, nM, mapUpA, lookA, sliceA, boundsA, opO, okO, copyA, dstOk, nilA, quietOk, nilSliceOp, panA, resA, argFr, retA.eq_1, retA.eq_2, Nat.reduceAdd, Nat.reduceSub, Nat.reduceMul, Nat.reduceLT, Nat.reduceLeDiff, Nat.reduceEqDiff, Nat.reduceBEq, Int.reduceAdd, Int.reduceSub, Int.reduceMul, Int.reduceNeg, Int.reduceLE, Int.reduceLT, Int.reduceEq, Int.reduceNe, Int.reduceToNat, ↓reduceIte, reduceCtorEq, implies_true, forall_const, eq_self, ne_eq, wtAll, Try.ntmps25, Try.results25, hh_i5, hh_i7]) ?_)))
          simp only [eq_self, ev, e]
    · have e : likE x s = 10 := by unfold likE; rw [hv]; exact errE_clash hk hl
      have ev : likV x s = 0 := by simp only [likV, e]; rfl
      simp only [vsAll]
      refine ⟨10, i5, _, rfl, rfl, by simp only [vsAll, ↓reduceIte, eq_self]; try rfl, ?_⟩
      simp only [vsAll, loadA, loadRow, partA, partOk, resA, retA.eq_2, Nat.reduceLT, Nat.reduceEqDiff, ↓reduceIte, eq_self, wtAll, Try.results25]
      refine dropR_pure ?_ (by (repeat (first | exact HSub_rfl | refine HSub_put_eq (by simp only [vsAll, binA, binLitA, intA, aggA, boolA, nilA2, isConst, unA, loadA, loadRow, partA, partOk, fieldAddrA, indexAddrA, indexA, fieldA, extractA, lenA, nilCheckA, boxA, cellA, cellsA, fillA, okParts, buildSliceA, buildMutA, makeSliceA, partIdx, elemsA, lensA, ifaceA, convA, mmA, pickA, okAll, stAll, opsA, partsA, partsOk, opA, allocA, boxMutA, newCells, okCells, storeObj, appendA, guardV, taA, nM, mapUpA, lookA, sliceA, boundsA, opO, okO, copyA, dstOk, nilA, quietOk, nilSliceOp, panA, resA, argFr, retA.eq_1, retA.eq_2, Nat.reduceAdd, Nat.reduceSub, Nat.reduceMul, Nat.reduceLT, Nat.reduceLeDiff, Nat.reduceEqDiff, Nat.reduceBEq, Int.reduceAdd, Int.reduceSub, Int.reduceMul, Int.reduceNeg, Int.reduceLE, Int.reduceLT, Int.reduceEq, Int.reduceNe, Int.reduceToNat, ↓reduceIte, reduceCtorEq, implies_true, forall_const, eq_self, ne_eq, wtAll, Try.ntmps25, Try.results25, hh_i5]) ?_ | refine HSub_drop2 (by simp only [eq_self, hh_i5]) ?_ | refine HSub_keep_eq (by simp only [vsAll, binA, binLitA, intA, aggA, boolA, nilA2, isConst, unA, loadA, loadRow, partA, partOk, fieldAddrA, indexAddrA, indexA, fieldA, extractA, lenA, nilCheckA, boxA, cellA, cellsA, fillA, okParts, buildSliceA, buildMutA, makeSliceA, partIdx, elemsA, lensA, ifaceA, convA, mmA, pickA, okAll, stAll, opsA, partsA, partsOk, opA, allocA, boxMutA, newCells, okCells, storeObj, appendA, guardV, taA, nM, mapUpA, lookA, sliceA, boundsA, opO, okO, copyA, dstOk, nilA, quietOk, nilSliceOp, panA, resA, argFr, retA.eq_1, retA.eq_2, Nat.reduceAdd, Nat.reduceSub, Nat.reduceMul, Nat.reduceLT, Nat.reduceLeDiff, Nat.reduceEqDiff, Nat.reduceBEq, Int.reduceAdd, Int.reduceSub, Int.reduceMul, Int.reduceNeg, Int.reduceLE, Int.reduceLT, Int.reduceEq, Int.reduceNe, Int.reduceToNat, ↓reduceIte, reduceCtorEq, implies_true, forall_const, eq_self, ne_eq, wtAll, Try.ntmps25, Try.results25, hh_i5]) ?_)))
      simp only [eq_self, ev, e, Int.natCast_zero]
end Go.Proofs.Ytkonoggmdcdeeaa
end
section
set_option linter.unusedVariables false
set_option linter.unusedSimpArgs false
namespace Go.V
/-- What one cell holds. -/
inductive CK where
  | int (k : IntKind)
  | bool
  | sl (ks : List CK)

/-- The cells of a type. -/
def cellsT (P : Program) : Nat → TypeId → Option (List CK)
  | 0, _ => none
  | d + 1, t => match P.underlying t with
    | some .bool => some [.bool]
    | some (.int k) => some [.int k]
    | some (.slice e) => match cellsT P d e with
      | some ks => if P.cellsOf e = ks.length ∧ 0 < ks.length then some [.sl ks] else none
      | none => none
    | some (.array n e) => match cellsT P d e with
      | some ks => if P.cellsOf e = ks.length ∧ P.cellsOf t = n * ks.length then some ((List.replicate n ks).flatten) else none
      | none => none
    | some (.struct fs) => match fs.toList.foldl (fun acc f => match acc with
        | some ks => match cellsT P d f.type with
          | some l => if f.offset = ks.length ∧ P.cellsOf f.type = l.length then some (ks ++ l) else none
          | none => none
        | none => none) (some []) with
      | some ks => if P.cellsOf t = ks.length then some ks else none
      | none => none
    | _ => none

/-- Such an abstract value. -/
inductive CKA : CK → AV → Prop
  | int {k : IntKind} {z : Int} (h : (Lit.int k z).wf = true) : CKA (.int k) (.lit (.int k z))
  | bool {b : Bool} : CKA .bool (.lit (.bool b))
  | sl {ks : List CK} {n : Nat} {f : Nat → List AV} (hn : n ≤ maxLen) (hl : ∀ i, i < n → (f i).length = ks.length) (h : ∀ i j k, i < n → ks[j]? = some k → CKA k ((f i).getD j .any)) : CKA (.sl ks) (.rsl n ks.length f)

def CellIs (W : World) (k : CK) (v : Value) : Prop := ∃ av, CKA k av ∧ VRel (st0 W) av v
def CellsOk (W : World) (ks : List CK) (cs : List Value) : Prop := cs.length = ks.length ∧ ∀ (i : Nat) (k : CK) (v : Value), ks[i]? = some k → cs[i]? = some v → CellIs W k v

theorem CellsOk.append {W : World} {ks ls : List CK} {cs ds : List Value} (h : CellsOk W ks cs) (h' : CellsOk W ls ds) : CellsOk W (ks ++ ls) (cs ++ ds) := by
  refine ⟨by simp [h.1, h'.1], fun i k v hk hv => ?_⟩
  by_cases hi : i < ks.length
  · rw [List.getElem?_append_left hi] at hk
    rw [List.getElem?_append_left (by rw [h.1]; exact hi)] at hv
    exact h.2 i k v hk hv
  · rw [List.getElem?_append_right (by omega)] at hk
    rw [List.getElem?_append_right (by rw [h.1]; omega), h.1] at hv
    exact h'.2 _ k v hk hv

theorem trod_cells {H : Type} {enc : TypeId × Value → H} {P : Program} {W : World} {held : Bool} {sp : Nat → Bool} :
    ∀ (d fuel : Nat) (t : TypeId) (cs : List Value) (x : DataW H × List MemPlace) (ks : List CK), cellsT P d t = some ks → DataW.trod enc P W 0 sp held fuel t cs = some x → CellsOk W ks cs := by
  intro d
  induction d with
  | zero => intro fuel t cs x ks hg; cases hg
  | succ d ih =>
    intro fuel t cs x ks hg h
    cases fuel with
    | zero => cases h
    | succ fuel =>
      unfold cellsT at hg
      unfold DataW.trod at h
      cases hu : P.underlying t with
      | none => rw [hu] at hg; cases hg
      | some td =>
        rw [hu] at hg h
        cases td <;> simp only at hg <;> try (cases hg; done)
        case bool =>
          cases hg
          split at h <;> simp_all
          rename_i b
          exact ⟨rfl, fun i k v hk hv => by cases i <;> simp at hk hv; subst hk hv; exact ⟨_, .bool, .lit _⟩⟩
        case int k =>
          cases hg
          split at h <;> simp_all
          rename_i n hh
          exact ⟨rfl, fun i k v hk hv => by cases i <;> simp at hk hv; subst hk hv; exact ⟨_, .int h.1.2, .lit _⟩⟩
        case array n e =>
          cases hke : cellsT P d e with
          | none => rw [hke] at hg; cases hg
          | some lk =>
            rw [hke] at hg
            simp only at hg
            by_cases hc : P.cellsOf e = lk.length ∧ P.cellsOf t = n * lk.length
            case neg => rw [if_neg hc] at hg; cases hg
            rw [if_pos hc] at hg
            cases hg
            split at h <;> try (simp_all; done)
            case _ n' e' heq =>
              simp only [Option.some.injEq, TypeDesc.array.injEq] at heq
              obtain ⟨rfl, rfl⟩ := heq
              split at h
              case isFalse hl => cases h
              case isTrue hl =>
                rw [Option.map_eq_some_iff] at h
                obtain ⟨ys, hy, rfl⟩ := h
                have key : ∀ (c : List Value), (∀ i, i < n → ∃ y, DataW.trod enc P W 0 sp held fuel e ((c.drop (i * P.cellsOf e)).take (P.cellsOf e)) = some y) → ∀ m, m ≤ n → CellsOk W (List.replicate m lk).flatten (c.take (m * lk.length)) := by
                  intro c hcy m
                  induction m with
                  | zero => intro _; exact ⟨by simp, fun i k v hk => by simp at hk⟩
                  | succ m ihm =>
                    intro hm
                    have h0 := ihm (by omega)
                    obtain ⟨y, h2⟩ := hcy m (by omega)
                    have h3 := ih fuel e _ y lk hke h2
                    rw [hc.1] at h3
                    have := h0.append h3
                    rw [List.replicate_succ', List.flatten_append, Nat.succ_mul, List.take_add]
                    simpa using this
                have := key _ (fun i hi => by
                  obtain ⟨y, _, h2⟩ := (mapM_get _ _ hy).2 i i (by simp [hi])
                  exact ⟨y, h2⟩) n (Nat.le_refl _)
                rw [List.take_of_length_le (by rw [hl, hc.2]; exact Nat.le_refl _)] at this
                exact this
        case slice e =>
          cases hke : cellsT P d e with
          | none => rw [hke] at hg; cases hg
          | some lk =>
            rw [hke] at hg
            simp only at hg
            by_cases hc : P.cellsOf e = lk.length ∧ 0 < lk.length
            case neg => rw [if_neg hc] at hg; cases hg
            rw [if_pos hc] at hg
            cases hg
            obtain ⟨hsz, hpos⟩ := hc
            split at h <;> try (simp_all; done)
            · rename_i heq
              refine ⟨rfl, fun i k v hk hv => ?_⟩
              cases i <;> simp at hk hv
              subst hk hv
              exact ⟨.rsl 0 lk.length fun _ => [], .sl (Nat.zero_le _) (fun i hi => by omega) (fun i j k hi => by omega), .rsl0⟩
            · rename_i e' a len cap heq
              simp only [Option.some.injEq, TypeDesc.slice.injEq] at heq
              subst heq
              simp only at h
              split at h
              case isFalse hl => cases h
              case isTrue hl =>
                rw [Option.bind_eq_some_iff] at h
                obtain ⟨es, he, -⟩ := h
                let g : Nat → List Value := fun i => match W.cells? 0 (a.add (i * P.cellsOf e)) (P.cellsOf e) with
                  | some c => c
                  | none => []
                have hel : ∀ i, i < len → W.cells? 0 (a.add (i * P.cellsOf e)) (P.cellsOf e) = some (g i) ∧ CellsOk W lk (g i) := by
                  intro i hi
                  obtain ⟨y, _, hy⟩ := (mapM_get _ _ he).2 i i (by simp [hi])
                  rw [Option.bind_eq_some_iff] at hy
                  obtain ⟨c, h1, h2⟩ := hy
                  have : g i = c := by simp only [g, h1]
                  rw [this]
                  exact ⟨h1, ih fuel e c y lk hke h2⟩
                -- the abstract cells
                have hch : ∀ i j, ∃ av, i < len → j < lk.length → ∃ k v, lk[j]? = some k ∧ (g i)[j]? = some v ∧ CKA k av ∧ VRel (st0 W) av v := by
                  intro i j
                  by_cases hi : i < len
                  · by_cases hj : j < lk.length
                    · obtain ⟨l1, l2⟩ := (hel i hi).2
                      obtain ⟨av, c1, c2⟩ := l2 j lk[j] (g i)[j] (List.getElem?_eq_getElem hj) (List.getElem?_eq_getElem (by omega))
                      exact ⟨av, fun _ _ => ⟨_, _, List.getElem?_eq_getElem hj, List.getElem?_eq_getElem (by omega), c1, c2⟩⟩
                    · exact ⟨.any, fun _ x => absurd x hj⟩
                  · exact ⟨.any, fun x => absurd x hi⟩
                have hf := fun i => Classical.axiomOfChoice (hch i)
                obtain ⟨F, hF⟩ := Classical.axiomOfChoice hf
                have hget : ∀ i j, j < lk.length → ((List.range lk.length).map (F i)).getD j .any = F i j := fun i j hj => by
                  rw [List.getD_eq_getElem?_getD, List.getElem?_map, List.getElem?_range hj]; rfl
                refine ⟨rfl, fun i k v hk hv => ?_⟩
                cases i <;> simp at hk hv
                subst hk hv
                refine ⟨.rsl len lk.length fun i => (List.range lk.length).map (F i), .sl (Nat.le_trans hl.2.1 hl.2.2) (fun i hi => by simp) (fun i j k hi hk => ?_), ?_⟩
                · have hj := (List.getElem?_eq_some_iff.1 hk).1
                  rw [hget i j hj]
                  obtain ⟨k', v, h1, h2, h3, h4⟩ := hF i j hi hj
                  rw [hk] at h1; cases h1
                  exact h3
                by_cases h0 : len = 0
                · subst h0; exact .rsl0
                have hcell : ∀ i j, i < len → j < lk.length → ∃ u, (g i)[j]? = some u ∧ W.cell? ((a.add (i * P.cellsOf e)).add j) = some u := by
                  intro i j hi hj
                  have h1 := (hel i hi).1
                  unfold World.cells? at h1
                  rw [if_pos (Nat.zero_le _)] at h1
                  exact (mapM_get _ _ h1).2 j j (by simp [hsz, hj])
                obtain ⟨b, off, spot⟩ := a
                obtain ⟨u0, _, hc0⟩ := hcell 0 0 (by omega) hpos
                rw [show ((⟨b, off, spot⟩ : Addr).add (0 * P.cellsOf e)).add 0 = ⟨b, off, spot⟩ from by simp [Addr.add]] at hc0
                unfold World.cell? at hc0
                split at hc0
                case h_2 => cases hc0
                case h_1 c ct fz hb =>
                  have hspot : spot = none := by
                    cases spot with
                    | none => rfl
                    | some s => simp at hc0
                  subst hspot
                  have hadd : ∀ i j, (((⟨b, off, none⟩ : Addr).add (i * P.cellsOf e)).add j) = ⟨b, off + i * P.cellsOf e + j, none⟩ := fun i j => by rw [addr_add, addr_add]
                  have hall : ∀ i j, i < len → j < lk.length → ∃ u, (g i)[j]? = some u ∧ c[off + i * lk.length + j]? = some u := by
                    intro i j hi hj
                    obtain ⟨u, h1, h2⟩ := hcell i j hi hj
                    rw [hadd] at h2
                    unfold World.cell? at h2
                    simp only at hb
                    rw [show W.heap[(⟨b, off + i * P.cellsOf e + j, none⟩ : Addr).block]? = some (.cells c ct fz) from hb] at h2
                    simp only [Option.isSome_none, Bool.false_eq_true, if_false, hsz] at h2
                    exact ⟨u, h1, h2⟩
                  refine .rsl (c := c) (e := ct) (fz := fz) ?_ hb ?_ (fun i hi => by simp) fun i j hi hj => ?_
                  · exact (Array.getElem?_eq_some_iff.1 hb).1
                  · obtain ⟨u, _, h2⟩ := hall (len - 1) (lk.length - 1) (by omega) (by omega)
                    have := (Array.getElem?_eq_some_iff.1 h2).1
                    have e1 : len * lk.length = (len - 1) * lk.length + lk.length := by
                      obtain ⟨q, rfl⟩ : ∃ q, len = q + 1 := ⟨len - 1, by omega⟩
                      rw [Nat.add_sub_cancel, Nat.succ_mul]
                    omega
                  · obtain ⟨u, h1, h2⟩ := hall i j hi hj
                    obtain ⟨k', v, q1, q2, q3, q4⟩ := hF i j hi hj
                    rw [h1] at q2; cases q2
                    rw [hget i j hj, Array.getD_eq_getD_getElem?, h2]
                    exact q4
        case struct fs =>
          split at h <;> try (simp_all; done)
          case _ fs' heq =>
            simp only [Option.some.injEq, TypeDesc.struct.injEq] at heq
            subst heq
            split at h
            case isFalse hl => cases h
            case isTrue hl =>
              rw [Option.map_eq_some_iff] at h
              obtain ⟨ys, hy, rfl⟩ := h
              have key : ∀ (c : List Value) (l : List Field) (acc ks : List CK), (∀ f ∈ l, ∃ y, DataW.trod enc P W 0 sp held fuel f.type ((c.drop f.offset).take (P.cellsOf f.type)) = some y) → CellsOk W acc (c.take acc.length) →
                  l.foldl (fun acc f => match acc with
                    | some ks => match cellsT P d f.type with
                      | some l => if f.offset = ks.length ∧ P.cellsOf f.type = l.length then some (ks ++ l) else none
                      | none => none
                    | none => none) (some acc) = some ks → CellsOk W ks (c.take ks.length) := by
                intro c l
                induction l with
                | nil => intro acc ks _ ha he; simp at he; subst he; exact ha
                | cons f l ih2 =>
                  intro acc ks hf ha he
                  simp only [List.foldl_cons] at he
                  have hnone : ∀ l : List Field, l.foldl (fun acc f => match acc with
                    | some ks => match cellsT P d f.type with
                      | some l => if f.offset = ks.length ∧ P.cellsOf f.type = l.length then some (ks ++ l) else none
                      | none => none
                    | none => none) none = (none : Option (List CK)) := by
                    intro l; induction l with
                    | nil => rfl
                    | cons a l ih => simpa using ih
                  cases hl2 : cellsT P d f.type with
                  | none => rw [hl2] at he; simp only at he; rw [hnone] at he; cases he
                  | some lk =>
                    rw [hl2] at he
                    simp only at he
                    by_cases hc : f.offset = acc.length ∧ P.cellsOf f.type = lk.length
                    · rw [if_pos hc] at he
                      obtain ⟨y, hy⟩ := hf f (by simp)
                      have := ih fuel f.type _ y lk hl2 hy
                      rw [hc.1, hc.2] at this
                      have hap := ha.append this
                      refine ih2 (acc ++ lk) ks (fun g hg => hf g (by simp [hg])) ?_ he
                      rw [List.length_append, List.take_add]
                      exact hap
                    · rw [if_neg hc, hnone] at he; cases he
              split at hg
              case h_2 => cases hg
              case h_1 ks' he =>
                split at hg
                case isFalse => cases hg
                case isTrue hc =>
                  cases hg
                  have := key _ fs.toList [] ks (fun f hf => by
                    obtain ⟨i, hi⟩ := List.getElem?_of_mem hf
                    obtain ⟨y, _, h2⟩ := (mapM_get _ _ hy).2 i f hi
                    exact ⟨y, h2⟩) ⟨by simp, fun i k v hk => by simp at hk⟩ he
                  rw [List.take_of_length_le (by rw [hl, hc]; exact Nat.le_refl _)] at this
                  exact this

end Go.V
end
section
set_option linter.unusedVariables false
set_option linter.unusedSimpArgs false
namespace Go.V
open Go.ChangeShapes
theorem AV.Le.rslD {n st : Nat} {f g : Nat → List AV} (h : ∀ i, i < n → (g i).length = st ∧ ∀ j, j < st → AV.Le ((f i).getD j .any) ((g i).getD j .any)) : AV.Le (.rsl n st f) (.rsl n st g) := by
  intro S v hv
  cases hv with
  | rsl0 => exact .rsl0
  | rsl hi hb hsz hf hh => exact .rsl hi hb hsz (fun i hi => (h i hi).1) fun i j hi hj => (h i hi).2 j hj _ _ (hh i j hi hj)
theorem AV.Le.aggD {cs ds : List AV} (hl : ds.length = cs.length) (h : ∀ j, j < cs.length → AV.Le (cs.getD j .any) (ds.getD j .any)) : AV.Le (.agg cs) (.agg ds) := by
  intro S v hv
  cases hv with
  | agg hn hh => exact .agg (hn.trans hl.symm) fun k hk => h k (by omega) _ _ (hh k (by omega))

/-- Cells that are told. -/
def Told (ks : List CK) (cs : List AV) : Prop := cs.length = ks.length ∧ ∀ j k, ks[j]? = some k → CKA k (cs.getD j .any)

/-- A struct that is handed in. -/
theorem trod_agg {H : Type} {enc : TypeId × Value → H} {P : Program} {W : World} {held : Bool} {sp : Nat → Bool} {t dd : Nat} {v : Value} {d : DataW H} {ps : List MemPlace} {ks : List CK}
    (hk : cellsT P dd t = some ks) (hn : 2 ≤ ks.length) (h : DataW.Trod enc P W 0 sp held t v d ps) : ∃ cs : List AV, Told ks cs ∧ VRel (st0 W) (.agg cs) v := by
  obtain ⟨fuel, h⟩ := h
  obtain ⟨hl, hz⟩ := trod_cells dd fuel t _ _ ks hk h
  cases v with
  | agg vs =>
    simp only [Value.cells] at hl hz
    have hl2 : vs.size = ks.length := by simpa using hl
    have hch : ∀ j : Nat, ∃ av : AV, ∀ (k : CK) (u : Value), ks[j]? = some k → vs[j]? = some u → CKA k av ∧ VRel (st0 W) av u := fun j => by
      cases hkj : ks[j]? with
      | none => exact ⟨.any, fun k u h => by cases h⟩
      | some k =>
        cases hvj : vs[j]? with
        | none => exact ⟨.any, fun k u _ h => by cases h⟩
        | some u =>
          obtain ⟨av, h1, h2⟩ := hz j k u hkj (by simpa using hvj)
          exact ⟨av, fun k' u' e1 e2 => by cases e1; cases e2; exact ⟨h1, h2⟩⟩
    obtain ⟨F, hF⟩ := Classical.axiomOfChoice hch
    have hget : ∀ j, j < ks.length → ((List.range ks.length).map F).getD j .any = F j := fun j hj => by
      rw [List.getD_eq_getElem?_getD, List.getElem?_map, List.getElem?_range hj]; rfl
    refine ⟨(List.range ks.length).map F, ⟨by simp, fun j k hk => ?_⟩, .agg (by simpa using hl2) fun j hj => ?_⟩
    · have hj := (List.getElem?_eq_some_iff.1 hk).1
      rw [hget j hj]
      exact (hF j k vs[j] hk (by simp [show j < vs.size by omega])).1
    · have hj : j < ks.length := by simpa using hj
      rw [hget j hj, Array.getD_eq_getD_getElem?, Array.getElem?_eq_getElem (by omega)]
      exact (hF j ks[j] vs[j] (List.getElem?_eq_getElem hj) (by simp [show j < vs.size by omega])).2
  | _ => simp [Value.cells] at hl; omega
/-- A slice of what can be told. -/
theorem told_slice {α : Type} {ks : List CK} (en : α → List AV) (d0 : α) (hd : ∀ cs, Told ks cs → ∃ x : α, (en x).length = ks.length ∧ ∀ j, j < ks.length → AV.Le (cs.getD j .any) ((en x).getD j .any)) {av : AV} (h : CKA (.sl ks) av) :
    ∃ l : List α, l.length ≤ maxLen ∧ AV.Le av (.rsl l.length ks.length fun i => en (l.getD i d0)) := by
  cases h with
  | @sl _ n f hn hl hh =>
    have hch : ∀ i, ∃ x : α, i < n → (en x).length = ks.length ∧ ∀ j, j < ks.length → AV.Le ((f i).getD j .any) ((en x).getD j .any) := fun i => by
      by_cases hi : i < n
      · obtain ⟨x, h1⟩ := hd (f i) ⟨hl i hi, fun j k hk => hh i j k hi hk⟩
        exact ⟨x, fun _ => h1⟩
      · exact ⟨d0, fun x => absurd x hi⟩
    obtain ⟨F, hF⟩ := Classical.axiomOfChoice hch
    refine ⟨(List.range n).map F, by simpa using hn, ?_⟩
    rw [List.length_map, List.length_range]
    refine AV.Le.rslD fun i hi => ?_
    have e : ((List.range n).map F).getD i d0 = F i := by
      rw [List.getD_eq_getElem?_getD, List.getElem?_map, List.getElem?_range hi]; rfl
    rw [e]
    exact hF i hi
theorem told_int {cs : List AV} {k : IntKind} (j : Nat) {ks : List CK} (h : Told ks cs) (hk : ks[j]? = some (.int k)) : ∃ z : Int, cs.getD j .any = .lit (.int k z) ∧ (Lit.int k z).wf = true := by
  have := h.2 j _ hk
  generalize cs.getD j .any = x at *
  cases this with
  | int hw => exact ⟨_, rfl, hw⟩
theorem told_bool {cs : List AV} (j : Nat) {ks : List CK} (h : Told ks cs) (hk : ks[j]? = some .bool) : ∃ b : Bool, cs.getD j .any = .lit (.bool b) := by
  have := h.2 j _ hk
  generalize cs.getD j .any = x at *
  cases this with
  | bool => exact ⟨_, rfl⟩

end Go.V
end
section
set_option linter.unusedVariables false
set_option linter.unusedSimpArgs false
set_option maxHeartbeats 4000000
set_option maxRecDepth 100000
namespace Go.Proofs.Ytkonoggmdcdeeaa
open Go.V
def farO (x : Ir) : Nat → Int
  | 0 => max (max (max (x.ow.length : Int) x.mo.length) x.st.length) x.cl.length
  | i + 1 => max (farO x i) (x.ow.getD i []).length
def farS (x : Ir) : Nat → Int
  | 0 => farO x x.ow.length
  | i + 1 => max (farS x i) (x.st.getD i []).length
def farB (x : Ir) : Bool := decide (40 < farS x x.st.length)
theorem far_tri (x : Ir) (H : Hp) (hO : x.ow.length < 2 ^ 63) (hS : x.st.length < 2 ^ 63) : PTri Try.prog (fnA 35) [x.av] H (boo (farB x)) := by
  refine tri_v0 (fun _ => false) Try.func35 (by kernel_rfl) rfl (by simp only [List.length_append, List.length_cons, List.length_nil, Try.ntmps35]; decide) ?_
  simp only [vsAll, loadA, loadRow, partA, partOk, fieldAddrA, lenA, boxA, mmA, okAll, stAll, opsA, opA, dstOk, nilSliceOp, argFr, Nat.reduceAdd, Nat.reduceLT, Nat.reduceEqDiff, ↓reduceIte, eq_self, wtAll, Try.ntmps35]
  refine vs_loop (σ := Nat) (fun i => i ≤ x.ow.length) (fun i => [(1, .rptr 1 5 (fun _ => x.cs) 0 0), (3, i64 (farO x i)), (22, llAV x.ow), (23, i64 x.ow.length), (24, i64 i)]) (fun _ => H) (fun i => x.ow.length - i) 0 (by omega) ?_ (HSub.refl _) fun i hi => ?_
  · simp only [vsAll, Nat.reduceEqDiff, ↓reduceIte, eq_self, Int.natCast_zero, farO]
  · simp only [vsAll, binA, binLitA, intA, opA, dstOk, Nat.reduceLT, Nat.reduceEqDiff, ↓reduceIte, eq_self]
    refine condD (fun hd => ?_) (fun hd => ?_)
    · simp only [vsAll, binA, binLitA, intA, loadA, loadRow, partA, partOk, indexAddrA, lenA, mmA, okAll, stAll, opsA, opA, dstOk, nilSliceOp, Nat.reduceLT, Nat.reduceEqDiff, ↓reduceIte, eq_self, wtAll, llF_at]
      refine ⟨by omega, by omega, by simp only [InR_i64]; omega, loop_next (i + 1) (by omega) (by omega) ?_ (HSub.refl _)⟩
      simp only [vsAll, Nat.reduceEqDiff, ↓reduceIte, eq_self, Int.natCast_add, Int.natCast_one, farO]
    · have ei : i = x.ow.length := by omega
      subst ei
      simp only [vsAll, loadA, loadRow, partA, partOk, fieldAddrA, lenA, opA, dstOk, Nat.reduceLT, Nat.reduceEqDiff, ↓reduceIte, eq_self, wtAll]
      refine vs_loop (σ := Nat) (fun i => i ≤ x.st.length) (fun i => [(3, i64 (farS x i)), (34, stAV x.st), (35, i64 x.st.length), (36, i64 i)]) (fun _ => H) (fun i => x.st.length - i) 0 (by omega) ?_ (HSub.refl _) fun i hi => ?_
      · simp only [vsAll, Nat.reduceEqDiff, ↓reduceIte, eq_self, Int.natCast_zero, farS]
      · simp only [vsAll, binA, binLitA, intA, opA, dstOk, Nat.reduceLT, Nat.reduceEqDiff, ↓reduceIte, eq_self]
        refine condD (fun hd => ?_) (fun hd => ?_)
        · simp only [vsAll, binA, binLitA, intA, loadA, loadRow, partA, partOk, indexAddrA, lenA, mmA, okAll, stAll, opsA, opA, dstOk, nilSliceOp, Nat.reduceLT, Nat.reduceEqDiff, ↓reduceIte, eq_self, wtAll, stF_at]
          refine ⟨by omega, by omega, by simp only [InR_i64]; omega, loop_next (i + 1) (by omega) (by omega) ?_ (HSub.refl _)⟩
          simp only [vsAll, Nat.reduceEqDiff, ↓reduceIte, eq_self, Int.natCast_add, Int.natCast_one, farS]
        · have ei : i = x.st.length := by omega
          subst ei
          simp only [vsAll, binA, binLitA, intA, opA, dstOk, nilSliceOp, resA, retA.eq_1, Nat.reduceLT, Nat.reduceEqDiff, ↓reduceIte, eq_self, Try.results35]
          rfl
theorem farO_le (x : Ir) (i : Nat) : (x.ow.length : Int) ≤ farO x i ∧ (x.mo.length : Int) ≤ farO x i ∧ (x.st.length : Int) ≤ farO x i ∧ (x.cl.length : Int) ≤ farO x i ∧ ∀ j, j < i → ((x.ow.getD j []).length : Int) ≤ farO x i := by
  induction i with
  | zero => exact ⟨by simp only [farO]; omega, by simp only [farO]; omega, by simp only [farO]; omega, by simp only [farO]; omega, fun j hj => absurd hj (by omega)⟩
  | succ i ih =>
    obtain ⟨h1, h2, h3, h4, h5⟩ := ih
    simp only [farO]
    refine ⟨by omega, by omega, by omega, by omega, fun j hj => ?_⟩
    by_cases e : j = i
    · subst e; omega
    · have := h5 j (by omega); omega
theorem farS_le (x : Ir) (i : Nat) : farO x x.ow.length ≤ farS x i ∧ ∀ j, j < i → ((x.st.getD j []).length : Int) ≤ farS x i := by
  induction i with
  | zero => exact ⟨Int.le_refl _, fun j hj => absurd hj (by omega)⟩
  | succ i ih =>
    obtain ⟨h1, h2⟩ := ih
    simp only [farS]
    refine ⟨by omega, fun j hj => ?_⟩
    by_cases e : j = i
    · subst e; omega
    · have := h2 j (by omega); omega
theorem far_near {x : Ir} (h : farB x = false) : Near x := by
  have h0 := of_decide_eq_false h
  obtain ⟨h1, h2⟩ := farS_le x x.st.length
  obtain ⟨q1, q2, q3, q4, q5⟩ := farO_le x x.ow.length
  exact ⟨by omega, by omega, by omega, by omega, fun i hi => by have := q5 i hi; omega, fun i hi => by have := h2 i hi; omega⟩

def hvB (x : Ir) (most : Nat) : Bool := if (farB x || !decide (Ok x)) = true then farB x else decide (most < (max 1 x.ow.length) ^ x.st.length)
theorem mark_tri (a b c : Int) (H : Hp) : PTri Try.prog (fnA 40) [i64 a, i64 b, i64 c] H (.agg [i64 a, i64 b, i64 c]) := by
  refine tri_vs (m := fun _ => false) Try.func40 (by kernel_rfl) rfl (by simp only [List.length_append, List.length_cons, List.length_nil, Try.ntmps40]; decide) ?_
  simp only [vsAll, cellA, cellsA, fillA, okParts, partsA, partsOk, opA, allocA, newCells, okCells, storeObj, dstOk, argFr, Nat.reduceAdd, Nat.reduceLT, Nat.reduceLeDiff, Nat.reduceEqDiff, ↓reduceIte, reduceCtorEq, eq_self, wtAll, Try.ntmps40]
  intro i4 hh_i4; (try simp only [Hp.set_none, ite_none] at hh_i4)
  refine ret0 ?_
  simp only [vsAll, loadA, loadRow, partA, partOk, resA, retA.eq_1, Nat.reduceLT, Nat.reduceEqDiff, ↓reduceIte, eq_self, wtAll, Try.results40]
  exact dropR_pure rfl (by (repeat (first | exact HSub_rfl | refine HSub_put_eq (by simp only [vsAll, binA, binLitA, intA, aggA, boolA, nilA2, isConst, unA, loadA, loadRow, partA, partOk, fieldAddrA, indexAddrA, indexA, fieldA, extractA, lenA, nilCheckA, boxA, cellA, cellsA, fillA, okParts, buildSliceA, buildMutA, makeSliceA, partIdx, elemsA, lensA, ifaceA, convA, mmA, pickA, okAll, stAll, opsA, partsA, partsOk, opA, allocA, boxMutA, newCells, okCells, storeObj, appendA, guardV, taA, nM, mapUpA, lookA, sliceA, boundsA, opO, okO, copyA, dstOk, nilA, quietOk, nilSliceOp, panA, resA, argFr, retA.eq_1, retA.eq_2, Nat.reduceAdd, Nat.reduceSub, Nat.reduceMul, Nat.reduceLT, Nat.reduceLeDiff, Nat.reduceEqDiff, Nat.reduceBEq, Int.reduceAdd, Int.reduceSub, Int.reduceMul, Int.reduceNeg, Int.reduceLE, Int.reduceLT, Int.reduceEq, Int.reduceNe, Int.reduceToNat, ↓reduceIte, reduceCtorEq, implies_true, forall_const, eq_self, ne_eq, wtAll, Try.ntmps40, Try.results40, hh_i4]) ?_ | refine HSub_drop2 (by simp only [eq_self, hh_i4]) ?_ | refine HSub_keep_eq (by simp only [vsAll, binA, binLitA, intA, aggA, boolA, nilA2, isConst, unA, loadA, loadRow, partA, partOk, fieldAddrA, indexAddrA, indexA, fieldA, extractA, lenA, nilCheckA, boxA, cellA, cellsA, fillA, okParts, buildSliceA, buildMutA, makeSliceA, partIdx, elemsA, lensA, ifaceA, convA, mmA, pickA, okAll, stAll, opsA, partsA, partsOk, opA, allocA, boxMutA, newCells, okCells, storeObj, appendA, guardV, taA, nM, mapUpA, lookA, sliceA, boundsA, opO, okO, copyA, dstOk, nilA, quietOk, nilSliceOp, panA, resA, argFr, retA.eq_1, retA.eq_2, Nat.reduceAdd, Nat.reduceSub, Nat.reduceMul, Nat.reduceLT, Nat.reduceLeDiff, Nat.reduceEqDiff, Nat.reduceBEq, Int.reduceAdd, Int.reduceSub, Int.reduceMul, Int.reduceNeg, Int.reduceLE, Int.reduceLT, Int.reduceEq, Int.reduceNe, Int.reduceToNat, ↓reduceIte, reduceCtorEq, implies_true, forall_const, eq_self, ne_eq, wtAll, Try.ntmps40, Try.results40, hh_i4]) ?_)))
theorem lhis_tri (a b : Int) (H : Hp) : PTri Try.prog (fnA 73) [i64 a, i64 b] H (.agg [i64 a, i64 b, boo false]) := by
  refine tri_vs (m := fun _ => false) Try.func73 (by kernel_rfl) rfl (by simp only [List.length_append, List.length_cons, List.length_nil, Try.ntmps73]; decide) ?_
  simp only [vsAll, cellA, cellsA, fillA, okParts, partsA, partsOk, opA, allocA, newCells, okCells, storeObj, dstOk, argFr, Nat.reduceAdd, Nat.reduceLT, Nat.reduceLeDiff, Nat.reduceEqDiff, ↓reduceIte, reduceCtorEq, eq_self, wtAll, Try.ntmps73]
  intro i4 hh_i4; (try simp only [Hp.set_none, ite_none] at hh_i4)
  refine ret0 ?_
  simp only [vsAll, loadA, loadRow, partA, partOk, resA, retA.eq_1, Nat.reduceLT, Nat.reduceEqDiff, ↓reduceIte, eq_self, wtAll, Try.results73]
  exact dropR_pure rfl (by (repeat (first | exact HSub_rfl | refine HSub_put_eq (by simp only [vsAll, binA, binLitA, intA, aggA, boolA, nilA2, isConst, unA, loadA, loadRow, partA, partOk, fieldAddrA, indexAddrA, indexA, fieldA, extractA, lenA, nilCheckA, boxA, cellA, cellsA, fillA, okParts, buildSliceA, buildMutA, makeSliceA, partIdx, elemsA, lensA, ifaceA, convA, mmA, pickA, okAll, stAll, opsA, partsA, partsOk, opA, allocA, boxMutA, newCells, okCells, storeObj, appendA, guardV, taA, nM, mapUpA, lookA, sliceA, boundsA, opO, okO, copyA, dstOk, nilA, quietOk, nilSliceOp, panA, resA, argFr, retA.eq_1, retA.eq_2, Nat.reduceAdd, Nat.reduceSub, Nat.reduceMul, Nat.reduceLT, Nat.reduceLeDiff, Nat.reduceEqDiff, Nat.reduceBEq, Int.reduceAdd, Int.reduceSub, Int.reduceMul, Int.reduceNeg, Int.reduceLE, Int.reduceLT, Int.reduceEq, Int.reduceNe, Int.reduceToNat, ↓reduceIte, reduceCtorEq, implies_true, forall_const, eq_self, ne_eq, wtAll, Try.ntmps73, Try.results73, hh_i4]) ?_ | refine HSub_drop2 (by simp only [eq_self, hh_i4]) ?_ | refine HSub_keep_eq (by simp only [vsAll, binA, binLitA, intA, aggA, boolA, nilA2, isConst, unA, loadA, loadRow, partA, partOk, fieldAddrA, indexAddrA, indexA, fieldA, extractA, lenA, nilCheckA, boxA, cellA, cellsA, fillA, okParts, buildSliceA, buildMutA, makeSliceA, partIdx, elemsA, lensA, ifaceA, convA, mmA, pickA, okAll, stAll, opsA, partsA, partsOk, opA, allocA, boxMutA, newCells, okCells, storeObj, appendA, guardV, taA, nM, mapUpA, lookA, sliceA, boundsA, opO, okO, copyA, dstOk, nilA, quietOk, nilSliceOp, panA, resA, argFr, retA.eq_1, retA.eq_2, Nat.reduceAdd, Nat.reduceSub, Nat.reduceMul, Nat.reduceLT, Nat.reduceLeDiff, Nat.reduceEqDiff, Nat.reduceBEq, Int.reduceAdd, Int.reduceSub, Int.reduceMul, Int.reduceNeg, Int.reduceLE, Int.reduceLT, Int.reduceEq, Int.reduceNe, Int.reduceToNat, ↓reduceIte, reduceCtorEq, implies_true, forall_const, eq_self, ne_eq, wtAll, Try.ntmps73, Try.results73, hh_i4]) ?_)))
theorem lother_tri (a b : Int) (H : Hp) : PTri Try.prog (fnA 74) [i64 a, i64 b] H (.agg [i64 a, i64 b, boo true]) := by
  refine tri_vs (m := fun _ => false) Try.func74 (by kernel_rfl) rfl (by simp only [List.length_append, List.length_cons, List.length_nil, Try.ntmps74]; decide) ?_
  simp only [vsAll, cellA, cellsA, fillA, okParts, partsA, partsOk, opA, allocA, newCells, okCells, storeObj, dstOk, argFr, Nat.reduceAdd, Nat.reduceLT, Nat.reduceLeDiff, Nat.reduceEqDiff, ↓reduceIte, reduceCtorEq, eq_self, wtAll, Try.ntmps74]
  intro i4 hh_i4; (try simp only [Hp.set_none, ite_none] at hh_i4)
  refine ret0 ?_
  simp only [vsAll, loadA, loadRow, partA, partOk, resA, retA.eq_1, Nat.reduceLT, Nat.reduceEqDiff, ↓reduceIte, eq_self, wtAll, Try.results74]
  exact dropR_pure rfl (by (repeat (first | exact HSub_rfl | refine HSub_put_eq (by simp only [vsAll, binA, binLitA, intA, aggA, boolA, nilA2, isConst, unA, loadA, loadRow, partA, partOk, fieldAddrA, indexAddrA, indexA, fieldA, extractA, lenA, nilCheckA, boxA, cellA, cellsA, fillA, okParts, buildSliceA, buildMutA, makeSliceA, partIdx, elemsA, lensA, ifaceA, convA, mmA, pickA, okAll, stAll, opsA, partsA, partsOk, opA, allocA, boxMutA, newCells, okCells, storeObj, appendA, guardV, taA, nM, mapUpA, lookA, sliceA, boundsA, opO, okO, copyA, dstOk, nilA, quietOk, nilSliceOp, panA, resA, argFr, retA.eq_1, retA.eq_2, Nat.reduceAdd, Nat.reduceSub, Nat.reduceMul, Nat.reduceLT, Nat.reduceLeDiff, Nat.reduceEqDiff, Nat.reduceBEq, Int.reduceAdd, Int.reduceSub, Int.reduceMul, Int.reduceNeg, Int.reduceLE, Int.reduceLT, Int.reduceEq, Int.reduceNe, Int.reduceToNat, ↓reduceIte, reduceCtorEq, implies_true, forall_const, eq_self, ne_eq, wtAll, Try.ntmps74, Try.results74, hh_i4]) ?_ | refine HSub_drop2 (by simp only [eq_self, hh_i4]) ?_ | refine HSub_keep_eq (by simp only [vsAll, binA, binLitA, intA, aggA, boolA, nilA2, isConst, unA, loadA, loadRow, partA, partOk, fieldAddrA, indexAddrA, indexA, fieldA, extractA, lenA, nilCheckA, boxA, cellA, cellsA, fillA, okParts, buildSliceA, buildMutA, makeSliceA, partIdx, elemsA, lensA, ifaceA, convA, mmA, pickA, okAll, stAll, opsA, partsA, partsOk, opA, allocA, boxMutA, newCells, okCells, storeObj, appendA, guardV, taA, nM, mapUpA, lookA, sliceA, boundsA, opO, okO, copyA, dstOk, nilA, quietOk, nilSliceOp, panA, resA, argFr, retA.eq_1, retA.eq_2, Nat.reduceAdd, Nat.reduceSub, Nat.reduceMul, Nat.reduceLT, Nat.reduceLeDiff, Nat.reduceEqDiff, Nat.reduceBEq, Int.reduceAdd, Int.reduceSub, Int.reduceMul, Int.reduceNeg, Int.reduceLE, Int.reduceLT, Int.reduceEq, Int.reduceNe, Int.reduceToNat, ↓reduceIte, reduceCtorEq, implies_true, forall_const, eq_self, ne_eq, wtAll, Try.ntmps74, Try.results74, hh_i4]) ?_)))
def smI (m : Int) : Ir := ⟨2, [[3, 5], [3, 7], [6, 5]], [m, 2, m], [[⟨0, 3, 3⟩], [⟨1, 5, 6⟩], []], [⟨0, 0, false⟩, ⟨1, 2, true⟩, ⟨1, 2, false⟩]⟩
theorem ret_le {P : Program} {fv : AV} {args : List AV} {H : Hp} {v v' : AV} (h : PTri P fv args H v) (hle : AV.Le v v') : PTri P fv args H v' := by
  intro S vf vs hH hvf ha
  obtain ⟨nx, h1, h2⟩ := h S vf vs hH hvf ha
  have ho : ∀ e w, Out S (fun r H' => r = .ret v ∧ H' = H) e w → Out S (fun r H' => r = .ret v' ∧ H' = H) e w := by
    rintro e w ⟨S', r, H', hw, hl, hH', hrr, rfl, rfl⟩
    refine ⟨S', .ret v', H', hw, hl, hH', ?_, rfl, rfl⟩
    cases e with
    | returned cv => exact hle S' cv hrr
    | panicked ch => exact hrr.elim
    | outgrown => exact hrr.elim
  refine ⟨nx, h1, ?_⟩
  cases nx <;> simp only [NextOk] at h2 ⊢
  · exact Calls.mono h2 ho
  · exact h2.mono ho
theorem sample_tri (m : Int) (H : Hp) : PTri Try.prog (fnA 42) [i64 m] H (smI m).av := by
  refine ret_le (v := .agg [i64 2, .rsl 3 1 (fun i => [[.rsl 2 1 (fun i => [[i64 3], [i64 5]].getD i [])], [.rsl 2 1 (fun i => [[i64 3], [i64 7]].getD i [])], [.rsl 2 1 (fun i => [[i64 6], [i64 5]].getD i [])]].getD i []),
    .rsl 3 1 (fun i => [[i64 m], [i64 2], [i64 m]].getD i []),
    .rsl 3 1 (fun i => [[.rsl 1 3 (fun i => [[i64 0, i64 3, i64 3]].getD i [])], [.rsl 1 3 (fun i => [[i64 1, i64 5, i64 6]].getD i [])], [.lit (.slice none 0 0)]].getD i []),
    .rsl 3 3 (fun i => [[i64 0, i64 0, boo false], [i64 1, i64 2, boo true], [i64 1, i64 2, boo false]].getD i [])]) ?_ ?_
  · refine tri_vs (m := fun _ => false) Try.func42 (by kernel_rfl) rfl (by simp only [List.length_append, List.length_cons, List.length_nil, Try.ntmps42]; decide) ?_
    simp only [vsAll, cellA, cellsA, okParts, buildSliceA, partIdx, elemsA, lensA, okAll, stAll, opsA, partsA, partsOk, opA, allocA, dstOk, argFr, Nat.reduceAdd, Nat.reduceMul, Nat.reduceLT, Nat.reduceLeDiff, Nat.reduceEqDiff, ↓reduceIte, reduceCtorEq, eq_self, wtAll, Try.ntmps42]
    intro i2 hh_i2; (try simp only [Hp.set_none, ite_none] at hh_i2)
    refine callK_pure (mark_tri 0 3 3 _) ?_
    simp only [vsAll, cellsA, okParts, buildSliceA, partIdx, elemsA, lensA, okAll, stAll, opsA, partsA, partsOk, opA, dstOk, Nat.reduceAdd, Nat.reduceMul, Nat.reduceLT, Nat.reduceLeDiff, ↓reduceIte, eq_self, wtAll]
    refine callK_pure (mark_tri 1 5 6 _) ?_
    simp only [vsAll, cellA, cellsA, okParts, buildSliceA, partIdx, elemsA, lensA, okAll, stAll, opsA, partsA, partsOk, opA, dstOk, Nat.reduceAdd, Nat.reduceMul, Nat.reduceLT, Nat.reduceLeDiff, Nat.reduceEqDiff, ↓reduceIte, eq_self, wtAll]
    refine callK_pure (lhis_tri 0 0 _) ?_
    simp only [vsAll, okAll, stAll, opsA, opA, dstOk, Nat.reduceLT]
    refine callK_pure (lother_tri 1 2 _) ?_
    simp only [vsAll, okAll, stAll, opsA, opA, dstOk, Nat.reduceLT]
    refine callK_pure (lhis_tri 1 2 _) ?_
    simp only [vsAll, cellA, cellsA, fillA, okParts, buildSliceA, partIdx, elemsA, lensA, partsA, partsOk, opA, newCells, okCells, storeObj, dstOk, Nat.reduceAdd, Nat.reduceMul, Nat.reduceLT, Nat.reduceLeDiff, Nat.reduceEqDiff, ↓reduceIte, eq_self, wtAll]
    refine ret0 ?_
    simp only [vsAll, loadA, loadRow, partA, partOk, resA, retA.eq_1, Nat.reduceLT, Nat.reduceEqDiff, ↓reduceIte, eq_self, wtAll, Try.results42]
    exact dropR_pure rfl (by (repeat (first | exact HSub_rfl | refine HSub_put_eq (by simp only [vsAll, binA, binLitA, intA, aggA, boolA, nilA2, isConst, unA, loadA, loadRow, partA, partOk, fieldAddrA, indexAddrA, indexA, fieldA, extractA, lenA, nilCheckA, boxA, cellA, cellsA, fillA, okParts, buildSliceA, buildMutA, makeSliceA, partIdx, elemsA, lensA, ifaceA, convA, mmA, pickA, okAll, stAll, opsA, partsA, partsOk, opA, allocA, boxMutA, newCells, okCells, storeObj, appendA, guardV, taA, nM, mapUpA, lookA, sliceA, boundsA, opO, okO, copyA, dstOk, nilA, quietOk, nilSliceOp, panA, resA, argFr, retA.eq_1, retA.eq_2, Nat.reduceAdd, Nat.reduceSub, Nat.reduceMul, Nat.reduceLT, Nat.reduceLeDiff, Nat.reduceEqDiff, Nat.reduceBEq, Int.reduceAdd, Int.reduceSub, Int.reduceMul, Int.reduceNeg, Int.reduceLE, Int.reduceLT, Int.reduceEq, Int.reduceNe, Int.reduceToNat, ↓reduceIte, reduceCtorEq, implies_true, forall_const, eq_self, ne_eq, wtAll, Try.ntmps42, Try.results42, hh_i2]) ?_ | refine HSub_drop2 (by simp only [eq_self, hh_i2]) ?_ | refine HSub_keep_eq (by simp only [vsAll, binA, binLitA, intA, aggA, boolA, nilA2, isConst, unA, loadA, loadRow, partA, partOk, fieldAddrA, indexAddrA, indexA, fieldA, extractA, lenA, nilCheckA, boxA, cellA, cellsA, fillA, okParts, buildSliceA, buildMutA, makeSliceA, partIdx, elemsA, lensA, ifaceA, convA, mmA, pickA, okAll, stAll, opsA, partsA, partsOk, opA, allocA, boxMutA, newCells, okCells, storeObj, appendA, guardV, taA, nM, mapUpA, lookA, sliceA, boundsA, opO, okO, copyA, dstOk, nilA, quietOk, nilSliceOp, panA, resA, argFr, retA.eq_1, retA.eq_2, Nat.reduceAdd, Nat.reduceSub, Nat.reduceMul, Nat.reduceLT, Nat.reduceLeDiff, Nat.reduceEqDiff, Nat.reduceBEq, Int.reduceAdd, Int.reduceSub, Int.reduceMul, Int.reduceNeg, Int.reduceLE, Int.reduceLT, Int.reduceEq, Int.reduceNe, Int.reduceToNat, ↓reduceIte, reduceCtorEq, implies_true, forall_const, eq_self, ne_eq, wtAll, Try.ntmps42, Try.results42, hh_i2]) ?_)))
  · have two : ∀ a b : Int, AV.Le (.rsl 2 1 (fun i => [[i64 a], [i64 b]].getD i [])) (intsAV [a, b]) := fun a b => AV.Le.rsl fun i hi => by
      match i, hi with
      | 0, _ => rfl
      | 1, _ => rfl
    have one : ∀ a b c : Int, AV.Le (.rsl 1 3 (fun i => [[i64 a, i64 b, i64 c]].getD i [])) (mksAV [⟨a, b, c⟩]) := fun a b c => AV.Le.rsl fun i hi => by
      match i, hi with
      | 0, _ => rfl
    refine AV.Le.aggD rfl fun j hj => ?_
    match j, hj with
    | 0, _ => exact AV.Le.refl _
    | 1, _ =>
      refine AV.Le.rslA (fun i hi => ?_) fun i hi j hj => ?_
      · match i, hi with
        | 0, _ => rfl
        | 1, _ => rfl
        | 2, _ => rfl
      · match i, hi, j, hj with
        | 0, _, 0, _ => exact two 3 5
        | 1, _, 0, _ => exact two 3 7
        | 2, _, 0, _ => exact two 6 5
    | 2, _ =>
      refine AV.Le.rsl fun i hi => ?_
      match i, hi with
      | 0, _ => rfl
      | 1, _ => rfl
      | 2, _ => rfl
    | 3, _ =>
      refine AV.Le.rslA (fun i hi => ?_) fun i hi j hj => ?_
      · match i, hi with
        | 0, _ => rfl
        | 1, _ => rfl
        | 2, _ => rfl
      · match i, hi, j, hj with
        | 0, _, 0, _ => exact one 0 3 3
        | 1, _, 0, _ => exact one 1 5 6
        | 2, _, 0, _ => exact AV.Le.nil 3 _
    | 4, _ =>
      refine AV.Le.rsl fun i hi => ?_
      match i, hi with
      | 0, _ => rfl
      | 1, _ => rfl
      | 2, _ => rfl
end Go.Proofs.Ytkonoggmdcdeeaa
end
section
set_option linter.unusedVariables false
set_option linter.unusedSimpArgs false
set_option maxHeartbeats 4000000
set_option maxRecDepth 100000
namespace Go.Proofs.Ytkonoggmdcdeeaa
open Go.V
theorem sm_ok : Ok (smI 1) ∧ Ok (smI 0) := by decide +kernel
theorem sm1 : ((fitsV (smI 1) 1 : Nat) : Int) = 5 := by decide +kernel
theorem sm2 : fitsE (smI 1) 1 = 0 := by decide +kernel
theorem sm3 : ((countV (smI 1) : Nat) : Int) = 5 := by decide +kernel
theorem sm4 : countE (smI 1) = 0 := by decide +kernel
theorem sm5 : ((canV (smI 1) 2 : Nat) : Int) = 7 := by decide +kernel
theorem sm6 : canE (smI 1) 2 = 0 := by decide +kernel
theorem sm7 : claimV (smI 1) 1 = 1 := by decide +kernel
theorem sm8 : claimE (smI 1) 1 = 0 := by decide +kernel
theorem sm9 : (((falseP (smI 1)).1 : Nat) : Int) = 1 := by decide +kernel
theorem sm10 : (((falseP (smI 1)).2 : Nat) : Int) = 2 := by decide +kernel
theorem sm11 : falseE (smI 1) = 0 := by decide +kernel
theorem sm12 : ((likV (smI 1) 2 : Nat) : Int) = 2 := by decide +kernel
theorem sm13 : likE (smI 1) 2 = 0 := by decide +kernel
theorem sm14 : ((setV (errE (smI 1) true true) (clashR (smI 1)) : Nat) : Int) = 3 := by decide +kernel
theorem sm15 : setE (errE (smI 1) true true) (clashR (smI 1)) = 0 := by decide +kernel
theorem sm16 : ((setV (errE (smI 0) true false) (shortR (smI 0)) : Nat) : Int) = 2 := by decide +kernel
theorem sm17 : setE (errE (smI 0) true false) (shortR (smI 0)) = 0 := by decide +kernel
theorem awake_tri (H : Hp) : PTri Try.prog (fnA 14) [] H (boo true) := by
  have k1 := sm_ok.1.near
  have k0 := sm_ok.2.near
  refine Tri.drop ?_
  refine tri_v0 (fun _ => false) Try.func14 (by kernel_rfl) rfl (by simp only [List.length_append, List.length_nil, Try.ntmps14]; decide) ?_
  simp only [vsAll, okAll, stAll, opsA, opA, dstOk, nilSliceOp, Nat.reduceLT, eq_self, Try.ntmps14]
  refine callK_pure (sample_tri 1 _) ?_
  simp only [vsAll, loadA, loadRow, partA, partOk, cellA, cellsA, okAll, stAll, opsA, opA, allocA, newCells, okCells, storeObj, dstOk, Nat.reduceAdd, Nat.reduceLT, Nat.reduceEqDiff, ↓reduceIte, eq_self, wtAll]
  intro i1 hh_i1; (try simp only [Hp.set_none, ite_none] at hh_i1)
  refine callK_pure (wfits_tri (smI 1) 1 _ k1) ?_
  simp only [vsAll, loadA, loadRow, partA, partOk, extractA, okAll, stAll, opsA, opA, dstOk, nilSliceOp, Nat.reduceAdd, Nat.reduceLT, Nat.reduceEqDiff, ↓reduceIte, eq_self, wtAll, sm1, sm2]
  refine callK_pure (wcount_tri (smI 1) _ k1) ?_
  simp only [vsAll, loadA, loadRow, partA, partOk, extractA, okAll, stAll, opsA, opA, dstOk, nilSliceOp, Nat.reduceAdd, Nat.reduceLT, Nat.reduceEqDiff, ↓reduceIte, eq_self, wtAll, sm3, sm4]
  refine callK_pure (wcan_tri (smI 1) 2 _ k1) ?_
  simp only [vsAll, loadA, loadRow, partA, partOk, extractA, okAll, stAll, opsA, opA, dstOk, nilSliceOp, Nat.reduceAdd, Nat.reduceLT, Nat.reduceEqDiff, ↓reduceIte, eq_self, wtAll, sm5, sm6]
  refine callK_pure (wclaim_tri (smI 1) 1 _ k1) ?_
  simp only [vsAll, loadA, loadRow, partA, partOk, extractA, okAll, stAll, opsA, opA, dstOk, nilSliceOp, Nat.reduceAdd, Nat.reduceLT, Nat.reduceEqDiff, ↓reduceIte, eq_self, wtAll, sm7, sm8]
  refine callK_pure (wfalse_tri (smI 1) _ k1) ?_
  simp only [vsAll, loadA, loadRow, partA, partOk, extractA, okAll, stAll, opsA, opA, dstOk, nilSliceOp, Nat.reduceAdd, Nat.reduceLT, Nat.reduceEqDiff, ↓reduceIte, eq_self, wtAll, sm9, sm10, sm11]
  refine callK_pure (wlikely_tri (smI 1) 2 _ k1) ?_
  simp only [vsAll, loadA, loadRow, partA, partOk, extractA, okAll, stAll, opsA, opA, dstOk, nilSliceOp, Nat.reduceAdd, Nat.reduceLT, Nat.reduceEqDiff, ↓reduceIte, eq_self, wtAll, sm12, sm13]
  refine callK_pure (wclash_tri (smI 1) _ k1) ?_
  simp only [vsAll, extractA, okAll, stAll, opsA, opA, dstOk, nilSliceOp, Nat.reduceAdd, Nat.reduceLT, Nat.reduceEqDiff, ↓reduceIte, eq_self, sm14, sm15]
  refine callK_pure (sample_tri 0 _) ?_
  simp only [vsAll, okAll, stAll, opsA, opA, dstOk, Nat.reduceLT, ↓reduceIte, eq_self]
  refine callK_pure (wshort_tri (smI 0) _ k0) ?_
  simp only [vsAll, binA, binLitA, intA, extractA, pickA, opA, guardV, dstOk, nilSliceOp, resA, retA.eq_1, Nat.reduceAdd, Nat.reduceLT, Nat.reduceEqDiff, ↓reduceIte, implies_true, eq_self, Try.results14, sm16, sm17]
  exact dropR_pure rfl (by (repeat (first | exact HSub_rfl | refine HSub_put_eq (by simp only [vsAll, binA, binLitA, intA, aggA, boolA, nilA2, isConst, unA, loadA, loadRow, partA, partOk, fieldAddrA, indexAddrA, indexA, fieldA, extractA, lenA, nilCheckA, boxA, cellA, cellsA, fillA, okParts, buildSliceA, buildMutA, makeSliceA, partIdx, elemsA, lensA, ifaceA, convA, mmA, pickA, okAll, stAll, opsA, partsA, partsOk, opA, allocA, boxMutA, newCells, okCells, storeObj, appendA, guardV, taA, nM, mapUpA, lookA, sliceA, boundsA, opO, okO, copyA, dstOk, nilA, quietOk, nilSliceOp, panA, resA, argFr, retA.eq_1, retA.eq_2, Nat.reduceAdd, Nat.reduceSub, Nat.reduceMul, Nat.reduceLT, Nat.reduceLeDiff, Nat.reduceEqDiff, Nat.reduceBEq, Int.reduceAdd, Int.reduceSub, Int.reduceMul, Int.reduceNeg, Int.reduceLE, Int.reduceLT, Int.reduceEq, Int.reduceNe, Int.reduceToNat, ↓reduceIte, reduceCtorEq, implies_true, forall_const, eq_self, ne_eq, wtAll, Try.ntmps14, Try.results14, hh_i1]) ?_ | refine HSub_drop2 (by simp only [eq_self, hh_i1]) ?_ | refine HSub_keep_eq (by simp only [vsAll, binA, binLitA, intA, aggA, boolA, nilA2, isConst, unA, loadA, loadRow, partA, partOk, fieldAddrA, indexAddrA, indexA, fieldA, extractA, lenA, nilCheckA, boxA, cellA, cellsA, fillA, okParts, buildSliceA, buildMutA, makeSliceA, partIdx, elemsA, lensA, ifaceA, convA, mmA, pickA, okAll, stAll, opsA, partsA, partsOk, opA, allocA, boxMutA, newCells, okCells, storeObj, appendA, guardV, taA, nM, mapUpA, lookA, sliceA, boundsA, opO, okO, copyA, dstOk, nilA, quietOk, nilSliceOp, panA, resA, argFr, retA.eq_1, retA.eq_2, Nat.reduceAdd, Nat.reduceSub, Nat.reduceMul, Nat.reduceLT, Nat.reduceLeDiff, Nat.reduceEqDiff, Nat.reduceBEq, Int.reduceAdd, Int.reduceSub, Int.reduceMul, Int.reduceNeg, Int.reduceLE, Int.reduceLT, Int.reduceEq, Int.reduceNe, Int.reduceToNat, ↓reduceIte, reduceCtorEq, implies_true, forall_const, eq_self, ne_eq, wtAll, Try.ntmps14, Try.results14, hh_i1]) ?_)))
end Go.Proofs.Ytkonoggmdcdeeaa
end
section
set_option linter.unusedVariables false
set_option linter.unusedSimpArgs false
set_option maxHeartbeats 4000000
set_option maxRecDepth 100000
namespace Go.Proofs.Ytkonoggmdcdeeaa
open Go.V
/-- How many claims are false in a truth. -/
def popW (x : Ir) (t : List Int) : Nat := pop (wrongT x t)
def clrB (x : Ir) (o : List (List Int)) (t : List Int) : Bool := decide (0 < o.length) && decide (popW x t < popW x (o.getD 0 []))
def addB (x : Ir) (o : List (List Int)) (t : List Int) : Bool := decide (o.length = 0) || decide (popW x t = popW x (o.getD 0 []))
def bst1 (x : Ir) (o : List (List Int)) (t : List Int) : List (List Int) := if addB x o t = true then o ++ [t] else o
def bstN (x : Ir) : Nat → List (List Int)
  | 0 => []
  | i + 1 => bst1 x (if clrB x (bstN x i) ((truA x).getD i []) = true then [] else bstN x i) ((truA x).getD i [])
def bestL (x : Ir) : List (List Int) := bstN x (truA x).length
end Go.Proofs.Ytkonoggmdcdeeaa
end
section
set_option linter.unusedVariables false
set_option linter.unusedSimpArgs false
set_option maxHeartbeats 4000000
set_option maxRecDepth 100000
namespace Go.Proofs.Ytkonoggmdcdeeaa
open Go.V
/-- The least set of false claims of the first ones. -/
def mnN (x : Ir) (L : List (List Int)) : Nat → Nat
  | 0 => wrongT x (L.getD 0 [])
  | i + 1 => min (mnN x L i) (wrongT x (L.getD i []))
def rfalP (x : Ir) : Nat × Nat := if falseE x = 0 then (pop (mnN x (bestL x) (bestL x).length), mnN x (bestL x) (bestL x).length) else (0, 0)
def rlikV (x : Ir) (s : Int) : Nat := if likE x s = 0 then who (bestL x) s.toNat else 0
end Go.Proofs.Ytkonoggmdcdeeaa
end
section
set_option linter.unusedVariables false
set_option linter.unusedSimpArgs false
namespace Go.Proofs.Ytkonoggmdcdeeaa
open Go.V
def moreK (x : Ir) (C k : Nat) (s : Nat) (o : Int) (r : Nat × Nat) : Nat × Nat := (r.1 + (wrO x C s o k).1, r.2 + (wrO x C s o k).2)
/-- A claim is false, and of one of these strakes. -/
def flB (x : Ir) (C k s : Nat) (t : List Int) : Bool := decide (s ≤ (x.cl.getD k cl0).s.toNat ∧ (x.cl.getD k cl0).s.toNat < s + t.length) && C.testBit k && !rightO (x.cl.getD k cl0) (t.getD ((x.cl.getD k cl0).s.toNat - s) 0)
theorem valK_succ (x : Ir) (C k : Nat) (hc : 0 ≤ (x.cl.getD k cl0).s) (t : List Int) : ∀ s, valT (0, 0) (moreK x C (k + 1)) s t = if flB x C k s t = true then ((valT (0, 0) (moreK x C k) s t).1 + 1, (valT (0, 0) (moreK x C k) s t).2 + 2 ^ k) else valT (0, 0) (moreK x C k) s t := by
  induction t with
  | nil =>
    intro s
    have : flB x C k s [] = false := by simp only [flB, List.length_nil, Nat.add_zero]; rw [decide_eq_false (by omega)]; rfl
    rw [this]; rfl
  | cons o t ih =>
    intro s
    simp only [valT, ih (s + 1)]
    have hwr : wrO x C s o (k + 1) = if wrB x C s o k = true then ((wrO x C s o k).1 + 1, (wrO x C s o k).2 + 2 ^ k) else wrO x C s o k := rfl
    by_cases e : (x.cl.getD k cl0).s.toNat = s
    · have h1 : flB x C k (s + 1) t = false := by
        simp only [flB]; rw [decide_eq_false (by omega)]; rfl
      have h2 : flB x C k s (o :: t) = wrB x C s o k := by
        simp only [flB, wrB, List.length_cons]
        rw [decide_eq_true (by omega), e, Nat.sub_self, List.getD_cons_zero, decide_eq_true (by omega : (x.cl.getD k cl0).s = (s : Int))]
      rw [h1, h2, if_neg (by decide)]
      simp only [moreK, hwr]
      split <;> simp only [Nat.add_assoc]
    · have h1 : flB x C k s (o :: t) = flB x C k (s + 1) t := by
        simp only [flB, List.length_cons]
        by_cases q : s + 1 ≤ (x.cl.getD k cl0).s.toNat
        · obtain ⟨d, hd⟩ : ∃ d, (x.cl.getD k cl0).s.toNat - s = d + 1 := ⟨(x.cl.getD k cl0).s.toNat - s - 1, by omega⟩
          rw [hd, List.getD_cons_succ, show (x.cl.getD k cl0).s.toNat - (s + 1) = d by omega]
          rw [show decide (s ≤ (x.cl.getD k cl0).s.toNat ∧ (x.cl.getD k cl0).s.toNat < s + (t.length + 1)) = decide (s + 1 ≤ (x.cl.getD k cl0).s.toNat ∧ (x.cl.getD k cl0).s.toNat < s + 1 + t.length) from decide_eq_decide.2 (by omega)]
        · rw [decide_eq_false (by omega), decide_eq_false (by omega)]; rfl
      have h2 : wrB x C s o k = false := by
        simp only [wrB]; rw [decide_eq_false (by omega)]; rfl
      rw [h1]
      simp only [moreK, hwr, h2, Bool.false_eq_true, if_false]
      split <;> simp only [Nat.add_right_comm]
theorem pop_add : ∀ k, k < 8 → ∀ a, a < 256 → a < 2 ^ k → pop (a + 2 ^ k) = pop a + 1 := by decide +kernel
theorem valK_wrong {x : Ir} (k : Ok x) {t : List Int} (ht : t.length = x.st.length) : ∀ n, n ≤ x.cl.length → valT (0, 0) (moreK x (fullC x) n) 0 t = (pop (wrongN x t n), wrongN x t n) := by
  intro n
  induction n with
  | zero =>
    intro _
    have : ∀ (t : List Int) s, valT (0, 0) (moreK x (fullC x) 0) s t = (0, 0) := by
      intro t
      induction t with
      | nil => intro s; rfl
      | cons o t ih => intro s; simp only [valT, ih]; rfl
    have p0 : pop 0 = 0 := popN_zero 64
    rw [this]
    simp only [wrongN, p0]
  | succ n ih =>
    intro hn
    have hc := k.cs n (by omega)
    have nC := k.nC
    have hw := wrongN_lt x t n
    have hp : 2 ^ n ≤ 2 ^ 7 := Nat.pow_le_pow_right (by decide) (by omega)
    rw [valK_succ x (fullC x) n hc.1, ih (by omega)]
    have hf : flB x (fullC x) n 0 t = !rightT x t n := by
      simp only [flB, rightT, Nat.sub_zero]
      rw [decide_eq_true (by omega), full_bit _ _ (by omega)]
      rfl
    rw [hf]
    simp only [wrongN]
    cases rightT x t n with
    | true => simp
    | false =>
      simp only [Bool.not_false, if_true, Bool.false_eq_true, if_false]
      rw [pop_add n (by omega) _ (by omega) hw]
theorem val_wrong {x : Ir} (k : Ok x) {t : List Int} (ht : t.length = x.st.length) : valT (0, 0) (moreL x (fullC x)) 0 t = (popW x t, wrongT x t) := valK_wrong k ht _ (Nat.le_refl _)

theorem foldJ_min (l : List (Nat × Nat)) : ∀ m, foldJ joinL l = some m → m ∈ l ∧ ∀ y ∈ l, lessB y m = false := by
  induction l with
  | nil => intro m h; cases h
  | cons a l ih =>
    intro m h
    simp only [foldJ] at h
    have irr : lessB a a = false := by rw [← Bool.not_eq_true, lessB_iff]; omega
    cases hl : foldJ joinL l with
    | none =>
      rw [hl] at h
      simp only [comb, Option.some.injEq] at h
      subst h
      have := (foldJ_none l).1 hl
      subst this
      exact ⟨by simp, fun y hy => by simp at hy; subst hy; exact irr⟩
    | some b =>
      rw [hl] at h
      simp only [comb, Option.some.injEq] at h
      obtain ⟨h1, h2⟩ := ih b hl
      unfold joinL at h
      by_cases q : lessB b a = true
      · rw [if_pos q] at h
        subst h
        refine ⟨by simp [h1], fun y hy => ?_⟩
        rcases List.mem_cons.1 hy with rfl | hy
        · rw [← Bool.not_eq_true, lessB_iff]
          have := (lessB_iff _ _).1 q
          omega
        · exact h2 y hy
      · rw [if_neg q] at h
        subst h
        refine ⟨by simp, fun y hy => ?_⟩
        rcases List.mem_cons.1 hy with rfl | hy
        · exact irr
        · have h3 := h2 y hy
          rw [← Bool.not_eq_true, lessB_iff] at h3 ⊢
          have q2 : ¬ (b.1 < a.1 ∨ b.1 = a.1 ∧ b.2 < a.2) := fun p => q ((lessB_iff _ _).2 p)
          omega
end Go.Proofs.Ytkonoggmdcdeeaa
end
section
set_option linter.unusedVariables false
set_option linter.unusedSimpArgs false
namespace Go.Proofs.Ytkonoggmdcdeeaa
open Go.V
theorem tlW_truth {x : Ir} (k : Ok x) : tlW x (fullS x) (fullC x) false = foldJ joinL ((truA x).map fun t => (popW x t, wrongT x t)) := by
  have h : truA x = cont x (fullS x) (fullC x) false x.st.length 0 u0 := truS_cont x (fullS x) (fullC x) k.gd
  have e : (truA x).map (valT (0, 0) (moreL x (fullC x)) 0) = (truA x).map fun t => (popW x t, wrongT x t) := List.map_congr_left fun t ht => val_wrong k (truA_mem ht).1
  rw [tlW_eq, ← h, e]
end Go.Proofs.Ytkonoggmdcdeeaa
end
section
set_option linter.unusedVariables false
set_option linter.unusedSimpArgs false
namespace Go.Proofs.Ytkonoggmdcdeeaa
open Go.V
theorem foldJ_some {l : List (Nat × Nat)} (h : l ≠ []) : ∃ m, foldJ joinL l = some m := by
  cases hf : foldJ joinL l with
  | none => exact absurd ((foldJ_none l).1 hf) h
  | some m => exact ⟨m, rfl⟩
end Go.Proofs.Ytkonoggmdcdeeaa
end
section
set_option linter.unusedVariables false
set_option linter.unusedSimpArgs false
set_option maxHeartbeats 4000000
set_option maxRecDepth 100000
namespace Go.Proofs.Ytkonoggmdcdeeaa
open Go.V
/-- All claims of a set, of the first ones, are right in a truth. -/
def okR (x : Ir) (set : Nat) (t : List Int) : Nat → Bool
  | 0 => true
  | n + 1 => okR x set t n && (!set.testBit n || rightT x t n)
/-- In no truth all are. -/
def clsB (x : Ir) (L : List (List Int)) (set : Nat) : Bool := L.all fun t => !okR x set t x.cl.length
/-- The smallest set, as the document looks for it: from all, each that is smaller. -/
def bsN (f : Nat → Bool) (b : Nat) : Nat → Nat
  | 0 => b
  | j + 1 => if (decide (pop j < pop (bsN f b j)) && f j) = true then j else bsN f b j
def rset (f : Nat → Bool) (m : Nat) : Option Nat := if f (2 ^ m - 1) = true then some (bsN f (2 ^ m - 1) (2 ^ m)) else none
end Go.Proofs.Ytkonoggmdcdeeaa
end
section
set_option linter.unusedVariables false
set_option linter.unusedSimpArgs false
set_option maxHeartbeats 4000000
set_option maxRecDepth 100000
namespace Go.Proofs.Ytkonoggmdcdeeaa
open Go.V
/-- There is no truth with the strakes of a set alone. -/
def shD (x : Ir) (set : Nat) : Bool := decide ((truS x set).length = 0)
end Go.Proofs.Ytkonoggmdcdeeaa
end
section
set_option linter.unusedVariables false
set_option linter.unusedSimpArgs false
namespace Go.Proofs.Ytkonoggmdcdeeaa
open Go.V
/-- The least set that suits. -/
structure LeastSet (f : Nat → Bool) (m r : Nat) : Prop where
  lt : r < 2 ^ m
  is : f r = true
  le : ∀ i, i < 2 ^ m → f i = true → pop r < pop i ∨ pop r = pop i ∧ r ≤ i
theorem LeastSet.uniq {f : Nat → Bool} {m r r' : Nat} (h : LeastSet f m r) (h' : LeastSet f m r') : r = r' := by
  have h1 := h.le r' h'.lt h'.is
  have h2 := h'.le r h.lt h.is
  omega
theorem pop_all : ∀ m, m < 9 → ∀ i, i < 256 → i < 2 ^ m → pop i ≤ m ∧ (pop i = m → i = 2 ^ m - 1) := by decide +kernel
/-- No claim of a set is false from this strake on. -/
def noF (x : Ir) (C s : Nat) (t : List Int) : Bool := (List.range x.cl.length).all fun k => !flB x C k s t
end Go.Proofs.Ytkonoggmdcdeeaa
end
section
set_option linter.unusedVariables false
set_option linter.unusedSimpArgs false
set_option maxHeartbeats 4000000
set_option maxRecDepth 100000
namespace Go.Proofs.Ytkonoggmdcdeeaa
open Go.V
/-- Irons of which a strake is known to be an owner's are not too large. -/
def fxB (x : Ir) (s : Nat) : Bool := decide (x.F + 1 ≤ 4) && decide ((x.st.getD s []).length + 1 ≤ 6)
def rowF (x : Ir) (o : Nat) : Nat → List AV := fun j => [intsAV (owW x o j)]
end Go.Proofs.Ytkonoggmdcdeeaa
end
section
set_option linter.unusedVariables false
set_option linter.unusedSimpArgs false
namespace Go.Proofs.Ytkonoggmdcdeeaa
open Go.V
/-- How many truths there are with one of the first owners. -/
def sumO (x : Ir) (s : Nat) : Nat → Nat
  | 0 => 0
  | o + 1 => sumO x s o + ((truA x).filter fun t => decide (t.getD s 0 = (o : Int))).length
def wantW (own o : Nat) (nt : Bool) : Int :=
  if nt = true then 2 - (if own.testBit o = false then 0 else if own = 2 ^ o then 2 else 1) else if own.testBit o = false then 0 else if own = 2 ^ o then 2 else 1
end Go.Proofs.Ytkonoggmdcdeeaa
end
section
set_option linter.unusedVariables false
set_option linter.unusedSimpArgs false
set_option maxHeartbeats 4000000
set_option maxRecDepth 100000
namespace Go.Proofs.Ytkonoggmdcdeeaa
open Go.V
theorem fine_tri (x : Ir) (H : Hp) (hO : x.ow.length < 2 ^ 63) (hS : x.st.length < 2 ^ 63) : PTri Try.prog (fnA 33) [x.av] H (boo (!farB x && decide (Ok x))) := by
  refine tri_v0 (fun _ => false) Try.func33 (by kernel_rfl) rfl (by simp only [List.length_append, List.length_cons, List.length_nil, Try.ntmps33]; decide) ?_
  simp only [vsAll, loadA, loadRow, partA, partOk, boxA, okAll, stAll, opsA, opA, dstOk, nilSliceOp, argFr, Nat.reduceAdd, Nat.reduceLT, Nat.reduceEqDiff, ↓reduceIte, eq_self, wtAll, Try.ntmps33]
  refine callK_pure (far_tri x _ hO hS) ?_
  simp only [vsAll, unA, loadA, loadRow, partA, partOk, opA, guardV, dstOk, Nat.reduceLT, Nat.reduceEqDiff, ↓reduceIte, implies_true, eq_self, wtAll]
  refine gcall _ (fun g => ⟨by simp only [vsAll, opA], by simp only [vsAll, okAll, opsA, opA, ↓reduceIte, eq_self, g], rirons_tri x _ (far_near (by simpa using g))⟩) ?_
  simp only [vsAll, pickA, opA, dstOk, nilSliceOp, resA, retA.eq_1, Nat.reduceLT, Nat.reduceEqDiff, ↓reduceIte, implies_true, eq_self, Try.results33]
theorem u8_mod {w : Int} (hw : 0 ≤ w ∧ w ≤ 255) (n : Nat) : w.tmod (n : Int) = ((w.toNat % n : Nat) : Int) := by
  obtain ⟨m, rfl⟩ : ∃ m : Nat, w = (m : Int) := ⟨w.toNat, by omega⟩
  rw [Int.toNat_natCast, Int.ofNat_tmod]
end Go.Proofs.Ytkonoggmdcdeeaa
end
section
set_option linter.unusedVariables false
set_option linter.unusedSimpArgs false
set_option maxHeartbeats 4000000
set_option maxRecDepth 100000
namespace Go.Proofs.Ytkonoggmdcdeeaa
open Go.V
/-- The claims of a set, of the first ones. -/
def partL (x : Ir) (set : Nat) : Nat → List Cl
  | 0 => []
  | i + 1 => if set.testBit i = true then partL x set i ++ [x.cl.getD i cl0] else partL x set i
def partI (x : Ir) (set : Nat) : Ir := { x with cl := partL x set x.cl.length }
theorem app_cl (l : List Cl) (c : Cl) (g : Nat → List AV) (hg : g 0 = c.cs) : appF l.length 1 (clF l) g = clF (l ++ [c]) := app_lF Cl.cs cl0 l c g hg
/-- Not all claims of a set can be right: asked of irons with these alone. -/
def cfB (x : Ir) (set : Nat) : Bool := decide (falseE (partI x set) = 0) && decide (0 < (falseP (partI x set)).1)
end Go.Proofs.Ytkonoggmdcdeeaa
end
section
set_option linter.unusedVariables false
set_option linter.unusedSimpArgs false
set_option maxHeartbeats 4000000
set_option maxRecDepth 100000
namespace Go.Proofs.Ytkonoggmdcdeeaa
open Go.V
/-- Without the claims of a set the others can be right. -/
def cnB (x : Ir) (e set : Nat) : Bool := decide (setE (errE (partI x (e ^^^ (e &&& set))) true true) (clashR (partI x (e ^^^ (e &&& set)))) = 4)
end Go.Proofs.Ytkonoggmdcdeeaa
end
section
set_option linter.unusedVariables false
set_option linter.unusedSimpArgs false
namespace Go.Proofs.Ytkonoggmdcdeeaa
open Go.V
/-- A set is a part of another. -/
def SubB (w s : Nat) : Prop := ∀ j, w.testBit j = true → s.testBit j = true
theorem SubB.half {w s : Nat} (h : SubB w s) : SubB (w / 2) (s / 2) := fun j hj => by
  rw [Nat.testBit_div_two] at hj ⊢
  exact h _ hj
theorem SubB.odd {w s : Nat} (h : SubB w s) : w % 2 ≤ s % 2 := by
  have := h 0
  rw [Nat.testBit_zero, Nat.testBit_zero, decide_eq_true_eq, decide_eq_true_eq] at this
  omega
theorem SubB.popN : ∀ (f : Nat) {w s : Nat}, SubB w s → popN f w ≤ popN f s
  | 0, _, _, _ => Nat.le_refl _
  | f + 1, w, s, h => Nat.add_le_add h.odd (SubB.popN f h.half)
theorem SubB.pop {w s : Nat} (h : SubB w s) : pop w ≤ pop s := SubB.popN 64 h
theorem SubB.le {w s : Nat} (h : SubB w s) : w ≤ s := by
  have e : w &&& s = w := by
    apply Nat.eq_of_testBit_eq
    intro j
    rw [Nat.testBit_and]
    cases hb : w.testBit j with
    | false => rfl
    | true => rw [h j hb]; rfl
  rw [← e]
  exact Nat.and_le_right
/-- The truth that False tells of. -/
structure FSpec (x : Ir) (t0 : List Int) : Prop where
  mem : t0 ∈ truA x
  val : falseP x = (popW x t0, wrongT x t0)
  le : ∀ t ∈ truA x, popW x t0 < popW x t ∨ popW x t0 = popW x t ∧ wrongT x t0 ≤ wrongT x t
theorem false_spec {x : Ir} (k : Ok x) (h : 0 < (truA x).length) : ∃ t0, FSpec x t0 := by
  have e : falseE x = 0 := errE_told k h
  obtain ⟨m, hm⟩ := foldJ_some (l := (truA x).map fun t => (popW x t, wrongT x t)) (by intro q; rw [List.map_eq_nil_iff] at q; rw [q] at h; simp at h)
  have ev : falseP x = m := by rw [falseP, if_pos e, tlW_truth k, hm]; rfl
  obtain ⟨h1, h2⟩ := foldJ_min _ m hm
  obtain ⟨t0, ht0, rfl⟩ := List.mem_map.1 h1
  refine ⟨t0, ht0, ev, fun t ht => ?_⟩
  have := h2 _ (List.mem_map.2 ⟨t, ht, rfl⟩)
  rw [← Bool.not_eq_true, lessB_iff] at this
  simp only [] at this
  omega
theorem wrongT_lt8 {x : Ir} (k : Ok x) (t : List Int) : wrongT x t < 2 ^ x.cl.length ∧ 2 ^ x.cl.length ≤ 2 ^ 8 := ⟨wrongN_lt x t _, Nat.pow_le_pow_right (by decide) k.nC⟩
end Go.Proofs.Ytkonoggmdcdeeaa
end
section
set_option linter.unusedVariables false
set_option linter.unusedSimpArgs false
namespace Go.Proofs.Ytkonoggmdcdeeaa
open Go.V
def stR (x : Ir) (s : Nat) (m : Mk) (j : Nat) : List Mk := if j = s then x.st.getD s [] ++ [m] else x.st.getD j []
def readI (x : Ir) (s : Nat) (m : Mk) : Ir := { x with st := (List.range x.st.length).map (stR x s m) }
def saidI (x : Ir) (c : Cl) : Ir := { x with cl := x.cl ++ [c] }
def moR (x : Ir) (o j : Nat) : Int := if j = o then min 6 (x.mo.getD o 0 + 1) else x.mo.getD j 0
def moreI (x : Ir) (o : Nat) : Ir := { x with mo := (List.range x.mo.length).map (moR x o) }

theorem flat_sub {α β : Type} {f g : α → List β} : ∀ {l : List α}, (∀ a ∈ l, (f a).Sublist (g a)) → (l.flatMap f).Sublist (l.flatMap g)
  | [], _ => by simp
  | a :: l, h => by
    simp only [List.flatMap_cons]
    exact List.Sublist.append (h a (by simp)) (flat_sub fun b hb => h b (by simp [hb]))
theorem tru_sub {x y : Ir} {S : Nat} (hl : y.ow.length = x.ow.length) {L : Nat} (hc : ∀ b o, o < x.ow.length → b.length < L → canO y b o = true → canO x b o = true) :
    ∀ n b, b.length + n ≤ L → (tru y S n b).Sublist (tru x S n b) := by
  intro n
  induction n with
  | zero => intro b _; exact List.Sublist.refl _
  | succ n ih =>
    intro b hb
    cases hS : S.testBit b.length with
    | true =>
      simp only [tru, hS, if_true, hl]
      refine flat_sub fun o ho => ?_
      rw [List.mem_range] at ho
      by_cases h : canO y b o = true
      · rw [if_pos h, if_pos (hc b o ho (by omega) h)]
        exact ih _ (by simp; omega)
      · rw [if_neg h]
        exact List.nil_sublist _
    | false =>
      rw [tru_no hS, tru_no hS]
      exact ih _ (by simp; omega)

/-- The same irons, but for more marks. -/
structure LessI (x y : Ir) : Prop where
  ow : y.ow = x.ow
  mo : y.mo = x.mo
  cl : y.cl = x.cl
  len : y.st.length = x.st.length
  fit : ∀ o s, s < x.st.length → fitB y o s = true → fitB x o s = true
theorem LessI.refl (x : Ir) : LessI x x := ⟨rfl, rfl, rfl, rfl, fun _ _ _ h => h⟩
theorem readI_less (x : Ir) (s : Nat) (m : Mk) : LessI x (readI x s m) := by
  refine ⟨rfl, rfl, rfl, by simp [readI], fun o j hj h => ?_⟩
  have e : (readI x s m).st.getD j [] = stR x s m j := getD_mapR _ _ _ _ hj
  unfold fitB at h ⊢
  rw [e] at h
  unfold stR at h
  by_cases q : j = s
  · rw [if_pos q, List.all_append, Bool.and_eq_true] at h
    rw [q]
    exact h.1
  · rw [if_neg q] at h
    exact h
theorem LessI.tru {x y : Ir} (h : LessI x y) : (truA y).Sublist (truA x) := by
  have := tru_sub (x := x) (y := y) (S := 2 ^ x.st.length - 1) (by rw [h.ow]) (L := x.st.length) (fun b o ho hb hc => by
    simp only [canO, Bool.and_eq_true] at hc ⊢
    rw [h.mo] at hc
    exact ⟨h.fit _ _ hb hc.1, hc.2⟩) x.st.length [] (by simp)
  unfold truA truS
  rw [h.len]
  exact this
theorem LessI.wrong {x y : Ir} (h : LessI x y) (t : List Int) : wrongT y t = wrongT x t := by
  have : ∀ n, wrongN y t n = wrongN x t n := by
    intro n
    induction n with
    | zero => rfl
    | succ n ih =>
      have e : rightT y t n = rightT x t n := by unfold rightT; rw [h.cl]
      simp only [wrongN, ih, e]
  unfold wrongT
  rw [this, h.cl]
/-- What False says of irons with more marks. -/
theorem LessI.few {x y : Ir} (h : LessI x y) (kx : Ok x) (ky : Ok y) (e : falseE y = 0) : falseE x = 0 ∧ (falseP x).1 ≤ (falseP y).1 := by
  have hp : 0 < (truA y).length := by
    apply Nat.pos_of_ne_zero
    intro hz
    have : falseE y = 10 := errE_clash ky hz
    omega
  have hpx : 0 < (truA x).length := Nat.lt_of_lt_of_le hp h.tru.length_le
  obtain ⟨t1, g⟩ := false_spec ky hp
  obtain ⟨t0, f⟩ := false_spec kx hpx
  refine ⟨errE_told kx hpx, ?_⟩
  have := f.le t1 (h.tru.subset g.mem)
  rw [f.val, g.val]
  have e1 : popW y t1 = popW x t1 := by unfold popW; rw [h.wrong]
  simp only [e1]
  omega
theorem LessI.can {x y : Ir} (h : LessI x y) (kx : Ok x) (ky : Ok y) {s : Nat} (hs : s < x.st.length) (e : canE y s = 0) : canE x s = 0 ∧ canV y s ^^^ (canV y s &&& canV x s) = 0 := by
  have hsy : s < y.st.length := by rw [h.len]; exact hs
  have hvx : strB x (s : Int) = true := (strB_iff x s).2 ⟨by omega, by omega⟩
  have hvy : strB y (s : Int) = true := (strB_iff y s).2 ⟨by omega, by omega⟩
  have hp : 0 < (truA y).length := by
    apply Nat.pos_of_ne_zero
    intro hz
    have : canE y s = 10 := by unfold canE; rw [hvy]; exact errE_clash ky hz
    omega
  have hpx : 0 < (truA x).length := Nat.lt_of_lt_of_le hp h.tru.length_le
  have ex : canE x s = 0 := by unfold canE; rw [hvx]; exact errE_told kx hpx
  refine ⟨ex, ?_⟩
  rw [canV, if_pos e, canV, if_pos ex, Int.toNat_natCast]
  apply Nat.eq_of_testBit_eq
  intro o
  rw [Nat.testBit_xor, Nat.testBit_and, Nat.zero_testBit]
  cases hb : (who (truA y) s).testBit o with
  | false => rfl
  | true =>
    obtain ⟨t, ht, h2⟩ := (who_bit (truA_own ky hsy) o).1 hb
    rw [(who_bit (truA_own kx hs) o).2 ⟨t, h.tru.subset ht, h2⟩]
    rfl

theorem truA_said (x : Ir) (c : Cl) : truA (saidI x c) = truA x := by
  have : ∀ n b S, tru (saidI x c) S n b = tru x S n b := by
    intro n
    induction n with
    | zero => intro b S; rfl
    | succ n ih =>
      intro b S
      simp only [tru, ih]
      rfl
  exact this _ _ _
theorem wrong_said (x : Ir) (c : Cl) (t : List Int) : wrongT (saidI x c) t = wrongT x t ∨ wrongT (saidI x c) t = wrongT x t + 2 ^ x.cl.length := by
  have h1 : ∀ n, n ≤ x.cl.length → wrongN (saidI x c) t n = wrongN x t n := by
    intro n
    induction n with
    | zero => intro _; rfl
    | succ n ih =>
      intro hn
      have e : rightT (saidI x c) t n = rightT x t n := by
        unfold rightT
        rw [show (saidI x c).cl.getD n cl0 = x.cl.getD n cl0 by
          show (x.cl ++ [c]).getD n cl0 = _
          simp only [List.getD_eq_getElem?_getD]
          rw [List.getElem?_append_left (by omega)]]
      simp only [wrongN, ih (by omega), e]
  have hl : (saidI x c).cl.length = x.cl.length + 1 := by simp [saidI]
  unfold wrongT
  rw [hl]
  simp only [wrongN, h1 _ (Nat.le_refl _)]
  split
  · exact .inl rfl
  · exact .inr rfl
theorem pop_said {x : Ir} {c : Cl} (k : Ok (saidI x c)) (t : List Int) : popW x t ≤ popW (saidI x c) t ∧ popW (saidI x c) t ≤ popW x t + 1 := by
  have hl : (saidI x c).cl.length = x.cl.length + 1 := by simp [saidI]
  have nC := k.nC
  rw [hl] at nC
  have hw : wrongT x t < 2 ^ x.cl.length := wrongN_lt x t x.cl.length
  have hp : 2 ^ x.cl.length ≤ 2 ^ 7 := Nat.pow_le_pow_right (by decide) (by omega)
  unfold popW
  rcases wrong_said x c t with e | e
  · rw [e]; exact ⟨Nat.le_refl _, Nat.le_succ _⟩
  · rw [e, pop_add x.cl.length (by omega) _ (by omega) hw]; exact ⟨Nat.le_succ _, Nat.le_refl _⟩
theorem said_few {x : Ir} {c : Cl} (kx : Ok x) (ky : Ok (saidI x c)) : falseE (saidI x c) = falseE x ∧ (falseP x).1 ≤ (falseP (saidI x c)).1 ∧ (falseP (saidI x c)).1 ≤ (falseP x).1 + 1 := by
  by_cases hz : (truA x).length = 0
  · have e1 : falseE x = 10 := errE_clash kx hz
    have e2 : falseE (saidI x c) = 10 := errE_clash ky (by rw [truA_said]; exact hz)
    have p1 : falseP x = (0, 0) := by rw [falseP, e1]; rfl
    have p2 : falseP (saidI x c) = (0, 0) := by rw [falseP, e2]; rfl
    rw [e1, e2, p1, p2]
    exact ⟨rfl, Nat.le_refl _, Nat.zero_le _⟩
  · have hp : 0 < (truA (saidI x c)).length := by rw [truA_said]; omega
    have e1 : falseE x = 0 := errE_told kx (by omega)
    have e2 : falseE (saidI x c) = 0 := errE_told ky hp
    obtain ⟨t1, g⟩ := false_spec ky hp
    obtain ⟨t0, f⟩ := false_spec kx (by omega)
    have gm := g.mem
    rw [truA_said] at gm
    have h1 := f.le t1 gm
    have h2 := g.le t0 (by rw [truA_said]; exact f.mem)
    have q1 := pop_said ky t1
    have q2 := pop_said ky t0
    rw [e1, e2, f.val, g.val]
    refine ⟨rfl, ?_, ?_⟩
    · show popW x t0 ≤ popW (saidI x c) t1; omega
    · show popW (saidI x c) t1 ≤ popW x t0 + 1; omega

theorem moreI_ok {x : Ir} (k : Ok x) {o : Nat} (ho : o < x.ow.length) : Ok (moreI x o) := by
  have nM := k.nM
  refine ⟨k.F, k.nO, by simp [moreI, nM], k.nS, k.nC, k.ow, fun i hi => ?_, k.ov, k.st, k.sf, k.sl, k.cs, k.co⟩
  have hi' : i < x.ow.length := hi
  have e : (moreI x o).mo.getD i 0 = moR x o i := getD_mapR _ _ _ _ (by omega)
  have h1 := k.mo i hi
  have h2 := k.mo o ho
  rw [e, moR]
  split <;> omega
theorem more_count {x : Ir} (k : Ok x) {o : Nat} (ho : o < x.ow.length) : (truA x).length ≤ (truA (moreI x o)).length := by
  have nM := k.nM
  have := tru_sub (x := moreI x o) (y := x) (S := 2 ^ x.st.length - 1) rfl (L := x.st.length) (fun b i hi hb hc => by
    have hi' : i < x.ow.length := hi
    have e : (moreI x o).mo.getD i 0 = moR x o i := getD_mapR _ _ _ _ (by omega)
    have h2 := k.mo o ho
    simp only [canO, Bool.and_eq_true, decide_eq_true_eq] at hc ⊢
    refine ⟨hc.1, ?_⟩
    rw [e, moR]
    split
    · rename_i q; subst q; omega
    · exact hc.2) x.st.length [] (by simp)
  exact this.length_le
end Go.Proofs.Ytkonoggmdcdeeaa
end
section
set_option linter.unusedVariables false
namespace Go.V
/-- l is an order of all operations that are not in 'done', each behind what B puts ahead of it. -/
structure TopoB (ops : Array Oper) (B : Nat → Nat → Bool) (done : Nat → Prop) (l : List Nat) : Prop where
  lt : ∀ i ∈ l, i < ops.size
  nodup : l.Nodup
  apart : ∀ i ∈ l, ¬ done i
  all : ∀ i, i < ops.size → done i ∨ i ∈ l
  edges : ∀ l1 i l2, l = l1 ++ i :: l2 → ∀ k, B i k = true → done k ∨ k ∈ l1
theorem TopoB.tail {ops : Array Oper} {B : Nat → Nat → Bool} {done : Nat → Prop} {i : Nat} {l : List Nat} (h : TopoB ops B done (i :: l)) : TopoB ops B (fun j => done j ∨ j = i) l where
  lt := fun j hj => h.lt j (by simp [hj])
  nodup := (List.nodup_cons.1 h.nodup).2
  apart := fun j hj hd => by
    rcases hd with hd | rfl
    · exact h.apart j (by simp [hj]) hd
    · exact (List.nodup_cons.1 h.nodup).1 hj
  all := fun j hj => by
    rcases h.all j hj with hd | hm
    · exact .inl (.inl hd)
    · rcases List.mem_cons.1 hm with rfl | hm
      · exact .inl (.inr rfl)
      · exact .inr hm
  edges := fun l1 j l2 hl k hb => by
    rcases h.edges (i :: l1) j l2 (by rw [hl]; rfl) k hb with hd | hm
    · exact .inl (.inl hd)
    · rcases List.mem_cons.1 hm with hm | hm
      · exact .inl (.inr hm)
      · exact .inr hm
theorem TopoB.head {ops : Array Oper} {B : Nat → Nat → Bool} {done : Nat → Prop} {i k : Nat} {l : List Nat} (h : TopoB ops B done (i :: l)) (hb : B i k = true) : done k := by
  rcases h.edges [] i l rfl k hb with hd | hm
  · exact hd
  · simp at hm

structure Plan3 (ops : Array Oper) (B : Nat → Nat → Bool) (sg : Nat → Nat) (stages : List Stg) (last : List Nat) : Prop where
  ssa : ∀ i k, i < ops.size → k < ops.size → ∀ d, (opAt ops.toList k).dst = some d → (d ∈ readsOf ops.toList (opAt ops.toList i) → B i k = true ∨ (B k i = true ∧ sg k % 2 = 1)) ∧ (k ≠ i → (opAt ops.toList i).dst ≠ some d)
  st : ∀ j st kp e, stages[j]? = some (st, kp, e) → st = (List.range ops.size).filter (fun i => sg i == 2 * j) ∧ e < ops.size ∧ (∀ i, i < ops.size → (sg i = 2 * j + 1 ↔ i = e)) ∧
    (∀ i, i < ops.size → 2 * j + 2 ≤ sg i → B i e = true) ∧
    (∀ i, i < ops.size → sg i % 2 = 0 → sg i ≤ 2 * j → B e i = true ∨ heapFree (opAt ops.toList i).op = true ∨ i ∈ kp)
  last : last = (List.range ops.size).filter (fun i => sg i == 2 * stages.length)
  le : ∀ i, i < ops.size → sg i ≤ 2 * stages.length
  ord : ∀ i k, i < ops.size → k < ops.size → B i k = true → sg k ≤ sg i
  lt : ∀ i k, i < ops.size → k < ops.size → B i k = true → sg i = sg k → sg i % 2 = 0 → k < i

/-- What the quiet operations of a stage give. -/
theorem stage_facts3 {r : Option Nat} {P : Program} {n : Nat} {ops : Array Oper} {B : Nat → Nat → Bool} {sg : Nat → Nat} {stages : List Stg} {last : List Nat} (pl : Plan3 ops B sg stages last) {H : Hp} {c : Nat} {s : Fr} {K : Fr → Prop}
    (hev : c % 2 = 0) (h : vcQ P n ops.toList H (pickO ops.toList ((List.range ops.size).filter fun i => sg i == c)) s K) :
    ∃ sF, K sF ∧ (∀ t, (∀ i, i < ops.size → sg i = c → (opAt ops.toList i).dst ≠ some t) → sF t = s t) ∧ ∀ i, i < ops.size → sg i = c → QF r P n ops.toList H sF (opAt ops.toList i) := by
  have hpw : ((List.range ops.size).filter fun i => sg i == c).Pairwise (· < ·) := List.Pairwise.filter _ List.pairwise_lt_range
  have hmem : ∀ k, k ∈ ((List.range ops.size).filter fun i => sg i == c) ↔ k < ops.size ∧ sg k = c := fun k => by simp
  obtain ⟨sF, k1, k2, k3⟩ := vcQ_facts2 (r := r) (readsOf ops.toList) (fun _ => rfl) _ s K (by
    intro i o ho k o' hik ho' d hd
    obtain ⟨x, hx, rfl⟩ := pickO_get ho
    obtain ⟨y, hy, rfl⟩ := pickO_get ho'
    obtain ⟨hx1, hx2⟩ := (hmem x).1 (List.mem_of_getElem? hx)
    obtain ⟨hy1, hy2⟩ := (hmem y).1 (List.mem_of_getElem? hy)
    have hle : x ≤ y ∧ (i < k → x < y) := by
      obtain ⟨hil, hxe⟩ := List.getElem?_eq_some_iff.1 hx
      obtain ⟨hkl, hye⟩ := List.getElem?_eq_some_iff.1 hy
      have hlt : i < k → x < y := fun hlt => by
        have := List.pairwise_iff_getElem.1 hpw i k hil hkl hlt
        rw [hxe, hye] at this; exact this
      refine ⟨?_, hlt⟩
      rcases Nat.lt_or_ge i k with hl | hl
      · have := hlt hl; omega
      · have e : i = k := by omega
        subst e
        rw [hx] at hy; cases hy; exact Nat.le_refl _
    obtain ⟨g1, g2⟩ := pl.ssa x y hx1 hy1 d hd
    refine ⟨fun hm => ?_, fun hlt => g2 (by have := hle.2 hlt; omega)⟩
    rcases g1 hm with g1 | ⟨_, g1⟩
    · have := pl.lt x y hx1 hy1 g1 (by omega) (by omega)
      omega
    · omega) h
  refine ⟨sF, k1, fun t ht => k2 t fun o ho => ?_, fun i hi hs => k3 _ ?_⟩
  · obtain ⟨k, hk, rfl⟩ := pickO_mem ho
    obtain ⟨a, b⟩ := (hmem k).1 hk
    exact ht k a b
  · exact List.mem_map.2 ⟨i, (hmem i).2 ⟨hi, hs⟩, rfl⟩

theorem draw_run3 {r : Option Nat} {P : Program} {mm : Option Tmp → Bool} {n : Nat} {ops : Array Oper} {B : Nat → Nat → Bool} {Q : Post} {sg : Nat → Nat} {stages : List Stg} {last : List Nat} (pl : Plan3 ops B sg stages last)
    (hr : r = none ∨ ops.toList.all (fun o => quietOk o.op) = true) :
    ∀ (l : List Nat) (done : Nat → Prop) (j : Nat) (s : Fr) (ds : List AD) (H : Hp) (S : St) (a : Act), TopoB ops B done l →
      (∀ i, i < ops.size → done i → sg i ≤ 2 * j) → (∀ i, i < ops.size → sg i % 2 = 1 → sg i < 2 * j → done i) →
      (∀ i, i < ops.size → sg i % 2 = 0 → sg i ≤ 2 * j → ¬ done i → QF r P n ops.toList H s (opAt ops.toList i)) →
      vcD' P mm n ops.toList (preOf stages j) (stages.drop j) last s ds H Q →
      a.tmps.size = n → HRel S H → DRel S ds a.defers → PFrame2 S ops sg j done s a → wpOpsIn (FW r) 0 P ops (Lift S n Q) l a S.w := by
  intro l
  induction l with
  | nil =>
    intro done j s ds H S a ht I1 I2 hfact hv hsz hH hD hP
    have hall : ∀ i, i < ops.size → done i := fun i hi => (ht.all i hi).resolve_right (by simp)
    have hj : stages.length ≤ j := by
      rcases Nat.lt_or_ge j stages.length with hlt | hge
      · rcases hx : stages[j] with ⟨st, kp, e⟩
        have hs : stages[j]? = some (st, kp, e) := by rw [List.getElem?_eq_getElem hlt, hx]
        obtain ⟨_, g2, g3, _⟩ := pl.st j st kp e hs
        have := I1 e g2 (hall e g2)
        have := (g3 e g2).2 rfl
        omega
      · exact hge
    have hF : FRel S s a := fun t => by
      rcases hP t with ⟨k, hk, _, hnd, _⟩ | h
      · exact absurd (hall k hk) hnd
      · exact h
    rw [List.drop_eq_nil_of_le hj] at hv
    exact ⟨S, .normal, s, ds, H, rfl, Le.refl S, hH, hF, hD, hsz, trivial, hv⟩
  | cons i l ih =>
    intro done j s ds H S a ht I1 I2 hfact hv hsz hH hD hP
    have hi := ht.lt i (by simp)
    have hni : ¬ done i := ht.apart i (by simp)
    have ho := opAt_get hi
    have hread : ∀ t, t ∈ readsOf ops.toList (opAt ops.toList i) → VRel S (s t) (a.tmps.getD t undef) := by
      intro t htr
      rcases hP t with ⟨k, hk, hkq, hnd, hd⟩ | h
      · rcases (pl.ssa i k hi hk t hd).1 htr with g | ⟨_, g⟩
        · exact absurd (ht.head g) hnd
        · omega
      · exact h
    have hops : ∀ x ∈ (opAt ops.toList i).op.operands.toList, VRel S (opA s x) (a.eval x) := by
      intro x hx
      cases x with
      | tmp t => exact hread t (mem_reads_op hx)
      | const v => exact .lit v
      | global g => exact .any _
      | func f => exact .func rfl rfl (fun k hk => absurd hk (by simp)) (fun k hk => absurd hk (by simp))
    by_cases hev : sg i % 2 = 0
    · -- a quiet operation
      have hle : sg i ≤ 2 * j := by
        apply Classical.byContradiction
        intro hgt
        have := pl.le i hi
        have hlt : j < stages.length := by omega
        rcases hx : stages[j] with ⟨st, kp, e⟩
        have hs : stages[j]? = some (st, kp, e) := by rw [List.getElem?_eq_getElem hlt, hx]
        obtain ⟨_, g2, g3, g4, _⟩ := pl.st j st kp e hs
        have hde := ht.head (g4 i hi (by omega))
        have := I1 e g2 hde
        have := (g3 e g2).2 rfl
        omega
      obtain ⟨hd, v, hv', hg⟩ := (hfact i hi hev hle hni).fact
      have ih' : ∀ (S' : St) (cv : Value), Le S S' → HRel S' H → VRel S' v cv → wpOpsIn (FW r) 0 P ops (Lift S n Q) l (a.put (opAt ops.toList i).dst cv) S'.w := by
        intro S' cv hle' hH' hvr
        refine lift_wpOpsIn hle' l _ _ (ih (fun j => done j ∨ j = i) j s ds H S' _ ht.tail ?_ (fun x hx ho hl => .inl (I2 x hx ho hl)) ?_ hv ?_ hH' ?_ ?_)
        · rintro x hx (hd | rfl)
          · exact I1 x hx hd
          · exact hle
        · intro x hx he hl hnd
          exact hfact x hx he hl fun h => hnd (.inl h)
        · have := put_size (a := a) (d := (opAt ops.toList i).dst) (cv := cv) (df := a.defers)
          exact this.trans hsz
        · have := put_defers (a := a) (d := (opAt ops.toList i).dst) (cv := cv) (df := a.defers)
          have e : (a.put (opAt ops.toList i).dst cv).defers = a.defers := this
          rw [e]; exact hD.mono hle'
        · intro t
          by_cases hdt : (opAt ops.toList i).dst = some t
          · right
            rw [hv' t hdt]
            have ht' : t < a.tmps.size := by rw [hsz]; rw [hdt] at hd; exact hd
            rw [hdt]
            have := put_getD_same (a := a) (t := t) (cv := cv) (df := a.defers) ht'
            rw [show (a.put (some t) cv).tmps.getD t undef = cv from this]
            exact hvr
          · rcases hP t with ⟨k, hk, hkq, hnd, hd'⟩ | h
            · left
              refine ⟨k, hk, hkq, ?_, hd'⟩
              rintro (hx | rfl)
              · exact hnd hx
              · exact hdt hd'
            · right
              rw [put_getD' hdt]
              exact h.mono hle'
      simp only [wpOpsIn, ho]
      generalize opAt ops.toList i = o at *
      cases hgd : o.guard with
      | none =>
        rw [hgd] at hg
        simp only [Region.wanted, hgd, if_true]
        exact hg S a _ _ hH hops ih'
      | some jw =>
        obtain ⟨jj, w⟩ := jw
        rw [hgd] at hg
        obtain ⟨b, v0, hb, rfl, hex⟩ := hg
        have hwant : Region.wanted o (yielded ops a.tmps) = b := wanted_rel hgd (fun q d hq hd' => hread d (mem_reads_guard hgd hq hd')) hb
        rw [hwant]
        cases hwb : b with
        | false =>
          simp only [Bool.false_eq_true, if_false]
          exact ⟨fun _ _ => trivial, ih' S undef (Le.refl S) hH (.under (fun x => by rw [hwb] at x; cases x) fun _ => rfl)⟩
        | true =>
          simp only [if_true]
          exact hex hwb S a _ _ hH hops fun S' cv hle hH' hvr => ih' S' cv hle hH' (.under (fun _ => hvr) fun x => by rw [hwb] at x; cases x)
    · -- an effect
      have hlow : 2 * j < sg i := by
        apply Classical.byContradiction
        intro h
        exact hni (I2 i hi (by omega) (by omega))
      have hlt : j < stages.length := by have := pl.le i hi; omega
      rcases hx : stages[j] with ⟨st, kp, e⟩
      have hs : stages[j]? = some (st, kp, e) := by rw [List.getElem?_eq_getElem hlt, hx]
      obtain ⟨_, g2, g3, g4, g5⟩ := pl.st j st kp e hs
      have hsi : sg i = 2 * j + 1 := by
        apply Classical.byContradiction
        intro h
        have hde := ht.head (g4 i hi (by omega))
        have := I1 e g2 hde
        have := (g3 e g2).2 rfl
        omega
      have hei : i = e := (g3 i hi).1 hsi
      subst hei
      have hdrop : stages.drop j = (st, kp, i) :: stages.drop (j + 1) := by
        rw [List.drop_eq_getElem_cons hlt, hx]
      rw [hdrop] at hv
      obtain ⟨hd, hgn, heff⟩ := hv
      have hq : r = none ∨ ∀ c, (opAt ops.toList i).op ≠ .defer c := hr.imp (fun x => x) fun hall c e => by
        have hm : opAt ops.toList i ∈ ops.toList := List.mem_of_getElem? (i := i) (by simpa using ho)
        have := List.all_eq_true.1 hall _ hm
        rw [e] at this; cases this
      have hnext : hdS (stages.drop (j + 1)) last = (List.range ops.size).filter fun x => sg x == 2 * (j + 1) := by
        rcases Nat.lt_or_ge (j + 1) stages.length with h1 | h1
        · rcases hx' : stages[j + 1] with ⟨st', kp', e'⟩
          have hs' : stages[j + 1]? = some (st', kp', e') := by rw [List.getElem?_eq_getElem h1, hx']
          rw [List.drop_eq_getElem_cons h1, hx']
          exact (pl.st (j + 1) st' kp' e' hs').1
        · rw [List.drop_eq_nil_of_le h1]
          have : j + 1 = stages.length := by omega
          rw [this]; exact pl.last
      simp only [wpOpsIn, ho]
      have hw : Region.wanted (opAt ops.toList i) (yielded ops a.tmps) = true := by simp [Region.wanted, hgn]
      rw [hw]
      simp only [if_true]
      refine effA_sound heff hq hH hops hD _ _ ?_ ?_
      · rintro S' cv v ds' df H' hle hH' hv' hD' ⟨hkp, hk⟩
        rw [vcD_eq, hnext, ← preOf_succ hs] at hk
        obtain ⟨sF, k1, k2, k3⟩ := stage_facts3 (r := r) pl (by omega) hk
        have hkf := vcRs_fact (r := r) _ hkp
        refine lift_wpOpsIn hle l _ _ (ih (fun x => done x ∨ x = i) (j + 1) sF ds' H' S' _ ht.tail ?_ ?_ ?_ k1 (by rw [put_size]; exact hsz) hH' (by rw [put_defers]; exact hD') ?_)
        · rintro x hx (hd | rfl)
          · have := I1 x hx hd; omega
          · omega
        · intro x hx ho hl
          by_cases h : sg x < 2 * j
          · exact .inl (I2 x hx ho h)
          · exact .inr ((g3 x hx).1 (by omega))
        · intro x hx he hl hnd
          by_cases h : sg x = 2 * (j + 1)
          · exact k3 x hx h
          · have hxl : sg x ≤ 2 * j := by omega
            have hnx : ¬ done x := fun h => hnd (.inl h)
            have base : QF r P n ops.toList H' s (opAt ops.toList x) := by
              rcases g5 x hx he hxl with hb | hf | hm
              · exact absurd (ht.head hb) hnx
              · exact (hfact x hx he hxl hnx).move hf H'
              · exact hkf _ (List.mem_map.2 ⟨x, hm, rfl⟩)
            have hpi : ∀ t, (opAt ops.toList i).dst ≠ some t → put s (opAt ops.toList i).dst v t = s t := fun t h => by
              cases hdd : (opAt ops.toList i).dst with
              | none => rfl
              | some d => simp only [put]; rw [if_neg]; intro e; exact h (by rw [hdd, e])
            refine base.congr (fun t htr => ?_) (fun d hd => ?_)
            · rw [k2 t fun y hy hys hyd => ?_, hpi t fun hid => ?_]
              · rcases (pl.ssa x i hx hi t hid).1 htr with g | ⟨g, _⟩
                · have := pl.ord x i hx hi g; omega
                · exact hnx (ht.head g)
              · rcases (pl.ssa x y hx hy t hyd).1 htr with g | ⟨_, g⟩
                · have := pl.ord x y hx hy g; omega
                · omega
            · rw [k2 d fun y hy hys hyd => ?_, hpi d fun hid => ?_]
              · exact (pl.ssa x i hx hi d hid).2 (fun e => by rw [← e] at hxl; omega) hd
              · exact (pl.ssa x y hx hy d hyd).2 (fun e => by rw [e] at hys; omega) hd
        · intro t
          by_cases hex : ∃ k, k < ops.size ∧ (sg k % 2 = 0 ∧ sg k ≤ 2 * (j + 1)) ∧ ¬ (done k ∨ k = i) ∧ (opAt ops.toList k).dst = some t
          · exact .inl hex
          · right
            have hst : ∀ y, y < ops.size → sg y = 2 * (j + 1) → (opAt ops.toList y).dst ≠ some t := fun y hy hys hyd =>
              hex ⟨y, hy, ⟨by omega, by omega⟩, fun h => by
                rcases h with h | h
                · have := I1 y hy h; omega
                · rw [h] at hys; omega, hyd⟩
            rw [k2 t hst]
            by_cases hdt : (opAt ops.toList i).dst = some t
            · rw [hdt]
              have ht' : t < a.tmps.size := by rw [hsz]; rw [hdt] at hd; exact hd
              rw [put_getD_same ht']
              simp only [put, if_true]
              exact hv'
            · rw [put_getD hdt]
              have : put s (opAt ops.toList i).dst v t = s t := by
                cases hdd : (opAt ops.toList i).dst with
                | none => rfl
                | some d => simp only [put]; rw [if_neg]; intro e; exact hdt (by rw [hdd, e])
              rw [this]
              rcases hP t with ⟨k, hk, hkq, hnd, hd'⟩ | h
              · exact absurd ⟨k, hk, ⟨hkq.1, by omega⟩, fun h => h.elim hnd fun e => hdt (by rw [← e]; exact hd'), hd'⟩ hex
              · exact h.mono hle
      · intro S' cv v H' hle hH' hv' hk
        refine ⟨S', .pan v, wipe (pickO ops.toList (preOf stages j ++ st)) s, ds, H', rfl, hle, hH', fun t => ?_, hD.mono hle, hsz, ⟨cv, rfl, hv'⟩, hk⟩
        simp only [wipe]
        split
        · exact .any _
        · rename_i hno
          rcases hP t with ⟨k, hk, hkq, hnd, hd'⟩ | h
          · exfalso
            apply hno
            rw [List.any_eq_true]
            refine ⟨opAt ops.toList k, List.mem_map.2 ⟨k, ?_, rfl⟩, by rw [hd']; simp⟩
            rw [show st = (st, kp, i).1 from rfl, ← preOf_succ hs]
            obtain ⟨q, hq⟩ : ∃ q, sg k = 2 * q := ⟨sg k / 2, by omega⟩
            have hql : q < stages.length := by omega
            rcases hxq : stages[q] with ⟨st', kp', e'⟩
            have hsq : stages[q]? = some (st', kp', e') := by rw [List.getElem?_eq_getElem hql, hxq]
            have hst' := (pl.st q st' kp' e' hsq).1
            simp only [preOf, List.mem_flatMap]
            refine ⟨(st', kp', e'), List.mem_of_getElem? (i := q) (by rw [List.getElem?_take_of_lt (by omega)]; exact hsq), ?_⟩
            show k ∈ st'
            rw [hst', List.mem_filter, List.mem_range]
            exact ⟨hk, by simp [hq]⟩
          · exact h.mono hle


def ordersOf (all : List Oper) : Nat → List Nat → List (List Nat)
  | 0, _ => [[]]
  | n + 1, rem => rem.flatMap fun e => if rem.any (fun k => bitM all e k) = true then [] else (ordersOf all n (rem.filter fun k => k != e)).map (e :: ·)
theorem ordersOf_mem (all : List Oper) : ∀ (n : Nat) (rem m : List Nat), m.length = n → m.Nodup → (∀ x, x ∈ m ↔ x ∈ rem) → (∀ m1 i m2, m = m1 ++ i :: m2 → ∀ k, k ∈ m → bitM all i k = true → k ∈ m1) → m ∈ ordersOf all n rem := by
  intro n
  induction n with
  | zero =>
    intro rem m hl _ _ _
    have : m = [] := List.length_eq_zero_iff.1 hl
    subst this
    simp [ordersOf]
  | succ n ih =>
    intro rem m hl hn hm ho
    cases m with
    | nil => simp at hl
    | cons e m =>
      simp only [ordersOf, List.mem_flatMap]
      refine ⟨e, (hm e).1 (by simp), ?_⟩
      rw [if_neg]
      · refine List.mem_map.2 ⟨m, ih _ m (by simpa using hl) (List.nodup_cons.1 hn).2 (fun x => ?_) (fun m1 i m2 h k hk hb => ?_), rfl⟩
        · rw [List.mem_filter]
          constructor
          · intro hx
            exact ⟨(hm x).1 (by simp [hx]), by simp only [bne_iff_ne]; rintro rfl; exact (List.nodup_cons.1 hn).1 hx⟩
          · rintro ⟨h1, h2⟩
            rcases List.mem_cons.1 ((hm x).2 h1) with h | h
            · simp [h] at h2
            · exact h
        · have := ho (e :: m1) i m2 (by rw [h]; rfl) k (by simp [hk]) hb
          rcases List.mem_cons.1 this with h3 | h3
          · subst h3; exact absurd hk (List.nodup_cons.1 hn).1
          · exact h3
      · intro hany
        rw [List.any_eq_true] at hany
        obtain ⟨k, hk, hb⟩ := hany
        have := ho [] e m rfl k ((hm k).2 hk) hb
        simp at this
/-- What stands ahead of an operation, where the effects come in this order. -/
def bitE (all : List Oper) (E : List Nat) (i k : Nat) : Bool := bitM all i k || E.any fun eb => (i == eb || bitM all i eb) && (E.takeWhile fun x => x != eb).any fun ea => k == ea || bitM all ea k
theorem Topo.before {ops : Array Oper} {l : List Nat} (h : Topo ops (fun _ => False) l) {j i : Nat} (ha : Anc ops j i) : ∀ l1 l2, l = l1 ++ i :: l2 → j ∈ l1 := by
  induction ha with
  | edge ho he hb hj =>
    intro l1 l2 hl
    subst hj
    exact (h.edges l1 _ l2 hl _ ho _ he hb).resolve_left id
  | trans h1 h2 ih1 ih2 =>
    intro l1 l2 hl
    obtain ⟨a, b, rfl⟩ := List.append_of_mem (ih2 l1 l2 hl)
    have := ih1 a (b ++ _ :: l2) (by rw [hl, List.append_assoc]; rfl)
    exact List.mem_append_left _ this
theorem takeW_filter {p : Nat → Bool} {eb : Nat} : ∀ {a b : List Nat}, eb ∉ a → p eb = true → ((a ++ eb :: b).filter p).takeWhile (fun x => x != eb) = a.filter p
  | [], b, _, hp => by simp [hp]
  | x :: a, b, hn, hp => by
    have h1 : x ≠ eb := fun e => hn (by simp [e])
    have ih := takeW_filter (p := p) (eb := eb) (a := a) (b := b) (fun h => hn (by simp [h])) hp
    simp only [List.cons_append, List.filter_cons]
    split
    · rw [List.takeWhile_cons, if_pos (by simp [h1]), ih]
    · exact ih
theorem topoB_of {ops : Array Oper} {l : List Nat} (h : Topo ops (fun _ => False) l) (hb : ∀ i k, bitM ops.toList i k = true → Anc ops k i) (p : Nat → Bool) : TopoB ops (bitE ops.toList (l.filter p)) (fun _ => False) l := by
  refine ⟨h.lt, h.nodup, h.apart, h.all, fun l1 i l2 hl k hB => .inr ?_⟩
  simp only [bitE, Bool.or_eq_true, List.any_eq_true, Bool.and_eq_true, beq_iff_eq] at hB
  rcases hB with hB | ⟨eb, heb, h1, ea, hea, h2⟩
  · exact h.before (hb _ _ hB) l1 l2 hl
  · obtain ⟨hebl, hpe⟩ := List.mem_filter.1 heb
    -- eb stands at i or ahead of it
    have hsplit : ∃ q r, l = q ++ eb :: r ∧ ∀ x, x ∈ q → x ∈ l1 := by
      rcases h1 with h1 | h1
      · subst h1; exact ⟨l1, l2, hl, fun _ hx => hx⟩
      · obtain ⟨q, r, hq⟩ := List.append_of_mem (h.before (hb _ _ h1) l1 l2 hl)
        exact ⟨q, r ++ i :: l2, by rw [hl, hq, List.append_assoc]; rfl, fun x hx => by rw [hq]; exact List.mem_append_left _ hx⟩
    obtain ⟨q, r, hq, hql⟩ := hsplit
    have hne : eb ∉ q := by
      intro hm
      have hnd := h.nodup
      rw [hq] at hnd
      exact (List.nodup_append.1 hnd).2.2 eb hm eb (by simp) rfl
    rw [hq, takeW_filter hne hpe] at hea
    have heq := (List.mem_filter.1 hea).1
    rcases h2 with h2 | h2
    · rw [h2]; exact hql _ heq
    · obtain ⟨a, b, rfl⟩ := List.append_of_mem heq
      have := h.before (hb _ _ h2) a (b ++ eb :: r) (by rw [hq, List.append_assoc]; rfl)
      exact hql _ (List.mem_append_left _ this)

abbrev Pln := List Nat × List Stg × List Nat
def plan3Ok (ops : Array Oper) (E : List Nat) (sg : List Nat) (stages : List Stg) (last : List Nat) : Bool :=
  decide (stages.map (fun x => x.2.2) = E) &&
  ((List.range ops.size).all fun i => (List.range ops.size).all fun k => match (opAt ops.toList k).dst with
    | some d => (!(readsOf ops.toList (opAt ops.toList i)).contains d || bitE ops.toList E i k || (bitE ops.toList E k i && sg.getD k 0 % 2 == 1)) && (decide (k = i) || decide ((opAt ops.toList i).dst ≠ some d))
    | none => true) &&
  ((List.range stages.length).all fun j => match stages[j]? with
    | some (st, kp, e) => decide (st = (List.range ops.size).filter fun i => sg.getD i 0 == 2 * j) && decide (e < ops.size) &&
        ((List.range ops.size).all fun i => decide (sg.getD i 0 = 2 * j + 1) == decide (i = e)) &&
        ((List.range ops.size).all fun i => decide (sg.getD i 0 < 2 * j + 2) || bitE ops.toList E i e) &&
        ((List.range ops.size).all fun i => sg.getD i 0 % 2 == 1 || decide (2 * j < sg.getD i 0) || bitE ops.toList E e i || heapFree (opAt ops.toList i).op || kp.contains i)
    | none => true) &&
  decide (last = (List.range ops.size).filter fun i => sg.getD i 0 == 2 * stages.length) &&
  ((List.range ops.size).all fun i => decide (sg.getD i 0 ≤ 2 * stages.length)) &&
  ((List.range ops.size).all fun i => (List.range ops.size).all fun k => !bitE ops.toList E i k || (decide (sg.getD k 0 ≤ sg.getD i 0) && (decide (sg.getD i 0 ≠ sg.getD k 0) || decide (sg.getD i 0 % 2 ≠ 0) || decide (k < i))))

theorem plan3_of {ops : Array Oper} {E sg : List Nat} {stages : List Stg} {last : List Nat} (hb : ∀ i k, bitM ops.toList i k = true → Anc ops k i) (h : plan3Ok ops E sg stages last = true) :
    stages.map (fun x => x.2.2) = E ∧ Plan3 ops (bitE ops.toList E) (fun i => sg.getD i 0) stages last := by
  simp only [plan3Ok, Bool.and_eq_true, List.all_eq_true, List.mem_range] at h
  obtain ⟨⟨⟨⟨⟨h0, h3⟩, h4⟩, h5⟩, h6⟩, h7⟩ := h
  refine ⟨of_decide_eq_true h0, ?_, ?_, by simpa using h5, fun i hi => by simpa using h6 i hi, fun i k hi hk hbb => ?_, fun i k hi hk hbb hs he => ?_⟩
  · intro i k hi hk d hd
    have := h3 i hi k hk
    rw [hd] at this
    simp only [Bool.and_eq_true, Bool.or_eq_true, Bool.not_eq_true', decide_eq_true_eq, beq_iff_eq] at this
    obtain ⟨g1, g2⟩ := this
    refine ⟨fun hm => ?_, fun hne => ?_⟩
    · rcases g1 with (g1 | g1) | g1
      · rw [List.contains_iff_mem.2 hm] at g1; cases g1
      · exact .inl g1
      · exact .inr ⟨g1.1, by simpa using g1.2⟩
    · rcases g2 with g2 | g2
      · exact absurd g2 hne
      · exact g2
  · intro j st kp e hj
    have hjl : j < stages.length := (List.getElem?_eq_some_iff.1 hj).1
    have := h4 j hjl
    rw [hj] at this
    simp only [Bool.and_eq_true, List.all_eq_true, List.mem_range, Bool.or_eq_true, decide_eq_true_eq, beq_iff_eq] at this
    obtain ⟨⟨⟨⟨g1, g2⟩, g3⟩, g4⟩, g5⟩ := this
    refine ⟨g1, g2, fun i hi => by have := g3 i hi; simpa using this, fun i hi hs => ?_, fun i hi he hs => ?_⟩
    · rcases g4 i hi with hx | hx
      · omega
      · exact hx
    · rcases g5 i hi with (((hx | hx) | hx) | hx) | hx
      · omega
      · omega
      · exact .inl hx
      · exact .inr (.inl hx)
      · exact .inr (.inr (List.contains_iff_mem.1 hx))
  · have := h7 i hi k hk
    simp only [Bool.or_eq_true, Bool.not_eq_true', Bool.and_eq_true, decide_eq_true_eq] at this
    rcases this with hx | hx
    · rw [hbb] at hx; cases hx
    · exact hx.1
  · have := h7 i hi k hk
    simp only [Bool.or_eq_true, Bool.not_eq_true', Bool.and_eq_true, decide_eq_true_eq] at this
    rcases this with hx | ⟨_, (hx | hx) | hx⟩
    · rw [hbb] at hx; cases hx
    · exact absurd hs hx
    · exact absurd he hx
    · exact hx
theorem nodup_le {a b : List Nat} (ha : a.Nodup) (h : ∀ x, x ∈ a → x ∈ b) : a.length ≤ b.length := by
  induction a generalizing b with
  | nil => exact Nat.zero_le _
  | cons x a ih =>
    obtain ⟨h1, h2⟩ := List.nodup_cons.1 ha
    have hx : x ∈ b := h x (by simp)
    have := ih (b := b.erase x) h2 fun y hy => (List.mem_erase_of_ne (fun e => h1 (by rw [← e]; exact hy))).2 (h y (by simp [hy]))
    rw [List.length_erase_of_mem hx] at this
    have := List.length_pos_of_mem hx
    simp only [List.length_cons]
    omega
/-- A region whose order is open: a plan for each order of its effects. -/
def draw3Ok (P : Program) (ops : Array Oper) (effs : List Nat) (plans : List Pln) : Bool :=
  (P.follows .mixedOrders || !Region.departs ops) &&
  ((List.range ops.size).all fun k => match ops[k]? with
    | some o => o.after.toList.all fun e => !Region.binds .any e || decide (e.on < k)
    | none => true) &&
  effs.all (fun e => decide (e < ops.size)) && decide effs.Nodup &&
  (ordersOf ops.toList effs.length effs).all fun E => plans.any fun p => plan3Ok ops E p.1 p.2.1 p.2.2

theorem wps_draw3 {r : Option Nat} {P : Program} {mm : Option Tmp → Bool} {n id : Nat} {ops : Array Oper} {s : Fr} {ds : List AD} {H : Hp} {Q : Post} (effs : List Nat) (plans : List Pln)
    (hr : r = none ∨ ops.toList.all (fun o => quietOk o.op) = true) (hok : draw3Ok P ops effs plans = true) (h : ∀ p ∈ plans, vcD P mm n ops.toList [] p.2.1 p.2.2 s ds H Q) : WPS r P n (.region id ops true) s ds H Q := by
  simp only [draw3Ok, Bool.and_eq_true] at hok
  obtain ⟨⟨⟨⟨h1, h2⟩, h3⟩, h4⟩, h5⟩ := hok
  have hedge : ∀ k o e, ops[k]? = some o → e ∈ o.after → Region.binds .any e = true → e.on < k := by
    intro k o e ho he hb
    have hk : k < ops.size := (Array.getElem?_eq_some_iff.1 ho).1
    have := List.all_eq_true.1 h2 k (List.mem_range.2 hk)
    rw [ho] at this
    simp only [List.all_eq_true, Bool.or_eq_true, Bool.not_eq_true', decide_eq_true_eq] at this
    rcases this e (by simpa using he) with hx | hx
    · rw [hb] at hx; cases hx
    · exact hx
  have hanc : ∀ i k, bitM ops.toList i k = true → Anc ops k i := fun q j hq =>
    masks_spec ops.toList [] (fun q h1 h2 => by simp) (fun q hq => absurd hq (by simp)) q j hq
  intro S a hn hH hF hD
  refine wpIn_region_draw fun t => ?_
  have hsch : Region.schedule (P.follows .mixedOrders) ops t = Region.linearise .any ops t := by
    unfold Region.schedule
    rw [if_pos h1]
  rw [hsch]
  have htopo := linearise_topo hedge t
  generalize Region.linearise .any ops t = l at htopo ⊢
  have hE : l.filter (effs.contains ·) ∈ ordersOf ops.toList effs.length effs := by
    have hmem : ∀ x, x ∈ l.filter (effs.contains ·) ↔ x ∈ effs := fun x => by
      rw [List.mem_filter]
      constructor
      · rintro ⟨_, hx⟩; exact List.contains_iff_mem.1 hx
      · intro hx
        have := of_decide_eq_true (List.all_eq_true.1 h3 x hx)
        exact ⟨(htopo.all x this).resolve_left (fun h => h), List.contains_iff_mem.2 hx⟩
    have hnd : (l.filter (effs.contains ·)).Nodup := List.Pairwise.filter _ htopo.nodup
    refine ordersOf_mem _ _ _ _ ?_ hnd hmem fun m1 i m2 hm k hk hb => ?_
    · have hnd2 := of_decide_eq_true h4
      exact Nat.le_antisymm (nodup_le hnd fun x hx => (hmem x).1 hx) (nodup_le hnd2 fun x hx => (hmem x).2 hx)
    · have hil : i ∈ l.filter (effs.contains ·) := by rw [hm]; simp
      obtain ⟨hil, hpi⟩ := List.mem_filter.1 hil
      obtain ⟨a', b', hl⟩ := List.append_of_mem hil
      have hka := htopo.before (hanc _ _ hb) a' b' hl
      have hni : i ∉ a' := by
        intro hx
        have := htopo.nodup
        rw [hl] at this
        exact (List.nodup_append.1 this).2.2 i hx i (by simp) rfl
      have hnm : i ∉ m1 := by
        intro hx
        rw [hm] at hnd
        exact (List.nodup_append.1 hnd).2.2 i hx i (by simp) rfl
      have e1 := takeW_filter (p := (effs.contains ·)) (a := a') (b := b') hni hpi
      rw [← hl, hm] at e1
      have e2 := takeW_filter (p := fun _ => true) (a := m1) (b := m2) hnm rfl
      rw [List.filter_eq_self.2 (fun _ _ => rfl), List.filter_eq_self.2 (fun _ _ => rfl)] at e2
      rw [e2] at e1
      rw [e1]
      exact List.mem_filter.2 ⟨hka, (List.mem_filter.1 hk).2⟩
  obtain ⟨⟨sg, stages, last⟩, hp, hpk⟩ := List.any_eq_true.1 (List.all_eq_true.1 h5 _ hE)
  have hv := h _ hp
  have hpk : plan3Ok ops _ sg stages last = true := hpk
  obtain ⟨_, pl⟩ := plan3_of hanc hpk
  have hB := topoB_of htopo hanc (effs.contains ·)
  simp only [] at hv
  rw [vcD_eq] at hv
  have hst : hdS stages last = (List.range ops.size).filter fun x => sg.getD x 0 == 2 * 0 := by
    cases stages with
    | nil => exact pl.last
    | cons x r => obtain ⟨st, kp, e⟩ := x; exact (pl.st 0 st kp e rfl).1
  rw [hst] at hv
  obtain ⟨sF, k1, k2, k3⟩ := stage_facts3 (r := r) pl (by omega) hv
  have hle : Le S { S with w := { S.w with drawn := S.w.drawn + 1 } } :=
    ⟨rfl, rfl, rfl, Nat.le_refl _, fun _ h => h, fun _ _ => rfl, fun _ _ _ => rfl, Nat.le_refl _, fun _ c _ _ h => ⟨c, h, rfl⟩⟩
  have hH' : HRel { S with w := { S.w with drawn := S.w.drawn + 1 } } H :=
    ⟨hH.fresh, hH.immlt, fun i o ho => (hH.obj i o ho).keep hle (fun _ => rfl) (fun _ _ => rfl) (fun _ _ _ h => h), hH.inj⟩
  refine lift_wpOpsIn hle _ _ _ (draw_run3 (mm := mm) (sg := fun i => sg.getD i 0) pl hr l (fun _ => False) 0 sF ds H _ a hB (fun _ _ h => h.elim) (fun _ _ _ h => by omega)
    (fun i hi he hl _ => k3 i hi (by omega)) k1 hn hH' (hD.mono hle) ?_)
  intro t
  by_cases hx : ∃ k, k < ops.size ∧ (sg.getD k 0 % 2 = 0 ∧ sg.getD k 0 ≤ 2 * 0) ∧ (opAt ops.toList k).dst = some t
  · obtain ⟨k, a1, a2, a3⟩ := hx
    exact .inl ⟨k, a1, a2, fun h => h, a3⟩
  · right
    rw [k2 t (fun i hi h0 e => hx ⟨i, hi, ⟨by omega, by omega⟩, e⟩)]
    exact (hF t).mono hle

section
variable {r : Option Nat} {P : Program} {m : Option Tmp → Bool} {n : Nat} {k : List It} {s : Fr} {ds : List AD} {H : Hp} {Q : Post}
theorem vs_draw3 {id : Nat} {l : List Oper} (effs : List Nat) (plans : List Pln) (hok : draw3Ok P l.toArray effs plans = true) (h : ∀ p ∈ plans, VS none P m n (expand l [] p.2.2 p.2.1 k) s ds H Q) :
    VS none P m n (.code (.region id l.toArray true) :: k) s ds H Q := by
  show WPS none P n (.region id l.toArray true) s ds H (TK none P m n k Q)
  refine wps_draw3 (mm := m) effs plans (.inl rfl) hok fun p hp => ?_
  rw [List.toList_toArray, vcD_expand]; exact h p hp
end
end Go.V
end
section
set_option linter.unusedVariables false
namespace Go.V
def CutS {σ : Type} (inv : σ → Prop) (fr : σ → List (Nat × AV)) (hp : σ → Hp) (ds0 : List AD) : Post := fun e s ds H => match e with
  | .normal => Ent s ds H fun s2 ds2 H2 => ∃ x, inv x ∧ s2 = Fr.of (fr x) ∧ ds2 = ds0 ∧ H2 = hp x
  | _ => False
section
variable {P : Program} {m : Option Tmp → Bool} {n : Nat} {k : List It} {s : Fr} {ds : List AD} {H : Hp} {Q : Post}
theorem cutS_of' {σ : Type} {inv : σ → Prop} {fr : σ → List (Nat × AV)} {hp : σ → Hp} {ds0 : List AD} (x : σ) (h : inv x) (hs : Slots s (fr x)) (hH : HSub H (hp x)) : CutS inv fr hp ds0 .normal s ds0 H :=
  Ent.of (fr x) hs hH ⟨x, h, rfl, rfl, rfl⟩
theorem ent_seqR {id : Nat} {l : Array Oper} {b : Code} (s : Fr) (ds : List AD) (H : Hp) (h : Ent s ds H fun s ds H => VS none P m n (.code (.seq (.region id l true) b) :: k) s ds H Q) : VS none P m n (.code (.seq (.region id l true) b) :: k) s ds H Q := by
  rw [VS_seq]
  refine vs_entR (h.mono fun s ds H h => ?_)
  rw [VS_seq] at h
  exact h
theorem vs_draw3c {σ : Type} (inv : σ → Prop) (fr : σ → List (Nat × AV)) (hp : σ → Hp) {id : Nat} {l : List Oper} (effs : List Nat) (plans : List Pln) (hok : draw3Ok P l.toArray effs plans = true)
    (hE : ∀ s ds H, (Ent s ds H fun s ds H => VS none P m n k s ds H Q) → VS none P m n k s ds H Q)
    (h : ∀ p ∈ plans, VS none P m n (expand l [] p.2.2 p.2.1 []) s ds H (CutS inv fr hp ds)) (h2 : ∀ x, inv x → VS none P m n k (Fr.of (fr x)) ds (hp x) Q) :
    VS none P m n (.code (.region id l.toArray true) :: k) s ds H Q := by
  show WPS none P n (.region id l.toArray true) s ds H (TK none P m n k Q)
  refine (wps_draw3 (mm := m) (Q := TK none P m n [] (CutS inv fr hp ds)) effs plans (.inl rfl) hok fun p hp' => ?_).mono fun e s' ds' H' hq => ?_
  · rw [List.toList_toArray, vcD_expand]; exact h p hp'
  · cases e with
    | normal =>
      have hq : Ent s' ds' H' fun s2 ds2 H2 => ∃ x, inv x ∧ s2 = Fr.of (fr x) ∧ ds2 = ds ∧ H2 = hp x := hq
      show VS none P m n k s' ds' H' Q
      refine hE _ _ _ (hq.mono fun s2 ds2 H2 hx => ?_)
      obtain ⟨x, hi, rfl, rfl, rfl⟩ := hx
      exact h2 x hi
    | _ => exact (show False from hq).elim
end
end Go.V
end
section
set_option linter.unusedVariables false
set_option linter.unusedSimpArgs false
namespace Go.Proofs.Ytkonoggmdcdeeaa
open Go.V
def cn (p : Nat → Bool) : Nat → Nat
  | 0 => 0
  | n + 1 => cn p n + if p n = true then 1 else 0
def sm (g : Nat → Nat) : Nat → Nat
  | 0 => 0
  | n + 1 => sm g n + g n
def anyN (p : Nat → Bool) : Nat → Bool
  | 0 => false
  | n + 1 => anyN p n || p n
theorem anyN_iff (p : Nat → Bool) (n : Nat) : anyN p n = true ↔ ∃ s, s < n ∧ p s = true := by
  induction n with
  | zero => exact ⟨fun h => (by cases h), fun ⟨_, h, _⟩ => (by omega)⟩
  | succ n ih =>
    simp only [anyN, Bool.or_eq_true, ih]
    constructor
    · rintro (⟨s, h1, h2⟩ | h)
      · exact ⟨s, by omega, h2⟩
      · exact ⟨n, by omega, h⟩
    · rintro ⟨s, h1, h2⟩
      by_cases e : s = n
      · subst e; exact .inr h2
      · exact .inl ⟨s, by omega, h2⟩
theorem cn_congr {p q : Nat → Bool} {n : Nat} (h : ∀ s, s < n → p s = q s) : cn p n = cn q n := by
  induction n with
  | zero => rfl
  | succ n ih => simp only [cn, ih fun s hs => h s (by omega), h n (by omega)]
theorem cn_mono {p q : Nat → Bool} {n : Nat} (h : ∀ s, s < n → p s = true → q s = true) : cn p n ≤ cn q n := by
  induction n with
  | zero => exact Nat.le_refl _
  | succ n ih =>
    have := ih fun s hs => h s (by omega)
    have h2 := h n (by omega)
    simp only [cn]
    split
    · rename_i hp; rw [if_pos (h2 hp)]; omega
    · omega
theorem cn_split (p q : Nat → Bool) (n : Nat) : cn p n = cn (fun s => p s && q s) n + cn (fun s => p s && !q s) n := by
  induction n with
  | zero => rfl
  | succ n ih =>
    have key : ∀ a b : Bool, (if a = true then 1 else 0) = (if (a && b) = true then 1 else 0) + if (a && !b) = true then 1 else 0 := by decide
    simp only [cn, ih]
    rw [key (p n) (q n)]
    omega
theorem cn_zero {p : Nat → Bool} {n : Nat} : cn p n = 0 ↔ ∀ s, s < n → p s = false := by
  induction n with
  | zero => exact ⟨fun _ s h => by omega, fun _ => rfl⟩
  | succ n ih =>
    simp only [cn]
    constructor
    · intro h s hs
      by_cases e : s = n
      · subst e
        cases hp : p s with
        | false => rfl
        | true => rw [hp] at h; simp at h
      · exact ih.1 (by omega) s (by omega)
    · intro h
      rw [h n (by omega), ih.2 fun s hs => h s (by omega)]
      rfl
theorem cn_one {s n : Nat} (h : s < n) : cn (fun j => decide (j = s)) n = 1 := by
  induction n with
  | zero => omega
  | succ n ih =>
    simp only [cn]
    by_cases e : n = s
    · subst e
      rw [cn_zero.2 fun j hj => decide_eq_false (by omega), if_pos (by simp)]
    · rw [ih (by omega), if_neg (by simp [e])]
theorem sm_mono {f g : Nat → Nat} {n : Nat} (h : ∀ o, o < n → f o ≤ g o) : sm f n ≤ sm g n := by
  induction n with
  | zero => exact Nat.le_refl _
  | succ n ih =>
    have := ih fun s hs => h s (by omega)
    have := h n (by omega)
    simp only [sm]
    omega
theorem sm_add (f g : Nat → Nat) (n : Nat) : sm (fun o => f o + g o) n = sm f n + sm g n := by
  induction n with
  | zero => rfl
  | succ n ih => simp only [sm, ih]; omega
theorem sm_congr {f g : Nat → Nat} {n : Nat} (h : ∀ o, o < n → f o = g o) : sm f n = sm g n := by
  induction n with
  | zero => rfl
  | succ n ih => simp only [sm, ih fun s hs => h s (by omega), h n (by omega)]
theorem sm_one (a n : Nat) : sm (fun o => if o = a then 1 else 0) n ≤ 1 := by
  induction n with
  | zero => exact Nat.zero_le _
  | succ n ih =>
    simp only [sm]
    by_cases e : n = a
    · subst e
      have : sm (fun o => if o = n then 1 else 0) n = 0 := by
        have : ∀ m, m ≤ n → sm (fun o => if o = n then 1 else 0) m = 0 := by
          intro m
          induction m with
          | zero => intro _; rfl
          | succ m ih => intro hm; simp only [sm, ih (by omega)]; rw [if_neg (by omega)]
        exact this n (Nat.le_refl _)
      rw [this, if_pos rfl]
      exact Nat.le_refl _
    · rw [if_neg e]; omega
theorem sm_pos {f : Nat → Nat} {n : Nat} (h : 0 < sm f n) : ∃ o, o < n ∧ 0 < f o := by
  induction n with
  | zero => exact absurd h (Nat.lt_irrefl 0)
  | succ n ih =>
    by_cases e : 0 < f n
    · exact ⟨n, by omega, e⟩
    · simp only [sm] at h
      obtain ⟨o, h1, h2⟩ := ih (by omega)
      exact ⟨o, by omega, h2⟩
section
variable (fit : Nat → Nat → Bool) (O N : Nat)
/-- Some strake of the set may be this owner's. -/
def nb (q : Nat → Bool) (o : Nat) : Bool := anyN (fun s => q s && fit o s) N
def cpN (cap : Nat → Nat) (q : Nat → Bool) : Nat := sm (fun o => if nb fit N q o = true then cap o else 0) O
structure Asg (cap : Nat → Nat) (p : Nat → Bool) (f : Nat → Nat) : Prop where
  fit : ∀ s, s < N → p s = true → f s < O ∧ fit (f s) s = true
  cap : ∀ o, o < O → cn (fun s => p s && decide (f s = o)) N ≤ cap o
variable {fit O N}
theorem hall : ∀ (k : Nat) (p : Nat → Bool) (cap : Nat → Nat), cn p N = k → (∀ q, (∀ s, s < N → q s = true → p s = true) → cn q N ≤ cpN fit O N cap q) → ∃ f, Asg fit O N cap p f := by
  intro k
  induction k using Nat.strongRecOn with
  | ind k ih =>
    intro p cap hk hall
    by_cases hz : k = 0
    · subst hz
      rw [cn_zero] at hk
      exact ⟨fun _ => 0, fun s hs hp => (by rw [hk s hs] at hp; cases hp), fun o _ => by
        rw [cn_zero.2 fun s hs => by rw [hk s hs]; rfl]; exact Nat.zero_le _⟩
    · by_cases ht : ∃ T : Nat → Bool, (∀ s, s < N → T s = true → p s = true) ∧ 0 < cn T N ∧ cn T N < k ∧ cpN fit O N cap T = cn T N
      · obtain ⟨T, t1, t2, t3, t4⟩ := ht
        obtain ⟨f1, a1⟩ := ih (cn T N) t3 T cap rfl fun q hq => hall q fun s hs h => t1 s hs (hq s hs h)
        have hsp := cn_split p T N
        have eT : cn (fun s => p s && T s) N = cn T N := cn_congr fun s hs => by
          cases h : T s with
          | false => rw [Bool.and_false]
          | true => rw [t1 s hs h]; rfl
        obtain ⟨f2, a2⟩ := ih (cn (fun s => p s && !T s) N) (by omega) (fun s => p s && !T s) (fun o => if nb fit N T o = true then 0 else cap o) rfl fun V hV => by
          have hW := hall (fun s => T s || V s) fun s hs h => by
            rw [Bool.or_eq_true] at h
            rcases h with h | h
            · exact t1 s hs h
            · have := hV s hs h
              rw [Bool.and_eq_true] at this
              exact this.1
          have hs2 := cn_split (fun s => T s || V s) T N
          have e1 : cn (fun s => (T s || V s) && T s) N = cn T N := cn_congr fun s hs => by cases T s <;> simp
          have e2 : cn (fun s => (T s || V s) && !T s) N = cn V N := cn_congr fun s hs => by
            cases hv : V s with
            | false => cases T s <;> rfl
            | true =>
              have := hV s hs hv
              rw [Bool.and_eq_true] at this
              cases hT : T s with
              | false => rfl
              | true => rw [hT] at this; cases this.2
          have e3 : cpN fit O N cap (fun s => T s || V s) = cpN fit O N cap T + cpN fit O N (fun o => if nb fit N T o = true then 0 else cap o) V := by
            unfold cpN
            rw [← sm_add]
            refine sm_congr fun o _ => ?_
            have en : nb fit N (fun s => T s || V s) o = (nb fit N T o || nb fit N V o) := by
              rw [Bool.eq_iff_iff, Bool.or_eq_true]
              unfold nb
              rw [anyN_iff, anyN_iff, anyN_iff]
              constructor
              · rintro ⟨s, h1, h2⟩
                rw [Bool.and_eq_true, Bool.or_eq_true] at h2
                rcases h2.1 with h | h
                · exact .inl ⟨s, h1, by rw [h, h2.2]; rfl⟩
                · exact .inr ⟨s, h1, by rw [h, h2.2]; rfl⟩
              · rintro (⟨s, h1, h2⟩ | ⟨s, h1, h2⟩)
                · rw [Bool.and_eq_true] at h2
                  exact ⟨s, h1, by show ((T s || V s) && fit o s) = true; rw [h2.1, h2.2]; rfl⟩
                · rw [Bool.and_eq_true] at h2
                  exact ⟨s, h1, by show ((T s || V s) && fit o s) = true; rw [h2.1, h2.2, Bool.or_true]; rfl⟩
            rw [en]
            dsimp only
            cases nb fit N T o <;> cases nb fit N V o <;> simp
          omega
        refine ⟨fun s => if T s = true then f1 s else f2 s, fun s hs hp => ?_, fun o ho => ?_⟩
        · by_cases e : T s = true
          · simp only [e, if_true]
            exact a1.fit s hs e
          · simp only [e]
            exact a2.fit s hs (by rw [hp]; simpa using e)
        · have q1 := cn_split (fun s => p s && decide ((if T s = true then f1 s else f2 s) = o)) T N
          have q2 : cn (fun s => (p s && decide ((if T s = true then f1 s else f2 s) = o)) && T s) N = cn (fun s => T s && decide (f1 s = o)) N := cn_congr fun s hs => by
            cases h : T s with
            | false => simp
            | true => simp [t1 s hs h]
          have q3 : cn (fun s => (p s && decide ((if T s = true then f1 s else f2 s) = o)) && !T s) N = cn (fun s => (p s && !T s) && decide (f2 s = o)) N := cn_congr fun s hs => by
            cases h : T s with
            | true => simp
            | false => simp
          have c1 := a1.cap o ho
          have c2 := a2.cap o ho
          rw [q1, q2, q3]
          by_cases e : nb fit N T o = true
          · rw [if_pos e] at c2
            omega
          · rw [if_neg e] at c2
            have : cn (fun s => T s && decide (f1 s = o)) N = 0 := cn_zero.2 fun s hs => by
              rw [← Bool.not_eq_true]
              intro hh
              rw [Bool.and_eq_true, decide_eq_true_eq] at hh
              exact e ((anyN_iff _ _).2 ⟨s, hs, by rw [Bool.and_eq_true]; exact ⟨hh.1, hh.2 ▸ (a1.fit s hs hh.1).2⟩⟩)
            omega
      · obtain ⟨s0, hs0, hp0⟩ : ∃ s, s < N ∧ p s = true := by
          apply Classical.byContradiction
          intro hne
          apply hz
          rw [← hk, cn_zero]
          intro s hs
          rw [← Bool.not_eq_true]
          exact fun h => hne ⟨s, hs, h⟩
        have h1 := hall (fun s => decide (s = s0)) fun s hs h => by rw [of_decide_eq_true h]; exact hp0
        rw [cn_one hs0] at h1
        obtain ⟨o0, ho0, hpos⟩ := sm_pos (Nat.lt_of_lt_of_le Nat.zero_lt_one h1)
        have hnb : nb fit N (fun s => decide (s = s0)) o0 = true := by
          apply Classical.byContradiction
          intro h
          rw [if_neg h] at hpos
          exact Nat.lt_irrefl 0 hpos
        rw [if_pos hnb] at hpos
        have hfit : fit o0 s0 = true := by
          obtain ⟨s, _, h2⟩ := (anyN_iff _ _).1 hnb
          rw [Bool.and_eq_true, decide_eq_true_eq] at h2
          rw [← h2.1]; exact h2.2
        have hsp := cn_split p (fun s => decide (s = s0)) N
        have e1 : cn (fun s => p s && decide (s = s0)) N = 1 := by
          rw [← cn_one hs0]
          exact cn_congr fun s hs => by
            by_cases e : s = s0
            · subst e; rw [hp0]; simp
            · simp [e]
        obtain ⟨f, a⟩ := ih (cn (fun s => p s && !decide (s = s0)) N) (by omega) (fun s => p s && !decide (s = s0)) (fun o => cap o - if o = o0 then 1 else 0) rfl fun q hq => by
          have hqp : ∀ s, s < N → q s = true → p s = true := fun s hs h => by
            have := hq s hs h
            rw [Bool.and_eq_true] at this
            exact this.1
          have g1 := hall q hqp
          have g2 := cn_mono hq
          by_cases e0 : cn q N = 0
          · omega
          · have g3 : cpN fit O N cap q ≠ cn q N := fun e => ht ⟨q, hqp, by omega, by omega, e⟩
            have g4 : cpN fit O N cap q ≤ cpN fit O N (fun o => cap o - if o = o0 then 1 else 0) q + 1 := by
              have := sm_one o0 O
              refine Nat.le_trans ?_ (Nat.add_le_add_left this _)
              unfold cpN
              rw [← sm_add]
              refine sm_mono fun o _ => ?_
              by_cases en : nb fit N q o = true
              · rw [if_pos en, if_pos en]
                show cap o ≤ (cap o - if o = o0 then 1 else 0) + if o = o0 then 1 else 0
                omega
              · rw [if_neg en]; exact Nat.zero_le _
            omega
        refine ⟨fun s => if s = s0 then o0 else f s, fun s hs hp => ?_, fun o ho => ?_⟩
        · by_cases e : s = s0
          · simp only [e, if_true]
            exact ⟨ho0, hfit⟩
          · simp only [e, if_false]
            exact a.fit s hs (by rw [hp]; simp [e])
        · have q1 := cn_split (fun s => p s && decide ((if s = s0 then o0 else f s) = o)) (fun s => decide (s = s0)) N
          have q3 : cn (fun s => (p s && decide ((if s = s0 then o0 else f s) = o)) && !decide (s = s0)) N = cn (fun s => (p s && !decide (s = s0)) && decide (f s = o)) N := cn_congr fun s hs => by
            by_cases e : s = s0
            · simp [e]
            · simp [e]
          have c2 : cn (fun s => (p s && !decide (s = s0)) && decide (f s = o)) N ≤ cap o - if o = o0 then 1 else 0 := a.cap o ho
          rw [q1, q3]
          by_cases e : o = o0
          · have q2 : cn (fun s => (p s && decide ((if s = s0 then o0 else f s) = o)) && decide (s = s0)) N ≤ 1 := by
              rw [← cn_one hs0]
              refine cn_mono fun s hs h => ?_
              rw [Bool.and_eq_true] at h
              exact h.2
            rw [if_pos e] at c2
            subst e
            omega
          · have q2 : cn (fun s => (p s && decide ((if s = s0 then o0 else f s) = o)) && decide (s = s0)) N = 0 := cn_zero.2 fun s hs => by
              by_cases es : s = s0
              · simp [es, Ne.symm e]
              · simp [es]
            rw [if_neg e] at c2
            omega
end
end Go.Proofs.Ytkonoggmdcdeeaa
end
section
set_option linter.unusedVariables false
set_option linter.unusedSimpArgs false
namespace Go.Proofs.Ytkonoggmdcdeeaa
open Go.V
abbrev capI (x : Ir) (o : Nat) : Nat := (x.mo.getD o 0).toNat
abbrev AsgI (x : Ir) (S : Nat) (f : Nat → Nat) : Prop := Asg (fitB x) x.ow.length x.st.length (capI x) (fun s => S.testBit s) f
def begL (S : Nat) (f : Nat → Nat) (k : Nat) : List Int := (List.range k).map fun s => if S.testBit s = true then ((f s : Nat) : Int) else -1
end Go.Proofs.Ytkonoggmdcdeeaa
end
section
set_option linter.unusedVariables false
set_option linter.unusedSimpArgs false
set_option maxHeartbeats 4000000
set_option maxRecDepth 100000
namespace Go.Proofs.Ytkonoggmdcdeeaa
open Go.V
/-- The strakes of a set, of the first ones. -/
def stL (x : Ir) (set : Nat) : Nat → List (List Mk)
  | 0 => []
  | i + 1 => if set.testBit i = true then stL x set i ++ [x.st.getD i []] else stL x set i
def stI (x : Ir) (set : Nat) : Ir := { x with st := stL x set x.st.length, cl := [] }
/-- The strakes of a set cannot all have been marked. -/
def shC (x : Ir) (set : Nat) : Bool := decide (countE (stI x set) = 0) && decide (countV (stI x set) = 0)
end Go.Proofs.Ytkonoggmdcdeeaa
end
section
set_option linter.unusedVariables false
set_option linter.unusedSimpArgs false
set_option maxHeartbeats 4000000
set_option maxRecDepth 100000
namespace Go.Proofs.Ytkonoggmdcdeeaa
open Go.V
theorem app2_cl (l : List Cl) (c : Cl) (g : Nat → List AV) (hg : g 0 = c.cs) {q : Nat} (hq : q < l.length + 1) : appF l.length 1 (appF 0 l.length (fun _ => []) (clF l)) g q = clF (l ++ [c]) q := by
  rw [← app_cl l c g hg, appF_at hq, appF_at hq]
  split
  · rw [appF_at (by omega), if_neg (by omega), Nat.sub_zero]
  · rfl
abbrev exM (l : List Mk) (m : Mk) : Nat → List AV := appF l.length 1 (appF 0 l.length (fun i => []) (mkF l)) (fun i => [[i64 m.f, i64 m.lo, i64 m.hi]].getD i [])
theorem exM_at (l : List Mk) (m : Mk) (i : Nat) (hi : i < l.length + 1) : exM l m i = mkF (l ++ [m]) i := by
  show appF l.length 1 _ _ i = _
  rw [appF_at (by omega)]
  simp only [mkF, getD_snoc]
  by_cases e : i = l.length
  · rw [if_neg (by omega), if_pos e, e, Nat.sub_self]; rfl
  · rw [if_pos (by omega), if_neg e, appF_at (by omega), if_neg (by omega), Nat.sub_zero]; rfl
theorem stR_le (x : Ir) (s : Nat) (m : Mk) (hs : s < x.st.length) : AV.Le (.rsl x.st.length 1 fun j => if j = s then [.rsl ((x.st.getD s []).length + 1) 3 (exM (x.st.getD s []) m)] else stF x.st j) (stAV (readI x s m).st) := by
  have hl : (readI x s m).st.length = x.st.length := by simp [readI]
  simp only [stAV, hl]
  refine AV.Le.rslA (fun i hi => ?_) fun i hi j hj => ?_
  · split <;> rfl
  · have hj0 : j = 0 := by omega
    subst hj0
    have e : stF (readI x s m).st i = [mksAV (stR x s m i)] := by simp only [stF, readI, getD_mapR _ _ _ _ hi]
    rw [e]
    by_cases eq : i = s
    · subst eq
      rw [if_pos rfl]
      simp only [List.getD_cons_zero, stR, if_true, mksAV, List.length_append, List.length_cons, List.length_nil, Nat.zero_add]
      exact AV.Le.rsl fun q hq => exM_at _ _ q hq
    · rw [if_neg eq]
      simp only [stR, eq, if_false]
      exact AV.Le.refl _
theorem share {X G : Prop} (h : X → G) (t : X) : G := h t
/-- What is left of the function once the three irons are made. -/
def MoreTail (x : Ir) (w c u : Int) (s o i16 i17 i18 : Nat) (H : Hp) (K : List It) (Q : Post) : Prop :=
  ∀ (y : Ir) (ib : Nat), LessI x y → (¬ ib = i16 ∧ ¬ ib = i17 ∧ ¬ ib = i18 ∧ H ib = none) →
    VS none Try.prog (mset [88, 91, 92, 95, 107, 113, 129, 131, 134, 142]) 270 K (Fr.of [(1, .lit (.int .u8 w)), (2, .lit (.int .u8 c)), (3, .lit (.int .u8 u)), (4, .rptr 1 5 (fun _ => x.cs) 0 0), (9, i64 s), (10, i64 o), (11, i64 ((truA x).length : Nat)), (13, i64 ((falseP x).1 : Nat)), (15, i64 (falseE x)), (16, .ref i16 0 5 0 0), (17, .ref i17 0 5 0 0), (18, .ref i18 0 5 0 0)]) []
      ((((H.set ib (.row 1 x.ow.length (intF x.mo))).set i18 (.box 5 1 fun _ => [i64 x.F, llAV x.ow, .sl ib 1 x.ow.length, stAV x.st, clAV x.cl])).set i16 (.box 5 1 fun _ => y.cs)).set i17 (.box 5 1 fun _ => (saidI x ⟨s, o, decide (u.tmod 2 = 0)⟩).cs)) Q
theorem more_law (x : Ir) (w c u : Int) (H : Hp) (hw : 0 ≤ w ∧ w ≤ 255) (hc : 0 ≤ c ∧ c ≤ 255) (hu : 0 ≤ u ∧ u ≤ 255) (hO : x.ow.length < 2 ^ 63) (hS : x.st.length < 2 ^ 63) :
    PTri Try.prog (fnA 11) [x.av, .lit (.int .u8 w), .lit (.int .u8 c), .lit (.int .u8 u)] H (boo true) := by
  refine Tri.drop ?_
  refine tri_v (mset [88, 91, 92, 95, 107, 113, 129, 131, 134, 142]) Try.func11 (by kernel_rfl) rfl (by simp only [List.length_append, List.length_cons, List.length_nil, Try.ntmps11]; decide) ?_
  simp only [vsAll, loadA, loadRow, partA, partOk, boxA, okAll, stAll, opsA, opA, dstOk, nilSliceOp, argFr, Nat.reduceAdd, Nat.reduceLT, Nat.reduceEqDiff, Nat.reduceBEq, ↓reduceIte, eq_self, wtAll, Try.ntmps11]
  refine callK_pure (fine_tri x _ hO hS) ?_
  simp only [vsAll, binA, binLitA, intA, unA, loadA, loadRow, partA, partOk, fieldAddrA, lenA, pickA, opA, guardV, dstOk, Nat.reduceLT, Nat.reduceEqDiff, ↓reduceIte, implies_true, eq_self, wtAll]
  refine condV (fun hf1 => ?_) (fun hf1 => ?_)
  · simp only [vsAll, okAll, stAll, opsA, opA, dstOk, Nat.reduceLT]
    refine callK_pure (awake_tri _) ?_
    simp only [vsAll, opA, dstOk, nilSliceOp, Nat.reduceLT, Nat.reduceBEq, ↓reduceIte, eq_self]
    refine ret0 ?_
    simp only [vsAll, resA, retA.eq_1, ↓reduceIte, eq_self, Try.results11]
    exact dropR_pure rfl (HSub.refl _)
  · rw [Bool.or_eq_false_iff, Bool.or_eq_false_iff] at hf1
    obtain ⟨⟨hf0, hf2⟩, hf3⟩ := hf1
    have hk : Ok x := by
      simp only [Bool.not_eq_false', Bool.and_eq_true, decide_eq_true_eq] at hf0
      exact hf0.2
    have hs1 := of_decide_eq_false hf2
    have ho1 := of_decide_eq_false hf3
    have nS := hk.nS
    have nO := hk.nO
    have nC := hk.nC
    have kn := hk.near
    have cE : countE x = 0 := errE_ok hk
    have cV : countV x = (truA x).length := by rw [countV, if_pos cE]
    have hl : (truA x).length ≤ 15625 := truS_len hk (2 ^ x.st.length - 1)
    have hmod := u8_mod hw x.st.length
    have hs : w.toNat % x.st.length < x.st.length := Nat.mod_lt _ (by omega)
    generalize w.toNat % x.st.length = s at hmod hs
    have hmod2 := u8_mod hc x.ow.length
    have ho : c.toNat % x.ow.length < x.ow.length := Nat.mod_lt _ (by omega)
    generalize c.toNat % x.ow.length = o at hmod2 ho
    simp only [vsAll]
    refine vs_draw2 [0, 0, 0, 0, 0, 0, 0, 0, 0, 0, 0, 0, 1, 3] [([0, 1, 2, 3, 4, 5, 6, 7, 8, 9, 10, 11], [9], 12), ([], [], 13)] [] (by decide +kernel) ?_
    simp only [vsAll, binA, binLitA, intA, loadA, loadRow, partA, partOk, fieldAddrA, lenA, convA, okAll, stAll, opsA, opA, dstOk, nilSliceOp, argFr, Nat.reduceLT, Nat.reduceEqDiff, Nat.reduceBEq, ↓reduceIte, eq_self, ne_eq, wtAll, hmod, hmod2]
    refine ⟨by simp only [InR_i64]; omega, by omega, by simp only [InR_i64]; omega, by omega, ?_⟩
    refine callK_pure (wcount_tri x _ kn) ?_
    rw [cV, cE]
    simp only [vsAll, loadA, loadRow, partA, partOk, extractA, okAll, stAll, opsA, opA, dstOk, nilSliceOp, Nat.reduceAdd, Nat.reduceLT, Nat.reduceEqDiff, Nat.reduceBEq, ↓reduceIte, eq_self, wtAll]
    refine callK_pure (wfalse_tri x _ kn) ?_
    have d6 : decide (falseE x = 0) = decide ((0 : Int) < ((truA x).length : Int)) := by
      by_cases h : (truA x).length = 0
      · rw [show falseE x = 10 from errE_clash hk h, decide_eq_false (by decide), decide_eq_false (by omega)]
      · rw [show falseE x = 0 from errE_told hk (by omega), decide_eq_true rfl, decide_eq_true (by omega)]
    simp only [vsAll, binA, binLitA, intA, boolA, extractA, pickA, opA, guardV, dstOk, nilSliceOp, Nat.reduceAdd, Nat.reduceLT, Nat.reduceEqDiff, Nat.reduceBEq, ↓reduceIte, implies_true, eq_self, wtAll, d6, beq_self_eq_true]
    refine vs_draw3c (σ := Nat × Nat × Nat) (fun y => H y.1 = none ∧ H y.2.1 = none ∧ H y.2.2 = none ∧ y.1 ≠ y.2.1 ∧ y.1 ≠ y.2.2 ∧ y.2.1 ≠ y.2.2)
      (fun y => [(1, .lit (.int .u8 w)), (2, .lit (.int .u8 c)), (3, .lit (.int .u8 u)), (4, .rptr 1 5 (fun _ => x.cs) 0 0), (9, i64 s), (10, i64 o), (11, i64 ((truA x).length : Nat)), (13, i64 ((falseP x).1 : Nat)), (15, i64 (falseE x)), (16, .ref y.1 0 5 0 0), (17, .ref y.2.1 0 5 0 0), (18, .ref y.2.2 0 5 0 0)])
      (fun y => ((H.set y.1 (.box 5 1 fun _ => x.cs)).set y.2.1 (.box 5 1 fun _ => x.cs)).set y.2.2 (.box 5 1 fun _ => x.cs))
      [3, 4, 5, 6, 7, 8] [([0, 0, 0, 1, 3, 5, 7, 9, 11], [([0, 1, 2], [0, 1, 2], 3), ([], [0, 1, 2], 4), ([], [0, 1, 2], 5), ([], [1, 2], 6), ([], [2], 7), ([], [], 8)], []), ([0, 0, 0, 1, 5, 3, 7, 9, 11], [([0, 1, 2], [0, 1, 2], 3), ([], [0, 1, 2], 5), ([], [0, 1, 2], 4), ([], [1, 2], 6), ([], [2], 7), ([], [], 8)], []), ([0, 0, 0, 3, 1, 5, 7, 9, 11], [([0, 1, 2], [0, 1, 2], 4), ([], [0, 1, 2], 3), ([], [0, 1, 2], 5), ([], [1, 2], 6), ([], [2], 7), ([], [], 8)], []), ([0, 0, 0, 5, 1, 3, 7, 9, 11], [([0, 1, 2], [0, 1, 2], 4), ([], [0, 1, 2], 5), ([], [0, 1, 2], 3), ([], [1, 2], 6), ([], [2], 7), ([], [], 8)], []), ([0, 0, 0, 3, 5, 1, 7, 9, 11], [([0, 1, 2], [0, 1, 2], 5), ([], [0, 1, 2], 3), ([], [0, 1, 2], 4), ([], [1, 2], 6), ([], [2], 7), ([], [], 8)], []), ([0, 0, 0, 5, 3, 1, 7, 9, 11], [([0, 1, 2], [0, 1, 2], 5), ([], [0, 1, 2], 4), ([], [0, 1, 2], 3), ([], [1, 2], 6), ([], [2], 7), ([], [], 8)], [])] (by decide +kernel) ?_ ?_ ?_
    · exact fun s ds H h => ent_seqR s ds H h
    · intro p hp
      simp only [List.mem_cons, List.not_mem_nil, or_false] at hp
      rcases hp with rfl | rfl | rfl | rfl | rfl | rfl
      · simp only [vsAll, loadA, loadRow, partA, partOk, cellA, cellsA, opA, allocA, newCells, okCells, storeObj, dstOk, Nat.reduceAdd, Nat.reduceLT, Nat.reduceEqDiff, ↓reduceIte, eq_self, ne_eq, wtAll]
        intro i16 hh_i16; (try simp only [Hp.set_none, ite_none] at hh_i16); intro i17 hh_i17; (try simp only [ite_none] at hh_i17); intro i18 hh_i18; (try simp only [ite_none] at hh_i18)
        simp only [vsAll, Nat.reduceLT, ↓reduceIte, eq_self, hh_i17, hh_i18]
        refine cutS_of' (i16, i17, i18) ?_ ?_ ?_
        · show H i16 = none ∧ H i17 = none ∧ H i18 = none ∧ ¬ i16 = i17 ∧ ¬ i16 = i18 ∧ ¬ i17 = i18
          refine ⟨?_, ?_, ?_, ?_, ?_, ?_⟩ <;> simp_all
        · simp only [vsAll, argFr, Nat.reduceEqDiff, ↓reduceIte, eq_self]
        exact HSub.set (HSub.set (HSub.set (HSub_drop2 (by simp only [eq_self, hh_i18]) (HSub_drop2 (by simp only [eq_self, hh_i17]) (HSub_drop2 (by simp only [eq_self, hh_i16]) HSub_rfl))) (.refl _)) (.refl _)) (.refl _)
      · simp only [vsAll, loadA, loadRow, partA, partOk, cellA, cellsA, opA, allocA, newCells, okCells, storeObj, dstOk, Nat.reduceAdd, Nat.reduceLT, Nat.reduceEqDiff, ↓reduceIte, eq_self, ne_eq, wtAll]
        intro i16 hh_i16; (try simp only [Hp.set_none, ite_none] at hh_i16); intro i18 hh_i18; (try simp only [ite_none] at hh_i18); intro i17 hh_i17; (try simp only [ite_none] at hh_i17)
        simp only [vsAll, Nat.reduceLT, ↓reduceIte, eq_self, hh_i18, hh_i17]
        refine cutS_of' (i16, i17, i18) ?_ ?_ ?_
        · show H i16 = none ∧ H i17 = none ∧ H i18 = none ∧ ¬ i16 = i17 ∧ ¬ i16 = i18 ∧ ¬ i17 = i18
          refine ⟨?_, ?_, ?_, ?_, ?_, ?_⟩ <;> simp_all
        · simp only [vsAll, argFr, Nat.reduceEqDiff, ↓reduceIte, eq_self]
        exact HSub.set (HSub.set (HSub.set (HSub_drop2 (by simp only [eq_self, hh_i17]) (HSub_drop2 (by simp only [eq_self, hh_i18]) (HSub_drop2 (by simp only [eq_self, hh_i16]) HSub_rfl))) (.refl _)) (.refl _)) (.refl _)
      · simp only [vsAll, loadA, loadRow, partA, partOk, cellA, cellsA, opA, allocA, newCells, okCells, storeObj, dstOk, Nat.reduceAdd, Nat.reduceLT, Nat.reduceEqDiff, ↓reduceIte, eq_self, ne_eq, wtAll]
        intro i17 hh_i17; (try simp only [Hp.set_none, ite_none] at hh_i17); intro i16 hh_i16; (try simp only [ite_none] at hh_i16); intro i18 hh_i18; (try simp only [ite_none] at hh_i18)
        simp only [vsAll, Nat.reduceLT, ↓reduceIte, eq_self, hh_i16, hh_i18]
        refine cutS_of' (i16, i17, i18) ?_ ?_ ?_
        · show H i16 = none ∧ H i17 = none ∧ H i18 = none ∧ ¬ i16 = i17 ∧ ¬ i16 = i18 ∧ ¬ i17 = i18
          refine ⟨?_, ?_, ?_, ?_, ?_, ?_⟩ <;> simp_all
        · simp only [vsAll, argFr, Nat.reduceEqDiff, ↓reduceIte, eq_self]
        exact HSub.set (HSub.set (HSub.set (HSub_drop2 (by simp only [eq_self, hh_i18]) (HSub_drop2 (by simp only [eq_self, hh_i16]) (HSub_drop2 (by simp only [eq_self, hh_i17]) HSub_rfl))) (.refl _)) (.refl _)) (.refl _)
      · simp only [vsAll, loadA, loadRow, partA, partOk, cellA, cellsA, opA, allocA, newCells, okCells, storeObj, dstOk, Nat.reduceAdd, Nat.reduceLT, Nat.reduceEqDiff, ↓reduceIte, eq_self, ne_eq, wtAll]
        intro i17 hh_i17; (try simp only [Hp.set_none, ite_none] at hh_i17); intro i18 hh_i18; (try simp only [ite_none] at hh_i18); intro i16 hh_i16; (try simp only [ite_none] at hh_i16)
        simp only [vsAll, Nat.reduceLT, ↓reduceIte, eq_self, hh_i18, hh_i16]
        refine cutS_of' (i16, i17, i18) ?_ ?_ ?_
        · show H i16 = none ∧ H i17 = none ∧ H i18 = none ∧ ¬ i16 = i17 ∧ ¬ i16 = i18 ∧ ¬ i17 = i18
          refine ⟨?_, ?_, ?_, ?_, ?_, ?_⟩ <;> simp_all
        · simp only [vsAll, argFr, Nat.reduceEqDiff, ↓reduceIte, eq_self]
        exact HSub.set (HSub.set (HSub.set (HSub_drop2 (by simp only [eq_self, hh_i16]) (HSub_drop2 (by simp only [eq_self, hh_i18]) (HSub_drop2 (by simp only [eq_self, hh_i17]) HSub_rfl))) (.refl _)) (.refl _)) (.refl _)
      · simp only [vsAll, loadA, loadRow, partA, partOk, cellA, cellsA, opA, allocA, newCells, okCells, storeObj, dstOk, Nat.reduceAdd, Nat.reduceLT, Nat.reduceEqDiff, ↓reduceIte, eq_self, ne_eq, wtAll]
        intro i18 hh_i18; (try simp only [Hp.set_none, ite_none] at hh_i18); intro i16 hh_i16; (try simp only [ite_none] at hh_i16); intro i17 hh_i17; (try simp only [ite_none] at hh_i17)
        simp only [vsAll, Nat.reduceLT, ↓reduceIte, eq_self, hh_i16, hh_i17]
        refine cutS_of' (i16, i17, i18) ?_ ?_ ?_
        · show H i16 = none ∧ H i17 = none ∧ H i18 = none ∧ ¬ i16 = i17 ∧ ¬ i16 = i18 ∧ ¬ i17 = i18
          refine ⟨?_, ?_, ?_, ?_, ?_, ?_⟩ <;> simp_all
        · simp only [vsAll, argFr, Nat.reduceEqDiff, ↓reduceIte, eq_self]
        exact HSub.set (HSub.set (HSub.set (HSub_drop2 (by simp only [eq_self, hh_i17]) (HSub_drop2 (by simp only [eq_self, hh_i16]) (HSub_drop2 (by simp only [eq_self, hh_i18]) HSub_rfl))) (.refl _)) (.refl _)) (.refl _)
      · simp only [vsAll, loadA, loadRow, partA, partOk, cellA, cellsA, opA, allocA, newCells, okCells, storeObj, dstOk, Nat.reduceAdd, Nat.reduceLT, Nat.reduceEqDiff, ↓reduceIte, eq_self, ne_eq, wtAll]
        intro i18 hh_i18; (try simp only [Hp.set_none, ite_none] at hh_i18); intro i17 hh_i17; (try simp only [ite_none] at hh_i17); intro i16 hh_i16; (try simp only [ite_none] at hh_i16)
        simp only [vsAll, Nat.reduceLT, ↓reduceIte, eq_self, hh_i17, hh_i16]
        refine cutS_of' (i16, i17, i18) ?_ ?_ ?_
        · show H i16 = none ∧ H i17 = none ∧ H i18 = none ∧ ¬ i16 = i17 ∧ ¬ i16 = i18 ∧ ¬ i17 = i18
          refine ⟨?_, ?_, ?_, ?_, ?_, ?_⟩ <;> simp_all
        · simp only [vsAll, argFr, Nat.reduceEqDiff, ↓reduceIte, eq_self]
        exact HSub.set (HSub.set (HSub.set (HSub_drop2 (by simp only [eq_self, hh_i16]) (HSub_drop2 (by simp only [eq_self, hh_i17]) (HSub_drop2 (by simp only [eq_self, hh_i18]) HSub_rfl))) (.refl _)) (.refl _)) (.refl _)
    · rintro ⟨i16, i17, i18⟩ ⟨q1, q2, q3, q4, q5, q6⟩
      have q4' : ¬ i17 = i16 := fun e => q4 e.symm
      have q5' : ¬ i18 = i16 := fun e => q5 e.symm
      have q6' : ¬ i18 = i17 := fun e => q6 e.symm
      skip
      simp only [vsAll]
      have nM := hk.nM
      apply share (X := MoreTail x w c u s o i16 i17 i18 H _ _)
      · intro tail
        refine vs_draw3 [0, 3, 4, 7, 9, 11] [([1, 0, 0, 3, 5, 0, 0, 7, 4, 9, 10, 11], [([1, 2, 5, 6], [2, 6], 0), ([], [6], 3), ([8], [6], 4), ([], [], 7), ([], [], 9), ([10], [], 11)], []), ([1, 0, 0, 5, 3, 0, 0, 7, 6, 9, 10, 11], [([1, 2, 5, 6], [2, 6], 0), ([], [2, 6], 4), ([], [6], 3), ([8], [], 7), ([], [], 9), ([10], [], 11)], []), ([3, 0, 0, 5, 1, 0, 0, 7, 6, 9, 10, 11], [([1, 2, 5, 6], [2, 6], 4), ([], [2, 6], 0), ([], [6], 3), ([8], [], 7), ([], [], 9), ([10], [], 11)], [])] (by decide +kernel) fun p hp => ?_
        simp only [List.mem_cons, List.not_mem_nil, or_false] at hp
        rcases hp with rfl | rfl | rfl
        focus
          simp only [vsAll, binA, binLitA, intA, loadA, loadRow, partA, partOk, fieldAddrA, cellA, cellsA, okParts, buildMutA, partIdx, elemsA, lensA, partsA, partsOk, opA, newCells, okCells, storeObj, appendA, nM, dstOk, Nat.reduceAdd, Nat.reduceMul, Nat.reduceLT, Nat.reduceLeDiff, Nat.reduceEqDiff, Nat.reduceBEq, ↓reduceIte, eq_self, wtAll, q4, q5, q5']
          intro ia hh_ia; (try simp only [ite_none] at hh_ia)
          simp only [↓reduceIte, hh_ia]
          refine ⟨fun q hq => by simp [stF, okCells, cellA], by ((try clear q1); (try clear q2); (try clear q3); (try clear q4); (try clear q5); (try clear q6); (try clear q4'); (try clear q5'); (try clear q6'); (try clear hh_ia); omega), by ((try clear q1); (try clear q2); (try clear q3); (try clear q4); (try clear q5); (try clear q6); (try clear q4'); (try clear q5'); (try clear q6'); (try clear hh_ia); omega), ?_⟩
          intro ib hh_ib; (try simp only [ite_none] at hh_ib)
          simp only [vsAll, Nat.reduceLT, ↓reduceIte, eq_self, hh_ib]
          refine ⟨fun q hq => by simp [intF, okCells, cellA], by ((try clear q1); (try clear q2); (try clear q3); (try clear q4); (try clear q5); (try clear q6); (try clear q4'); (try clear q5'); (try clear q6'); (try clear hh_ia); (try clear hh_ib); omega), by ((try clear q1); (try clear q2); (try clear q3); (try clear q4); (try clear q5); (try clear q6); (try clear q4'); (try clear q5'); (try clear q6'); (try clear hh_ia); (try clear hh_ib); omega), ?_⟩
        rotate_left
        focus
          simp only [vsAll, binA, binLitA, intA, loadA, loadRow, partA, partOk, fieldAddrA, cellA, cellsA, okParts, buildMutA, partIdx, elemsA, lensA, partsA, partsOk, opA, newCells, okCells, storeObj, appendA, nM, dstOk, Nat.reduceAdd, Nat.reduceMul, Nat.reduceLT, Nat.reduceLeDiff, Nat.reduceEqDiff, Nat.reduceBEq, ↓reduceIte, eq_self, wtAll, q4, q5, q5']
          intro ia hh_ia; (try simp only [ite_none] at hh_ia); intro ib hh_ib; (try simp only [ite_none] at hh_ib)
          simp only [vsAll, Nat.reduceLT, ↓reduceIte, eq_self, hh_ia, hh_ib]
          refine ⟨fun q hq => by simp [stF, okCells, cellA], by ((try clear q1); (try clear q2); (try clear q3); (try clear q4); (try clear q5); (try clear q6); (try clear q4'); (try clear q5'); (try clear q6'); (try clear hh_ia); (try clear hh_ib); omega), by ((try clear q1); (try clear q2); (try clear q3); (try clear q4); (try clear q5); (try clear q6); (try clear q4'); (try clear q5'); (try clear q6'); (try clear hh_ia); (try clear hh_ib); omega), fun q hq => by simp [intF, okCells, cellA], by ((try clear q1); (try clear q2); (try clear q3); (try clear q4); (try clear q5); (try clear q6); (try clear q4'); (try clear q5'); (try clear q6'); (try clear hh_ia); (try clear hh_ib); omega), by ((try clear q1); (try clear q2); (try clear q3); (try clear q4); (try clear q5); (try clear q6); (try clear q4'); (try clear q5'); (try clear q6'); (try clear hh_ia); (try clear hh_ib); omega), ?_⟩
        rotate_left
        focus
          simp only [vsAll, binA, binLitA, intA, loadA, loadRow, partA, partOk, fieldAddrA, cellA, cellsA, okParts, buildMutA, partIdx, elemsA, lensA, partsA, partsOk, opA, newCells, okCells, storeObj, appendA, nM, dstOk, Nat.reduceAdd, Nat.reduceMul, Nat.reduceLT, Nat.reduceLeDiff, Nat.reduceEqDiff, Nat.reduceBEq, ↓reduceIte, eq_self, wtAll, q4, q5, q5']
          intro ib hh_ib; (try simp only [ite_none] at hh_ib); intro ia hh_ia; (try simp only [ite_none] at hh_ia)
          simp only [vsAll, Nat.reduceLT, ↓reduceIte, eq_self, hh_ib, hh_ia]
          refine ⟨fun q hq => by simp [stF, okCells, cellA], by ((try clear q1); (try clear q2); (try clear q3); (try clear q4); (try clear q5); (try clear q6); (try clear q4'); (try clear q5'); (try clear q6'); (try clear hh_ib); (try clear hh_ia); omega), by ((try clear q1); (try clear q2); (try clear q3); (try clear q4); (try clear q5); (try clear q6); (try clear q4'); (try clear q5'); (try clear q6'); (try clear hh_ib); (try clear hh_ia); omega), fun q hq => by simp [intF, okCells, cellA], by ((try clear q1); (try clear q2); (try clear q3); (try clear q4); (try clear q5); (try clear q6); (try clear q4'); (try clear q5'); (try clear q6'); (try clear hh_ib); (try clear hh_ia); omega), by ((try clear q1); (try clear q2); (try clear q3); (try clear q4); (try clear q5); (try clear q6); (try clear q4'); (try clear q5'); (try clear q6'); (try clear hh_ib); (try clear hh_ia); omega), ?_⟩
        rotate_left
        all_goals
          skip
          refine condV (fun hF => ?_) (fun hF => ?_)
          · have hF0 : 0 < x.F := of_decide_eq_true hF
            have hml := hk.st s hs
            simp only [vsAll, binA, binLitA, intA, convA, opA, dstOk, nilSliceOp, Nat.reduceLT, Nat.reduceEqDiff, Nat.reduceBEq, Int.reduceEq, ↓reduceIte, eq_self, ne_eq, wtAll]
            refine ⟨by simp only [InR_i64]; ((try clear q1); (try clear q2); (try clear q3); (try clear q4); (try clear q5); (try clear q6); (try clear q4'); (try clear q5'); (try clear q6'); (try clear hh_ia); (try clear hh_ib); omega), ?_⟩
            refine vs_draw2 [0, 0, 0, 1, 0, 0, 0, 0, 0, 3, 0, 0, 0, 0, 0, 0, 0, 0, 0, 0, 0, 0, 0, 4, 4, 5, 6, 7] [([0, 1, 2, 4, 5, 6, 7, 8, 10, 11, 12, 13, 14, 15, 16, 17, 18, 19, 20, 21, 22], [1, 5, 8, 14], 3), ([], [1, 14], 9), ([23, 24], [1], 25), ([26], [], 27)] [] (by decide +kernel) ?_
            simp only [vsAll, binA, binLitA, intA, loadA, loadRow, partA, partOk, fieldAddrA, indexAddrA, okParts, buildMutA, partIdx, elemsA, lensA, convA, mmA, okAll, stAll, opsA, partsA, partsOk, opA, appendA, dstOk, Nat.reduceMul, Nat.reduceLT, Nat.reduceLeDiff, Nat.reduceEqDiff, Nat.reduceBEq, Int.reduceEq, ↓reduceIte, eq_self, ne_eq, wtAll, q5, stF_at]
            have hF4 := hk.F.2
            have hq10 : 0 ≤ u.tdiv 10 ∧ u.tdiv 10 ≤ 25 := by
              have := Int.tdiv_eq_ediv_of_nonneg hu.1 (b := 10)
              ((try clear q1); (try clear q2); (try clear q3); (try clear q4); (try clear q5); (try clear q6); (try clear q4'); (try clear q5'); (try clear q6'); (try clear hh_ia); (try clear hh_ib); omega)
            have hq40 : 0 ≤ u.tdiv 40 ∧ u.tdiv 40 ≤ 6 := by
              have := Int.tdiv_eq_ediv_of_nonneg hu.1 (b := 40)
              ((try clear q1); (try clear q2); (try clear q3); (try clear q4); (try clear q5); (try clear q6); (try clear q4'); (try clear q5'); (try clear q6'); (try clear hh_ia); (try clear hh_ib); omega)
            have hr10 : 0 ≤ u.tmod 10 ∧ u.tmod 10 ≤ 9 := by
              have := Int.tmod_eq_emod_of_nonneg hu.1 (b := 10)
              ((try clear q1); (try clear q2); (try clear q3); (try clear q4); (try clear q5); (try clear q6); (try clear q4'); (try clear q5'); (try clear q6'); (try clear hh_ia); (try clear hh_ib); omega)
            refine ⟨by ((try clear q1); (try clear q2); (try clear q3); (try clear q4); (try clear q5); (try clear q6); (try clear q4'); (try clear q5'); (try clear q6'); (try clear hh_ia); (try clear hh_ib); omega), by ((try clear q1); (try clear q2); (try clear q3); (try clear q4); (try clear q5); (try clear q6); (try clear q4'); (try clear q5'); (try clear q6'); (try clear hh_ia); (try clear hh_ib); omega), by simp only [InR_i64]; ((try clear q1); (try clear q2); (try clear q3); (try clear q4); (try clear q5); (try clear q6); (try clear q4'); (try clear q5'); (try clear q6'); (try clear hh_ia); (try clear hh_ib); omega), by simp only [InR_i64]; ((try clear q1); (try clear q2); (try clear q3); (try clear q4); (try clear q5); (try clear q6); (try clear q4'); (try clear q5'); (try clear q6'); (try clear hh_ia); (try clear hh_ib); omega), by ((try clear q1); (try clear q2); (try clear q3); (try clear q4); (try clear q5); (try clear q6); (try clear q4'); (try clear q5'); (try clear q6'); (try clear hh_ia); (try clear hh_ib); omega), by simp only [InR_i64]; ((try clear q1); (try clear q2); (try clear q3); (try clear q4); (try clear q5); (try clear q6); (try clear q4'); (try clear q5'); (try clear q6'); (try clear hh_ia); (try clear hh_ib); omega), by simp only [InR_i64]; ((try clear q1); (try clear q2); (try clear q3); (try clear q4); (try clear q5); (try clear q6); (try clear q4'); (try clear q5'); (try clear q6'); (try clear hh_ia); (try clear hh_ib); omega), by simp only [InR_i64]; ((try clear q1); (try clear q2); (try clear q3); (try clear q4); (try clear q5); (try clear q6); (try clear q4'); (try clear q5'); (try clear q6'); (try clear hh_ia); (try clear hh_ib); omega), ?_⟩
            intro im hh_im; (try simp only [ite_none] at hh_im)
            simp only [vsAll, Nat.reduceLT, ↓reduceIte, eq_self, hh_im]
            refine ⟨hs, fun q hq => by simp [mkF, okCells, cellA], by ((try clear q1); (try clear q2); (try clear q3); (try clear q4); (try clear q5); (try clear q6); (try clear q4'); (try clear q5'); (try clear q6'); (try clear hh_ia); (try clear hh_ib); (try clear hh_im); omega), by ((try clear q1); (try clear q2); (try clear q3); (try clear q4); (try clear q5); (try clear q6); (try clear q4'); (try clear q5'); (try clear q6'); (try clear hh_ia); (try clear hh_ib); (try clear hh_im); omega), ?_⟩
            refine qcall _ ⟨trivial, by simp only [vsAll, okAll, opsA, opA, Nat.reduceEqDiff, ↓reduceIte, eq_self], mark_tri ((u.tdiv 10).tmod x.F) (u.tmod 10) (min 9 (u.tmod 10 + u.tdiv 40)) _⟩ ?_
            generalize hmk : (⟨(u.tdiv 10).tmod x.F, u.tmod 10, min 9 (u.tmod 10 + u.tdiv 40)⟩ : Mk) = mk
            rw [show (u.tdiv 10).tmod x.F = mk.f by rw [← hmk], show (min 9 (u.tmod 10 + u.tdiv 40)) = mk.hi by rw [← hmk], show (u.tmod 10) = mk.lo by rw [← hmk]]
            simp only [vsAll, binA, binLitA, intA, loadA, loadRow, partA, partOk, fieldAddrA, indexAddrA, cellA, cellsA, fillA, okParts, buildSliceA, buildMutA, partIdx, elemsA, lensA, partsA, partsOk, opA, newCells, okCells, storeObj, appendA, dstOk, Nat.reduceAdd, Nat.reduceMul, Nat.reduceLT, Nat.reduceLeDiff, Nat.reduceEqDiff, Nat.reduceBEq, Int.reduceEq, ↓reduceIte, eq_self, ne_eq, wtAll, q5, q6, q4', hh_ia, hh_ib, hh_im]
            refine ⟨fun q hq => by simp [okCells, cellA, show q = 0 by ((try clear q1); (try clear q2); (try clear q3); (try clear q4); (try clear q5); (try clear q6); (try clear q4'); (try clear q5'); (try clear q6'); (try clear hh_ia); (try clear hh_ib); (try clear hh_im); omega)], by ((try clear q1); (try clear q2); (try clear q3); (try clear q4); (try clear q5); (try clear q6); (try clear q4'); (try clear q5'); (try clear q6'); (try clear hh_ia); (try clear hh_ib); (try clear hh_im); omega), by ((try clear q1); (try clear q2); (try clear q3); (try clear q4); (try clear q5); (try clear q6); (try clear q4'); (try clear q5'); (try clear q6'); (try clear hh_ia); (try clear hh_ib); (try clear hh_im); omega), ⟨by ((try clear q1); (try clear q2); (try clear q3); (try clear q4); (try clear q5); (try clear q6); (try clear q4'); (try clear q5'); (try clear q6'); (try clear hh_ia); (try clear hh_ib); (try clear hh_im); omega), by ((try clear q1); (try clear q2); (try clear q3); (try clear q4); (try clear q5); (try clear q6); (try clear q4'); (try clear q5'); (try clear q6'); (try clear hh_ia); (try clear hh_ib); (try clear hh_im); omega)⟩, hs, ?_⟩
            intro icl hh_icl; (try simp only [ite_none] at hh_icl)
            refine ⟨fun q hq => by simp [clF, okCells, cellA], by ((try clear q1); (try clear q2); (try clear q3); (try clear q4); (try clear q5); (try clear q6); (try clear q4'); (try clear q5'); (try clear q6'); (try clear hh_ia); (try clear hh_ib); (try clear hh_im); (try clear hh_icl); omega), by ((try clear q1); (try clear q2); (try clear q3); (try clear q4); (try clear q5); (try clear q6); (try clear q4'); (try clear q5'); (try clear q6'); (try clear hh_ia); (try clear hh_ib); (try clear hh_im); (try clear hh_icl); omega), fun q hq => by simp [okCells, cellA, show q = 0 by ((try clear q1); (try clear q2); (try clear q3); (try clear q4); (try clear q5); (try clear q6); (try clear q4'); (try clear q5'); (try clear q6'); (try clear hh_ia); (try clear hh_ib); (try clear hh_im); (try clear hh_icl); omega)], by ((try clear q1); (try clear q2); (try clear q3); (try clear q4); (try clear q5); (try clear q6); (try clear q4'); (try clear q5'); (try clear q6'); (try clear hh_ia); (try clear hh_ib); (try clear hh_im); (try clear hh_icl); omega), by ((try clear q1); (try clear q2); (try clear q3); (try clear q4); (try clear q5); (try clear q6); (try clear q4'); (try clear q5'); (try clear q6'); (try clear hh_ia); (try clear hh_ib); (try clear hh_im); (try clear hh_icl); omega), ?_⟩
            simp only [vsAll, Nat.reduceLT, ↓reduceIte, eq_self, hh_icl]
            refine vs_entR (Ent.of [(1, .lit (.int .u8 w)), (2, .lit (.int .u8 c)), (3, .lit (.int .u8 u)), (4, .rptr 1 5 (fun _ => x.cs) 0 0), (9, i64 s), (10, i64 o), (11, i64 ((truA x).length : Nat)), (13, i64 ((falseP x).1 : Nat)), (15, i64 (falseE x)), (16, .ref i16 0 5 0 0), (17, .ref i17 0 5 0 0), (18, .ref i18 0 5 0 0)]
              (H' := (((((((H.set ib (.row 1 x.ow.length (appF 0 x.ow.length (fun _ => []) (intF x.mo)))).set i18 (.box 5 1 fun _ => [i64 x.F, llAV x.ow, .sl ib 1 x.ow.length, stAV x.st, clAV x.cl])).set im (.row 3 ((x.st.getD s []).length + 1) (exM (x.st.getD s []) mk))).set ia (.row 1 x.st.length (updF x.st.length s (appF 0 x.st.length (fun _ => []) (stF x.st)) (.sl im 3 ((x.st.getD s []).length + 1) :: List.drop 1 ((appF 0 x.st.length (fun _ => []) (stF x.st)) s))))).set icl (.row 3 (x.cl.length + 1) (appF x.cl.length 1 (appF 0 x.cl.length (fun _ => []) (clF x.cl)) fun i => [[i64 s, i64 o, boo (decide (u.tmod 2 = 0))]].getD i []))).set i16 (.box 5 1 fun _ => [i64 x.F, llAV x.ow, intsAV x.mo, .sl ia 1 x.st.length, clAV x.cl])).set i17 (.box 5 1 fun _ => [i64 x.F, llAV x.ow, intsAV x.mo, stAV x.st, .sl icl 3 (x.cl.length + 1)]))) (by simp only [vsAll, Nat.reduceEqDiff, ↓reduceIte, eq_self]) (by (repeat (first | exact HSub_rfl | refine HSub_put_eq (by simp only [vsAll, ↓reduceIte, eq_self, q4, q5, q6', hh_ia, hh_ib, hh_im, hh_icl]) ?_ | refine HSub_drop2 (by simp only [eq_self, q1, q2, q3, hh_ia, hh_ib, hh_im, hh_icl]) ?_ | refine HSub_keep_eq (by simp only [vsAll, binA, binLitA, intA, aggA, boolA, nilA2, isConst, unA, loadA, loadRow, partA, partOk, fieldAddrA, indexAddrA, indexA, fieldA, extractA, lenA, nilCheckA, boxA, cellA, cellsA, fillA, okParts, buildSliceA, buildMutA, makeSliceA, partIdx, elemsA, lensA, ifaceA, convA, mmA, pickA, okAll, stAll, opsA, partsA, partsOk, opA, allocA, boxMutA, newCells, okCells, storeObj, appendA, guardV, taA, nM, mapUpA, lookA, sliceA, boundsA, opO, okO, copyA, dstOk, nilA, quietOk, nilSliceOp, panA, resA, argFr, retA.eq_1, retA.eq_2, Nat.reduceAdd, Nat.reduceSub, Nat.reduceMul, Nat.reduceLT, Nat.reduceLeDiff, Nat.reduceEqDiff, Nat.reduceBEq, Int.reduceAdd, Int.reduceSub, Int.reduceMul, Int.reduceNeg, Int.reduceLE, Int.reduceLT, Int.reduceEq, Int.reduceNe, Int.reduceToNat, ↓reduceIte, reduceCtorEq, implies_true, forall_const, eq_self, ne_eq, wtAll, Try.ntmps11, Try.results11, q1, q2, q3, q4, q5, q6, q4', q5', q6', hh_ia, hh_ib, hh_im, hh_icl]) ?_))) ?_)
            refine vs_entR (Ent.freezeRow (s' := _) (id := im) (st := 3) (n := ((x.st.getD s []).length + 1)) (f := (exM (x.st.getD s []) mk)) (j := ia) (st' := 1) (n' := x.st.length) (g := (updF x.st.length s (appF 0 x.st.length (fun _ => []) (stF x.st)) (.sl im 3 ((x.st.getD s []).length + 1) :: List.drop 1 ((appF 0 x.st.length (fun _ => []) (stF x.st)) s)))) (g' := (fun j => if j = s then [.rsl ((x.st.getD s []).length + 1) 3 (exM (x.st.getD s []) mk)] else stF x.st j)) (by simp only [vsAll, ↓reduceIte, eq_self, hh_im, hh_icl]) (by simp only [vsAll, ↓reduceIte, eq_self, hh_ia, hh_icl]) (by simp only [vsAll, ne_eq, hh_im]) (fun t => .rfl) (fun q hq => ?_) (fun q c hq hc => ?_) ?_)
            · show (ite _ _ _ : List AV).length = 1
              split <;> rfl
            · have hc0 : c = 0 := by ((try clear q1); (try clear q2); (try clear q3); (try clear q4); (try clear q5); (try clear q6); (try clear q4'); (try clear q5'); (try clear q6'); (try clear hh_ia); (try clear hh_ib); (try clear hh_im); (try clear hh_icl); omega)
              subst hc0
              rw [updF_at hs hq]
              show Frz im 3 _ _ _ (List.getD (if q = s then _ else _) 0 .any)
              split
              · exact Frz.hit
              · rw [appF_at (by ((try clear q1); (try clear q2); (try clear q3); (try clear q4); (try clear q5); (try clear q6); (try clear q4'); (try clear q5'); (try clear q6'); (try clear hh_ia); (try clear hh_ib); (try clear hh_im); (try clear hh_icl); omega)), if_neg (by ((try clear q1); (try clear q2); (try clear q3); (try clear q4); (try clear q5); (try clear q6); (try clear q4'); (try clear q5'); (try clear q6'); (try clear hh_ia); (try clear hh_ib); (try clear hh_im); (try clear hh_icl); omega)), Nat.sub_zero]
                exact Frz.rfl
            refine vs_entR (Ent.of [(1, .lit (.int .u8 w)), (2, .lit (.int .u8 c)), (3, .lit (.int .u8 u)), (4, .rptr 1 5 (fun _ => x.cs) 0 0), (9, i64 s), (10, i64 o), (11, i64 ((truA x).length : Nat)), (13, i64 ((falseP x).1 : Nat)), (15, i64 (falseE x)), (16, .ref i16 0 5 0 0), (17, .ref i17 0 5 0 0), (18, .ref i18 0 5 0 0)]
              (H' := ((((((H.set ib (.row 1 x.ow.length (appF 0 x.ow.length (fun _ => []) (intF x.mo)))).set i18 (.box 5 1 fun _ => [i64 x.F, llAV x.ow, .sl ib 1 x.ow.length, stAV x.st, clAV x.cl])).set icl (.row 3 (x.cl.length + 1) (appF x.cl.length 1 (appF 0 x.cl.length (fun _ => []) (clF x.cl)) fun i => [[i64 s, i64 o, boo (decide (u.tmod 2 = 0))]].getD i []))).set i16 (.box 5 1 fun _ => [i64 x.F, llAV x.ow, intsAV x.mo, .sl ia 1 x.st.length, clAV x.cl])).set i17 (.box 5 1 fun _ => [i64 x.F, llAV x.ow, intsAV x.mo, stAV x.st, .sl icl 3 (x.cl.length + 1)])).set ia (.row 1 x.st.length (fun j => if j = s then [.rsl ((x.st.getD s []).length + 1) 3 (exM (x.st.getD s []) mk)] else stF x.st j)))) (by simp only [vsAll, Nat.reduceEqDiff, ↓reduceIte, eq_self]) (HSub.set (HSub_del (by simp only [vsAll, ↓reduceIte, eq_self, hh_im, hh_icl]) (by (repeat (first | exact HSub_rfl | refine HSub_put_eq (by simp only [vsAll, ↓reduceIte, eq_self, q4, q5', q6', hh_ia, hh_ib, hh_im, hh_icl]) ?_ | refine HSub_drop2 (by simp only [eq_self, q1, q2, q3, hh_ia, hh_ib, hh_im, hh_icl]) ?_ | refine HSub_keep_eq (by simp only [vsAll, binA, binLitA, intA, aggA, boolA, nilA2, isConst, unA, loadA, loadRow, partA, partOk, fieldAddrA, indexAddrA, indexA, fieldA, extractA, lenA, nilCheckA, boxA, cellA, cellsA, fillA, okParts, buildSliceA, buildMutA, makeSliceA, partIdx, elemsA, lensA, ifaceA, convA, mmA, pickA, okAll, stAll, opsA, partsA, partsOk, opA, allocA, boxMutA, newCells, okCells, storeObj, appendA, guardV, taA, nM, mapUpA, lookA, sliceA, boundsA, opO, okO, copyA, dstOk, nilA, quietOk, nilSliceOp, panA, resA, argFr, retA.eq_1, retA.eq_2, Nat.reduceAdd, Nat.reduceSub, Nat.reduceMul, Nat.reduceLT, Nat.reduceLeDiff, Nat.reduceEqDiff, Nat.reduceBEq, Int.reduceAdd, Int.reduceSub, Int.reduceMul, Int.reduceNeg, Int.reduceLE, Int.reduceLT, Int.reduceEq, Int.reduceNe, Int.reduceToNat, ↓reduceIte, reduceCtorEq, implies_true, forall_const, eq_self, ne_eq, wtAll, Try.ntmps11, Try.results11, q1, q2, q3, q4, q5, q6, q4', q5', q6', hh_ia, hh_ib, hh_im, hh_icl]) ?_)))) (.refl _)) ?_)
            refine vs_entR (Ent.freezeBox (s' := _) (id := ia) (st := 1) (n := x.st.length) (f := (fun j => if j = s then [.rsl ((x.st.getD s []).length + 1) 3 (exM (x.st.getD s []) mk)] else stF x.st j)) (j := i16) (st' := 5) (n' := 1) (g := fun _ => [i64 x.F, llAV x.ow, intsAV x.mo, .sl ia 1 x.st.length, clAV x.cl]) (g' := fun _ => [i64 x.F, llAV x.ow, intsAV x.mo, .rsl x.st.length 1 (fun j => if j = s then [.rsl ((x.st.getD s []).length + 1) 3 (exM (x.st.getD s []) mk)] else stF x.st j), clAV x.cl]) (by simp only [vsAll, ↓reduceIte, eq_self]) (by simp only [vsAll, ↓reduceIte, eq_self, q4, hh_ia]) (fun t => .rfl) (fun _ _ => rfl) (fun q d hq hd => ?_) ?_)
            · match d, hd with
              | 0, _ => exact .rfl
              | 1, _ => exact .rfl
              | 2, _ => exact .rfl
              | 3, _ => exact .hit
              | 4, _ => exact .rfl
            refine vs_entR (Ent.freezeBox (s' := _) (id := icl) (st := 3) (n := x.cl.length + 1) (f := (appF x.cl.length 1 (appF 0 x.cl.length (fun _ => []) (clF x.cl)) fun i => [[i64 s, i64 o, boo (decide (u.tmod 2 = 0))]].getD i [])) (j := i17) (st' := 5) (n' := 1) (g := fun _ => [i64 x.F, llAV x.ow, intsAV x.mo, stAV x.st, .sl icl 3 (x.cl.length + 1)]) (g' := fun _ => [i64 x.F, llAV x.ow, intsAV x.mo, stAV x.st, .rsl (x.cl.length + 1) 3 (appF x.cl.length 1 (appF 0 x.cl.length (fun _ => []) (clF x.cl)) fun i => [[i64 s, i64 o, boo (decide (u.tmod 2 = 0))]].getD i [])]) (by simp only [vsAll, ↓reduceIte, eq_self, hh_icl, Hp.del_get]) (by simp only [vsAll, ↓reduceIte, eq_self, q4', hh_ia, Hp.del_get]) (fun t => .rfl) (fun _ _ => rfl) (fun q d hq hd => ?_) ?_)
            · match d, hd with
              | 0, _ => exact .rfl
              | 1, _ => exact .rfl
              | 2, _ => exact .rfl
              | 3, _ => exact .rfl
              | 4, _ => exact .hit
            refine vs_entR (Ent.of [(1, .lit (.int .u8 w)), (2, .lit (.int .u8 c)), (3, .lit (.int .u8 u)), (4, .rptr 1 5 (fun _ => x.cs) 0 0), (9, i64 s), (10, i64 o), (11, i64 ((truA x).length : Nat)), (13, i64 ((falseP x).1 : Nat)), (15, i64 (falseE x)), (16, .ref i16 0 5 0 0), (17, .ref i17 0 5 0 0), (18, .ref i18 0 5 0 0)]
              (H' := ((((H.set ib (.row 1 x.ow.length (intF x.mo))).set i18 (.box 5 1 fun _ => [i64 x.F, llAV x.ow, .sl ib 1 x.ow.length, stAV x.st, clAV x.cl])).set i16 (.box 5 1 fun _ => (readI x s mk).cs)).set i17 (.box 5 1 fun _ => (saidI x ⟨s, o, decide (u.tmod 2 = 0)⟩).cs))) (by simp only [vsAll, Nat.reduceEqDiff, ↓reduceIte, eq_self]) ?_ ?_)
            · refine HSub.set (HSub_del (by simp only [vsAll, ↓reduceIte, eq_self, hh_icl]) (HSub.set (HSub_del (by simp only [vsAll, ↓reduceIte, eq_self, hh_ia, hh_ib]) (HSub_drop2 (by simp only [vsAll, ↓reduceIte, eq_self, hh_ia, hh_ib]) (HSub_drop2 (by simp only [vsAll, ↓reduceIte, eq_self, q2, q6, hh_ib]) (HSub_drop2 (by simp only [vsAll, ↓reduceIte, eq_self, q1, q5, hh_ib]) (HSub_drop2 (by simp only [vsAll, ↓reduceIte, eq_self, hh_icl]) (HSub.set (HSub.set HSub_rfl (row_ext fun q hq => by rw [appF_at (by ((try clear q1); (try clear q2); (try clear q3); (try clear q4); (try clear q5); (try clear q6); (try clear q4'); (try clear q5'); (try clear q6'); (try clear hh_ia); (try clear hh_ib); (try clear hh_im); (try clear hh_icl); omega)), if_neg (by ((try clear q1); (try clear q2); (try clear q3); (try clear q4); (try clear q5); (try clear q6); (try clear q4'); (try clear q5'); (try clear q6'); (try clear hh_ia); (try clear hh_ib); (try clear hh_im); (try clear hh_icl); omega)), Nat.sub_zero])) (.refl _))))))) (box_leA (fun _ _ => rfl) fun q hq c hc => ?_))) (box_leA (fun _ _ => rfl) fun q hq c hc => ?_)
              · match c, hc with
                | 0, _ => exact AV.Le.refl _
                | 1, _ => exact AV.Le.refl _
                | 2, _ => exact AV.Le.refl _
                | 3, _ => exact stR_le x s mk hs
                | 4, _ => exact AV.Le.refl _
              · match c, hc with
                | 0, _ => exact AV.Le.refl _
                | 1, _ => exact AV.Le.refl _
                | 2, _ => exact AV.Le.refl _
                | 3, _ => exact AV.Le.refl _
                | 4, _ =>
                  have esd : clAV (saidI x ⟨s, o, decide (u.tmod 2 = 0)⟩).cl = .rsl (x.cl.length + 1) 3 (clF (x.cl ++ [⟨s, o, decide (u.tmod 2 = 0)⟩])) := by simp [saidI, clAV]
                  show AV.Le _ (clAV _)
                  rw [esd]
                  exact AV.Le.rsl fun q hq => app2_cl x.cl _ _ rfl hq
            exact tail (readI x s mk) ib (readI_less x s mk) (by simp_all)
          · simp only [vsAll, binA, binLitA, intA, loadA, loadRow, partA, partOk, fieldAddrA, cellA, cellsA, fillA, okParts, buildSliceA, buildMutA, partIdx, elemsA, lensA, partsA, partsOk, opA, newCells, okCells, storeObj, appendA, dstOk, Nat.reduceAdd, Nat.reduceMul, Nat.reduceLT, Nat.reduceLeDiff, Nat.reduceEqDiff, Nat.reduceBEq, Int.reduceEq, ↓reduceIte, eq_self, ne_eq, wtAll, q6, q4', hh_ia, hh_ib]
            intro icl hh_icl; (try simp only [ite_none] at hh_icl)
            refine ⟨fun q hq => by simp [clF, okCells, cellA], by ((try clear q1); (try clear q2); (try clear q3); (try clear q4); (try clear q5); (try clear q6); (try clear q4'); (try clear q5'); (try clear q6'); (try clear hh_ia); (try clear hh_ib); (try clear hh_icl); omega), by ((try clear q1); (try clear q2); (try clear q3); (try clear q4); (try clear q5); (try clear q6); (try clear q4'); (try clear q5'); (try clear q6'); (try clear hh_ia); (try clear hh_ib); (try clear hh_icl); omega), fun q hq => by simp [okCells, cellA, show q = 0 by ((try clear q1); (try clear q2); (try clear q3); (try clear q4); (try clear q5); (try clear q6); (try clear q4'); (try clear q5'); (try clear q6'); (try clear hh_ia); (try clear hh_ib); (try clear hh_icl); omega)], by ((try clear q1); (try clear q2); (try clear q3); (try clear q4); (try clear q5); (try clear q6); (try clear q4'); (try clear q5'); (try clear q6'); (try clear hh_ia); (try clear hh_ib); (try clear hh_icl); omega), by ((try clear q1); (try clear q2); (try clear q3); (try clear q4); (try clear q5); (try clear q6); (try clear q4'); (try clear q5'); (try clear q6'); (try clear hh_ia); (try clear hh_ib); (try clear hh_icl); omega), ?_⟩
            simp only [vsAll, Nat.reduceLT, ↓reduceIte, eq_self, hh_icl]
            refine vs_entR (Ent.of [(1, .lit (.int .u8 w)), (2, .lit (.int .u8 c)), (3, .lit (.int .u8 u)), (4, .rptr 1 5 (fun _ => x.cs) 0 0), (9, i64 s), (10, i64 o), (11, i64 ((truA x).length : Nat)), (13, i64 ((falseP x).1 : Nat)), (15, i64 (falseE x)), (16, .ref i16 0 5 0 0), (17, .ref i17 0 5 0 0), (18, .ref i18 0 5 0 0)]
              (H' := ((((((H.set ia (.row 1 x.st.length (stF x.st))).set ib (.row 1 x.ow.length (intF x.mo))).set i16 (.box 5 1 fun _ => [i64 x.F, llAV x.ow, intsAV x.mo, .sl ia 1 x.st.length, clAV x.cl])).set i18 (.box 5 1 fun _ => [i64 x.F, llAV x.ow, .sl ib 1 x.ow.length, stAV x.st, clAV x.cl])).set icl (.row 3 (x.cl.length + 1) (clF (x.cl ++ [⟨s, o, decide (u.tmod 2 = 0)⟩])))).set i17 (.box 5 1 fun _ => [i64 x.F, llAV x.ow, intsAV x.mo, stAV x.st, .sl icl 3 (x.cl.length + 1)]))) (by simp only [vsAll, Nat.reduceEqDiff, ↓reduceIte, eq_self]) ?_ ?_)
            · refine HSub.set (HSub.set (HSub_drop2 ?_ (HSub_drop2 ?_ ?_)) (row_ext fun q hq => ?_)) (.refl _)
              · simp only [vsAll, ↓reduceIte, eq_self, hh_icl]
              · simp only [vsAll, ↓reduceIte, eq_self, hh_icl]
              · first
                  | exact HSub.set (HSub.set (HSub.set (HSub_drop2 (by simp only [vsAll, ↓reduceIte, reduceCtorEq, eq_self, hh_ib]) (HSub.set (HSub_drop2 (by simp only [eq_self, hh_ia, hh_ib]) (HSub_drop2 (by simp only [eq_self, q3]) (HSub_drop2 (by simp only [eq_self, q2]) (HSub_drop2 (by simp only [eq_self, q1]) HSub_rfl)))) (row_ext fun q hq => by rw [appF_at (by ((try clear q1); (try clear q2); (try clear q3); (try clear q4); (try clear q5); (try clear q6); (try clear q4'); (try clear q5'); (try clear q6'); (try clear hh_ia); (try clear hh_ib); (try clear hh_icl); omega)), if_neg (by ((try clear q1); (try clear q2); (try clear q3); (try clear q4); (try clear q5); (try clear q6); (try clear q4'); (try clear q5'); (try clear q6'); (try clear hh_ia); (try clear hh_ib); (try clear hh_icl); omega)), Nat.sub_zero]))) (row_ext fun q hq => by rw [appF_at (by ((try clear q1); (try clear q2); (try clear q3); (try clear q4); (try clear q5); (try clear q6); (try clear q4'); (try clear q5'); (try clear q6'); (try clear hh_ia); (try clear hh_ib); (try clear hh_icl); omega)), if_neg (by ((try clear q1); (try clear q2); (try clear q3); (try clear q4); (try clear q5); (try clear q6); (try clear q4'); (try clear q5'); (try clear q6'); (try clear hh_ia); (try clear hh_ib); (try clear hh_icl); omega)), Nat.sub_zero])) (.refl _)) (.refl _)
                  | exact HSub.set (HSub.set (HSub.set (HSub.set (HSub_drop2 (by simp only [eq_self, hh_ia, hh_ib]) (HSub_drop2 (by simp only [eq_self, hh_ia, hh_ib]) (HSub_drop2 (by simp only [eq_self, q3]) (HSub_drop2 (by simp only [eq_self, q2]) (HSub_drop2 (by simp only [eq_self, q1]) HSub_rfl))))) (row_ext fun q hq => by rw [appF_at (by ((try clear q1); (try clear q2); (try clear q3); (try clear q4); (try clear q5); (try clear q6); (try clear q4'); (try clear q5'); (try clear q6'); (try clear hh_ia); (try clear hh_ib); (try clear hh_icl); omega)), if_neg (by ((try clear q1); (try clear q2); (try clear q3); (try clear q4); (try clear q5); (try clear q6); (try clear q4'); (try clear q5'); (try clear q6'); (try clear hh_ia); (try clear hh_ib); (try clear hh_icl); omega)), Nat.sub_zero])) (row_ext fun q hq => by rw [appF_at (by ((try clear q1); (try clear q2); (try clear q3); (try clear q4); (try clear q5); (try clear q6); (try clear q4'); (try clear q5'); (try clear q6'); (try clear hh_ia); (try clear hh_ib); (try clear hh_icl); omega)), if_neg (by ((try clear q1); (try clear q2); (try clear q3); (try clear q4); (try clear q5); (try clear q6); (try clear q4'); (try clear q5'); (try clear q6'); (try clear hh_ia); (try clear hh_ib); (try clear hh_icl); omega)), Nat.sub_zero])) (.refl _)) (.refl _)
              exact app2_cl x.cl _ _ rfl hq
            refine vs_entR (Ent.freezeBox (s' := _) (id := ia) (st := 1) (n := x.st.length) (f := stF x.st) (j := i16) (st' := 5) (n' := 1) (g := fun _ => [i64 x.F, llAV x.ow, intsAV x.mo, .sl ia 1 x.st.length, clAV x.cl]) (g' := fun _ => x.cs) (by simp only [vsAll, ↓reduceIte, eq_self, hh_ia, hh_ib, hh_icl]) (by simp only [vsAll, ↓reduceIte, eq_self, q4, q5, hh_icl]) (fun t => .rfl) (fun _ _ => rfl) (fun q d hq hd => ?_) ?_)
            · match d, hd with
              | 0, _ => exact .rfl
              | 1, _ => exact .rfl
              | 2, _ => exact .rfl
              | 3, _ => exact .hit
              | 4, _ => exact .rfl
            refine vs_entR (Ent.freezeBox (s' := _) (id := icl) (st := 3) (n := x.cl.length + 1) (f := clF (x.cl ++ [⟨s, o, decide (u.tmod 2 = 0)⟩])) (j := i17) (st' := 5) (n' := 1) (g := fun _ => [i64 x.F, llAV x.ow, intsAV x.mo, stAV x.st, .sl icl 3 (x.cl.length + 1)]) (g' := fun _ => [i64 x.F, llAV x.ow, intsAV x.mo, stAV x.st, .rsl (x.cl.length + 1) 3 (clF (x.cl ++ [⟨s, o, decide (u.tmod 2 = 0)⟩]))]) (by simp only [vsAll, ↓reduceIte, eq_self, hh_icl, Hp.del_get]) (by simp only [vsAll, ↓reduceIte, eq_self, q4', hh_ia, Hp.del_get]) (fun t => .rfl) (fun _ _ => rfl) (fun q d hq hd => ?_) ?_)
            · match d, hd with
              | 0, _ => exact .rfl
              | 1, _ => exact .rfl
              | 2, _ => exact .rfl
              | 3, _ => exact .rfl
              | 4, _ => exact .hit
            have esd : (saidI x ⟨s, o, decide (u.tmod 2 = 0)⟩).cs = [i64 x.F, llAV x.ow, intsAV x.mo, stAV x.st, .rsl (x.cl.length + 1) 3 (clF (x.cl ++ [⟨s, o, decide (u.tmod 2 = 0)⟩]))] := by simp [saidI, clAV]
            refine vs_entR (Ent.of [(1, .lit (.int .u8 w)), (2, .lit (.int .u8 c)), (3, .lit (.int .u8 u)), (4, .rptr 1 5 (fun _ => x.cs) 0 0), (9, i64 s), (10, i64 o), (11, i64 ((truA x).length : Nat)), (13, i64 ((falseP x).1 : Nat)), (15, i64 (falseE x)), (16, .ref i16 0 5 0 0), (17, .ref i17 0 5 0 0), (18, .ref i18 0 5 0 0)]
              (H' := ((((H.set ib (.row 1 x.ow.length (intF x.mo))).set i18 (.box 5 1 fun _ => [i64 x.F, llAV x.ow, .sl ib 1 x.ow.length, stAV x.st, clAV x.cl])).set i16 (.box 5 1 fun _ => x.cs)).set i17 (.box 5 1 fun _ => (saidI x ⟨s, o, decide (u.tmod 2 = 0)⟩).cs))) (by simp only [vsAll, Nat.reduceEqDiff, ↓reduceIte, eq_self]) ?_ ?_)
            · rw [esd]
              exact HSub.set (HSub_del (by simp only [vsAll, ↓reduceIte, eq_self, hh_icl]) (HSub.set (HSub_del (by simp only [vsAll, ↓reduceIte, eq_self, hh_ia, hh_ib]) (HSub_drop2 (by simp only [vsAll, ↓reduceIte, eq_self, q2, q6, hh_ib]) (HSub_drop2 (by simp only [vsAll, ↓reduceIte, eq_self, hh_icl]) (HSub.set (HSub_drop2 (by simp only [vsAll, ↓reduceIte, eq_self, q1, hh_ib]) (HSub.set (HSub_drop2 (by simp only [eq_self, hh_ia]) HSub_rfl) (.refl _))) (.refl _))))) (.refl _))) (.refl _)
            exact tail x ib (LessI.refl x) (by simp_all)
      · rintro y ib hy ⟨b1, b2, b3, b4⟩
        have b1' : ¬ i16 = ib := fun e => b1 e.symm
        have b2' : ¬ i17 = ib := fun e => b2 e.symm
        have b3' : ¬ i18 = ib := fun e => b3 e.symm
        skip
        have hmo := hk.mo o ho
        refine vs_draw2 [0, 0, 0, 0, 0, 0, 0, 0, 0, 0, 0, 1] [([0, 1, 2, 3, 4, 5, 6, 7, 8, 9, 10], [], 11)] [] (by decide +kernel) ?_
        simp only [vsAll, binA, binLitA, intA, loadA, loadRow, partA, partOk, fieldAddrA, indexAddrA, cellA, cellsA, mmA, okAll, stAll, opsA, opA, newCells, okCells, storeObj, dstOk, Nat.reduceLT, Nat.reduceEqDiff, ↓reduceIte, eq_self, wtAll, q4, q5', q6', b1, b2, b3, b1', intF_at]
        refine ⟨⟨by ((try clear q1); (try clear q2); (try clear q3); (try clear q4); (try clear q5); (try clear q6); (try clear q4'); (try clear q5'); (try clear q6'); (try clear b1); (try clear b2); (try clear b3); (try clear b4); (try clear b1'); (try clear b2'); (try clear b3'); omega), by ((try clear q1); (try clear q2); (try clear q3); (try clear q4); (try clear q5); (try clear q6); (try clear q4'); (try clear q5'); (try clear q6'); (try clear b1); (try clear b2); (try clear b3); (try clear b4); (try clear b1'); (try clear b2'); (try clear b3'); omega)⟩, ho, by simp only [InR_i64]; ((try clear q1); (try clear q2); (try clear q3); (try clear q4); (try clear q5); (try clear q6); (try clear q4'); (try clear q5'); (try clear q6'); (try clear b1); (try clear b2); (try clear b3); (try clear b4); (try clear b1'); (try clear b2'); (try clear b3'); omega), ⟨by ((try clear q1); (try clear q2); (try clear q3); (try clear q4); (try clear q5); (try clear q6); (try clear q4'); (try clear q5'); (try clear q6'); (try clear b1); (try clear b2); (try clear b3); (try clear b4); (try clear b1'); (try clear b2'); (try clear b3'); omega), by ((try clear q1); (try clear q2); (try clear q3); (try clear q4); (try clear q5); (try clear q6); (try clear q4'); (try clear q5'); (try clear q6'); (try clear b1); (try clear b2); (try clear b3); (try clear b4); (try clear b1'); (try clear b2'); (try clear b3'); omega)⟩, ho, ?_⟩
        refine callK_pure (fine_tri y _ (by rw [hy.ow]; ((try clear q1); (try clear q2); (try clear q3); (try clear q4); (try clear q5); (try clear q6); (try clear q4'); (try clear q5'); (try clear q6'); (try clear b1); (try clear b2); (try clear b3); (try clear b4); (try clear b1'); (try clear b2'); (try clear b3'); omega)) (by rw [hy.len]; ((try clear q1); (try clear q2); (try clear q3); (try clear q4); (try clear q5); (try clear q6); (try clear q4'); (try clear q5'); (try clear q6'); (try clear b1); (try clear b2); (try clear b3); (try clear b4); (try clear b1'); (try clear b2'); (try clear b3'); omega))) ?_
        simp only [vsAll, opA, ↓reduceIte, eq_self]
        refine condV (fun hg => ?_) (fun hg => ?_)
        · have ky : Ok y := by
            simp only [Bool.and_eq_true, decide_eq_true_eq] at hg
            exact hg.2
          have kny := ky.near
          have cEy : countE y = 0 := errE_ok ky
          have cVy : countV y = (truA y).length := by rw [countV, if_pos cEy]
          have hle := hy.tru.length_le
          have hfew := hy.few hk ky
          have hcan := fun j (hj : j < x.st.length) => hy.can hk ky hj
          have g1 : decide (((truA x).length : Int) < ((truA y).length : Int)) = false := decide_eq_false (by ((try clear q1); (try clear q2); (try clear q3); (try clear q4); (try clear q5); (try clear q6); (try clear q4'); (try clear q5'); (try clear q6'); (try clear b1); (try clear b2); (try clear b3); (try clear b4); (try clear b1'); (try clear b2'); (try clear b3'); omega))
          simp only [vsAll, loadA, loadRow, partA, partOk, okAll, stAll, opsA, opA, dstOk, Nat.reduceLT, Nat.reduceEqDiff, ↓reduceIte, eq_self, wtAll, q4, b1']
          refine callK_pure (wcount_tri y _ kny) ?_
          rw [cVy, cEy]
          simp only [vsAll, loadA, loadRow, partA, partOk, extractA, okAll, stAll, opsA, opA, dstOk, nilSliceOp, Nat.reduceAdd, Nat.reduceLT, Nat.reduceEqDiff, Nat.reduceBEq, ↓reduceIte, eq_self, wtAll, q4, b1']
          refine callK_pure (wfalse_tri y _ kny) ?_
          simp only [vsAll, binA, binLitA, intA, extractA, pickA, opA, guardV, dstOk, nilSliceOp, Nat.reduceAdd, Nat.reduceLT, Nat.reduceEqDiff, Nat.reduceBEq, ↓reduceIte, implies_true, eq_self, g1]
          refine ⟨fun g => ⟨g, fun g2 => by rw [g, g2]; rfl⟩, condV (fun hb => ?_) (fun hb => ?_)⟩
          · exfalso
            simp at hb
            have hq := hfew hb.1
            rcases hb.2 with h | h
            · exact h hq.1
            · ((try clear q1); (try clear q2); (try clear q3); (try clear q4); (try clear q5); (try clear q6); (try clear q4'); (try clear q5'); (try clear q6'); (try clear b1); (try clear b2); (try clear b3); (try clear b4); (try clear b1'); (try clear b2'); (try clear b3'); omega)
          · simp only [vsAll, loadA, loadRow, partA, partOk, fieldAddrA, lenA, opA, dstOk, Nat.reduceLT, Nat.reduceEqDiff, ↓reduceIte, eq_self, wtAll]
            refine vs_loop (σ := Nat) (fun i => i ≤ x.st.length) (fun i => [(3, .lit (.int .u8 u)), (4, .rptr 1 5 (fun _ => x.cs) 0 0), (9, i64 s), (10, i64 o), (11, i64 ((truA x).length : Nat)), (13, i64 ((falseP x).1 : Nat)), (15, i64 (falseE x)), (16, .ref i16 0 5 0 0), (17, .ref i17 0 5 0 0), (18, .ref i18 0 5 0 0), (190, i64 x.st.length), (191, i64 i)])
              (fun _ => (((((H.set ib (.row 1 x.ow.length (intF x.mo))).set i18 (.box 5 1 fun _ => [i64 x.F, llAV x.ow, .sl ib 1 x.ow.length, stAV x.st, clAV x.cl])).set i16 (.box 5 1 fun _ => y.cs)).set i17 (.box 5 1 fun _ => (saidI x ⟨s, o, decide (u.tmod 2 = 0)⟩).cs)).set ib (.row 1 x.ow.length (updF x.ow.length o (intF x.mo) [i64 (min 6 (x.mo.getD o 0 + 1))])))) (fun i => x.st.length - i) 0 (by ((try clear q1); (try clear q2); (try clear q3); (try clear q4); (try clear q5); (try clear q6); (try clear q4'); (try clear q5'); (try clear q6'); (try clear b1); (try clear b2); (try clear b3); (try clear b4); (try clear b1'); (try clear b2'); (try clear b3'); omega)) ?_ (HSub.refl _) fun i hi => ?_
            · simp only [vsAll, Nat.reduceEqDiff, ↓reduceIte, eq_self, Int.natCast_zero]
            · simp only [vsAll, binA, binLitA, intA, opA, dstOk, Nat.reduceLT, Nat.reduceEqDiff, ↓reduceIte, eq_self]
              refine condD (fun hd => ?_) (fun hd => ?_)
              · have hci := hcan i (by ((try clear q1); (try clear q2); (try clear q3); (try clear q4); (try clear q5); (try clear q6); (try clear q4'); (try clear q5'); (try clear q6'); (try clear b1); (try clear b2); (try clear b3); (try clear b4); (try clear b1'); (try clear b2'); (try clear b3'); omega))
                simp only [vsAll, loadA, loadRow, partA, partOk, okAll, stAll, opsA, opA, dstOk, nilSliceOp, Nat.reduceLT, Nat.reduceEqDiff, Nat.reduceBEq, ↓reduceIte, eq_self, wtAll]
                refine callK_pure (wcan_tri x i _ kn) ?_
                simp only [vsAll, loadA, loadRow, partA, partOk, extractA, okAll, stAll, opsA, opA, dstOk, nilSliceOp, Nat.reduceAdd, Nat.reduceLT, Nat.reduceEqDiff, Nat.reduceBEq, ↓reduceIte, eq_self, wtAll, q4, b1']
                refine callK_pure (wcan_tri y i _ kny) ?_
                have bx : canV x i < 32 := by
                  unfold canV
                  split
                  · rw [Int.toNat_natCast]; exact who_lt hk (by ((try clear q1); (try clear q2); (try clear q3); (try clear q4); (try clear q5); (try clear q6); (try clear q4'); (try clear q5'); (try clear q6'); (try clear b1); (try clear b2); (try clear b3); (try clear b4); (try clear b1'); (try clear b2'); (try clear b3'); omega))
                  · decide
                have bY : canV y i < 32 := by
                  unfold canV
                  split
                  · rw [Int.toNat_natCast]; exact who_lt ky (by rw [hy.len]; ((try clear q1); (try clear q2); (try clear q3); (try clear q4); (try clear q5); (try clear q6); (try clear q4'); (try clear q5'); (try clear q6'); (try clear b1); (try clear b2); (try clear b3); (try clear b4); (try clear b1'); (try clear b2'); (try clear b3'); omega))
                  · decide
                simp only [vsAll, binA, binLitA, intA, extractA, pickA, opA, guardV, dstOk, nilSliceOp, Nat.reduceAdd, Nat.reduceLT, Nat.reduceEqDiff, Nat.reduceBEq, ↓reduceIte, implies_true, eq_self]
                refine ⟨fun g => ⟨g, g, by ((try clear q1); (try clear q2); (try clear q3); (try clear q4); (try clear q5); (try clear q6); (try clear q4'); (try clear q5'); (try clear q6'); (try clear b1); (try clear b2); (try clear b3); (try clear b4); (try clear b1'); (try clear b2'); (try clear b3'); omega), by ((try clear q1); (try clear q2); (try clear q3); (try clear q4); (try clear q5); (try clear q6); (try clear q4'); (try clear q5'); (try clear q6'); (try clear b1); (try clear b2); (try clear b3); (try clear b4); (try clear b1'); (try clear b2'); (try clear b3'); omega), by simp only [InR_i64]; ((try clear q1); (try clear q2); (try clear q3); (try clear q4); (try clear q5); (try clear q6); (try clear q4'); (try clear q5'); (try clear q6'); (try clear b1); (try clear b2); (try clear b3); (try clear b4); (try clear b1'); (try clear b2'); (try clear b3'); omega), by simp only [InR_i64]; ((try clear q1); (try clear q2); (try clear q3); (try clear q4); (try clear q5); (try clear q6); (try clear q4'); (try clear q5'); (try clear q6'); (try clear b1); (try clear b2); (try clear b3); (try clear b4); (try clear b1'); (try clear b2'); (try clear b3'); omega)⟩, fun g => ⟨g, fun g2 => by rw [g, g2]; rfl⟩, condV (fun hb2 => ?_) (fun hb2 => ?_)⟩
                · exfalso
                  rw [Bool.and_eq_true, decide_eq_true_eq] at hb2
                  obtain ⟨z1, z2⟩ := hci hb2.1
                  have hb3 := hb2.2
                  rw [z1, z2] at hb3
                  revert hb3
                  decide
                · simp only [vsAll, binA, binLitA, intA, opA, dstOk, Nat.reduceLT, Nat.reduceEqDiff, ↓reduceIte, eq_self]
                  refine ⟨by simp only [InR_i64]; ((try clear q1); (try clear q2); (try clear q3); (try clear q4); (try clear q5); (try clear q6); (try clear q4'); (try clear q5'); (try clear q6'); (try clear b1); (try clear b2); (try clear b3); (try clear b4); (try clear b1'); (try clear b2'); (try clear b3'); omega), loop_next (i + 1) (by ((try clear q1); (try clear q2); (try clear q3); (try clear q4); (try clear q5); (try clear q6); (try clear q4'); (try clear q5'); (try clear q6'); (try clear b1); (try clear b2); (try clear b3); (try clear b4); (try clear b1'); (try clear b2'); (try clear b3'); omega)) (by ((try clear q1); (try clear q2); (try clear q3); (try clear q4); (try clear q5); (try clear q6); (try clear q4'); (try clear q5'); (try clear q6'); (try clear b1); (try clear b2); (try clear b3); (try clear b4); (try clear b1'); (try clear b2'); (try clear b3'); omega)) ?_ (HSub.refl _)⟩
                  simp only [vsAll, Nat.reduceEqDiff, ↓reduceIte, eq_self, Int.natCast_add, Int.natCast_one]
              · simp only [vsAll, loadA, loadRow, partA, partOk, okAll, stAll, opsA, opA, dstOk, Nat.reduceLT, Nat.reduceEqDiff, ↓reduceIte, eq_self, wtAll, b2']
                refine callK_pure (fine_tri (saidI x ⟨s, o, decide (u.tmod 2 = 0)⟩) _ hO hS) ?_
                generalize hC : (⟨s, o, decide (u.tmod 2 = 0)⟩ : Cl) = C
                have fy1 := said_few (c := C) hk
                simp only [vsAll, opA, ↓reduceIte, eq_self]
                refine condV (fun hg2 => ?_) (fun hg2 => ?_)
                · have kz : Ok (saidI x C) := by
                    simp only [Bool.and_eq_true, decide_eq_true_eq] at hg2
                    exact hg2.2
                  obtain ⟨m1, m2, m3⟩ := fy1 kz
                  have cEz : countE (saidI x C) = 0 := errE_ok kz
                  have cVz : countV (saidI x C) = (truA x).length := by rw [countV, if_pos cEz, truA_said]
                  simp only [vsAll, loadA, loadRow, partA, partOk, okAll, stAll, opsA, opA, dstOk, Nat.reduceLT, Nat.reduceEqDiff, ↓reduceIte, eq_self, wtAll, b2']
                  refine callK_pure (wcount_tri (saidI x C) _ kz.near) ?_
                  rw [cVz, cEz]
                  simp only [vsAll, loadA, loadRow, partA, partOk, extractA, okAll, stAll, opsA, opA, dstOk, nilSliceOp, Nat.reduceAdd, Nat.reduceLT, Nat.reduceEqDiff, Nat.reduceBEq, ↓reduceIte, eq_self, wtAll, b2']
                  refine callK_pure (wfalse_tri (saidI x C) _ kz.near) ?_
                  rw [m1]
                  have hbp : (falseP x).1 ≤ 8 := by
                    by_cases hz : (truA x).length = 0
                    · have e1 : falseE x = 10 := errE_clash hk hz
                      simp [falseP, e1]
                    · obtain ⟨t0, f⟩ := false_spec hk (by ((try clear q1); (try clear q2); (try clear q3); (try clear q4); (try clear q5); (try clear q6); (try clear q4'); (try clear q5'); (try clear q6'); (try clear b1); (try clear b2); (try clear b3); (try clear b4); (try clear b1'); (try clear b2'); (try clear b3'); omega))
                      have hw8 := wrongT_lt8 hk t0
                      rw [f.val]
                      exact Nat.le_trans (pop_all x.cl.length (by ((try clear q1); (try clear q2); (try clear q3); (try clear q4); (try clear q5); (try clear q6); (try clear q4'); (try clear q5'); (try clear q6'); (try clear b1); (try clear b2); (try clear b3); (try clear b4); (try clear b1'); (try clear b2'); (try clear b3'); omega)) _ (by ((try clear q1); (try clear q2); (try clear q3); (try clear q4); (try clear q5); (try clear q6); (try clear q4'); (try clear q5'); (try clear q6'); (try clear b1); (try clear b2); (try clear b3); (try clear b4); (try clear b1'); (try clear b2'); (try clear b3'); omega)) hw8.1).1 nC
                  simp only [vsAll, binA, binLitA, intA, extractA, pickA, opA, guardV, dstOk, nilSliceOp, Nat.reduceAdd, Nat.reduceLT, Nat.reduceEqDiff, Nat.reduceBEq, ↓reduceIte, implies_true, eq_self]
                  refine ⟨fun g => ⟨g, by simp only [InR_i64]; ((try clear q1); (try clear q2); (try clear q3); (try clear q4); (try clear q5); (try clear q6); (try clear q4'); (try clear q5'); (try clear q6'); (try clear b1); (try clear b2); (try clear b3); (try clear b4); (try clear b1'); (try clear b2'); (try clear b3'); omega)⟩, condV (fun hb3 => ?_) (fun hb3 => ?_)⟩
                  · exfalso
                    simp at hb3
                    ((try clear q1); (try clear q2); (try clear q3); (try clear q4); (try clear q5); (try clear q6); (try clear q4'); (try clear q5'); (try clear q6'); (try clear b1); (try clear b2); (try clear b3); (try clear b4); (try clear b1'); (try clear b2'); (try clear b3'); omega)
                  · simp only [vsAll, loadA, loadRow, partA, partOk, okAll, stAll, opsA, opA, dstOk, Nat.reduceLT, Nat.reduceEqDiff, ↓reduceIte, eq_self, wtAll, q5', q6', b3']
                    have lm : (moreI x o).mo.length = x.ow.length := by simp [moreI, hk.nM]
                    have ko := moreI_ok hk ho
                    have hmF : ∀ i, i < x.ow.length → updF x.ow.length o (intF x.mo) [i64 (min 6 (x.mo.getD o 0 + 1))] i = intF (moreI x o).mo i := fun i hi => by
                      have e : (moreI x o).mo.getD i 0 = moR x o i := getD_mapR _ _ _ _ (by rw [hk.nM]; exact hi)
                      rw [updF_at ho hi]
                      show _ = [i64 ((moreI x o).mo.getD i 0)]
                      rw [e, moR]
                      split <;> rfl
                    have cEo : countE (moreI x o) = 0 := errE_ok ko
                    have cVo : countV (moreI x o) = (truA (moreI x o)).length := by rw [countV, if_pos cEo]
                    have hmc := more_count hk ho
                    refine callK (tri_freezeD (args' := [(moreI x o).av]) (id := ib) (st := 1) (n := x.ow.length) (Hp.set_same _ _ _) rfl (fun k hk => ?_) (wcount_tri (moreI x o) _ ko.near)) ?_
                    · match k, hk with
                      | 0, _ => exact .agg rfl fun k hk => match k, hk with
                        | 0, _ => .same _
                        | 1, _ => .same _
                        | 2, _ => by
                          show FrzD ib 1 x.ow.length _ (.sl ib 1 x.ow.length) (.rsl (moreI x o).mo.length 1 (intF (moreI x o).mo))
                          rw [lm]
                          exact .hit hmF
                        | 3, _ => .same _
                        | 4, _ => .same _
                    rintro r2 H' ⟨rfl, rfl⟩
                    rw [cVo, cEo]
                    have dmc : decide (((truA x).length : Int) ≤ ((truA (moreI x o)).length : Int)) = true := decide_eq_true (by ((try clear q1); (try clear q2); (try clear q3); (try clear q4); (try clear q5); (try clear q6); (try clear q4'); (try clear q5'); (try clear q6'); (try clear b1); (try clear b2); (try clear b3); (try clear b4); (try clear b1'); (try clear b2'); (try clear b3'); omega))
                    simp only [vsAll, binA, binLitA, intA, extractA, pickA, opA, guardV, dstOk, nilSliceOp, Nat.reduceAdd, Nat.reduceLT, Nat.reduceEqDiff, Nat.reduceBEq, ↓reduceIte, implies_true, eq_self, dmc]
                    refine gcall (boo true) (fun g => ⟨trivial, by simp only [okAll, opsA], awake_tri _⟩) ?_
                    simp only [vsAll, pickA, opA, dstOk, nilSliceOp, Nat.reduceLT, Nat.reduceEqDiff, Nat.reduceBEq, ↓reduceIte, implies_true, eq_self]
                    refine ret0 ?_
                    simp only [vsAll, resA, retA.eq_1, ↓reduceIte, eq_self, Try.results11]
                    exact dropR_pure rfl (HSub_del (by simp only [eq_self, b4]) (HSub_drop2 b4 (HSub_drop2 q2 (HSub_drop2 q1 (HSub_drop2 q3 (HSub_drop2 b4 HSub_rfl))))))
                · simp only [vsAll, loadA, loadRow, partA, partOk, okAll, stAll, opsA, opA, dstOk, Nat.reduceLT, Nat.reduceEqDiff, ↓reduceIte, eq_self, wtAll, q5', q6', b3']
                  have lm : (moreI x o).mo.length = x.ow.length := by simp [moreI, hk.nM]
                  have ko := moreI_ok hk ho
                  have hmF : ∀ i, i < x.ow.length → updF x.ow.length o (intF x.mo) [i64 (min 6 (x.mo.getD o 0 + 1))] i = intF (moreI x o).mo i := fun i hi => by
                    have e : (moreI x o).mo.getD i 0 = moR x o i := getD_mapR _ _ _ _ (by rw [hk.nM]; exact hi)
                    rw [updF_at ho hi]
                    show _ = [i64 ((moreI x o).mo.getD i 0)]
                    rw [e, moR]
                    split <;> rfl
                  have cEo : countE (moreI x o) = 0 := errE_ok ko
                  have cVo : countV (moreI x o) = (truA (moreI x o)).length := by rw [countV, if_pos cEo]
                  have hmc := more_count hk ho
                  refine callK (tri_freezeD (args' := [(moreI x o).av]) (id := ib) (st := 1) (n := x.ow.length) (Hp.set_same _ _ _) rfl (fun k hk => ?_) (wcount_tri (moreI x o) _ ko.near)) ?_
                  · match k, hk with
                    | 0, _ => exact .agg rfl fun k hk => match k, hk with
                      | 0, _ => .same _
                      | 1, _ => .same _
                      | 2, _ => by
                        show FrzD ib 1 x.ow.length _ (.sl ib 1 x.ow.length) (.rsl (moreI x o).mo.length 1 (intF (moreI x o).mo))
                        rw [lm]
                        exact .hit hmF
                      | 3, _ => .same _
                      | 4, _ => .same _
                  rintro r2 H' ⟨rfl, rfl⟩
                  rw [cVo, cEo]
                  have dmc : decide (((truA x).length : Int) ≤ ((truA (moreI x o)).length : Int)) = true := decide_eq_true (by ((try clear q1); (try clear q2); (try clear q3); (try clear q4); (try clear q5); (try clear q6); (try clear q4'); (try clear q5'); (try clear q6'); (try clear b1); (try clear b2); (try clear b3); (try clear b4); (try clear b1'); (try clear b2'); (try clear b3'); omega))
                  simp only [vsAll, binA, binLitA, intA, extractA, pickA, opA, guardV, dstOk, nilSliceOp, Nat.reduceAdd, Nat.reduceLT, Nat.reduceEqDiff, Nat.reduceBEq, ↓reduceIte, implies_true, eq_self, dmc]
                  refine gcall (boo true) (fun g => ⟨trivial, by simp only [okAll, opsA], awake_tri _⟩) ?_
                  simp only [vsAll, pickA, opA, dstOk, nilSliceOp, Nat.reduceLT, Nat.reduceEqDiff, Nat.reduceBEq, ↓reduceIte, implies_true, eq_self]
                  refine ret0 ?_
                  simp only [vsAll, resA, retA.eq_1, ↓reduceIte, eq_self, Try.results11]
                  exact dropR_pure rfl (HSub_del (by simp only [eq_self, b4]) (HSub_drop2 b4 (HSub_drop2 q2 (HSub_drop2 q1 (HSub_drop2 q3 (HSub_drop2 b4 HSub_rfl))))))
        · simp only [vsAll, loadA, loadRow, partA, partOk, okAll, stAll, opsA, opA, dstOk, Nat.reduceLT, Nat.reduceEqDiff, ↓reduceIte, eq_self, wtAll, b2']
          refine callK_pure (fine_tri (saidI x ⟨s, o, decide (u.tmod 2 = 0)⟩) _ hO hS) ?_
          generalize hC : (⟨s, o, decide (u.tmod 2 = 0)⟩ : Cl) = C
          have fy1 := said_few (c := C) hk
          simp only [vsAll, opA, ↓reduceIte, eq_self]
          refine condV (fun hg2 => ?_) (fun hg2 => ?_)
          · have kz : Ok (saidI x C) := by
              simp only [Bool.and_eq_true, decide_eq_true_eq] at hg2
              exact hg2.2
            obtain ⟨m1, m2, m3⟩ := fy1 kz
            have cEz : countE (saidI x C) = 0 := errE_ok kz
            have cVz : countV (saidI x C) = (truA x).length := by rw [countV, if_pos cEz, truA_said]
            simp only [vsAll, loadA, loadRow, partA, partOk, okAll, stAll, opsA, opA, dstOk, Nat.reduceLT, Nat.reduceEqDiff, ↓reduceIte, eq_self, wtAll, b2']
            refine callK_pure (wcount_tri (saidI x C) _ kz.near) ?_
            rw [cVz, cEz]
            simp only [vsAll, loadA, loadRow, partA, partOk, extractA, okAll, stAll, opsA, opA, dstOk, nilSliceOp, Nat.reduceAdd, Nat.reduceLT, Nat.reduceEqDiff, Nat.reduceBEq, ↓reduceIte, eq_self, wtAll, b2']
            refine callK_pure (wfalse_tri (saidI x C) _ kz.near) ?_
            rw [m1]
            have hbp : (falseP x).1 ≤ 8 := by
              by_cases hz : (truA x).length = 0
              · have e1 : falseE x = 10 := errE_clash hk hz
                simp [falseP, e1]
              · obtain ⟨t0, f⟩ := false_spec hk (by ((try clear q1); (try clear q2); (try clear q3); (try clear q4); (try clear q5); (try clear q6); (try clear q4'); (try clear q5'); (try clear q6'); (try clear b1); (try clear b2); (try clear b3); (try clear b4); (try clear b1'); (try clear b2'); (try clear b3'); omega))
                have hw8 := wrongT_lt8 hk t0
                rw [f.val]
                exact Nat.le_trans (pop_all x.cl.length (by ((try clear q1); (try clear q2); (try clear q3); (try clear q4); (try clear q5); (try clear q6); (try clear q4'); (try clear q5'); (try clear q6'); (try clear b1); (try clear b2); (try clear b3); (try clear b4); (try clear b1'); (try clear b2'); (try clear b3'); omega)) _ (by ((try clear q1); (try clear q2); (try clear q3); (try clear q4); (try clear q5); (try clear q6); (try clear q4'); (try clear q5'); (try clear q6'); (try clear b1); (try clear b2); (try clear b3); (try clear b4); (try clear b1'); (try clear b2'); (try clear b3'); omega)) hw8.1).1 nC
            simp only [vsAll, binA, binLitA, intA, extractA, pickA, opA, guardV, dstOk, nilSliceOp, Nat.reduceAdd, Nat.reduceLT, Nat.reduceEqDiff, Nat.reduceBEq, ↓reduceIte, implies_true, eq_self]
            refine ⟨fun g => ⟨g, by simp only [InR_i64]; ((try clear q1); (try clear q2); (try clear q3); (try clear q4); (try clear q5); (try clear q6); (try clear q4'); (try clear q5'); (try clear q6'); (try clear b1); (try clear b2); (try clear b3); (try clear b4); (try clear b1'); (try clear b2'); (try clear b3'); omega)⟩, condV (fun hb3 => ?_) (fun hb3 => ?_)⟩
            · exfalso
              simp at hb3
              ((try clear q1); (try clear q2); (try clear q3); (try clear q4); (try clear q5); (try clear q6); (try clear q4'); (try clear q5'); (try clear q6'); (try clear b1); (try clear b2); (try clear b3); (try clear b4); (try clear b1'); (try clear b2'); (try clear b3'); omega)
            · simp only [vsAll, loadA, loadRow, partA, partOk, okAll, stAll, opsA, opA, dstOk, Nat.reduceLT, Nat.reduceEqDiff, ↓reduceIte, eq_self, wtAll, q5', q6', b3']
              have lm : (moreI x o).mo.length = x.ow.length := by simp [moreI, hk.nM]
              have ko := moreI_ok hk ho
              have hmF : ∀ i, i < x.ow.length → updF x.ow.length o (intF x.mo) [i64 (min 6 (x.mo.getD o 0 + 1))] i = intF (moreI x o).mo i := fun i hi => by
                have e : (moreI x o).mo.getD i 0 = moR x o i := getD_mapR _ _ _ _ (by rw [hk.nM]; exact hi)
                rw [updF_at ho hi]
                show _ = [i64 ((moreI x o).mo.getD i 0)]
                rw [e, moR]
                split <;> rfl
              have cEo : countE (moreI x o) = 0 := errE_ok ko
              have cVo : countV (moreI x o) = (truA (moreI x o)).length := by rw [countV, if_pos cEo]
              have hmc := more_count hk ho
              refine callK (tri_freezeD (args' := [(moreI x o).av]) (id := ib) (st := 1) (n := x.ow.length) (Hp.set_same _ _ _) rfl (fun k hk => ?_) (wcount_tri (moreI x o) _ ko.near)) ?_
              · match k, hk with
                | 0, _ => exact .agg rfl fun k hk => match k, hk with
                  | 0, _ => .same _
                  | 1, _ => .same _
                  | 2, _ => by
                    show FrzD ib 1 x.ow.length _ (.sl ib 1 x.ow.length) (.rsl (moreI x o).mo.length 1 (intF (moreI x o).mo))
                    rw [lm]
                    exact .hit hmF
                  | 3, _ => .same _
                  | 4, _ => .same _
              rintro r2 H' ⟨rfl, rfl⟩
              rw [cVo, cEo]
              have dmc : decide (((truA x).length : Int) ≤ ((truA (moreI x o)).length : Int)) = true := decide_eq_true (by ((try clear q1); (try clear q2); (try clear q3); (try clear q4); (try clear q5); (try clear q6); (try clear q4'); (try clear q5'); (try clear q6'); (try clear b1); (try clear b2); (try clear b3); (try clear b4); (try clear b1'); (try clear b2'); (try clear b3'); omega))
              simp only [vsAll, binA, binLitA, intA, extractA, pickA, opA, guardV, dstOk, nilSliceOp, Nat.reduceAdd, Nat.reduceLT, Nat.reduceEqDiff, Nat.reduceBEq, ↓reduceIte, implies_true, eq_self, dmc]
              refine gcall (boo true) (fun g => ⟨trivial, by simp only [okAll, opsA], awake_tri _⟩) ?_
              simp only [vsAll, pickA, opA, dstOk, nilSliceOp, Nat.reduceLT, Nat.reduceEqDiff, Nat.reduceBEq, ↓reduceIte, implies_true, eq_self]
              refine ret0 ?_
              simp only [vsAll, resA, retA.eq_1, ↓reduceIte, eq_self, Try.results11]
              exact dropR_pure rfl (HSub_del (by simp only [eq_self, b4]) (HSub_drop2 b4 (HSub_drop2 q2 (HSub_drop2 q1 (HSub_drop2 q3 (HSub_drop2 b4 HSub_rfl))))))
          · simp only [vsAll, loadA, loadRow, partA, partOk, okAll, stAll, opsA, opA, dstOk, Nat.reduceLT, Nat.reduceEqDiff, ↓reduceIte, eq_self, wtAll, q5', q6', b3']
            have lm : (moreI x o).mo.length = x.ow.length := by simp [moreI, hk.nM]
            have ko := moreI_ok hk ho
            have hmF : ∀ i, i < x.ow.length → updF x.ow.length o (intF x.mo) [i64 (min 6 (x.mo.getD o 0 + 1))] i = intF (moreI x o).mo i := fun i hi => by
              have e : (moreI x o).mo.getD i 0 = moR x o i := getD_mapR _ _ _ _ (by rw [hk.nM]; exact hi)
              rw [updF_at ho hi]
              show _ = [i64 ((moreI x o).mo.getD i 0)]
              rw [e, moR]
              split <;> rfl
            have cEo : countE (moreI x o) = 0 := errE_ok ko
            have cVo : countV (moreI x o) = (truA (moreI x o)).length := by rw [countV, if_pos cEo]
            have hmc := more_count hk ho
            refine callK (tri_freezeD (args' := [(moreI x o).av]) (id := ib) (st := 1) (n := x.ow.length) (Hp.set_same _ _ _) rfl (fun k hk => ?_) (wcount_tri (moreI x o) _ ko.near)) ?_
            · match k, hk with
              | 0, _ => exact .agg rfl fun k hk => match k, hk with
                | 0, _ => .same _
                | 1, _ => .same _
                | 2, _ => by
                  show FrzD ib 1 x.ow.length _ (.sl ib 1 x.ow.length) (.rsl (moreI x o).mo.length 1 (intF (moreI x o).mo))
                  rw [lm]
                  exact .hit hmF
                | 3, _ => .same _
                | 4, _ => .same _
            rintro r2 H' ⟨rfl, rfl⟩
            rw [cVo, cEo]
            have dmc : decide (((truA x).length : Int) ≤ ((truA (moreI x o)).length : Int)) = true := decide_eq_true (by ((try clear q1); (try clear q2); (try clear q3); (try clear q4); (try clear q5); (try clear q6); (try clear q4'); (try clear q5'); (try clear q6'); (try clear b1); (try clear b2); (try clear b3); (try clear b4); (try clear b1'); (try clear b2'); (try clear b3'); omega))
            simp only [vsAll, binA, binLitA, intA, extractA, pickA, opA, guardV, dstOk, nilSliceOp, Nat.reduceAdd, Nat.reduceLT, Nat.reduceEqDiff, Nat.reduceBEq, ↓reduceIte, implies_true, eq_self, dmc]
            refine gcall (boo true) (fun g => ⟨trivial, by simp only [okAll, opsA], awake_tri _⟩) ?_
            simp only [vsAll, pickA, opA, dstOk, nilSliceOp, Nat.reduceLT, Nat.reduceEqDiff, Nat.reduceBEq, ↓reduceIte, implies_true, eq_self]
            refine ret0 ?_
            simp only [vsAll, resA, retA.eq_1, ↓reduceIte, eq_self, Try.results11]
            exact dropR_pure rfl (HSub_del (by simp only [eq_self, b4]) (HSub_drop2 b4 (HSub_drop2 q2 (HSub_drop2 q1 (HSub_drop2 q3 (HSub_drop2 b4 HSub_rfl))))))
end Go.Proofs.Ytkonoggmdcdeeaa
end
section
set_option linter.unusedVariables false
set_option linter.unusedSimpArgs false
set_option maxRecDepth 100000
namespace Go.Proofs.Ytkonoggmdcdeeaa
open Go.V Go.ChangeShapes Go.WideShapes Go.ChangeAt Go.RowKit
theorem irons_cells : cellsT Try.prog 9 27 = some [.int .i64, .sl [.sl [.int .i64]], .sl [.int .i64], .sl [.sl [.int .i64, .int .i64, .int .i64]], .sl [.int .i64, .int .i64, .bool]] := by kernel_rfl
theorem ints_of {av : AV} (h : CKA (.sl [.int .i64]) av) : ∃ l : List Int, l.length ≤ maxLen ∧ AV.Le av (intsAV l) := by
  obtain ⟨l, h1, h2⟩ := told_slice (α := Int) (fun z => [i64 z]) 0 (fun cs hcs => by
    obtain ⟨z, hz, _⟩ := told_int 0 hcs rfl
    exact ⟨z, rfl, fun j hj => by
      match j, hj with
      | 0, _ => rw [hz]; exact AV.Le.refl _⟩) h
  exact ⟨l, h1, h2⟩
theorem marks_of {av : AV} (h : CKA (.sl [.int .i64, .int .i64, .int .i64]) av) : ∃ l : List Mk, l.length ≤ maxLen ∧ AV.Le av (mksAV l) := by
  obtain ⟨l, h1, h2⟩ := told_slice (α := Mk) Mk.cs mk0 (fun cs hcs => by
    obtain ⟨a, ha, _⟩ := told_int 0 hcs rfl
    obtain ⟨b, hb, _⟩ := told_int 1 hcs rfl
    obtain ⟨c, hc, _⟩ := told_int 2 hcs rfl
    exact ⟨⟨a, b, c⟩, rfl, fun j hj => by
      match j, hj with
      | 0, _ => rw [ha]; exact AV.Le.refl _
      | 1, _ => rw [hb]; exact AV.Le.refl _
      | 2, _ => rw [hc]; exact AV.Le.refl _⟩) h
  exact ⟨l, h1, h2⟩
theorem claims_of {av : AV} (h : CKA (.sl [.int .i64, .int .i64, .bool]) av) : ∃ l : List Cl, l.length ≤ maxLen ∧ AV.Le av (clAV l) := by
  obtain ⟨l, h1, h2⟩ := told_slice (α := Cl) Cl.cs cl0 (fun cs hcs => by
    obtain ⟨a, ha, _⟩ := told_int 0 hcs rfl
    obtain ⟨b, hb, _⟩ := told_int 1 hcs rfl
    obtain ⟨c, hc⟩ := told_bool 2 hcs rfl
    exact ⟨⟨a, b, c⟩, rfl, fun j hj => by
      match j, hj with
      | 0, _ => rw [ha]; exact AV.Le.refl _
      | 1, _ => rw [hb]; exact AV.Le.refl _
      | 2, _ => rw [hc]; exact AV.Le.refl _⟩) h
  exact ⟨l, h1, h2⟩
theorem lists_of {av : AV} (h : CKA (.sl [.sl [.int .i64]]) av) : ∃ l : List (List Int), l.length ≤ maxLen ∧ AV.Le av (llAV l) := by
  obtain ⟨l, h1, h2⟩ := told_slice (α := List Int) (fun l => [intsAV l]) [] (fun cs hcs => by
    obtain ⟨l, _, hl⟩ := ints_of (hcs.2 0 _ rfl)
    exact ⟨l, rfl, fun j hj => by
      match j, hj with
      | 0, _ => exact hl⟩) h
  exact ⟨l, h1, h2⟩
theorem strakes_of {av : AV} (h : CKA (.sl [.sl [.int .i64, .int .i64, .int .i64]]) av) : ∃ l : List (List Mk), l.length ≤ maxLen ∧ AV.Le av (stAV l) := by
  obtain ⟨l, h1, h2⟩ := told_slice (α := List Mk) (fun l => [mksAV l]) [] (fun cs hcs => by
    obtain ⟨l, _, hl⟩ := marks_of (hcs.2 0 _ rfl)
    exact ⟨l, rfl, fun j hj => by
      match j, hj with
      | 0, _ => exact hl⟩) h
  exact ⟨l, h1, h2⟩
theorem iron_rel {H : Type} {enc : TypeId × Value → H} {W : World} {sp : Nat → Bool} {held : Bool} {v : Value} {d : DataW H} {ps : List MemPlace}
    (h : DataW.Trod enc Try.prog W 0 sp held 27 v d ps) : ∃ x : Ir, (x.ow.length < 2 ^ 63 ∧ x.st.length < 2 ^ 63) ∧ VRel (st0 W) x.av v := by
  obtain ⟨cs, hcs, hv⟩ := trod_agg irons_cells (by decide) h
  obtain ⟨F, h0, _⟩ := told_int 0 hcs rfl
  obtain ⟨ow, l1, h1⟩ := lists_of (hcs.2 1 _ rfl)
  obtain ⟨mo, l2, h2⟩ := ints_of (hcs.2 2 _ rfl)
  obtain ⟨st, l3, h3⟩ := strakes_of (hcs.2 3 _ rfl)
  obtain ⟨cl, l4, h4⟩ := claims_of (hcs.2 4 _ rfl)
  have hm : maxLen < 2 ^ 63 := by decide
  refine ⟨⟨F, ow, mo, st, cl⟩, ⟨by show ow.length < _; omega, by show st.length < _; omega⟩, AV.Le.aggD (cs := cs) hcs.1.symm (fun j hj => ?_) _ _ hv⟩
  have hj5 : j < 5 := by have := hcs.1; simp at this; omega
  match j, hj5 with
  | 0, _ => rw [h0]; exact AV.Le.refl _
  | 1, _ => exact h1
  | 2, _ => exact h2
  | 3, _ => exact h3
  | 4, _ => exact h4

theorem Try.own : ownKnob Try.prog.godebug = none := by kernel_rfl
theorem u4 : Try.prog.underlying 4 = some .bool := by kernel_rfl
end Go.Proofs.Ytkonoggmdcdeeaa
end
section
set_option linter.unusedVariables false
set_option linter.unusedSimpArgs false
set_option maxRecDepth 100000
namespace Go.Proofs.Ytkonoggmdcdeeaa
open Go.V Go.ChangeShapes Go.WideShapes Go.ChangeAt Go.RowKit
theorem ironMore_u5 : Try.prog.underlying 5 = some (.int .u8) := by kernel_rfl
theorem ironMore_b8 {n : Int} (h : (Lit.int .u8 n).wf = true) : 0 ≤ n ∧ n ≤ 255 := by
  simp [Lit.wf, IntKind.min, IntKind.max, IntKind.signed, IntKind.bits] at h
  omega

theorem ironMore_lifted (os : Os) (started : os.Started) (H : Type) (enc : TypeId × Value → H) :
    ReturnsInHanded {} Try.checked os 11 .any (Rows.ironMoreSpec.pre6 enc Try.prog Try.f11 Rows.ironMoreRow.domain false) (Rows.ironMoreSpec.post enc Try.prog Try.f11 false true false false) := by
  refine returnsInHanded_of_change (C := Try.checked) Try.own started (by kernel_rfl) Try.func11
    (ChangeSpec.witness6 (enc := enc) (C := Try.checked) false ⟨#[], #[.agg #[.int .i64 0, .slice none 0 0, .slice none 0 0, .slice none 0 0, .slice none 0 0], .int .u8 0, .int .u8 0, .int .u8 0], []⟩ 8 (by kernel_rfl) (by kernel_rfl) (by kernel_rfl) (by kernel_rfl)) ?_
  intro W base args ds gs before hval hW hcnd _
  have hW' := hW
  obtain ⟨p, q, hA, hV, rfl, hfz, hnd⟩ := hW
  obtain ⟨rfl, rfl⟩ := trodVars_none hV
  rw [show Try.f11.params.toList = [27, 5, 5, 5] from by kernel_rfl] at hA
  obtain ⟨v0, v1, v2, v3, d0, d1, d2, d3, p0, p1, p2, p3, rfl, rfl, rfl, h0, h1, h2, h3⟩ := trodAll_four hA
  have hval : ∀ (j : Nat) t v, Try.f11.params[j]? = some t → (#[v0, v1, v2, v3] : Array Value)[j]? = some v → Value.okWide Try.prog W .any base t v := hval
  rw [show Try.f11.params = #[27, 5, 5, 5] from by kernel_rfl] at hval
  obtain ⟨x1, rfl, rfl, rfl, w1⟩ := open_int ironMore_u5 (hval 1 5 v1 rfl rfl) h1
  obtain ⟨x2, rfl, rfl, rfl, w2⟩ := open_int ironMore_u5 (hval 2 5 v2 rfl rfl) h2
  obtain ⟨x3, rfl, rfl, rfl, w3⟩ := open_int ironMore_u5 (hval 3 5 v3 rfl rfl) h3
  obtain ⟨h, hbd, hr⟩ := iron_rel h0
  refine (law_calls Try.func11 (by kernel_rfl) rfl (Tri.mono (more_law h x1 x2 x3 H0 (ironMore_b8 w1) (ironMore_b8 w2) (ironMore_b8 w3) hbd.1 hbd.2) ?_) ⟨rfl, fun k hk => match k, hk with | 0, _ => hr | 1, _ => .lit _ | 2, _ => .lit _ | 3, _ => .lit _⟩).mono fun e W' he => ?_
  · rintro r H' ⟨rfl, _⟩; rfl
  · obtain ⟨rfl, hh, ho, hp⟩ := he
    exact ⟨_, rfl, law_post (d := 6) rfl (tb := 4) (by kernel_rfl) u4 (by decide +kernel) hW' rfl hh ho hp⟩

theorem ironMore_holds : Rows.IronMoreSaid :=
  OpenClaim.holds_of_wide (p := Try.pinned) (s := Rows.ironMoreSpec) (c := Rows.ironMoreRow) 11 Try.f11 rfl rfl rfl rfl rfl rfl rfl ⟨rfl, rfl, rfl, rfl, rfl⟩ rfl rfl rfl rfl rfl (by kernel_rfl) Try.func11 (by kernel_rfl)
    (of_decide_eq_true (by kernel_rfl)) (by unfold Func.isWrapper; first | (rw [if_pos (by decide +kernel)]; kernel_rfl) | (rw [if_neg (by decide +kernel)]; exact ⟨rfl, rfl⟩))
    (fun os started H enc _ => ironMore_lifted os started H enc)

end Go.Proofs.Ytkonoggmdcdeeaa
end
