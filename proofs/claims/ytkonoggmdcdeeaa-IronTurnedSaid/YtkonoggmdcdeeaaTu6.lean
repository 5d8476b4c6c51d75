/- WHAT IS PROVED: the given statement of this claim. Conditions: none beyond the given row. -/
import Derived.Test.YtkonoggmdcdeeaaRows
import Derived.Test.YtkonoggmdcdeeaaTu5
section
set_option linter.unusedVariables false
set_option linter.unusedSimpArgs false
set_option maxHeartbeats 4000000
set_option maxRecDepth 100000
namespace Go.Proofs.Ytkonoggmdcdeeaa
open Go.V
def owL (x : Ir) (i : Nat) : List (List Int) := (List.range i).map fun j => x.ow.getD (x.ow.length - 1 - j) []
def moL2 (x : Ir) (i : Nat) : List Int := (List.range i).map fun j => x.mo.getD (x.ow.length - 1 - j) 0
def mkL (l : List Mk) (i : Nat) : List Mk := (List.range i).map fun k => l.getD (l.length - 1 - k) mk0
def stL2 (x : Ir) (i : Nat) : List (List Mk) := (List.range i).map fun j => revM (x.st.getD (x.st.length - 1 - j) [])
def clL (x : Ir) (i : Nat) : List Cl := (List.range i).map fun j => flC x.ow.length x.st.length (x.cl.getD (x.cl.length - 1 - j) cl0)
theorem owL_succ (x : Ir) (i : Nat) : owL x (i + 1) = owL x i ++ [x.ow.getD (x.ow.length - 1 - i) []] := by simp [owL, List.range_succ]
theorem moL2_succ (x : Ir) (i : Nat) : moL2 x (i + 1) = moL2 x i ++ [x.mo.getD (x.ow.length - 1 - i) 0] := by simp [moL2, List.range_succ]
theorem mkL_succ (l : List Mk) (i : Nat) : mkL l (i + 1) = mkL l i ++ [l.getD (l.length - 1 - i) mk0] := by simp [mkL, List.range_succ]
theorem stL2_succ (x : Ir) (i : Nat) : stL2 x (i + 1) = stL2 x i ++ [revM (x.st.getD (x.st.length - 1 - i) [])] := by simp [stL2, List.range_succ]
theorem clL_succ (x : Ir) (i : Nat) : clL x (i + 1) = clL x i ++ [flC x.ow.length x.st.length (x.cl.getD (x.cl.length - 1 - i) cl0)] := by simp [clL, List.range_succ]
theorem owL_len (x : Ir) (i : Nat) : (owL x i).length = i := by simp [owL]
theorem moL2_len (x : Ir) (i : Nat) : (moL2 x i).length = i := by simp [moL2]
theorem mkL_len (l : List Mk) (i : Nat) : (mkL l i).length = i := by simp [mkL]
theorem stL2_len (x : Ir) (i : Nat) : (stL2 x i).length = i := by simp [stL2]
theorem clL_len (x : Ir) (i : Nat) : (clL x i).length = i := by simp [clL]
theorem app_owL (x : Ir) (i : Nat) (g : Nat → List AV) (hg : g 0 = [intsAV (x.ow.getD (x.ow.length - 1 - i) [])]) : appF i 1 (llF (owL x i)) g = llF (owL x (i + 1)) := by
  have := app_ll (owL x i) (x.ow.getD (x.ow.length - 1 - i) []) g hg
  rw [owL_len] at this
  rw [this, owL_succ]
theorem app_moL (x : Ir) (i : Nat) (g : Nat → List AV) (hg : g 0 = [i64 (x.mo.getD (x.ow.length - 1 - i) 0)]) : appF i 1 (intF (moL2 x i)) g = intF (moL2 x (i + 1)) := by
  have := app_ints (moL2 x i) (x.mo.getD (x.ow.length - 1 - i) 0) g hg
  rw [moL2_len] at this
  rw [this, moL2_succ]
theorem app_mkL (l : List Mk) (i : Nat) (g : Nat → List AV) (hg : g 0 = (l.getD (l.length - 1 - i) mk0).cs) : appF i 1 (mkF (mkL l i)) g = mkF (mkL l (i + 1)) := by
  have := app_mk (mkL l i) (l.getD (l.length - 1 - i) mk0) g hg
  rw [mkL_len] at this
  rw [this, mkL_succ]
theorem app_clL (x : Ir) (i : Nat) (g : Nat → List AV) (hg : g 0 = (flC x.ow.length x.st.length (x.cl.getD (x.cl.length - 1 - i) cl0)).cs) : appF i 1 (clF (clL x i)) g = clF (clL x (i + 1)) := by
  have := app_cl (clL x i) (flC x.ow.length x.st.length (x.cl.getD (x.cl.length - 1 - i) cl0)) g hg
  rw [clL_len] at this
  rw [this, clL_succ]

theorem cl_eqV (c d : Cl) : eqV Try.prog 43 [.int .i64 c.s, .int .i64 c.o, .bool c.nt] [.int .i64 d.s, .int .i64 d.o, .bool d.nt] := eqV_of (by kernel_rfl) (by kernel_rfl) (by kernel_rfl) (by kernel_rfl)
theorem turned_law (x : Ir) (H : Hp) (hO : x.ow.length < 2 ^ 63) (hS : x.st.length < 2 ^ 63) : PTri Try.prog (fnA 12) [x.av] H (boo true) := by
  refine Tri.drop ?_
  refine tri_v (mset [9, 195, 198, 199, 202]) Try.func12 (by kernel_rfl) rfl (by simp only [List.length_append, List.length_cons, List.length_nil, Try.ntmps12]; decide) ?_
  simp only [vsAll, loadA, loadRow, partA, partOk, boxA, okAll, stAll, opsA, opA, dstOk, nilSliceOp, argFr, Nat.reduceAdd, Nat.reduceLT, Nat.reduceEqDiff, Nat.reduceBEq, Int.reduceNeg, ↓reduceIte, eq_self, wtAll, Try.ntmps12]
  refine callK_pure (fine_tri x _ hO hS) ?_
  simp only [vsAll, unA, opA, dstOk, Nat.reduceLT, Int.reduceNeg, ↓reduceIte, eq_self]
  refine condV (fun hf1 => ?_) (fun hf1 => ?_)
  · simp only [vsAll, okAll, stAll, opsA, opA, dstOk, Nat.reduceLT, Int.reduceNeg]
    refine callK_pure (awake_tri _) ?_
    simp only [vsAll, opA, dstOk, nilSliceOp, Nat.reduceLT, Nat.reduceBEq, Int.reduceNeg, ↓reduceIte, eq_self]
    refine ret0 ?_
    simp only [vsAll, resA, retA.eq_1, ↓reduceIte, eq_self, Try.results12]
    exact dropR_pure rfl (HSub.refl _)
  · have k : Ok x := by
      simp only [Bool.not_eq_false', Bool.and_eq_true, decide_eq_true_eq] at hf1
      exact hf1.2
    have nS := k.nS
    have nO := k.nO
    have nC := k.nC
    have nM := k.nM
    have kn := k.near
    simp only [vsAll, Int.reduceNeg]
    refine vs_draw2 [0, 0, 0, 0, 0, 0, 0, 0, 0, 0, 0, 0] [] [0, 1, 2, 3, 4, 5, 6, 7, 8, 9, 10, 11] (by decide +kernel) ?_
    simp only [vsAll, loadA, loadRow, partA, partOk, fieldAddrA, lenA, cellA, cellsA, fillA, okParts, partsA, partsOk, opA, allocA, newCells, okCells, storeObj, dstOk, Nat.reduceAdd, Nat.reduceLT, Nat.reduceLeDiff, Nat.reduceEqDiff, Int.reduceNeg, ↓reduceIte, eq_self, wtAll]
    intro i6 hh_i6; (try simp only [Hp.set_none, ite_none] at hh_i6)
    rw [Hp.set_set]
    refine vs_entL (Ent.nilBox 1 (llF []) (fun id _ => [i64 x.F, .sl id 1 0, .lit (.slice none 0 0), .lit (.slice none 0 0), .lit (.slice none 0 0)]) (j := i6) (st' := 5) (n' := 1) (g := fun _ => [i64 x.F, .lit (.slice none 0 0), .lit (.slice none 0 0), .lit (.slice none 0 0), .lit (.slice none 0 0)]) (by simp only [vsAll, ↓reduceIte, eq_self]; try rfl) (fun _ _ _ => rfl) (fun id q d hq hd => ?_) fun iow how => ?_)
    · match d, hd with
      | 0, _ => exact .rfl
      | 1, _ => exact .hit
      | 2, _ => exact .rfl
      | 3, _ => exact .rfl
      | 4, _ => exact .rfl
    simp only [Hp.set_none] at how
    skip
    refine vs_entL (Ent.nilBox 1 (intF []) (fun id _ => [i64 x.F, .sl iow 1 0, .sl id 1 0, .lit (.slice none 0 0), .lit (.slice none 0 0)]) (j := i6) (st' := 5) (n' := 1) (g := fun _ => [i64 x.F, .sl iow 1 0, .lit (.slice none 0 0), .lit (.slice none 0 0), .lit (.slice none 0 0)]) (Hp.set_same _ _ _) (fun _ _ _ => rfl) (fun id q d hq hd => ?_) fun imo hmo => ?_)
    · match d, hd with
      | 0, _ => exact .rfl
      | 1, _ => exact .rfl
      | 2, _ => exact .hit
      | 3, _ => exact .rfl
      | 4, _ => exact .rfl
    simp only [Hp.set_none] at hmo
    skip
    refine vs_loop (σ := Nat) (fun i => i ≤ x.ow.length) (fun i => [(1, .rptr 1 5 (fun _ => x.cs) 0 0), (3, i64 x.ow.length), (4, i64 x.st.length), (5, i64 x.cl.length), (6, .ref i6 0 5 0 0), (80, i64 x.ow.length), (81, i64 i)])
      (fun i => (((H.set iow (.row 1 i (llF (owL x i)))).set imo (.row 1 i (intF (moL2 x i)))).set i6 (.box 5 1 fun _ => [i64 x.F, .sl iow 1 i, .sl imo 1 i, .lit (.slice none 0 0), .lit (.slice none 0 0)]))) (fun i => x.ow.length - i) 0 (by ((try clear hh_i6); (try clear how); (try clear hmo); omega)) ?_ ?_ fun i hi => ?_
    · simp only [vsAll, Nat.reduceEqDiff, ↓reduceIte, eq_self, Int.natCast_zero]
    · show V.HSub _ (((H.set iow (.row 1 0 (llF []))).set imo (.row 1 0 (intF []))).set i6 _)
      (repeat (first | exact HSub_rfl | refine HSub_put_eq (by simp only [vsAll, ↓reduceIte, eq_self, how, hmo]) ?_ | refine HSub_drop2 (by simp only [eq_self, hh_i6, how, hmo]) ?_ | refine HSub_keep_eq (by simp only [vsAll, binA, binLitA, intA, aggA, aggV, boolA, nilA2, isConst, unA, loadA, loadRow, partA, partOk, fieldAddrA, indexAddrA, indexA, fieldA, extractA, lenA, nilCheckA, boxA, cellA, cellsA, fillA, okParts, buildSliceA, buildMutA, makeSliceA, partIdx, elemsA, lensA, ifaceA, convA, mmA, pickA, okAll, stAll, opsA, partsA, partsOk, opA, allocA, boxMutA, newCells, okCells, storeObj, appendA, guardV, taA, nM, mapUpA, lookA, sliceA, boundsA, opO, okO, copyA, dstOk, nilA, quietOk, nilSliceOp, panA, resA, argFr, retA.eq_1, retA.eq_2, Nat.reduceAdd, Nat.reduceSub, Nat.reduceMul, Nat.reduceLT, Nat.reduceLeDiff, Nat.reduceEqDiff, Nat.reduceBEq, Int.reduceAdd, Int.reduceSub, Int.reduceMul, Int.reduceNeg, Int.reduceLE, Int.reduceLT, Int.reduceEq, Int.reduceNe, Int.reduceToNat, ↓reduceIte, reduceCtorEq, implies_true, forall_const, eq_self, ne_eq, wtAll, Try.ntmps12, Try.results12, hh_i6, how, hmo]) ?_))
    · simp only [vsAll, binA, binLitA, intA, opA, dstOk, Nat.reduceLT, Nat.reduceEqDiff, Int.reduceNeg, ↓reduceIte, eq_self]
      refine condD (fun hd => ?_) (fun hd => ?_)
      · have hi1 : ((x.ow.length : Int) - 1 - i).toNat = x.ow.length - 1 - i := by ((try clear hh_i6); (try clear how); (try clear hmo); omega)
        simp only [vsAll, opA, dstOk, nilSliceOp, Nat.reduceLT, Nat.reduceEqDiff, Nat.reduceBEq, Int.reduceNeg, ↓reduceIte, eq_self]
        refine vs_draw2 [0, 0, 0, 0, 0, 0, 0, 0, 0, 0, 0, 1, 0, 0, 0, 0, 0, 0, 0, 0, 0, 0, 0, 3, 2, 5, 6, 7] [([0, 1, 2, 3, 4, 5, 6, 7, 8, 9, 10, 12, 13, 14, 15, 16, 17, 18, 19, 20, 21, 22], [13, 15, 21], 11), ([24], [], 23), ([], [], 25), ([26], [], 27)] [] (by decide +kernel) ?_
        simp only [vsAll, binA, binLitA, intA, loadA, loadRow, partA, partOk, fieldAddrA, indexAddrA, cellA, cellsA, okParts, buildSliceA, partIdx, elemsA, lensA, partsA, partsOk, opA, newCells, okCells, storeObj, appendA, nM, dstOk, Nat.reduceAdd, Nat.reduceMul, Nat.reduceLT, Nat.reduceLeDiff, Nat.reduceEqDiff, Int.reduceNeg, ↓reduceIte, eq_self, wtAll, how, hmo, llF_at, intF_at, hi1]
        refine ⟨by simp only [InR_i64]; ((try clear hh_i6); (try clear how); (try clear hmo); omega), by simp only [InR_i64]; ((try clear hh_i6); (try clear how); (try clear hmo); omega), ⟨by ((try clear hh_i6); (try clear how); (try clear hmo); omega), by ((try clear hh_i6); (try clear how); (try clear hmo); omega)⟩, by ((try clear hh_i6); (try clear how); (try clear hmo); omega), by simp only [InR_i64]; ((try clear hh_i6); (try clear how); (try clear hmo); omega), by simp only [InR_i64]; ((try clear hh_i6); (try clear how); (try clear hmo); omega), ⟨by ((try clear hh_i6); (try clear how); (try clear hmo); omega), by ((try clear hh_i6); (try clear how); (try clear hmo); omega)⟩, by ((try clear hh_i6); (try clear how); (try clear hmo); omega), fun j hj => by (have : j = 0 := by ((try clear hh_i6); (try clear how); (try clear hmo); omega)); subst this; simp only [vsAll, cellA, okCells, eq_self], by ((try clear hh_i6); (try clear how); (try clear hmo); omega), by ((try clear hh_i6); (try clear how); (try clear hmo); omega), by ((try clear hh_i6); (try clear how); (try clear hmo); omega), fun j hj => by (have : j = 0 := by ((try clear hh_i6); (try clear how); (try clear hmo); omega)); subst this; simp only [vsAll, cellA, okCells, eq_self], by ((try clear hh_i6); (try clear how); (try clear hmo); omega), by ((try clear hh_i6); (try clear how); (try clear hmo); omega), by simp only [InR_i64]; ((try clear hh_i6); (try clear how); (try clear hmo); omega), loop_next (i + 1) (by ((try clear hh_i6); (try clear how); (try clear hmo); omega)) (by ((try clear hh_i6); (try clear how); (try clear hmo); omega)) ?_ ?_⟩
        · simp only [vsAll, Nat.reduceEqDiff, ↓reduceIte, eq_self, Int.natCast_add, Int.natCast_one]
        · rw [app_owL x i _ rfl, app_moL x i _ rfl]
          (repeat (first | exact HSub_rfl | refine HSub_put_eq (by simp only [vsAll, ↓reduceIte, eq_self, how, hmo]) ?_ | refine HSub_drop2 (by simp only [eq_self, hh_i6, how, hmo]) ?_ | refine HSub_keep_eq (by simp only [vsAll, binA, binLitA, intA, aggA, aggV, boolA, nilA2, isConst, unA, loadA, loadRow, partA, partOk, fieldAddrA, indexAddrA, indexA, fieldA, extractA, lenA, nilCheckA, boxA, cellA, cellsA, fillA, okParts, buildSliceA, buildMutA, makeSliceA, partIdx, elemsA, lensA, ifaceA, convA, mmA, pickA, okAll, stAll, opsA, partsA, partsOk, opA, allocA, boxMutA, newCells, okCells, storeObj, appendA, guardV, taA, nM, mapUpA, lookA, sliceA, boundsA, opO, okO, copyA, dstOk, nilA, quietOk, nilSliceOp, panA, resA, argFr, retA.eq_1, retA.eq_2, Nat.reduceAdd, Nat.reduceSub, Nat.reduceMul, Nat.reduceLT, Nat.reduceLeDiff, Nat.reduceEqDiff, Nat.reduceBEq, Int.reduceAdd, Int.reduceSub, Int.reduceMul, Int.reduceNeg, Int.reduceLE, Int.reduceLT, Int.reduceEq, Int.reduceNe, Int.reduceToNat, ↓reduceIte, reduceCtorEq, implies_true, forall_const, eq_self, ne_eq, wtAll, Try.ntmps12, Try.results12, hh_i6, how, hmo]) ?_))
      · have ei : i = x.ow.length := by ((try clear hh_i6); (try clear how); (try clear hmo); omega)
        subst ei
        have eow : owL x x.ow.length = (turnI x).ow := rfl
        have emo : moL2 x x.ow.length = (turnI x).mo := rfl
        have lo1 := turn_nO x
        have lo2 := turn_nM x
        simp only [vsAll, loadA, loadRow, partA, partOk, fieldAddrA, lenA, opA, dstOk, Nat.reduceLT, Nat.reduceEqDiff, Int.reduceNeg, ↓reduceIte, eq_self, wtAll]
        refine vs_entL (Ent.freezeBox (id := iow) (st := 1) (n := x.ow.length) (f := llF (owL x x.ow.length)) (j := i6) (st' := 5) (n' := 1) (g := fun _ => [i64 x.F, .sl iow 1 x.ow.length, .sl imo 1 x.ow.length, .lit (.slice none 0 0), .lit (.slice none 0 0)]) (g' := fun _ => [i64 x.F, .rsl x.ow.length 1 (llF (owL x x.ow.length)), .sl imo 1 x.ow.length, .lit (.slice none 0 0), .lit (.slice none 0 0)]) (by simp only [vsAll, ↓reduceIte, eq_self, how, hmo]; try rfl) (by simp only [vsAll, ↓reduceIte, eq_self]; try rfl) (fun t => .rfl) (fun _ _ => rfl) (fun q d hq hd => ?_) ?_)
        · match d, hd with
          | 0, _ => exact .rfl
          | 1, _ => exact .hit
          | 2, _ => exact .rfl
          | 3, _ => exact .rfl
          | 4, _ => exact .rfl
        refine vs_entL (Ent.freezeBox (id := imo) (st := 1) (n := x.ow.length) (f := intF (moL2 x x.ow.length)) (j := i6) (st' := 5) (n' := 1) (g := fun _ => [i64 x.F, .rsl x.ow.length 1 (llF (owL x x.ow.length)), .sl imo 1 x.ow.length, .lit (.slice none 0 0), .lit (.slice none 0 0)]) (g' := fun _ => [i64 x.F, .rsl x.ow.length 1 (llF (owL x x.ow.length)), .rsl x.ow.length 1 (intF (moL2 x x.ow.length)), .lit (.slice none 0 0), .lit (.slice none 0 0)]) (by simp only [vsAll, ↓reduceIte, eq_self, hmo, Hp.del_get]; try rfl) (by simp only [vsAll, ↓reduceIte, eq_self]; try rfl) (fun t => .rfl) (fun _ _ => rfl) (fun q d hq hd => ?_) ?_)
        · match d, hd with
          | 0, _ => exact .rfl
          | 1, _ => exact .rfl
          | 2, _ => exact .hit
          | 3, _ => exact .rfl
          | 4, _ => exact .rfl
        refine vs_entL (Ent.weak (H' := H.set i6 (.box 5 1 fun _ => [i64 x.F, llAV (turnI x).ow, intsAV (turnI x).mo, .lit (.slice none 0 0), .lit (.slice none 0 0)])) (fun _ => AV.Le.of_eq rfl) ?_ ?_)
        · rw [eow, emo, llAV, intsAV, lo1, lo2]
          refine HSub_put_eq (by simp only [vsAll, ↓reduceIte, eq_self]; try rfl) (HSub_drop2 (by simp only [eq_self, hh_i6]) (HSub_del (by simp only [eq_self, hmo]) (HSub_drop2 (by simp only [eq_self, hh_i6]) (HSub_del (by simp only [eq_self, how]) ?_))))
          (repeat (first | exact HSub_rfl | refine HSub_put_eq (by simp only [vsAll, binA, binLitA, intA, aggA, aggV, boolA, nilA2, isConst, unA, loadA, loadRow, partA, partOk, fieldAddrA, indexAddrA, indexA, fieldA, extractA, lenA, nilCheckA, boxA, cellA, cellsA, fillA, okParts, buildSliceA, buildMutA, makeSliceA, partIdx, elemsA, lensA, ifaceA, convA, mmA, pickA, okAll, stAll, opsA, partsA, partsOk, opA, allocA, boxMutA, newCells, okCells, storeObj, appendA, guardV, taA, nM, mapUpA, lookA, sliceA, boundsA, opO, okO, copyA, dstOk, nilA, quietOk, nilSliceOp, panA, resA, argFr, retA.eq_1, retA.eq_2, Nat.reduceAdd, Nat.reduceSub, Nat.reduceMul, Nat.reduceLT, Nat.reduceLeDiff, Nat.reduceEqDiff, Nat.reduceBEq, Int.reduceAdd, Int.reduceSub, Int.reduceMul, Int.reduceNeg, Int.reduceLE, Int.reduceLT, Int.reduceEq, Int.reduceNe, Int.reduceToNat, ↓reduceIte, reduceCtorEq, implies_true, forall_const, eq_self, ne_eq, wtAll, Try.ntmps12, Try.results12, hh_i6, how, hmo]) ?_ | refine HSub_drop2 (by simp only [eq_self, hh_i6, how, hmo]) ?_ | refine HSub_keep_eq (by simp only [vsAll, binA, binLitA, intA, aggA, aggV, boolA, nilA2, isConst, unA, loadA, loadRow, partA, partOk, fieldAddrA, indexAddrA, indexA, fieldA, extractA, lenA, nilCheckA, boxA, cellA, cellsA, fillA, okParts, buildSliceA, buildMutA, makeSliceA, partIdx, elemsA, lensA, ifaceA, convA, mmA, pickA, okAll, stAll, opsA, partsA, partsOk, opA, allocA, boxMutA, newCells, okCells, storeObj, appendA, guardV, taA, nM, mapUpA, lookA, sliceA, boundsA, opO, okO, copyA, dstOk, nilA, quietOk, nilSliceOp, panA, resA, argFr, retA.eq_1, retA.eq_2, Nat.reduceAdd, Nat.reduceSub, Nat.reduceMul, Nat.reduceLT, Nat.reduceLeDiff, Nat.reduceEqDiff, Nat.reduceBEq, Int.reduceAdd, Int.reduceSub, Int.reduceMul, Int.reduceNeg, Int.reduceLE, Int.reduceLT, Int.reduceEq, Int.reduceNe, Int.reduceToNat, ↓reduceIte, reduceCtorEq, implies_true, forall_const, eq_self, ne_eq, wtAll, Try.ntmps12, Try.results12, hh_i6, how, hmo]) ?_))
        generalize hOW : llAV (turnI x).ow = OW
        generalize hMO : intsAV (turnI x).mo = MO
        refine vs_entL (Ent.nilBox 1 (stF []) (fun id _ => [i64 x.F, OW, MO, .sl id 1 0, .lit (.slice none 0 0)]) (j := i6) (st' := 5) (n' := 1) (g := fun _ => [i64 x.F, OW, MO, .lit (.slice none 0 0), .lit (.slice none 0 0)]) (Hp.set_same _ _ _) (fun _ _ _ => rfl) (fun id q d hq hd => ?_) fun ist hst => ?_)
        · match d, hd with
          | 0, _ => exact .rfl
          | 1, _ => exact .rfl
          | 2, _ => exact .rfl
          | 3, _ => exact .hit
          | 4, _ => exact .rfl
        simp only [Hp.set_none] at hst
        skip
        refine vs_loop (σ := Nat) (fun i => i ≤ x.st.length) (fun i => [(1, .rptr 1 5 (fun _ => x.cs) 0 0), (3, i64 x.ow.length), (4, i64 x.st.length), (5, i64 x.cl.length), (6, .ref i6 0 5 0 0), (113, i64 x.st.length), (114, i64 i)])
          (fun i => (H.set ist (.row 1 i (stF (stL2 x i)))).set i6 (.box 5 1 fun _ => [i64 x.F, OW, MO, .sl ist 1 i, .lit (.slice none 0 0)])) (fun i => x.st.length - i) 0 (by ((try clear hh_i6); (try clear how); (try clear hmo); (try clear hst); omega)) ?_ ?_ fun i hi2 => ?_
        · simp only [vsAll, Nat.reduceEqDiff, ↓reduceIte, eq_self, Int.natCast_zero]
        · show V.HSub _ ((H.set ist (.row 1 0 (stF []))).set i6 _)
          (repeat (first | exact HSub_rfl | refine HSub_put_eq (by simp only [vsAll, ↓reduceIte, eq_self, hst]) ?_ | refine HSub_drop2 (by simp only [eq_self, hh_i6, hst]) ?_ | refine HSub_keep_eq (by simp only [vsAll, binA, binLitA, intA, aggA, aggV, boolA, nilA2, isConst, unA, loadA, loadRow, partA, partOk, fieldAddrA, indexAddrA, indexA, fieldA, extractA, lenA, nilCheckA, boxA, cellA, cellsA, fillA, okParts, buildSliceA, buildMutA, makeSliceA, partIdx, elemsA, lensA, ifaceA, convA, mmA, pickA, okAll, stAll, opsA, partsA, partsOk, opA, allocA, boxMutA, newCells, okCells, storeObj, appendA, guardV, taA, nM, mapUpA, lookA, sliceA, boundsA, opO, okO, copyA, dstOk, nilA, quietOk, nilSliceOp, panA, resA, argFr, retA.eq_1, retA.eq_2, Nat.reduceAdd, Nat.reduceSub, Nat.reduceMul, Nat.reduceLT, Nat.reduceLeDiff, Nat.reduceEqDiff, Nat.reduceBEq, Int.reduceAdd, Int.reduceSub, Int.reduceMul, Int.reduceNeg, Int.reduceLE, Int.reduceLT, Int.reduceEq, Int.reduceNe, Int.reduceToNat, ↓reduceIte, reduceCtorEq, implies_true, forall_const, eq_self, ne_eq, wtAll, Try.ntmps12, Try.results12, hh_i6, how, hmo, hst]) ?_))
        · simp only [vsAll, binA, binLitA, intA, opA, dstOk, Nat.reduceLT, Nat.reduceEqDiff, Int.reduceNeg, ↓reduceIte, eq_self]
          refine condD (fun hd2 => ?_) (fun hd2 => ?_)
          · have hi1 : ((x.st.length : Int) - 1 - i).toNat = x.st.length - 1 - i := by ((try clear hh_i6); (try clear how); (try clear hmo); (try clear hst); omega)
            have hml := k.st (x.st.length - 1 - i) (by ((try clear hh_i6); (try clear how); (try clear hmo); (try clear hst); omega))
            simp only [vsAll, binA, binLitA, intA, loadA, loadRow, partA, partOk, fieldAddrA, indexAddrA, lenA, opA, dstOk, nilA, nilSliceOp, Nat.reduceLT, Nat.reduceEqDiff, Nat.reduceBEq, Int.reduceNeg, ↓reduceIte, eq_self, wtAll]
            intro il hh_il; (try simp only [ite_none] at hh_il)
            simp only [vsAll, Int.reduceNeg, stF_at, hi1]
            generalize hL : x.st.getD (x.st.length - 1 - i) [] = L at *
            refine ⟨by simp only [InR_i64]; ((try clear hh_i6); (try clear how); (try clear hmo); (try clear hst); (try clear hh_il); omega), by simp only [InR_i64]; ((try clear hh_i6); (try clear how); (try clear hmo); (try clear hst); (try clear hh_il); omega), ⟨by ((try clear hh_i6); (try clear how); (try clear hmo); (try clear hst); (try clear hh_il); omega), by ((try clear hh_i6); (try clear how); (try clear hmo); (try clear hst); (try clear hh_il); omega)⟩, by ((try clear hh_i6); (try clear how); (try clear hmo); (try clear hst); (try clear hh_il); omega), ?_⟩
            refine vs_loop (σ := Nat) (fun j => j ≤ L.length) (fun j => [(1, .rptr 1 5 (fun _ => x.cs) 0 0), (3, i64 x.ow.length), (4, i64 x.st.length), (5, i64 x.cl.length), (6, .ref i6 0 5 0 0), (8, i64 i), (9, .sl il 3 j), (113, i64 x.st.length), (114, i64 i), (125, i64 L.length), (126, i64 j)])
              (fun j => ((H.set ist (.row 1 i (stF (stL2 x i)))).set i6 (.box 5 1 fun _ => [i64 x.F, OW, MO, .sl ist 1 i, .lit (.slice none 0 0)])).set il (.row 3 j (mkF (mkL L j)))) (fun j => L.length - j) 0 (by ((try clear hh_i6); (try clear how); (try clear hmo); (try clear hst); (try clear hh_il); omega)) ?_ ?_ fun j hj => ?_
            · simp only [vsAll, Nat.reduceEqDiff, ↓reduceIte, eq_self, Int.natCast_zero]
            · refine HSub_put (o' := .row 3 0 fun _ => []) (by simp only [vsAll, ↓reduceIte, eq_self]; try rfl) (row0_le _ _ _) ?_
              (repeat (first | exact HSub_rfl | refine HSub_put_eq (by simp only [vsAll, ↓reduceIte, eq_self, hst, hh_il]) ?_ | refine HSub_drop2 (by simp only [eq_self, hh_i6, hst, hh_il]) ?_ | refine HSub_keep_eq (by simp only [vsAll, binA, binLitA, intA, aggA, aggV, boolA, nilA2, isConst, unA, loadA, loadRow, partA, partOk, fieldAddrA, indexAddrA, indexA, fieldA, extractA, lenA, nilCheckA, boxA, cellA, cellsA, fillA, okParts, buildSliceA, buildMutA, makeSliceA, partIdx, elemsA, lensA, ifaceA, convA, mmA, pickA, okAll, stAll, opsA, partsA, partsOk, opA, allocA, boxMutA, newCells, okCells, storeObj, appendA, guardV, taA, nM, mapUpA, lookA, sliceA, boundsA, opO, okO, copyA, dstOk, nilA, quietOk, nilSliceOp, panA, resA, argFr, retA.eq_1, retA.eq_2, Nat.reduceAdd, Nat.reduceSub, Nat.reduceMul, Nat.reduceLT, Nat.reduceLeDiff, Nat.reduceEqDiff, Nat.reduceBEq, Int.reduceAdd, Int.reduceSub, Int.reduceMul, Int.reduceNeg, Int.reduceLE, Int.reduceLT, Int.reduceEq, Int.reduceNe, Int.reduceToNat, ↓reduceIte, reduceCtorEq, implies_true, forall_const, eq_self, ne_eq, wtAll, Try.ntmps12, Try.results12, hh_i6, how, hmo, hst, hh_il]) ?_))
            · simp only [vsAll, binA, binLitA, intA, opA, dstOk, Nat.reduceLT, Nat.reduceEqDiff, Int.reduceNeg, ↓reduceIte, eq_self]
              refine condD (fun hd3 => ?_) (fun hd3 => ?_)
              · have hj1 : ((L.length : Int) - 1 - j).toNat = L.length - 1 - j := by ((try clear hh_i6); (try clear how); (try clear hmo); (try clear hst); (try clear hh_il); omega)
                simp only [vsAll, opA, dstOk, nilSliceOp, Nat.reduceLT, Nat.reduceEqDiff, Nat.reduceBEq, Int.reduceNeg, ↓reduceIte, eq_self]
                refine vs_draw2 [0, 0, 0, 0, 0, 0, 0, 0, 0, 0, 0, 0, 0, 0, 0, 0, 0, 0, 0, 0, 0, 0, 0, 0, 1, 3] [([0, 1, 2, 3, 4, 5, 6, 7, 8, 9, 10, 11, 12, 13, 14, 15, 16, 17, 18, 19, 20, 21, 22, 23], [], 24), ([], [], 25)] [] (by decide +kernel) ?_
                simp only [vsAll, binA, binLitA, intA, loadA, loadRow, partA, partOk, fieldAddrA, indexAddrA, lenA, cellsA, okParts, buildSliceA, partIdx, elemsA, lensA, partsA, partsOk, opA, appendA, dstOk, nilSliceOp, Nat.reduceAdd, Nat.reduceMul, Nat.reduceLT, Nat.reduceLeDiff, Nat.reduceEqDiff, Nat.reduceBEq, Int.reduceNeg, ↓reduceIte, eq_self, wtAll, stF_at, hi1, hL, mkF_at, hj1]
                refine ⟨by simp only [InR_i64]; ((try clear hh_i6); (try clear how); (try clear hmo); (try clear hst); (try clear hh_il); omega), by simp only [InR_i64]; ((try clear hh_i6); (try clear how); (try clear hmo); (try clear hst); (try clear hh_il); omega), ⟨by ((try clear hh_i6); (try clear how); (try clear hmo); (try clear hst); (try clear hh_il); omega), by ((try clear hh_i6); (try clear how); (try clear hmo); (try clear hst); (try clear hh_il); omega)⟩, by ((try clear hh_i6); (try clear how); (try clear hmo); (try clear hst); (try clear hh_il); omega), by simp only [InR_i64]; ((try clear hh_i6); (try clear how); (try clear hmo); (try clear hst); (try clear hh_il); omega), by simp only [InR_i64]; ((try clear hh_i6); (try clear how); (try clear hmo); (try clear hst); (try clear hh_il); omega), ⟨by ((try clear hh_i6); (try clear how); (try clear hmo); (try clear hst); (try clear hh_il); omega), by ((try clear hh_i6); (try clear how); (try clear hmo); (try clear hst); (try clear hh_il); omega)⟩, by ((try clear hh_i6); (try clear how); (try clear hmo); (try clear hst); (try clear hh_il); omega), by simp only [InR_i64]; ((try clear hh_i6); (try clear how); (try clear hmo); (try clear hst); (try clear hh_il); omega), by simp only [InR_i64]; ((try clear hh_i6); (try clear how); (try clear hmo); (try clear hst); (try clear hh_il); omega), ⟨by ((try clear hh_i6); (try clear how); (try clear hmo); (try clear hst); (try clear hh_il); omega), by ((try clear hh_i6); (try clear how); (try clear hmo); (try clear hst); (try clear hh_il); omega)⟩, by ((try clear hh_i6); (try clear how); (try clear hmo); (try clear hst); (try clear hh_il); omega), fun j hj => by (have : j = 0 := by ((try clear hh_i6); (try clear how); (try clear hmo); (try clear hst); (try clear hh_il); omega)); subst this; simp only [vsAll, cellA, okCells, eq_self], by ((try clear hh_i6); (try clear how); (try clear hmo); (try clear hst); (try clear hh_il); omega), by ((try clear hh_i6); (try clear how); (try clear hmo); (try clear hst); (try clear hh_il); omega), by simp only [InR_i64]; ((try clear hh_i6); (try clear how); (try clear hmo); (try clear hst); (try clear hh_il); omega), loop_next (j + 1) (by ((try clear hh_i6); (try clear how); (try clear hmo); (try clear hst); (try clear hh_il); omega)) (by ((try clear hh_i6); (try clear how); (try clear hmo); (try clear hst); (try clear hh_il); omega)) ?_ ?_⟩
                · simp only [vsAll, Nat.reduceEqDiff, ↓reduceIte, eq_self, Int.natCast_add, Int.natCast_one]
                · rw [app_mkL L j _ rfl]
                  (repeat (first | exact HSub_rfl | refine HSub_put_eq (by simp only [vsAll, ↓reduceIte, eq_self, hst, hh_il]) ?_ | refine HSub_drop2 (by simp only [eq_self, hh_i6, hst, hh_il]) ?_ | refine HSub_keep_eq (by simp only [vsAll, binA, binLitA, intA, aggA, aggV, boolA, nilA2, isConst, unA, loadA, loadRow, partA, partOk, fieldAddrA, indexAddrA, indexA, fieldA, extractA, lenA, nilCheckA, boxA, cellA, cellsA, fillA, okParts, buildSliceA, buildMutA, makeSliceA, partIdx, elemsA, lensA, ifaceA, convA, mmA, pickA, okAll, stAll, opsA, partsA, partsOk, opA, allocA, boxMutA, newCells, okCells, storeObj, appendA, guardV, taA, nM, mapUpA, lookA, sliceA, boundsA, opO, okO, copyA, dstOk, nilA, quietOk, nilSliceOp, panA, resA, argFr, retA.eq_1, retA.eq_2, Nat.reduceAdd, Nat.reduceSub, Nat.reduceMul, Nat.reduceLT, Nat.reduceLeDiff, Nat.reduceEqDiff, Nat.reduceBEq, Int.reduceAdd, Int.reduceSub, Int.reduceMul, Int.reduceNeg, Int.reduceLE, Int.reduceLT, Int.reduceEq, Int.reduceNe, Int.reduceToNat, ↓reduceIte, reduceCtorEq, implies_true, forall_const, eq_self, ne_eq, wtAll, Try.ntmps12, Try.results12, hh_i6, how, hmo, hst, hh_il]) ?_))
              · have ej : j = L.length := by ((try clear hh_i6); (try clear how); (try clear hmo); (try clear hst); (try clear hh_il); omega)
                subst ej
                have em : mkL L L.length = revM L := rfl
                have erl := revM_len L
                simp only [vsAll, binA, binLitA, intA, loadA, loadRow, partA, partOk, fieldAddrA, cellA, cellsA, okParts, buildSliceA, partIdx, elemsA, lensA, partsA, partsOk, opA, newCells, okCells, storeObj, appendA, dstOk, Nat.reduceAdd, Nat.reduceMul, Nat.reduceLT, Nat.reduceLeDiff, Nat.reduceEqDiff, Nat.reduceBEq, Int.reduceNeg, ↓reduceIte, eq_self, wtAll, hst, hh_il]
                refine ⟨fun j hj => by (have : j = 0 := by ((try clear hh_i6); (try clear how); (try clear hmo); (try clear hst); (try clear hh_il); omega)); subst this; simp only [vsAll, cellA, okCells, eq_self], by ((try clear hh_i6); (try clear how); (try clear hmo); (try clear hst); (try clear hh_il); omega), by ((try clear hh_i6); (try clear how); (try clear hmo); (try clear hst); (try clear hh_il); omega), by simp only [InR_i64]; ((try clear hh_i6); (try clear how); (try clear hmo); (try clear hst); (try clear hh_il); omega), ?_⟩
                have ex : appF i 1 (stF (stL2 x i)) (fun q => [[AV.sl il 3 L.length]].getD q []) = appF (stL2 x i).length 1 (stF (stL2 x i)) (fun q => [[AV.sl il 3 (revM L).length]].getD q []) := by rw [stL2_len, erl]
                refine loop_ent (Ent.freezeRow (s' := _) (id := il) (st := 3) (n := L.length) (f := mkF (revM L)) (j := ist) (st' := 1) (n' := i + 1) (g := appF i 1 (stF (stL2 x i)) (fun q => [[AV.sl il 3 L.length]].getD q []))
                  (g' := stF (stL2 x (i + 1))) (by simp only [vsAll, ↓reduceIte, eq_self, hh_il, em]) (by simp only [vsAll, ↓reduceIte, eq_self, hst]) (by simp only [vsAll, ne_eq, hh_il]) (fun t => .rfl) (fun q hq => rfl) (fun q c hq hc' => ?_) ?_)
                · have := stF_frz2 (st := stL2 x i) (l := revM L) (il := il) (q := q) (c := c) (by rw [stL2_len]; exact hq) hc'
                  rw [erl, stL2_len] at this
                  rw [stL2_succ, hL]
                  exact this
                · refine loop_next (i + 1) (by ((try clear hh_i6); (try clear how); (try clear hmo); (try clear hst); (try clear hh_il); omega)) (by ((try clear hh_i6); (try clear how); (try clear hmo); (try clear hst); (try clear hh_il); omega)) ?_ ?_
                  · simp only [vsAll, Nat.reduceEqDiff, ↓reduceIte, eq_self, Int.natCast_add, Int.natCast_one]
                  · refine HSub_put_eq (by simp only [vsAll, ↓reduceIte, eq_self, hst, hh_il, Hp.del_get]; try rfl) (HSub_put_eq (by simp only [vsAll, ↓reduceIte, eq_self]; try rfl) (HSub_drop2 (by simp only [eq_self, hst]) (HSub_del (by simp only [eq_self, hh_il]) ?_)))
                    (repeat (first | exact HSub_rfl | refine HSub_put_eq (by simp only [vsAll, binA, binLitA, intA, aggA, aggV, boolA, nilA2, isConst, unA, loadA, loadRow, partA, partOk, fieldAddrA, indexAddrA, indexA, fieldA, extractA, lenA, nilCheckA, boxA, cellA, cellsA, fillA, okParts, buildSliceA, buildMutA, makeSliceA, partIdx, elemsA, lensA, ifaceA, convA, mmA, pickA, okAll, stAll, opsA, partsA, partsOk, opA, allocA, boxMutA, newCells, okCells, storeObj, appendA, guardV, taA, nM, mapUpA, lookA, sliceA, boundsA, opO, okO, copyA, dstOk, nilA, quietOk, nilSliceOp, panA, resA, argFr, retA.eq_1, retA.eq_2, Nat.reduceAdd, Nat.reduceSub, Nat.reduceMul, Nat.reduceLT, Nat.reduceLeDiff, Nat.reduceEqDiff, Nat.reduceBEq, Int.reduceAdd, Int.reduceSub, Int.reduceMul, Int.reduceNeg, Int.reduceLE, Int.reduceLT, Int.reduceEq, Int.reduceNe, Int.reduceToNat, ↓reduceIte, reduceCtorEq, implies_true, forall_const, eq_self, ne_eq, wtAll, Try.ntmps12, Try.results12, hh_i6, how, hmo, hst, hh_il]) ?_ | refine HSub_drop2 (by simp only [eq_self, hh_i6, hst, hh_il]) ?_ | refine HSub_keep_eq (by simp only [vsAll, binA, binLitA, intA, aggA, aggV, boolA, nilA2, isConst, unA, loadA, loadRow, partA, partOk, fieldAddrA, indexAddrA, indexA, fieldA, extractA, lenA, nilCheckA, boxA, cellA, cellsA, fillA, okParts, buildSliceA, buildMutA, makeSliceA, partIdx, elemsA, lensA, ifaceA, convA, mmA, pickA, okAll, stAll, opsA, partsA, partsOk, opA, allocA, boxMutA, newCells, okCells, storeObj, appendA, guardV, taA, nM, mapUpA, lookA, sliceA, boundsA, opO, okO, copyA, dstOk, nilA, quietOk, nilSliceOp, panA, resA, argFr, retA.eq_1, retA.eq_2, Nat.reduceAdd, Nat.reduceSub, Nat.reduceMul, Nat.reduceLT, Nat.reduceLeDiff, Nat.reduceEqDiff, Nat.reduceBEq, Int.reduceAdd, Int.reduceSub, Int.reduceMul, Int.reduceNeg, Int.reduceLE, Int.reduceLT, Int.reduceEq, Int.reduceNe, Int.reduceToNat, ↓reduceIte, reduceCtorEq, implies_true, forall_const, eq_self, ne_eq, wtAll, Try.ntmps12, Try.results12, hh_i6, how, hmo, hst, hh_il]) ?_))
          · have ei2 : i = x.st.length := by ((try clear hh_i6); (try clear how); (try clear hmo); (try clear hst); omega)
            subst ei2
            have est : stL2 x x.st.length = (turnI x).st := rfl
            have ls1 := turn_nS x
            simp only [vsAll, loadA, loadRow, partA, partOk, fieldAddrA, lenA, opA, dstOk, Nat.reduceLT, Nat.reduceEqDiff, Int.reduceNeg, ↓reduceIte, eq_self, wtAll]
            refine vs_entL (Ent.freezeBox (id := ist) (st := 1) (n := x.st.length) (f := stF (stL2 x x.st.length)) (j := i6) (st' := 5) (n' := 1) (g := fun _ => [i64 x.F, OW, MO, .sl ist 1 x.st.length, .lit (.slice none 0 0)]) (g' := fun _ => [i64 x.F, OW, MO, .rsl x.st.length 1 (stF (stL2 x x.st.length)), .lit (.slice none 0 0)]) (by simp only [vsAll, ↓reduceIte, eq_self, hst]; try rfl) (by simp only [vsAll, ↓reduceIte, eq_self]; try rfl) (fun t => .rfl) (fun _ _ => rfl) (fun q d hq hd => ?_) ?_)
            · match d, hd with
              | 0, _ => exact .rfl
              | 1, _ => exact .rfl
              | 2, _ => exact .rfl
              | 3, _ => exact .hit
              | 4, _ => exact .rfl
            refine vs_entL (Ent.weak (H' := H.set i6 (.box 5 1 fun _ => [i64 x.F, OW, MO, stAV (turnI x).st, .lit (.slice none 0 0)])) (fun _ => AV.Le.of_eq rfl) ?_ ?_)
            · rw [est, stAV, ls1]
              refine HSub_put_eq (by simp only [vsAll, ↓reduceIte, eq_self]; try rfl) (HSub_drop2 (by simp only [eq_self, hh_i6]) (HSub_del (by simp only [eq_self, hst]) ?_))
              (repeat (first | exact HSub_rfl | refine HSub_put_eq (by simp only [vsAll, binA, binLitA, intA, aggA, aggV, boolA, nilA2, isConst, unA, loadA, loadRow, partA, partOk, fieldAddrA, indexAddrA, indexA, fieldA, extractA, lenA, nilCheckA, boxA, cellA, cellsA, fillA, okParts, buildSliceA, buildMutA, makeSliceA, partIdx, elemsA, lensA, ifaceA, convA, mmA, pickA, okAll, stAll, opsA, partsA, partsOk, opA, allocA, boxMutA, newCells, okCells, storeObj, appendA, guardV, taA, nM, mapUpA, lookA, sliceA, boundsA, opO, okO, copyA, dstOk, nilA, quietOk, nilSliceOp, panA, resA, argFr, retA.eq_1, retA.eq_2, Nat.reduceAdd, Nat.reduceSub, Nat.reduceMul, Nat.reduceLT, Nat.reduceLeDiff, Nat.reduceEqDiff, Nat.reduceBEq, Int.reduceAdd, Int.reduceSub, Int.reduceMul, Int.reduceNeg, Int.reduceLE, Int.reduceLT, Int.reduceEq, Int.reduceNe, Int.reduceToNat, ↓reduceIte, reduceCtorEq, implies_true, forall_const, eq_self, ne_eq, wtAll, Try.ntmps12, Try.results12, hh_i6, how, hmo, hst]) ?_ | refine HSub_drop2 (by simp only [eq_self, hh_i6, hst]) ?_ | refine HSub_keep_eq (by simp only [vsAll, binA, binLitA, intA, aggA, aggV, boolA, nilA2, isConst, unA, loadA, loadRow, partA, partOk, fieldAddrA, indexAddrA, indexA, fieldA, extractA, lenA, nilCheckA, boxA, cellA, cellsA, fillA, okParts, buildSliceA, buildMutA, makeSliceA, partIdx, elemsA, lensA, ifaceA, convA, mmA, pickA, okAll, stAll, opsA, partsA, partsOk, opA, allocA, boxMutA, newCells, okCells, storeObj, appendA, guardV, taA, nM, mapUpA, lookA, sliceA, boundsA, opO, okO, copyA, dstOk, nilA, quietOk, nilSliceOp, panA, resA, argFr, retA.eq_1, retA.eq_2, Nat.reduceAdd, Nat.reduceSub, Nat.reduceMul, Nat.reduceLT, Nat.reduceLeDiff, Nat.reduceEqDiff, Nat.reduceBEq, Int.reduceAdd, Int.reduceSub, Int.reduceMul, Int.reduceNeg, Int.reduceLE, Int.reduceLT, Int.reduceEq, Int.reduceNe, Int.reduceToNat, ↓reduceIte, reduceCtorEq, implies_true, forall_const, eq_self, ne_eq, wtAll, Try.ntmps12, Try.results12, hh_i6, how, hmo, hst]) ?_))
            generalize hST : stAV (turnI x).st = ST
            refine vs_entL (Ent.nilBox 3 (clF []) (fun id _ => [i64 x.F, OW, MO, ST, .sl id 3 0]) (j := i6) (st' := 5) (n' := 1) (g := fun _ => [i64 x.F, OW, MO, ST, .lit (.slice none 0 0)]) (Hp.set_same _ _ _) (fun _ _ _ => rfl) (fun id q d hq hd => ?_) fun icl hcl => ?_)
            · match d, hd with
              | 0, _ => exact .rfl
              | 1, _ => exact .rfl
              | 2, _ => exact .rfl
              | 3, _ => exact .rfl
              | 4, _ => exact .hit
            simp only [Hp.set_none] at hcl
            skip
            refine vs_loop (σ := Nat) (fun i => i ≤ x.cl.length) (fun i => [(1, .rptr 1 5 (fun _ => x.cs) 0 0), (3, i64 x.ow.length), (4, i64 x.st.length), (5, i64 x.cl.length), (6, .ref i6 0 5 0 0), (164, i64 x.cl.length), (165, i64 i)])
              (fun i => (H.set icl (.row 3 i (clF (clL x i)))).set i6 (.box 5 1 fun _ => [i64 x.F, OW, MO, ST, .sl icl 3 i])) (fun i => x.cl.length - i) 0 (by ((try clear hh_i6); (try clear how); (try clear hmo); (try clear hst); (try clear hcl); omega)) ?_ ?_ fun i hi3 => ?_
            · simp only [vsAll, Nat.reduceEqDiff, ↓reduceIte, eq_self, Int.natCast_zero]
            · show V.HSub _ ((H.set icl (.row 3 0 (clF []))).set i6 _)
              (repeat (first | exact HSub_rfl | refine HSub_put_eq (by simp only [vsAll, ↓reduceIte, eq_self, hcl]) ?_ | refine HSub_drop2 (by simp only [eq_self, hh_i6, hcl]) ?_ | refine HSub_keep_eq (by simp only [vsAll, binA, binLitA, intA, aggA, aggV, boolA, nilA2, isConst, unA, loadA, loadRow, partA, partOk, fieldAddrA, indexAddrA, indexA, fieldA, extractA, lenA, nilCheckA, boxA, cellA, cellsA, fillA, okParts, buildSliceA, buildMutA, makeSliceA, partIdx, elemsA, lensA, ifaceA, convA, mmA, pickA, okAll, stAll, opsA, partsA, partsOk, opA, allocA, boxMutA, newCells, okCells, storeObj, appendA, guardV, taA, nM, mapUpA, lookA, sliceA, boundsA, opO, okO, copyA, dstOk, nilA, quietOk, nilSliceOp, panA, resA, argFr, retA.eq_1, retA.eq_2, Nat.reduceAdd, Nat.reduceSub, Nat.reduceMul, Nat.reduceLT, Nat.reduceLeDiff, Nat.reduceEqDiff, Nat.reduceBEq, Int.reduceAdd, Int.reduceSub, Int.reduceMul, Int.reduceNeg, Int.reduceLE, Int.reduceLT, Int.reduceEq, Int.reduceNe, Int.reduceToNat, ↓reduceIte, reduceCtorEq, implies_true, forall_const, eq_self, ne_eq, wtAll, Try.ntmps12, Try.results12, hh_i6, how, hmo, hst, hcl]) ?_))
            · simp only [vsAll, binA, binLitA, intA, opA, dstOk, Nat.reduceLT, Nat.reduceEqDiff, Int.reduceNeg, ↓reduceIte, eq_self]
              refine condD (fun hd3 => ?_) (fun hd3 => ?_)
              · have hi1 : ((x.cl.length : Int) - 1 - i).toNat = x.cl.length - 1 - i := by ((try clear hh_i6); (try clear how); (try clear hmo); (try clear hst); (try clear hcl); omega)
                have hcs := k.cs (x.cl.length - 1 - i) (by ((try clear hh_i6); (try clear how); (try clear hmo); (try clear hst); (try clear hcl); omega))
                have hco := k.co (x.cl.length - 1 - i) (by ((try clear hh_i6); (try clear how); (try clear hmo); (try clear hst); (try clear hcl); omega))
                simp only [vsAll, binA, binLitA, intA, loadA, loadRow, partA, partOk, fieldAddrA, indexAddrA, cellA, cellsA, fillA, okParts, buildSliceA, partIdx, elemsA, lensA, partsA, partsOk, opA, allocA, newCells, okCells, storeObj, appendA, dstOk, nilSliceOp, Nat.reduceAdd, Nat.reduceMul, Nat.reduceLT, Nat.reduceLeDiff, Nat.reduceEqDiff, Nat.reduceBEq, Int.reduceNeg, ↓reduceIte, eq_self, wtAll, clF_at, hi1]
                generalize hL : x.cl.getD (x.cl.length - 1 - i) cl0 = C at *
                refine ⟨by simp only [InR_i64]; ((try clear hh_i6); (try clear how); (try clear hmo); (try clear hst); (try clear hcl); omega), by simp only [InR_i64]; ((try clear hh_i6); (try clear how); (try clear hmo); (try clear hst); (try clear hcl); omega), ⟨by ((try clear hh_i6); (try clear how); (try clear hmo); (try clear hst); (try clear hcl); omega), by ((try clear hh_i6); (try clear how); (try clear hmo); (try clear hst); (try clear hcl); omega)⟩, by ((try clear hh_i6); (try clear how); (try clear hmo); (try clear hst); (try clear hcl); omega), ?_⟩
                intro i12 hh_i12; (try simp only [ite_none] at hh_i12)
                simp only [vsAll, Nat.reduceLT, Int.reduceNeg, ↓reduceIte, eq_self, hcl, hh_i12]
                refine ⟨by simp only [InR_i64]; ((try clear hh_i6); (try clear how); (try clear hmo); (try clear hst); (try clear hcl); (try clear hh_i12); omega), by simp only [InR_i64]; ((try clear hh_i6); (try clear how); (try clear hmo); (try clear hst); (try clear hcl); (try clear hh_i12); omega), by simp only [InR_i64]; ((try clear hh_i6); (try clear how); (try clear hmo); (try clear hst); (try clear hcl); (try clear hh_i12); omega), by simp only [InR_i64]; ((try clear hh_i6); (try clear how); (try clear hmo); (try clear hst); (try clear hcl); (try clear hh_i12); omega), fun j hj => by (have : j = 0 := by ((try clear hh_i6); (try clear how); (try clear hmo); (try clear hst); (try clear hcl); (try clear hh_i12); omega)); subst this; simp only [vsAll, cellA, okCells, eq_self], by ((try clear hh_i6); (try clear how); (try clear hmo); (try clear hst); (try clear hcl); (try clear hh_i12); omega), by ((try clear hh_i6); (try clear how); (try clear hmo); (try clear hst); (try clear hcl); (try clear hh_i12); omega), by simp only [InR_i64]; ((try clear hh_i6); (try clear how); (try clear hmo); (try clear hst); (try clear hcl); (try clear hh_i12); omega), loop_next (i + 1) (by ((try clear hh_i6); (try clear how); (try clear hmo); (try clear hst); (try clear hcl); (try clear hh_i12); omega)) (by ((try clear hh_i6); (try clear how); (try clear hmo); (try clear hst); (try clear hcl); (try clear hh_i12); omega)) ?_ ?_⟩
                · simp only [vsAll, Nat.reduceEqDiff, ↓reduceIte, eq_self, Int.natCast_add, Int.natCast_one]
                · rw [app_clL x i _ (by rw [hL]; rfl)]
                  (repeat (first | exact HSub_rfl | refine HSub_put_eq (by simp only [vsAll, ↓reduceIte, eq_self, hcl]) ?_ | refine HSub_drop2 (by simp only [eq_self, hh_i6, hcl, hh_i12]) ?_ | refine HSub_keep_eq (by simp only [vsAll, binA, binLitA, intA, aggA, aggV, boolA, nilA2, isConst, unA, loadA, loadRow, partA, partOk, fieldAddrA, indexAddrA, indexA, fieldA, extractA, lenA, nilCheckA, boxA, cellA, cellsA, fillA, okParts, buildSliceA, buildMutA, makeSliceA, partIdx, elemsA, lensA, ifaceA, convA, mmA, pickA, okAll, stAll, opsA, partsA, partsOk, opA, allocA, boxMutA, newCells, okCells, storeObj, appendA, guardV, taA, nM, mapUpA, lookA, sliceA, boundsA, opO, okO, copyA, dstOk, nilA, quietOk, nilSliceOp, panA, resA, argFr, retA.eq_1, retA.eq_2, Nat.reduceAdd, Nat.reduceSub, Nat.reduceMul, Nat.reduceLT, Nat.reduceLeDiff, Nat.reduceEqDiff, Nat.reduceBEq, Int.reduceAdd, Int.reduceSub, Int.reduceMul, Int.reduceNeg, Int.reduceLE, Int.reduceLT, Int.reduceEq, Int.reduceNe, Int.reduceToNat, ↓reduceIte, reduceCtorEq, implies_true, forall_const, eq_self, ne_eq, wtAll, Try.ntmps12, Try.results12, hh_i6, how, hmo, hst, hcl, hh_i12]) ?_))
              · have ei3 : i = x.cl.length := by ((try clear hh_i6); (try clear how); (try clear hmo); (try clear hst); (try clear hcl); omega)
                subst ei3
                have ecl : clL x x.cl.length = (turnI x).cl := rfl
                have lc1 := turn_nC x
                simp only [vsAll, Int.reduceNeg, ↓reduceIte, eq_self]
                refine vs_entR (Ent.freezeBox (id := icl) (st := 3) (n := x.cl.length) (f := clF (clL x x.cl.length)) (j := i6) (st' := 5) (n' := 1) (g := fun _ => [i64 x.F, OW, MO, ST, .sl icl 3 x.cl.length]) (g' := fun _ => [i64 x.F, OW, MO, ST, .rsl x.cl.length 3 (clF (clL x x.cl.length))]) (by simp only [vsAll, ↓reduceIte, eq_self, hcl]; try rfl) (by simp only [vsAll, ↓reduceIte, eq_self]; try rfl) (fun t => .rfl) (fun _ _ => rfl) (fun q d hq hd => ?_) ?_)
                · match d, hd with
                  | 0, _ => exact .rfl
                  | 1, _ => exact .rfl
                  | 2, _ => exact .rfl
                  | 3, _ => exact .rfl
                  | 4, _ => exact .hit
                refine vs_entR (Ent.of [(1, .rptr 1 5 (fun _ => x.cs) 0 0), (3, i64 x.ow.length), (4, i64 x.st.length), (5, i64 x.cl.length), (6, .ref i6 0 5 0 0)] (H' := H.set i6 (.box 5 1 fun _ => (turnI x).cs)) (by simp only [vsAll, Nat.reduceEqDiff, ↓reduceIte, eq_self]) ?_ ?_)
                · have e : (turnI x).cs = [i64 x.F, OW, MO, ST, .rsl x.cl.length 3 (clF (clL x x.cl.length))] := by
                    rw [← hOW, ← hMO, ← hST, ecl]
                    simp only [Ir.cs, clAV, lc1]
                    rfl
                  rw [e]
                  refine HSub_put_eq (by simp only [vsAll, ↓reduceIte, eq_self]; try rfl) (HSub_drop2 (by simp only [eq_self, hh_i6]) (HSub_del (by simp only [eq_self, hcl]) ?_))
                  (repeat (first | exact HSub_rfl | refine HSub_put_eq (by simp only [vsAll, binA, binLitA, intA, aggA, aggV, boolA, nilA2, isConst, unA, loadA, loadRow, partA, partOk, fieldAddrA, indexAddrA, indexA, fieldA, extractA, lenA, nilCheckA, boxA, cellA, cellsA, fillA, okParts, buildSliceA, buildMutA, makeSliceA, partIdx, elemsA, lensA, ifaceA, convA, mmA, pickA, okAll, stAll, opsA, partsA, partsOk, opA, allocA, boxMutA, newCells, okCells, storeObj, appendA, guardV, taA, nM, mapUpA, lookA, sliceA, boundsA, opO, okO, copyA, dstOk, nilA, quietOk, nilSliceOp, panA, resA, argFr, retA.eq_1, retA.eq_2, Nat.reduceAdd, Nat.reduceSub, Nat.reduceMul, Nat.reduceLT, Nat.reduceLeDiff, Nat.reduceEqDiff, Nat.reduceBEq, Int.reduceAdd, Int.reduceSub, Int.reduceMul, Int.reduceNeg, Int.reduceLE, Int.reduceLT, Int.reduceEq, Int.reduceNe, Int.reduceToNat, ↓reduceIte, reduceCtorEq, implies_true, forall_const, eq_self, ne_eq, wtAll, Try.ntmps12, Try.results12, hh_i6, how, hmo, hst, hcl]) ?_ | refine HSub_drop2 (by simp only [eq_self, hh_i6, hcl]) ?_ | refine HSub_keep_eq (by simp only [vsAll, binA, binLitA, intA, aggA, aggV, boolA, nilA2, isConst, unA, loadA, loadRow, partA, partOk, fieldAddrA, indexAddrA, indexA, fieldA, extractA, lenA, nilCheckA, boxA, cellA, cellsA, fillA, okParts, buildSliceA, buildMutA, makeSliceA, partIdx, elemsA, lensA, ifaceA, convA, mmA, pickA, okAll, stAll, opsA, partsA, partsOk, opA, allocA, boxMutA, newCells, okCells, storeObj, appendA, guardV, taA, nM, mapUpA, lookA, sliceA, boundsA, opO, okO, copyA, dstOk, nilA, quietOk, nilSliceOp, panA, resA, argFr, retA.eq_1, retA.eq_2, Nat.reduceAdd, Nat.reduceSub, Nat.reduceMul, Nat.reduceLT, Nat.reduceLeDiff, Nat.reduceEqDiff, Nat.reduceBEq, Int.reduceAdd, Int.reduceSub, Int.reduceMul, Int.reduceNeg, Int.reduceLE, Int.reduceLT, Int.reduceEq, Int.reduceNe, Int.reduceToNat, ↓reduceIte, reduceCtorEq, implies_true, forall_const, eq_self, ne_eq, wtAll, Try.ntmps12, Try.results12, hh_i6, how, hmo, hst, hcl]) ?_))
                have ky := turn_ok k
                have kyn := ky.near
                have ty := turn_turn (x := x) nM
                have tn1 := turn_count k
                have tf1 := turn_falseE k
                have tf2 := turn_few k
                have tcl := turn_clashV k
                have tsh := turn_shortV k
                have tst := fun (s : Nat) (h1 : s < x.st.length) => turn_strake k h1
                have tclm := fun (i : Nat) (h : i < x.cl.length) => turn_claim k h
                have y1 := turn_nO x
                have y2 := turn_nM x
                have y3 := turn_nS x
                have y4 := turn_nC x
                clear hST hOW hMO
                clear OW MO ST
                generalize turnI x = y at *
                refine vs_draw3 [0, 3, 4, 7] [([1, 0, 0, 3, 5, 0, 0, 7, 8, 8], [([1, 2, 5, 6], [2, 6], 0), ([], [6], 3), ([], [6], 4), ([], [], 7)], [8, 9]), ([1, 0, 0, 5, 3, 0, 0, 7, 8, 8], [([1, 2, 5, 6], [2, 6], 0), ([], [2, 6], 4), ([], [6], 3), ([], [], 7)], [8, 9]), ([3, 0, 0, 5, 1, 0, 0, 7, 8, 8], [([1, 2, 5, 6], [2, 6], 4), ([], [2, 6], 0), ([], [6], 3), ([], [], 7)], [8, 9])] (by decide +kernel) fun p hp => ?_
                simp only [List.mem_cons, List.not_mem_nil, or_false] at hp
                rcases hp with rfl | rfl | rfl
                focus
                  simp only [vsAll, loadA, loadRow, partA, partOk, fieldAddrA, okParts, buildMutA, partIdx, elemsA, lensA, okAll, stAll, opsA, partsA, partsOk, opA, appendA, nM, dstOk, Nat.reduceMul, Nat.reduceLT, Nat.reduceLeDiff, Nat.reduceEqDiff, Nat.reduceBEq, Int.reduceNeg, ↓reduceIte, eq_self, wtAll]
                  intro ia hh_ia; (try simp only [ite_none] at hh_ia)
                  refine ⟨fun q hq => by simp [intF, okCells, cellA], by ((try clear hh_i6); (try clear how); (try clear hmo); (try clear hst); (try clear hcl); (try clear hh_ia); omega), by ((try clear hh_i6); (try clear how); (try clear hmo); (try clear hst); (try clear hcl); (try clear hh_ia); omega), ?_⟩
                  intro ib hh_ib; (try simp only [ite_none] at hh_ib)
                  refine ⟨fun q hq => by simp [clF, okCells, cellA], by ((try clear hh_i6); (try clear how); (try clear hmo); (try clear hst); (try clear hcl); (try clear hh_ia); (try clear hh_ib); omega), by ((try clear hh_i6); (try clear how); (try clear hmo); (try clear hst); (try clear hcl); (try clear hh_ia); (try clear hh_ib); omega), ?_⟩
                rotate_left
                focus
                  simp only [vsAll, loadA, loadRow, partA, partOk, fieldAddrA, okParts, buildMutA, partIdx, elemsA, lensA, okAll, stAll, opsA, partsA, partsOk, opA, appendA, nM, dstOk, Nat.reduceMul, Nat.reduceLT, Nat.reduceLeDiff, Nat.reduceEqDiff, Nat.reduceBEq, Int.reduceNeg, ↓reduceIte, eq_self, wtAll]
                  intro ia hh_ia; (try simp only [ite_none] at hh_ia); intro ib hh_ib; (try simp only [ite_none] at hh_ib)
                  simp only [vsAll, Int.reduceNeg, ↓reduceIte, eq_self, hh_ib]
                  refine ⟨fun q hq => by simp [intF, okCells, cellA], by ((try clear hh_i6); (try clear how); (try clear hmo); (try clear hst); (try clear hcl); (try clear hh_ia); (try clear hh_ib); omega), by ((try clear hh_i6); (try clear how); (try clear hmo); (try clear hst); (try clear hcl); (try clear hh_ia); (try clear hh_ib); omega), fun q hq => by simp [clF, okCells, cellA], by ((try clear hh_i6); (try clear how); (try clear hmo); (try clear hst); (try clear hcl); (try clear hh_ia); (try clear hh_ib); omega), by ((try clear hh_i6); (try clear how); (try clear hmo); (try clear hst); (try clear hcl); (try clear hh_ia); (try clear hh_ib); omega), ?_⟩
                rotate_left
                focus
                  simp only [vsAll, loadA, loadRow, partA, partOk, fieldAddrA, okParts, buildMutA, partIdx, elemsA, lensA, okAll, stAll, opsA, partsA, partsOk, opA, appendA, nM, dstOk, Nat.reduceMul, Nat.reduceLT, Nat.reduceLeDiff, Nat.reduceEqDiff, Nat.reduceBEq, Int.reduceNeg, ↓reduceIte, eq_self, wtAll]
                  intro ib hh_ib; (try simp only [ite_none] at hh_ib); intro ia hh_ia; (try simp only [ite_none] at hh_ia)
                  simp only [vsAll, Int.reduceNeg, ↓reduceIte, eq_self, hh_ia]
                  refine ⟨fun q hq => by simp [intF, okCells, cellA], by ((try clear hh_i6); (try clear how); (try clear hmo); (try clear hst); (try clear hcl); (try clear hh_ib); (try clear hh_ia); omega), by ((try clear hh_i6); (try clear how); (try clear hmo); (try clear hst); (try clear hcl); (try clear hh_ib); (try clear hh_ia); omega), fun q hq => by simp [clF, okCells, cellA], by ((try clear hh_i6); (try clear how); (try clear hmo); (try clear hst); (try clear hcl); (try clear hh_ib); (try clear hh_ia); omega), by ((try clear hh_i6); (try clear how); (try clear hmo); (try clear hst); (try clear hcl); (try clear hh_ib); (try clear hh_ia); omega), ?_⟩
                rotate_left
                all_goals
                  skip
                  have cE : countE x = 0 := errE_ok k
                  have cEy : countE y = 0 := errE_ok ky
                  have cV : countV x = (truA x).length := by rw [countV, if_pos cE]
                  have cVy : countV y = (truA x).length := by rw [countV, if_pos cEy, tn1]
                  have cEE : errE x true true = falseE x := rfl
                  have cEEy : errE y true true = falseE x := tf1
                  have sE : errE x true false = 0 := errE_ok k
                  have sEy : errE y true false = 0 := errE_ok ky
                  refine callK_pure (wcount_tri x _ kn) ?_
                  rw [cV, cE]
                  simp only [vsAll, loadA, loadRow, partA, partOk, extractA, okAll, stAll, opsA, opA, dstOk, nilSliceOp, Nat.reduceAdd, Nat.reduceLT, Nat.reduceEqDiff, Nat.reduceBEq, Int.reduceNeg, ↓reduceIte, eq_self, wtAll, hh_ia, hh_ib]
                  refine callK_pure (wcount_tri y _ kyn) ?_
                  rw [cVy, cEy]
                  simp only [vsAll, loadA, loadRow, partA, partOk, extractA, okAll, stAll, opsA, opA, dstOk, nilSliceOp, Nat.reduceAdd, Nat.reduceLT, Nat.reduceEqDiff, Nat.reduceBEq, Int.reduceNeg, ↓reduceIte, eq_self, wtAll]
                  refine callK_pure (wfalse_tri x _ kn) ?_
                  simp only [vsAll, loadA, loadRow, partA, partOk, extractA, okAll, stAll, opsA, opA, dstOk, nilSliceOp, Nat.reduceAdd, Nat.reduceLT, Nat.reduceEqDiff, Nat.reduceBEq, Int.reduceNeg, ↓reduceIte, eq_self, wtAll, hh_ia, hh_ib]
                  refine callK_pure (wfalse_tri y _ kyn) ?_
                  rw [tf2, tf1]
                  simp only [vsAll, loadA, loadRow, partA, partOk, extractA, okAll, stAll, opsA, opA, dstOk, nilSliceOp, Nat.reduceAdd, Nat.reduceLT, Nat.reduceEqDiff, Nat.reduceBEq, Int.reduceNeg, ↓reduceIte, eq_self, wtAll]
                  refine callK_pure (wclash_tri x _ kn) ?_
                  simp only [vsAll, loadA, loadRow, partA, partOk, extractA, okAll, stAll, opsA, opA, dstOk, nilSliceOp, Nat.reduceAdd, Nat.reduceLT, Nat.reduceEqDiff, Nat.reduceBEq, Int.reduceNeg, ↓reduceIte, eq_self, wtAll, hh_ia, hh_ib]
                  refine callK_pure (wclash_tri y _ kyn) ?_
                  simp only [vsAll, loadA, loadRow, partA, partOk, extractA, okAll, stAll, opsA, opA, dstOk, nilSliceOp, Nat.reduceAdd, Nat.reduceLT, Nat.reduceEqDiff, Nat.reduceBEq, Int.reduceNeg, ↓reduceIte, eq_self, wtAll]
                  refine callK_pure (wshort_tri x _ kn) ?_
                  simp only [vsAll, loadA, loadRow, partA, partOk, extractA, okAll, stAll, opsA, opA, dstOk, nilSliceOp, Nat.reduceAdd, Nat.reduceLT, Nat.reduceEqDiff, Nat.reduceBEq, Int.reduceNeg, ↓reduceIte, eq_self, wtAll, hh_ia, hh_ib]
                  refine callK_pure (wshort_tri y _ kyn) ?_
                  rw [cEE, cEEy, sE, sEy, tcl.1, tsh.1]
                  obtain ⟨_, tc2, tc3, tc4⟩ := tcl
                  obtain ⟨_, ts2, ts3, ts4⟩ := tsh
                  generalize setV (falseE x) (clashR x) = p1 at *
                  generalize setV (falseE x) (clashR y) = p2 at *
                  generalize setV 0 (shortR x) = p3 at *
                  generalize setV 0 (shortR y) = p4 at *
                  have dq : ∀ z : Int, decide (z = z) = true := fun z => decide_eq_true rfl
                  have dl : ∀ z : Nat, decide ((z : Int) < 0) = false := fun z => decide_eq_false (by ((try clear hh_i6); (try clear how); (try clear hmo); (try clear hst); (try clear hcl); (try clear hh_ia); (try clear hh_ib); omega))
                  simp only [vsAll, binA, binLitA, intA, extractA, pickA, opA, guardV, dstOk, nilSliceOp, Nat.reduceAdd, Nat.reduceLT, Nat.reduceEqDiff, Nat.reduceBEq, Int.reduceNeg, ↓reduceIte, implies_true, eq_self, dl]
                  refine gcall (i64 (pop p1)) (fun g => ⟨by simp only [vsAll, opA, Nat.reduceEqDiff, ↓reduceIte, eq_self], by simp only [vsAll, okAll, opsA, opA, ↓reduceIte, eq_self], size_tri p1 _ (by ((try clear hh_i6); (try clear how); (try clear hmo); (try clear hst); (try clear hcl); (try clear hh_ia); (try clear hh_ib); omega))⟩) ?_
                  simp only [vsAll, opA, guardV, dstOk, Nat.reduceLT, Nat.reduceEqDiff, Int.reduceNeg, ↓reduceIte, eq_self]
                  refine gcall (i64 (pop p2)) (fun g => ⟨by simp only [vsAll, opA, Nat.reduceEqDiff, ↓reduceIte, eq_self], by simp only [vsAll, okAll, opsA, opA, ↓reduceIte, eq_self], size_tri p2 _ (by ((try clear hh_i6); (try clear how); (try clear hmo); (try clear hst); (try clear hcl); (try clear hh_ia); (try clear hh_ib); omega))⟩) ?_
                  rw [tc2]
                  simp only [vsAll, binA, binLitA, intA, pickA, opA, guardV, dstOk, Nat.reduceLT, Nat.reduceEqDiff, Int.reduceNeg, ↓reduceIte, implies_true, eq_self, dl]
                  refine gcall (i64 (pop p3)) (fun g => ⟨by simp only [vsAll, opA, Nat.reduceEqDiff, ↓reduceIte, eq_self], by simp only [vsAll, okAll, opsA, opA, ↓reduceIte, eq_self], size_tri p3 _ (by ((try clear hh_i6); (try clear how); (try clear hmo); (try clear hst); (try clear hcl); (try clear hh_ia); (try clear hh_ib); omega))⟩) ?_
                  simp only [vsAll, opA, guardV, dstOk, Nat.reduceLT, Nat.reduceEqDiff, Int.reduceNeg, ↓reduceIte, eq_self]
                  refine gcall (i64 (pop p4)) (fun g => ⟨by simp only [vsAll, opA, Nat.reduceEqDiff, ↓reduceIte, eq_self], by simp only [vsAll, okAll, opsA, opA, ↓reduceIte, eq_self], size_tri p4 _ (by ((try clear hh_i6); (try clear how); (try clear hmo); (try clear hst); (try clear hcl); (try clear hh_ia); (try clear hh_ib); omega))⟩) ?_
                  rw [ts2]
                  simp only [vsAll, binA, binLitA, intA, loadA, loadRow, partA, partOk, fieldAddrA, lenA, pickA, opA, guardV, dstOk, Nat.reduceLT, Nat.reduceEqDiff, Int.reduceNeg, ↓reduceIte, implies_true, eq_self, wtAll]
                  refine vs_loop (σ := Nat) (fun i => i ≤ x.st.length) (fun i => [(1, .rptr 1 5 (fun _ => x.cs) 0 0), (3, i64 x.ow.length), (4, i64 x.st.length), (5, i64 x.cl.length), (6, .ref i6 0 5 0 0), (13, .sl ia 1 x.ow.length), (14, .sl ib 3 x.cl.length), (309, i64 x.st.length), (310, i64 i)])
                    (fun _ => ((H.set i6 (.box 5 1 fun _ => y.cs)).set ia (.row 1 x.ow.length (intF x.mo))).set ib (.row 3 x.cl.length (clF x.cl))) (fun i => x.st.length - i) 0 (by ((try clear hh_i6); (try clear how); (try clear hmo); (try clear hst); (try clear hcl); (try clear hh_ia); (try clear hh_ib); omega)) ?_ ?_ fun i hi4 => ?_
                  · simp only [vsAll, Nat.reduceEqDiff, ↓reduceIte, eq_self, Int.natCast_zero]
                  · refine HSub_put (o' := .row 3 x.cl.length (appF 0 x.cl.length (fun _ => []) (clF x.cl))) (by simp only [vsAll, ↓reduceIte, eq_self]; try rfl) (row_ext fun q hq => by rw [appF_at (by ((try clear hh_i6); (try clear how); (try clear hmo); (try clear hst); (try clear hcl); (try clear hh_ia); (try clear hh_ib); omega)), if_neg (by ((try clear hh_i6); (try clear how); (try clear hmo); (try clear hst); (try clear hcl); (try clear hh_ia); (try clear hh_ib); omega)), Nat.sub_zero]) (HSub_put (o' := .row 1 x.ow.length (appF 0 x.ow.length (fun _ => []) (intF x.mo))) (by simp only [vsAll, ↓reduceIte, eq_self, hh_ia, hh_ib]; try rfl) (row_ext fun q hq => by rw [appF_at (by ((try clear hh_i6); (try clear how); (try clear hmo); (try clear hst); (try clear hcl); (try clear hh_ia); (try clear hh_ib); omega)), if_neg (by ((try clear hh_i6); (try clear how); (try clear hmo); (try clear hst); (try clear hcl); (try clear hh_ia); (try clear hh_ib); omega)), Nat.sub_zero]) ?_)
                    (repeat (first | exact HSub_rfl | refine HSub_put_eq (by simp only [vsAll, ↓reduceIte, eq_self, hh_ia, hh_ib]) ?_ | refine HSub_drop2 (by simp only [eq_self, hh_i6, hh_ia, hh_ib]) ?_ | refine HSub_keep_eq (by simp only [vsAll, binA, binLitA, intA, aggA, aggV, boolA, nilA2, isConst, unA, loadA, loadRow, partA, partOk, fieldAddrA, indexAddrA, indexA, fieldA, extractA, lenA, nilCheckA, boxA, cellA, cellsA, fillA, okParts, buildSliceA, buildMutA, makeSliceA, partIdx, elemsA, lensA, ifaceA, convA, mmA, pickA, okAll, stAll, opsA, partsA, partsOk, opA, allocA, boxMutA, newCells, okCells, storeObj, appendA, guardV, taA, nM, mapUpA, lookA, sliceA, boundsA, opO, okO, copyA, dstOk, nilA, quietOk, nilSliceOp, panA, resA, argFr, retA.eq_1, retA.eq_2, Nat.reduceAdd, Nat.reduceSub, Nat.reduceMul, Nat.reduceLT, Nat.reduceLeDiff, Nat.reduceEqDiff, Nat.reduceBEq, Int.reduceAdd, Int.reduceSub, Int.reduceMul, Int.reduceNeg, Int.reduceLE, Int.reduceLT, Int.reduceEq, Int.reduceNe, Int.reduceToNat, ↓reduceIte, reduceCtorEq, implies_true, forall_const, eq_self, ne_eq, wtAll, Try.ntmps12, Try.results12, hh_i6, how, hmo, hst, hcl, hh_ia, hh_ib]) ?_))
                  · simp only [vsAll, binA, binLitA, intA, opA, dstOk, Nat.reduceLT, Nat.reduceEqDiff, Int.reduceNeg, ↓reduceIte, eq_self]
                    refine condD (fun hd4 => ?_) (fun hd4 => ?_)
                    · obtain ⟨⟨s1, s2⟩, s3, s4, s5, s6, s7⟩ := tst i (by ((try clear hh_i6); (try clear how); (try clear hmo); (try clear hst); (try clear hcl); (try clear hh_ia); (try clear hh_ib); omega))
                      have hz : (x.st.length : Int) - 1 - (i : Int) = ((x.st.length - 1 - i : Nat) : Int) := by ((try clear hh_i6); (try clear how); (try clear hmo); (try clear hst); (try clear hcl); (try clear hh_ia); (try clear hh_ib); omega)
                      simp only [vsAll, loadA, loadRow, partA, partOk, okAll, stAll, opsA, opA, dstOk, nilSliceOp, Nat.reduceLT, Nat.reduceEqDiff, Nat.reduceBEq, Int.reduceNeg, ↓reduceIte, eq_self, wtAll]
                      refine callK_pure (wcan_tri x i _ kn) ?_
                      simp only [vsAll, binA, binLitA, intA, loadA, loadRow, partA, partOk, extractA, okAll, stAll, opsA, opA, dstOk, nilSliceOp, Nat.reduceAdd, Nat.reduceLT, Nat.reduceEqDiff, Nat.reduceBEq, Int.reduceNeg, ↓reduceIte, eq_self, wtAll, hh_ia, hh_ib, hz]
                      refine ⟨by simp only [InR_i64]; ((try clear hh_i6); (try clear how); (try clear hmo); (try clear hst); (try clear hcl); (try clear hh_ia); (try clear hh_ib); omega), by simp only [InR_i64]; ((try clear hh_i6); (try clear how); (try clear hmo); (try clear hst); (try clear hcl); (try clear hh_ia); (try clear hh_ib); omega), ?_⟩
                      refine callK_pure (wcan_tri y ((x.st.length - 1 - i : Nat) : Int) _ kyn) ?_
                      simp only [vsAll, loadA, loadRow, partA, partOk, extractA, okAll, stAll, opsA, opA, dstOk, nilSliceOp, Nat.reduceAdd, Nat.reduceLT, Nat.reduceEqDiff, Nat.reduceBEq, Int.reduceNeg, ↓reduceIte, eq_self, wtAll]
                      refine callK_pure (wlikely_tri x i _ kn) ?_
                      simp only [vsAll, binA, binLitA, intA, loadA, loadRow, partA, partOk, extractA, okAll, stAll, opsA, opA, dstOk, nilSliceOp, Nat.reduceAdd, Nat.reduceLT, Nat.reduceEqDiff, Nat.reduceBEq, Int.reduceNeg, ↓reduceIte, eq_self, wtAll, hh_ia, hh_ib, hz]
                      refine ⟨by simp only [InR_i64]; ((try clear hh_i6); (try clear how); (try clear hmo); (try clear hst); (try clear hcl); (try clear hh_ia); (try clear hh_ib); omega), by simp only [InR_i64]; ((try clear hh_i6); (try clear how); (try clear hmo); (try clear hst); (try clear hcl); (try clear hh_ia); (try clear hh_ib); omega), ?_⟩
                      refine callK_pure (wlikely_tri y ((x.st.length - 1 - i : Nat) : Int) _ kyn) ?_
                      rw [s1, s2]
                      generalize canV x i = c1 at *
                      generalize canV y ((x.st.length - 1 - i : Nat) : Int) = c2 at *
                      generalize likV x i = l1 at *
                      generalize likV y ((x.st.length - 1 - i : Nat) : Int) = l2 at *
                      simp only [vsAll, binA, binLitA, intA, extractA, pickA, opA, guardV, dstOk, nilSliceOp, Nat.reduceAdd, Nat.reduceLT, Nat.reduceEqDiff, Nat.reduceBEq, Int.reduceNeg, ↓reduceIte, implies_true, eq_self]
                      refine vs_loop (σ := Nat) (fun o => o ≤ x.ow.length) (fun o => [(1, .rptr 1 5 (fun _ => x.cs) 0 0), (3, i64 x.ow.length), (4, i64 x.st.length), (5, i64 x.cl.length), (6, .ref i6 0 5 0 0), (13, .sl ia 1 x.ow.length), (14, .sl ib 3 x.cl.length), (35, i64 c1), (37, i64 c2), (39, i64 l1), (41, i64 l2), (309, i64 x.st.length), (310, i64 i), (351, i64 x.ow.length), (352, i64 o)])
                        (fun _ => ((H.set i6 (.box 5 1 fun _ => y.cs)).set ia (.row 1 x.ow.length (intF x.mo))).set ib (.row 3 x.cl.length (clF x.cl))) (fun o => x.ow.length - o) 0 (by ((try clear hh_i6); (try clear how); (try clear hmo); (try clear hst); (try clear hcl); (try clear hh_ia); (try clear hh_ib); omega)) ?_ (HSub.refl _) fun o ho => ?_
                      · simp only [vsAll, Nat.reduceEqDiff, ↓reduceIte, eq_self, Int.natCast_zero]
                      · simp only [vsAll, binA, binLitA, intA, opA, dstOk, Nat.reduceLT, Nat.reduceEqDiff, Int.reduceNeg, ↓reduceIte, eq_self]
                        refine condD (fun hd5 => ?_) (fun hd5 => ?_)
                        · obtain ⟨q1, q2⟩ := s3 o (by ((try clear hh_i6); (try clear how); (try clear hmo); (try clear hst); (try clear hcl); (try clear hh_ia); (try clear hh_ib); omega))
                          have hz2 : ((x.ow.length : Int) - 1 - (o : Int)) = ((x.ow.length - 1 - o : Nat) : Int) := by ((try clear hh_i6); (try clear how); (try clear hmo); (try clear hst); (try clear hcl); (try clear hh_ia); (try clear hh_ib); omega)
                          simp only [vsAll, opA, dstOk, nilSliceOp, Nat.reduceLT, Nat.reduceEqDiff, Nat.reduceBEq, Int.reduceNeg, ↓reduceIte, eq_self]
                          refine vs_draw2 [0, 0, 0, 0, 0, 0, 0, 0, 0, 0, 0, 0, 0, 0, 0, 0, 0, 0, 0, 0, 0, 0, 0, 0, 0, 0] [] [0, 1, 2, 3, 4, 5, 6, 7, 8, 9, 10, 11, 12, 13, 14, 15, 16, 17, 18, 19, 20, 21, 22, 23, 24, 25] (by decide +kernel) ?_
                          have d1 : decide ((((((c1 : Nat) : Int) / 2 ^ o).toNat &&& 1 : Nat) : Int) = (((((c2 : Nat) : Int) / 2 ^ (x.ow.length - 1 - o)).toNat &&& 1 : Nat) : Int)) = true := by rw [bitI, bitI, q1]; exact decide_eq_true rfl
                          have d2 : decide ((((((l1 : Nat) : Int) / 2 ^ o).toNat &&& 1 : Nat) : Int) = (((((l2 : Nat) : Int) / 2 ^ (x.ow.length - 1 - o)).toNat &&& 1 : Nat) : Int)) = true := by rw [bitI, bitI, q2]; exact decide_eq_true rfl
                          have r1 := shr_ok c1 o 32 s4 (by decide)
                          have r2 := shr_ok c2 (x.ow.length - 1 - o) 32 s6 (by decide)
                          have r3 := shr_ok l1 o 32 s5 (by decide)
                          have r4 := shr_ok l2 (x.ow.length - 1 - o) 32 s7 (by decide)
                          simp only [vsAll, binA, binLitA, intA, pickA, opA, guardV, dstOk, Nat.reduceLT, Nat.reduceEqDiff, Int.reduceNeg, Int.reduceLE, Int.reduceToNat, ↓reduceIte, implies_true, forall_const, eq_self, hz2, d1, d2]
                          simp only [InR_i64]
                          generalize ((c1 : Nat) : Int) / 2 ^ o = z1 at r1 ⊢
                          generalize ((c2 : Nat) : Int) / 2 ^ (x.ow.length - 1 - o) = z2 at r2 ⊢
                          generalize ((l1 : Nat) : Int) / 2 ^ o = z3 at r3 ⊢
                          generalize ((l2 : Nat) : Int) / 2 ^ (x.ow.length - 1 - o) = z4 at r4 ⊢
                          refine ⟨⟨by ((try clear hh_i6); (try clear how); (try clear hmo); (try clear hst); (try clear hcl); (try clear hh_ia); (try clear hh_ib); omega), by ((try clear hh_i6); (try clear how); (try clear hmo); (try clear hst); (try clear hcl); (try clear hh_ia); (try clear hh_ib); omega), rfl⟩, by ((try clear hh_i6); (try clear how); (try clear hmo); (try clear hst); (try clear hcl); (try clear hh_ia); (try clear hh_ib); omega), by ((try clear hh_i6); (try clear how); (try clear hmo); (try clear hst); (try clear hcl); (try clear hh_ia); (try clear hh_ib); omega), by ((try clear hh_i6); (try clear how); (try clear hmo); (try clear hst); (try clear hcl); (try clear hh_ia); (try clear hh_ib); omega), ⟨by ((try clear hh_i6); (try clear how); (try clear hmo); (try clear hst); (try clear hcl); (try clear hh_ia); (try clear hh_ib); omega), by ((try clear hh_i6); (try clear how); (try clear hmo); (try clear hst); (try clear hcl); (try clear hh_ia); (try clear hh_ib); omega), rfl⟩, by ((try clear hh_i6); (try clear how); (try clear hmo); (try clear hst); (try clear hcl); (try clear hh_ia); (try clear hh_ib); omega), ⟨by ((try clear hh_i6); (try clear how); (try clear hmo); (try clear hst); (try clear hcl); (try clear hh_ia); (try clear hh_ib); omega), by ((try clear hh_i6); (try clear how); (try clear hmo); (try clear hst); (try clear hcl); (try clear hh_ia); (try clear hh_ib); omega), rfl⟩, by ((try clear hh_i6); (try clear how); (try clear hmo); (try clear hst); (try clear hcl); (try clear hh_ia); (try clear hh_ib); omega), by ((try clear hh_i6); (try clear how); (try clear hmo); (try clear hst); (try clear hcl); (try clear hh_ia); (try clear hh_ib); omega), by ((try clear hh_i6); (try clear how); (try clear hmo); (try clear hst); (try clear hcl); (try clear hh_ia); (try clear hh_ib); omega), ⟨by ((try clear hh_i6); (try clear how); (try clear hmo); (try clear hst); (try clear hcl); (try clear hh_ia); (try clear hh_ib); omega), by ((try clear hh_i6); (try clear how); (try clear hmo); (try clear hst); (try clear hcl); (try clear hh_ia); (try clear hh_ib); omega), rfl⟩, by ((try clear hh_i6); (try clear how); (try clear hmo); (try clear hst); (try clear hcl); (try clear hh_ia); (try clear hh_ib); omega), by ((try clear hh_i6); (try clear how); (try clear hmo); (try clear hst); (try clear hcl); (try clear hh_ia); (try clear hh_ib); omega), loop_next (o + 1) (by ((try clear hh_i6); (try clear how); (try clear hmo); (try clear hst); (try clear hcl); (try clear hh_ia); (try clear hh_ib); omega)) (by ((try clear hh_i6); (try clear how); (try clear hmo); (try clear hst); (try clear hcl); (try clear hh_ia); (try clear hh_ib); omega)) ?_ (HSub.refl _)⟩
                          simp only [vsAll, Nat.reduceEqDiff, ↓reduceIte, eq_self, Int.natCast_add, Int.natCast_one]
                        · simp only [vsAll, binA, binLitA, intA, opA, dstOk, Nat.reduceLT, Nat.reduceEqDiff, Int.reduceNeg, ↓reduceIte, eq_self]
                          refine ⟨by simp only [InR_i64]; ((try clear hh_i6); (try clear how); (try clear hmo); (try clear hst); (try clear hcl); (try clear hh_ia); (try clear hh_ib); omega), loop_next (i + 1) (by ((try clear hh_i6); (try clear how); (try clear hmo); (try clear hst); (try clear hcl); (try clear hh_ia); (try clear hh_ib); omega)) (by ((try clear hh_i6); (try clear how); (try clear hmo); (try clear hst); (try clear hcl); (try clear hh_ia); (try clear hh_ib); omega)) ?_ (HSub.refl _)⟩
                          simp only [vsAll, Nat.reduceEqDiff, ↓reduceIte, eq_self, Int.natCast_add, Int.natCast_one]
                    · simp only [vsAll, loadA, loadRow, partA, partOk, fieldAddrA, lenA, opA, dstOk, Nat.reduceLT, Nat.reduceEqDiff, Int.reduceNeg, ↓reduceIte, eq_self, wtAll]
                      refine vs_loop (σ := Nat) (fun i => i ≤ x.cl.length) (fun i => [(1, .rptr 1 5 (fun _ => x.cs) 0 0), (3, i64 x.ow.length), (4, i64 x.st.length), (5, i64 x.cl.length), (6, .ref i6 0 5 0 0), (13, .sl ia 1 x.ow.length), (14, .sl ib 3 x.cl.length), (385, i64 x.cl.length), (386, i64 i)])
                        (fun _ => ((H.set i6 (.box 5 1 fun _ => y.cs)).set ia (.row 1 x.ow.length (intF x.mo))).set ib (.row 3 x.cl.length (clF x.cl))) (fun i => x.cl.length - i) 0 (by ((try clear hh_i6); (try clear how); (try clear hmo); (try clear hst); (try clear hcl); (try clear hh_ia); (try clear hh_ib); omega)) ?_ (HSub.refl _) fun i hi5 => ?_
                      · simp only [vsAll, Nat.reduceEqDiff, ↓reduceIte, eq_self, Int.natCast_zero]
                      · simp only [vsAll, binA, binLitA, intA, opA, dstOk, Nat.reduceLT, Nat.reduceEqDiff, Int.reduceNeg, ↓reduceIte, eq_self]
                        refine condD (fun hd5 => ?_) (fun hd5 => ?_)
                        · obtain ⟨t1, t2⟩ := tclm i (by ((try clear hh_i6); (try clear how); (try clear hmo); (try clear hst); (try clear hcl); (try clear hh_ia); (try clear hh_ib); omega))
                          have hz : (x.cl.length : Int) - 1 - (i : Int) = ((x.cl.length - 1 - i : Nat) : Int) := by ((try clear hh_i6); (try clear how); (try clear hmo); (try clear hst); (try clear hcl); (try clear hh_ia); (try clear hh_ib); omega)
                          simp only [vsAll, loadA, loadRow, partA, partOk, okAll, stAll, opsA, opA, dstOk, nilSliceOp, Nat.reduceLT, Nat.reduceEqDiff, Nat.reduceBEq, Int.reduceNeg, ↓reduceIte, eq_self, wtAll]
                          refine callK_pure (wclaim_tri x i _ kn) ?_
                          simp only [vsAll, binA, binLitA, intA, loadA, loadRow, partA, partOk, extractA, okAll, stAll, opsA, opA, dstOk, nilSliceOp, Nat.reduceAdd, Nat.reduceLT, Nat.reduceEqDiff, Nat.reduceBEq, Int.reduceNeg, ↓reduceIte, eq_self, wtAll, hh_ia, hh_ib, hz]
                          refine ⟨by simp only [InR_i64]; ((try clear hh_i6); (try clear how); (try clear hmo); (try clear hst); (try clear hcl); (try clear hh_ia); (try clear hh_ib); omega), by simp only [InR_i64]; ((try clear hh_i6); (try clear how); (try clear hmo); (try clear hst); (try clear hcl); (try clear hh_ia); (try clear hh_ib); omega), ?_⟩
                          refine callK_pure (wclaim_tri y ((x.cl.length - 1 - i : Nat) : Int) _ kyn) ?_
                          rw [t1, t2]
                          simp only [vsAll, extractA, opA, dstOk, nilSliceOp, Nat.reduceAdd, Nat.reduceLT, Nat.reduceEqDiff, Nat.reduceBEq, Int.reduceNeg, ↓reduceIte, eq_self]
                          refine vs_draw2 [0, 0, 0, 0, 0, 0, 0, 0, 0, 0, 0, 0, 0, 0, 0, 0, 0, 0, 0, 0] [] [0, 1, 2, 3, 4, 5, 6, 7, 8, 9, 10, 11, 12, 13, 14, 15, 16, 17, 18, 19] (by decide +kernel) ?_
                          simp only [vsAll, binA, binLitA, intA, aggA, aggV, loadA, loadRow, partA, partOk, fieldAddrA, indexAddrA, pickA, opA, guardV, dstOk, Nat.reduceLT, Nat.reduceEqDiff, Int.reduceNeg, ↓reduceIte, implies_true, forall_const, eq_self, wtAll, clF_at, litI_bool, litS_int, litS_bool, litS_nil, eqL_int, eqL_bool, eqL_nil, beq_self_eq_true]
                          refine ⟨⟨by ((try clear hh_i6); (try clear how); (try clear hmo); (try clear hst); (try clear hcl); (try clear hh_ia); (try clear hh_ib); omega), by ((try clear hh_i6); (try clear how); (try clear hmo); (try clear hst); (try clear hcl); (try clear hh_ia); (try clear hh_ib); omega)⟩, by ((try clear hh_i6); (try clear how); (try clear hmo); (try clear hst); (try clear hcl); (try clear hh_ia); (try clear hh_ib); omega), ⟨by ((try clear hh_i6); (try clear how); (try clear hmo); (try clear hst); (try clear hcl); (try clear hh_ia); (try clear hh_ib); omega), by ((try clear hh_i6); (try clear how); (try clear hmo); (try clear hst); (try clear hcl); (try clear hh_ia); (try clear hh_ib); omega)⟩, by ((try clear hh_i6); (try clear how); (try clear hmo); (try clear hst); (try clear hcl); (try clear hh_ia); (try clear hh_ib); omega), cl_eqV (x.cl.getD i cl0) (x.cl.getD i cl0), by simp only [InR_i64]; ((try clear hh_i6); (try clear how); (try clear hmo); (try clear hst); (try clear hcl); (try clear hh_ia); (try clear hh_ib); omega), loop_next (i + 1) (by ((try clear hh_i6); (try clear how); (try clear hmo); (try clear hst); (try clear hcl); (try clear hh_ia); (try clear hh_ib); omega)) (by ((try clear hh_i6); (try clear how); (try clear hmo); (try clear hst); (try clear hcl); (try clear hh_ia); (try clear hh_ib); omega)) ?_ (HSub.refl _)⟩
                          simp only [vsAll, Nat.reduceEqDiff, ↓reduceIte, eq_self, Int.natCast_add, Int.natCast_one]
                        · simp only [vsAll, lenA, cellA, cellsA, okParts, buildSliceA, partIdx, elemsA, lensA, partsA, partsOk, opA, dstOk, Nat.reduceAdd, Nat.reduceMul, Nat.reduceLT, Nat.reduceLeDiff, Nat.reduceEqDiff, Nat.reduceBEq, Int.reduceNeg, ↓reduceIte, eq_self, wtAll]
                          refine vs_loop (σ := Nat) (fun i => i ≤ 2) (fun i => [(1, .rptr 1 5 (fun _ => x.cs) 0 0), (4, i64 x.st.length), (5, i64 x.cl.length), (13, .sl ia 1 x.ow.length), (426, .rsl 2 1 fun i => [[i64 (-1)], [i64 x.st.length]].getD i []), (427, i64 ((2 : Nat) : Int)), (428, i64 i)])
                            (fun _ => ((H.set i6 (.box 5 1 fun _ => y.cs)).set ia (.row 1 x.ow.length (intF x.mo))).set ib (.row 3 x.cl.length (clF x.cl))) (fun i => 2 - i) 0 (by ((try clear hh_i6); (try clear how); (try clear hmo); (try clear hst); (try clear hcl); (try clear hh_ia); (try clear hh_ib); omega)) ?_ (HSub.refl _) fun i hi6 => ?_
                          · simp only [vsAll, Nat.reduceEqDiff, Int.reduceNeg, ↓reduceIte, eq_self, Int.natCast_zero]
                          · simp only [vsAll, binA, binLitA, intA, opA, dstOk, Nat.reduceLT, Nat.reduceEqDiff, Int.reduceNeg, ↓reduceIte, eq_self]
                            refine condD (fun hd6 => ?_) (fun hd6 => ?_)
                            · have hbad : ∀ z : Int, (z = -1 ∨ z = x.st.length) → fitsE x z = 2 ∧ canE x z = 2 ∧ likE x z = 2 := fun z hz => by
                                have hv : strB x z = false := by
                                  rw [← Bool.not_eq_true, strB_iff]; ((try clear hh_i6); (try clear how); (try clear hmo); (try clear hst); (try clear hcl); (try clear hh_ia); (try clear hh_ib); omega)
                                refine ⟨?_, ?_, ?_⟩
                                · unfold fitsE; rw [hv]; exact errE_bad k _
                                · unfold canE; rw [hv]; exact errE_bad k _
                                · unfold likE; rw [hv]; exact errE_bad k _
                              have hi01 : i = 0 ∨ i = 1 := by ((try clear hh_i6); (try clear how); (try clear hmo); (try clear hst); (try clear hcl); (try clear hh_ia); (try clear hh_ib); omega)
                              rcases hi01 with rfl | rfl
                              · obtain ⟨b1, b2, b3⟩ := hbad (-1) (.inl rfl)
                                simp only [vsAll, loadA, loadRow, partA, partOk, indexAddrA, okAll, stAll, opsA, opA, dstOk, nilSliceOp, Nat.reduceLT, Nat.reduceEqDiff, Nat.reduceBEq, Int.reduceNeg, Int.reduceLE, Int.reduceToNat, ↓reduceIte, eq_self, wtAll, Int.natCast_zero]
                                refine ⟨by ((try clear hh_i6); (try clear how); (try clear hmo); (try clear hst); (try clear hcl); (try clear hh_ia); (try clear hh_ib); omega), callK_pure (wfits_tri x (-1) _ kn) ?_⟩
                                rw [b1]
                                simp only [vsAll, loadA, loadRow, partA, partOk, extractA, okAll, stAll, opsA, opA, dstOk, nilSliceOp, Nat.reduceAdd, Nat.reduceLT, Nat.reduceEqDiff, Nat.reduceBEq, Int.reduceNeg, ↓reduceIte, eq_self, wtAll]
                                refine callK_pure (wcan_tri x (-1) _ kn) ?_
                                rw [b2]
                                simp only [vsAll, loadA, loadRow, partA, partOk, extractA, okAll, stAll, opsA, opA, dstOk, nilSliceOp, Nat.reduceAdd, Nat.reduceLT, Nat.reduceEqDiff, Nat.reduceBEq, Int.reduceNeg, ↓reduceIte, eq_self, wtAll]
                                refine callK_pure (wlikely_tri x (-1) _ kn) ?_
                                rw [b3]
                                simp only [vsAll, binA, binLitA, intA, extractA, pickA, opA, guardV, dstOk, nilSliceOp, Nat.reduceAdd, Nat.reduceLT, Nat.reduceEqDiff, Nat.reduceBEq, Int.reduceAdd, Int.reduceNeg, ↓reduceIte, implies_true, eq_self]
                                refine ⟨by simp only [InR_i64]; ((try clear hh_i6); (try clear how); (try clear hmo); (try clear hst); (try clear hcl); (try clear hh_ia); (try clear hh_ib); omega), loop_next 1 (by ((try clear hh_i6); (try clear how); (try clear hmo); (try clear hst); (try clear hcl); (try clear hh_ia); (try clear hh_ib); omega)) (by ((try clear hh_i6); (try clear how); (try clear hmo); (try clear hst); (try clear hcl); (try clear hh_ia); (try clear hh_ib); omega)) ?_ (HSub.refl _)⟩
                                simp only [vsAll, Nat.reduceEqDiff, Int.reduceNeg, ↓reduceIte, eq_self, Int.natCast_one]
                              · obtain ⟨b1, b2, b3⟩ := hbad x.st.length (.inr rfl)
                                simp only [vsAll, loadA, loadRow, partA, partOk, indexAddrA, okAll, stAll, opsA, opA, dstOk, nilSliceOp, Nat.reduceLT, Nat.reduceEqDiff, Nat.reduceBEq, Int.reduceNeg, Int.reduceLE, Int.reduceToNat, ↓reduceIte, eq_self, wtAll, Int.natCast_one]
                                refine ⟨by ((try clear hh_i6); (try clear how); (try clear hmo); (try clear hst); (try clear hcl); (try clear hh_ia); (try clear hh_ib); omega), callK_pure (wfits_tri x x.st.length _ kn) ?_⟩
                                rw [b1]
                                simp only [vsAll, loadA, loadRow, partA, partOk, extractA, okAll, stAll, opsA, opA, dstOk, nilSliceOp, Nat.reduceAdd, Nat.reduceLT, Nat.reduceEqDiff, Nat.reduceBEq, Int.reduceNeg, ↓reduceIte, eq_self, wtAll]
                                refine callK_pure (wcan_tri x x.st.length _ kn) ?_
                                rw [b2]
                                simp only [vsAll, loadA, loadRow, partA, partOk, extractA, okAll, stAll, opsA, opA, dstOk, nilSliceOp, Nat.reduceAdd, Nat.reduceLT, Nat.reduceEqDiff, Nat.reduceBEq, Int.reduceNeg, ↓reduceIte, eq_self, wtAll]
                                refine callK_pure (wlikely_tri x x.st.length _ kn) ?_
                                rw [b3]
                                simp only [vsAll, binA, binLitA, intA, extractA, pickA, opA, guardV, dstOk, nilSliceOp, Nat.reduceAdd, Nat.reduceLT, Nat.reduceEqDiff, Nat.reduceBEq, Int.reduceAdd, Int.reduceNeg, ↓reduceIte, implies_true, eq_self]
                                refine ⟨by simp only [InR_i64]; ((try clear hh_i6); (try clear how); (try clear hmo); (try clear hst); (try clear hcl); (try clear hh_ia); (try clear hh_ib); omega), loop_next 2 (by ((try clear hh_i6); (try clear how); (try clear hmo); (try clear hst); (try clear hcl); (try clear hh_ia); (try clear hh_ib); omega)) (by ((try clear hh_i6); (try clear how); (try clear hmo); (try clear hst); (try clear hcl); (try clear hh_ia); (try clear hh_ib); omega)) ?_ (HSub.refl _)⟩
                                simp only [vsAll, Nat.reduceEqDiff, Int.reduceNeg, ↓reduceIte, eq_self]
                                exact AV.Le.of_eq rfl
                            · have c1 : claimE x x.cl.length = 2 := by
                                have hv : numB x (x.cl.length : Int) = false := by rw [← Bool.not_eq_true, numB_iff]; ((try clear hh_i6); (try clear how); (try clear hmo); (try clear hst); (try clear hcl); (try clear hh_ia); (try clear hh_ib); omega)
                                unfold claimE; rw [hv]; exact errE_bad k _
                              have c2 : claimE x (-1) = 2 := by
                                have hv : numB x (-1) = false := by rw [← Bool.not_eq_true, numB_iff]; ((try clear hh_i6); (try clear how); (try clear hmo); (try clear hst); (try clear hcl); (try clear hh_ia); (try clear hh_ib); omega)
                                unfold claimE; rw [hv]; exact errE_bad k _
                              simp only [vsAll, loadA, loadRow, partA, partOk, okAll, stAll, opsA, opA, dstOk, Nat.reduceLT, Nat.reduceEqDiff, Int.reduceNeg, ↓reduceIte, eq_self, wtAll]
                              refine callK_pure (wclaim_tri x x.cl.length _ kn) ?_
                              rw [c1]
                              simp only [vsAll, loadA, loadRow, partA, partOk, extractA, okAll, stAll, opsA, opA, dstOk, nilSliceOp, Nat.reduceAdd, Nat.reduceLT, Nat.reduceEqDiff, Nat.reduceBEq, Int.reduceNeg, ↓reduceIte, eq_self, wtAll]
                              refine callK_pure (wclaim_tri x (-1) _ kn) ?_
                              rw [c2]
                              simp only [vsAll, extractA, lenA, opA, dstOk, nilSliceOp, Nat.reduceAdd, Nat.reduceLT, Nat.reduceEqDiff, Nat.reduceBEq, Int.reduceNeg, ↓reduceIte, eq_self, wtAll]
                              refine vs_loop (σ := Nat) (fun i => i ≤ x.ow.length) (fun i => [(1, .rptr 1 5 (fun _ => x.cs) 0 0), (13, .sl ia 1 x.ow.length), (58, i64 2), (60, i64 2), (475, i64 x.ow.length), (476, i64 i)])
                                (fun _ => ((H.set i6 (.box 5 1 fun _ => y.cs)).set ia (.row 1 x.ow.length (intF x.mo))).set ib (.row 3 x.cl.length (clF x.cl))) (fun i => x.ow.length - i) 0 (by ((try clear hh_i6); (try clear how); (try clear hmo); (try clear hst); (try clear hcl); (try clear hh_ia); (try clear hh_ib); omega)) ?_ (HSub.refl _) fun i hi7 => ?_
                              · simp only [vsAll, Nat.reduceEqDiff, Int.reduceNeg, ↓reduceIte, eq_self, Int.natCast_zero]
                              · simp only [vsAll, binA, binLitA, intA, opA, dstOk, Nat.reduceLT, Nat.reduceEqDiff, ↓reduceIte, eq_self]
                                refine condD (fun hd7 => ?_) (fun hd7 => ?_)
                                · simp only [vsAll, opA, dstOk, nilSliceOp, Nat.reduceLT, Nat.reduceEqDiff, Nat.reduceBEq, ↓reduceIte, eq_self]
                                  refine vs_draw2 [0, 0, 0, 0, 0, 0, 0, 0, 0, 0] [] [0, 1, 2, 3, 4, 5, 6, 7, 8, 9] (by decide +kernel) ?_
                                  simp only [vsAll, binA, binLitA, intA, loadA, loadRow, partA, partOk, fieldAddrA, indexAddrA, opA, nM, dstOk, Nat.reduceLT, Nat.reduceEqDiff, ↓reduceIte, eq_self, wtAll, hh_ia, hh_ib, intF_at]
                                  refine ⟨⟨by ((try clear hh_i6); (try clear how); (try clear hmo); (try clear hst); (try clear hcl); (try clear hh_ia); (try clear hh_ib); omega), by ((try clear hh_i6); (try clear how); (try clear hmo); (try clear hst); (try clear hcl); (try clear hh_ia); (try clear hh_ib); omega)⟩, by ((try clear hh_i6); (try clear how); (try clear hmo); (try clear hst); (try clear hcl); (try clear hh_ia); (try clear hh_ib); omega), ⟨by ((try clear hh_i6); (try clear how); (try clear hmo); (try clear hst); (try clear hcl); (try clear hh_ia); (try clear hh_ib); omega), by ((try clear hh_i6); (try clear how); (try clear hmo); (try clear hst); (try clear hcl); (try clear hh_ia); (try clear hh_ib); omega)⟩, by ((try clear hh_i6); (try clear how); (try clear hmo); (try clear hst); (try clear hcl); (try clear hh_ia); (try clear hh_ib); omega), by simp only [InR_i64]; ((try clear hh_i6); (try clear how); (try clear hmo); (try clear hst); (try clear hcl); (try clear hh_ia); (try clear hh_ib); omega), loop_next (i + 1) (by ((try clear hh_i6); (try clear how); (try clear hmo); (try clear hst); (try clear hcl); (try clear hh_ia); (try clear hh_ib); omega)) (by ((try clear hh_i6); (try clear how); (try clear hmo); (try clear hst); (try clear hcl); (try clear hh_ia); (try clear hh_ib); omega)) ?_ (HSub.refl _)⟩
                                  simp only [vsAll, Nat.reduceEqDiff, ↓reduceIte, eq_self, Int.natCast_add, Int.natCast_one]
                                · simp only [vsAll, binA, binLitA, intA, pickA, opA, guardV, dstOk, Nat.reduceLT, Nat.reduceEqDiff, ↓reduceIte, implies_true, eq_self]
                                  refine gcall (boo true) (fun g => ⟨trivial, by simp only [okAll, opsA], awake_tri _⟩) ?_
                                  simp only [vsAll, pickA, opA, dstOk, nilSliceOp, Nat.reduceLT, Nat.reduceEqDiff, Nat.reduceBEq, ↓reduceIte, implies_true, eq_self]
                                  refine ret0 ?_
                                  simp only [vsAll, resA, retA.eq_1, ↓reduceIte, eq_self, Try.results12]
                                  exact dropR_pure rfl (by (repeat (first | exact HSub_rfl | refine HSub_put_eq (by simp only [vsAll, binA, binLitA, intA, aggA, aggV, boolA, nilA2, isConst, unA, loadA, loadRow, partA, partOk, fieldAddrA, indexAddrA, indexA, fieldA, extractA, lenA, nilCheckA, boxA, cellA, cellsA, fillA, okParts, buildSliceA, buildMutA, makeSliceA, partIdx, elemsA, lensA, ifaceA, convA, mmA, pickA, okAll, stAll, opsA, partsA, partsOk, opA, allocA, boxMutA, newCells, okCells, storeObj, appendA, guardV, taA, nM, mapUpA, lookA, sliceA, boundsA, opO, okO, copyA, dstOk, nilA, quietOk, nilSliceOp, panA, resA, argFr, retA.eq_1, retA.eq_2, Nat.reduceAdd, Nat.reduceSub, Nat.reduceMul, Nat.reduceLT, Nat.reduceLeDiff, Nat.reduceEqDiff, Nat.reduceBEq, Int.reduceAdd, Int.reduceSub, Int.reduceMul, Int.reduceNeg, Int.reduceLE, Int.reduceLT, Int.reduceEq, Int.reduceNe, Int.reduceToNat, ↓reduceIte, reduceCtorEq, implies_true, forall_const, eq_self, ne_eq, wtAll, Try.ntmps12, Try.results12, hh_i6, how, hmo, hst, hcl, hh_ia, hh_ib]) ?_ | refine HSub_drop2 (by simp only [eq_self, hh_i6, hh_ia, hh_ib]) ?_ | refine HSub_keep_eq (by simp only [vsAll, binA, binLitA, intA, aggA, aggV, boolA, nilA2, isConst, unA, loadA, loadRow, partA, partOk, fieldAddrA, indexAddrA, indexA, fieldA, extractA, lenA, nilCheckA, boxA, cellA, cellsA, fillA, okParts, buildSliceA, buildMutA, makeSliceA, partIdx, elemsA, lensA, ifaceA, convA, mmA, pickA, okAll, stAll, opsA, partsA, partsOk, opA, allocA, boxMutA, newCells, okCells, storeObj, appendA, guardV, taA, nM, mapUpA, lookA, sliceA, boundsA, opO, okO, copyA, dstOk, nilA, quietOk, nilSliceOp, panA, resA, argFr, retA.eq_1, retA.eq_2, Nat.reduceAdd, Nat.reduceSub, Nat.reduceMul, Nat.reduceLT, Nat.reduceLeDiff, Nat.reduceEqDiff, Nat.reduceBEq, Int.reduceAdd, Int.reduceSub, Int.reduceMul, Int.reduceNeg, Int.reduceLE, Int.reduceLT, Int.reduceEq, Int.reduceNe, Int.reduceToNat, ↓reduceIte, reduceCtorEq, implies_true, forall_const, eq_self, ne_eq, wtAll, Try.ntmps12, Try.results12, hh_i6, how, hmo, hst, hcl, hh_ia, hh_ib]) ?_)))
end Go.Proofs.Ytkonoggmdcdeeaa
end
section
set_option linter.unusedVariables false
set_option linter.unusedSimpArgs false
set_option maxRecDepth 100000
namespace Go.Proofs.Ytkonoggmdcdeeaa
open Go.V Go.ChangeShapes Go.WideShapes Go.ChangeAt Go.RowKit
theorem irons_cells : cellsT Try.prog 9 27 = some [.int .i64, .sl [.sl [.int .i64]], .sl [.int .i64], .sl [.sl [.int .i64, .int .i64, .int .i64]], .sl [.int .i64, .int .i64, .bool]] := by kernel_rfl
theorem ints_of {av : AV} (h : CKA (.sl [.int .i64]) av) : ∃ l : List Int, l.length ≤ maxLen ∧ AV.Le av (intsAV l) := by
  obtain ⟨l, h1, h2⟩ := told_slice (α := Int) (fun z => [i64 z]) 0 (fun cs hcs => by
    obtain ⟨z, hz, _⟩ := told_int 0 hcs rfl
    exact ⟨z, rfl, fun j hj => by
      match j, hj with
      | 0, _ => rw [hz]; exact AV.Le.refl _⟩) h
  exact ⟨l, h1, h2⟩
theorem marks_of {av : AV} (h : CKA (.sl [.int .i64, .int .i64, .int .i64]) av) : ∃ l : List Mk, l.length ≤ maxLen ∧ AV.Le av (mksAV l) := by
  obtain ⟨l, h1, h2⟩ := told_slice (α := Mk) Mk.cs mk0 (fun cs hcs => by
    obtain ⟨a, ha, _⟩ := told_int 0 hcs rfl
    obtain ⟨b, hb, _⟩ := told_int 1 hcs rfl
    obtain ⟨c, hc, _⟩ := told_int 2 hcs rfl
    exact ⟨⟨a, b, c⟩, rfl, fun j hj => by
      match j, hj with
      | 0, _ => rw [ha]; exact AV.Le.refl _
      | 1, _ => rw [hb]; exact AV.Le.refl _
      | 2, _ => rw [hc]; exact AV.Le.refl _⟩) h
  exact ⟨l, h1, h2⟩
theorem claims_of {av : AV} (h : CKA (.sl [.int .i64, .int .i64, .bool]) av) : ∃ l : List Cl, l.length ≤ maxLen ∧ AV.Le av (clAV l) := by
  obtain ⟨l, h1, h2⟩ := told_slice (α := Cl) Cl.cs cl0 (fun cs hcs => by
    obtain ⟨a, ha, _⟩ := told_int 0 hcs rfl
    obtain ⟨b, hb, _⟩ := told_int 1 hcs rfl
    obtain ⟨c, hc⟩ := told_bool 2 hcs rfl
    exact ⟨⟨a, b, c⟩, rfl, fun j hj => by
      match j, hj with
      | 0, _ => rw [ha]; exact AV.Le.refl _
      | 1, _ => rw [hb]; exact AV.Le.refl _
      | 2, _ => rw [hc]; exact AV.Le.refl _⟩) h
  exact ⟨l, h1, h2⟩
theorem lists_of {av : AV} (h : CKA (.sl [.sl [.int .i64]]) av) : ∃ l : List (List Int), l.length ≤ maxLen ∧ AV.Le av (llAV l) := by
  obtain ⟨l, h1, h2⟩ := told_slice (α := List Int) (fun l => [intsAV l]) [] (fun cs hcs => by
    obtain ⟨l, _, hl⟩ := ints_of (hcs.2 0 _ rfl)
    exact ⟨l, rfl, fun j hj => by
      match j, hj with
      | 0, _ => exact hl⟩) h
  exact ⟨l, h1, h2⟩
theorem strakes_of {av : AV} (h : CKA (.sl [.sl [.int .i64, .int .i64, .int .i64]]) av) : ∃ l : List (List Mk), l.length ≤ maxLen ∧ AV.Le av (stAV l) := by
  obtain ⟨l, h1, h2⟩ := told_slice (α := List Mk) (fun l => [mksAV l]) [] (fun cs hcs => by
    obtain ⟨l, _, hl⟩ := marks_of (hcs.2 0 _ rfl)
    exact ⟨l, rfl, fun j hj => by
      match j, hj with
      | 0, _ => exact hl⟩) h
  exact ⟨l, h1, h2⟩
theorem iron_rel {H : Type} {enc : TypeId × Value → H} {W : World} {sp : Nat → Bool} {held : Bool} {v : Value} {d : DataW H} {ps : List MemPlace}
    (h : DataW.Trod enc Try.prog W 0 sp held 27 v d ps) : ∃ x : Ir, (x.ow.length < 2 ^ 63 ∧ x.st.length < 2 ^ 63) ∧ VRel (st0 W) x.av v := by
  obtain ⟨cs, hcs, hv⟩ := trod_agg irons_cells (by decide) h
  obtain ⟨F, h0, _⟩ := told_int 0 hcs rfl
  obtain ⟨ow, l1, h1⟩ := lists_of (hcs.2 1 _ rfl)
  obtain ⟨mo, l2, h2⟩ := ints_of (hcs.2 2 _ rfl)
  obtain ⟨st, l3, h3⟩ := strakes_of (hcs.2 3 _ rfl)
  obtain ⟨cl, l4, h4⟩ := claims_of (hcs.2 4 _ rfl)
  have hm : maxLen < 2 ^ 63 := by decide
  refine ⟨⟨F, ow, mo, st, cl⟩, ⟨by show ow.length < _; omega, by show st.length < _; omega⟩, AV.Le.aggD (cs := cs) hcs.1.symm (fun j hj => ?_) _ _ hv⟩
  have hj5 : j < 5 := by have := hcs.1; simp at this; omega
  match j, hj5 with
  | 0, _ => rw [h0]; exact AV.Le.refl _
  | 1, _ => exact h1
  | 2, _ => exact h2
  | 3, _ => exact h3
  | 4, _ => exact h4

theorem Try.own : ownKnob Try.prog.godebug = none := by kernel_rfl
theorem u4 : Try.prog.underlying 4 = some .bool := by kernel_rfl
end Go.Proofs.Ytkonoggmdcdeeaa
end
section
set_option linter.unusedVariables false
set_option linter.unusedSimpArgs false
set_option maxRecDepth 100000
namespace Go.Proofs.Ytkonoggmdcdeeaa
open Go.V Go.ChangeShapes Go.WideShapes Go.ChangeAt Go.RowKit
theorem ironTurned_lifted (os : Os) (started : os.Started) (H : Type) (enc : TypeId × Value → H) :
    ReturnsInHanded {} Try.checked os 12 .any (Rows.ironTurnedSpec.pre6 enc Try.prog Try.f12 Rows.ironTurnedRow.domain false) (Rows.ironTurnedSpec.post enc Try.prog Try.f12 false true false false) := by
  refine returnsInHanded_of_change (C := Try.checked) Try.own started (by kernel_rfl) Try.func12
    (ChangeSpec.witness6 (enc := enc) (C := Try.checked) false ⟨#[], #[.agg #[.int .i64 0, .slice none 0 0, .slice none 0 0, .slice none 0 0, .slice none 0 0]], []⟩ 8 (by kernel_rfl) (by kernel_rfl) (by kernel_rfl) (by kernel_rfl)) ?_
  intro W base args ds gs before hval hW hcnd _
  have hW' := hW
  obtain ⟨p, q, hA, hV, rfl, hfz, hnd⟩ := hW
  obtain ⟨rfl, rfl⟩ := trodVars_none hV
  rw [show Try.f12.params.toList = [27] from by kernel_rfl] at hA
  obtain ⟨v0, d0, rfl, rfl, h0⟩ := trodAll_one hA
  obtain ⟨h, hbd, hr⟩ := iron_rel h0
  refine (law_calls Try.func12 (by kernel_rfl) rfl (Tri.mono (turned_law h  H0 hbd.1 hbd.2) ?_) ⟨rfl, fun k hk => match k, hk with | 0, _ => hr⟩).mono fun e W' he => ?_
  · rintro r H' ⟨rfl, _⟩; rfl
  · obtain ⟨rfl, hh, ho, hp⟩ := he
    exact ⟨_, rfl, law_post (d := 6) rfl (tb := 4) (by kernel_rfl) u4 (by decide +kernel) hW' rfl hh ho hp⟩

theorem ironTurned_holds : Rows.IronTurnedSaid :=
  OpenClaim.holds_of_wide (p := Try.pinned) (s := Rows.ironTurnedSpec) (c := Rows.ironTurnedRow) 12 Try.f12 rfl rfl rfl rfl rfl rfl rfl ⟨rfl, rfl, rfl, rfl, rfl⟩ rfl rfl rfl rfl rfl (by kernel_rfl) Try.func12 (by kernel_rfl)
    (of_decide_eq_true (by kernel_rfl)) (by unfold Func.isWrapper; first | (rw [if_pos (by decide +kernel)]; kernel_rfl) | (rw [if_neg (by decide +kernel)]; exact ⟨rfl, rfl⟩))
    (fun os started H enc _ => ironTurned_lifted os started H enc)

end Go.Proofs.Ytkonoggmdcdeeaa
end
