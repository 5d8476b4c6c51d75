/- WHAT IS PROVED: the given statement of this claim. Conditions: none beyond the given row. -/
import Derived.Test.YtkcgocmjaggdiaaEn5
section
set_option linter.unusedVariables false
set_option linter.unusedSimpArgs false
set_option maxHeartbeats 4000000
set_option maxRecDepth 100000
namespace Go.Proofs.Ytkcgocmjaggdiaa
open Go.V Wl
def anyI (ca : Int) (g : Nat → Int) (n : Nat) : Bool := (List.range n).any fun i => decide (ca < g i)
theorem any_zero (ca : Int) (g : Nat → Int) : anyI ca g 0 = false := rfl
theorem any_succ (ca : Int) (g : Nat → Int) (n : Nat) : anyI ca g (n + 1) = (anyI ca g n || decide (ca < g n)) := by simp [anyI, List.range_succ]
theorem any_iff (ca : Int) (g : Nat → Int) (n : Nat) : anyI ca g n = true ↔ ∃ i, i < n ∧ ca < g i := by simp [anyI]
def floL (l : List (Int × Int)) (b : Bool) : List Int := l.map fun x => if b = true then x.1 else x.2
theorem floL_len (l : List (Int × Int)) (b : Bool) : (floL l b).length = l.length := by simp [floL]
theorem floL_at (l : List (Int × Int)) (b : Bool) {i : Nat} (hi : i < l.length) : (floL l b).getD i 0 = if b = true then (l.getD i (0, 0)).1 else (l.getD i (0, 0)).2 := by simp [floL, List.getD_eq_getElem?_getD, hi]
def strL (l : List Wt) (b : Bool) : List Int := l.map fun x => if b = true then x.hi else x.lo
theorem strL_len (l : List Wt) (b : Bool) : (strL l b).length = l.length := by simp [strL]
theorem strL_at (l : List Wt) (b : Bool) {i : Nat} (hi : i < l.length) : (strL l b).getD i 0 = if b = true then (l.getD i wt0).hi else (l.getD i wt0).lo := by simp [strL, List.getD_eq_getElem?_getD, hi]
theorem take_flo {l : List (Int × Int)} (b : Bool) {i : Nat} (h : i < l.length) : floL (l.take (i + 1)) b = floL (l.take i) b ++ [if b = true then (l.getD i (0, 0)).1 else (l.getD i (0, 0)).2] := by
 unfold floL
 rw [List.take_succ_eq_append_getElem h, List.map_append]
 simp [List.getD_eq_getElem?_getD, h]
theorem take_str {l : List Wt} (b : Bool) {i : Nat} (h : i < l.length) : strL (l.take (i + 1)) b = strL (l.take i) b ++ [if b = true then (l.getD i wt0).hi else (l.getD i wt0).lo] := by
 unfold strL
 rw [List.take_succ_eq_append_getElem h, List.map_append]
 simp [List.getD_eq_getElem?_getD, h]
/-- With the ends of all that is known the water is what is told. -/
theorem tru_ends {p : Pu} {l : List Int} (b : Bool) (hl : planB p l = true) : truL p l (startV p b) (fun i => (floL p.fl b).getD i 0) (fun i => (strL p.ws b).getD i 0) l.length = aftL p l b l.length := by
 obtain ⟨ell, hlr⟩ := plan_rng hl
 have h := tr_eq (p := p) (l := l) (b := b) (w := startV p b) (f := fun i => (floL p.fl b).getD i 0) (st := fun i => (strL p.ws b).getD i 0) (n := p.fl.length) hlr rfl
  (fun i hi => floL_at p.fl b hi) (fun w hw => strL_at p.ws b hw)
 unfold truL aftL
 refine List.map_congr_left fun i hi => ?_
 rw [List.mem_range] at hi
 exact h (i + 1) (by omega)
theorem ends_law (p : Pu) (N : Nat) (b : Nat → Int) (H : Hp) (hb : N < 2 ^ 63 ∧ ∀ i, i < N → 0 ≤ b i ∧ b i ≤ 255) : PTri Try.prog (fnA 5) [p.av, .rsl N 1 (byF b)] H (boo true) := by
 refine Tri.drop ?_
 refine tri_v0 (mset [13, 14, 15, 16]) Try.func5 (by kernel_rfl) rfl (by simp only [List.length_append, List.length_cons, List.length_nil, Try.ntmps5]; decide) ?_
 simp only [vsAll, loadA, loadRow, partA, partOk, boxA, boxZ, okAll, stAll, opsA, opA, dstOk, nilSliceOp, argFr, Nat.reduceAdd, Nat.reduceLT, Nat.reduceEqDiff, Nat.reduceBEq, Int.reduceNeg, ↓reduceIte, eq_self, wtAll, Try.ntmps5]
 refine callK_pure (fine_tri p _) ?_
 simp only [vsAll, unA, opA, dstOk, Nat.reduceLT, Int.reduceNeg, ↓reduceIte, eq_self]
 refine condV (fun hc => ?_) (fun hc => ?_)
 ·simp only [vsAll, okAll, stAll, opsA, opA, dstOk, Nat.reduceLT, Int.reduceNeg]
  refine callK_pure (awake_tri _) ?_
  simp only [vsAll, opA, dstOk, nilSliceOp, resA, retA.eq_1, Nat.reduceLT, Nat.reduceBEq, Int.reduceNeg, ↓reduceIte, eq_self, Try.results5]
  exact dropR_pure rfl HSub_rfl
 ·obtain ⟨k, kn⟩ := fine_ok (by simpa using hc)
  have nF := k.nF
  have nW := k.nW
  simp only [vsAll, loadA, loadRow, partA, partOk, okAll, stAll, opsA, opA, dstOk, argFr, Nat.reduceLT, Nat.reduceEqDiff, Int.reduceNeg, ↓reduceIte, eq_self, wtAll]
  refine callK (made_tri p N b _ k hb.1 hb.2) ?_
  rintro r H' ⟨rfl, l, hl, rfl⟩
  obtain ⟨ell, hlr⟩ := plan_rng hl
  have epl := playE_of hl
  simp only [vsAll, loadA, loadRow, partA, partOk, fieldAddrA, okAll, stAll, opsA, opA, dstOk, nilSliceOp, Nat.reduceAdd, Nat.reduceLT, Nat.reduceEqDiff, Nat.reduceBEq, Int.reduceNeg, ↓reduceIte, eq_self, wtAll]
  refine callK_pure (ends_tri p _ k) ?_
  simp only [vsAll, loadA, loadRow, partA, partOk, extractA, okAll, stAll, opsA, opA, dstOk, nilSliceOp, Nat.reduceAdd, Nat.reduceLT, Nat.reduceEqDiff, Nat.reduceBEq, Int.reduceNeg, ↓reduceIte, eq_self, wtAll]
  refine callK_pure (wplay_tri p l _ kn (by omega)) ?_
  simp only [vsAll, loadA, loadRow, partA, partOk, extractA, okAll, stAll, opsA, opA, dstOk, nilSliceOp, Nat.reduceAdd, Nat.reduceLT, Nat.reduceEqDiff, Nat.reduceBEq, Int.reduceNeg, ↓reduceIte, eq_self, wtAll]
  refine callK_pure (flo_tri p l _ kn (by omega)) ?_
  rcases err_cases k with ⟨hA, he⟩ | ⟨hA, he⟩
  ·rw [he] at epl
   simp only [vsAll, binA, binLitA, intA, extractA, pickA, opA, guardV, dstOk, nilSliceOp, Nat.reduceAdd, Nat.reduceLT, Nat.reduceEqDiff, Nat.reduceBEq, Int.reduceNeg, Int.reduceEq, ↓reduceIte, implies_true, eq_self, he, epl]
   refine gcall (boo true) (fun hg => ⟨by simp only [vsAll, opA], by simp only [okAll, opsA], awake_tri _⟩) ?_
   simp only [vsAll, pickA, opA, dstOk, nilSliceOp, resA, retA.eq_1, Nat.reduceLT, Nat.reduceEqDiff, Nat.reduceBEq, Int.reduceNeg, ↓reduceIte, implies_true, eq_self, Try.results5]
   exact dropR_pure rfl HSub_rfl
  ·rw [he] at epl
   have e1 : endV p true = startV p true := if_pos he
   have e2 : endV p false = startV p false := if_pos he
   have hst := start_rng p
   obtain ⟨g1, g2⟩ := play_at epl
   simp only [vsAll, binA, binLitA, intA, loadA, loadRow, partA, partOk, fieldAddrA, extractA, lenA, pickA, opA, guardV, dstOk, nilA, nilSliceOp, Nat.reduceAdd, Nat.reduceLT, Nat.reduceEqDiff, Nat.reduceBEq, Int.reduceNeg, ↓reduceIte, implies_true, eq_self, wtAll, he, epl, e1, e2, beq_self_eq_true]
   intro ia hh_ia; (try simp only [Hp.set_none, ite_none] at hh_ia); intro ib hh_ib; (try simp only [ite_none] at hh_ib); intro ic hh_ic; (try simp only [ite_none] at hh_ic); intro id hh_id; (try simp only [ite_none] at hh_id)
   have q1 : H' ia = none := hh_ia
   have q2 : H' ib = none ∧ ¬ ia = ib ∧ ¬ ib = ia := by simp_all
   have q3 : H' ic = none ∧ ¬ ic = ia ∧ ¬ ia = ic ∧ ¬ ic = ib ∧ ¬ ib = ic := by simp_all
   have q4 : H' id = none ∧ ¬ id = ia ∧ ¬ ia = id ∧ ¬ id = ib ∧ ¬ ib = id ∧ ¬ id = ic ∧ ¬ ic = id := by simp_all
   refine vs_loop (σ := Nat) (fun i => i ≤ p.fl.length)
    (fun i => [(2, pptr p), (5, intsAV l), (6, i64 (startV p true)), (7, i64 (startV p false)), (9, spansAV (playV p l)), (11, i64 (floV p l)), (13, .sl ia 1 i), (14, .sl ib 1 i), (15, .sl ic 1 0), (16, .sl id 1 0), (74, spansAV p.fl), (75, i64 p.fl.length), (76, i64 i)])
    (fun i => (((H'.set ia (.row 1 i (intF (floL (p.fl.take i) true)))).set ib (.row 1 i (intF (floL (p.fl.take i) false)))).set ic (.row 1 0 (intF []))).set id (.row 1 0 (intF [])))
    (fun i => p.fl.length - i) 0 (Nat.zero_le _) ?_ ?_ fun i hi => ?_
   ·simp only [vsAll, Nat.reduceEqDiff, ↓reduceIte, eq_self, Int.natCast_zero]
   ·refine HSub_put (o' := .row 1 0 fun _ => []) (by simp only [vsAll, ↓reduceIte, eq_self]; try rfl) (row_ext fun q hq => absurd hq (Nat.not_lt_zero q)) ?_
    refine HSub_put (o' := .row 1 0 fun _ => []) (by simp only [vsAll, ↓reduceIte, eq_self, hh_id]; try rfl) (row_ext fun q hq => absurd hq (Nat.not_lt_zero q)) ?_
    refine HSub_put (o' := .row 1 0 fun _ => []) (by simp only [vsAll, ↓reduceIte, eq_self, hh_ic, hh_id]; try rfl) (row_ext fun q hq => absurd hq (Nat.not_lt_zero q)) ?_
    refine HSub_put (o' := .row 1 0 fun _ => []) (by simp only [vsAll, ↓reduceIte, eq_self, hh_ib, hh_ic, hh_id]; try rfl) (row_ext fun q hq => absurd hq (Nat.not_lt_zero q)) ?_
    exact HSub_drop2 q4.1 (HSub_drop2 q3.1 (HSub_drop2 q2.1 (HSub_drop2 q1 HSub_rfl)))
   ·have hl1 : (floL (p.fl.take i) true).length = i := by rw [floL_len, List.length_take]; ((try clear hh_ia); (try clear hh_ib); (try clear hh_ic); (try clear hh_id); omega)
    have hl2 : (floL (p.fl.take i) false).length = i := by rw [floL_len, List.length_take]; ((try clear hh_ia); (try clear hh_ib); (try clear hh_ic); (try clear hh_id); omega)
    simp only [vsAll, binA, binLitA, intA, opA, dstOk, Nat.reduceLT, Nat.reduceEqDiff, Int.reduceNeg, ↓reduceIte, eq_self]
    refine condD (fun hd => ?_) (fun hd => ?_)
    ·have his : i < p.fl.length := by ((try clear hh_ia); (try clear hh_ib); (try clear hh_ic); (try clear hh_id); omega)
     have t1 := take_flo true his
     have t2 := take_flo false his
     simp only [if_true, Bool.false_eq_true, if_false] at t1 t2
     have a1 : appF i 1 (intF (floL (p.fl.take i) true)) (fun q => [[i64 (p.fl.getD i (0, 0)).1]].getD q []) = intF (floL (p.fl.take (i + 1)) true) := by rw [t1]; exact app_ints' hl1 _ _ rfl
     have a2 : appF i 1 (intF (floL (p.fl.take i) false)) (fun q => [[i64 (p.fl.getD i (0, 0)).2]].getD q []) = intF (floL (p.fl.take (i + 1)) false) := by rw [t2]; exact app_ints' hl2 _ _ rfl
     simp only [vsAll, loadA, loadRow, partA, partOk, indexAddrA, cellA, opA, allocA, newCells, okCells, storeObj, dstOk, Nat.reduceAdd, Nat.reduceLT, Nat.reduceEqDiff, Int.reduceNeg, ↓reduceIte, eq_self, wtAll, spanF_at]
     refine ⟨⟨by ((try clear hh_ia); (try clear hh_ib); (try clear hh_ic); (try clear hh_id); omega), by ((try clear hh_ia); (try clear hh_ib); (try clear hh_ic); (try clear hh_id); omega)⟩, his, ?_⟩
     intro i18 hh_i18; (try simp only [ite_none] at hh_i18)
     refine vs_draw2 [0, 0, 0, 0, 1, 0, 0, 0, 0, 3, 5, 7] [([0, 1, 2, 3, 5, 6, 7, 8], [7], 4), ([], [], 9), ([], [], 10), ([], [], 11)] [] (by decide +kernel) ?_
     simp only [vsAll, binA, binLitA, intA, loadA, loadRow, partA, partOk, fieldAddrA, cellA, cellsA, okParts, buildSliceA, partIdx, elemsA, lensA, partsA, partsOk, opA, appendA, dstOk, nilSliceOp, Nat.reduceMul, Nat.reduceLT, Nat.reduceLeDiff, Nat.reduceEqDiff, Nat.reduceBEq, Int.reduceNeg, ↓reduceIte, eq_self, wtAll, hh_ib, hh_ic, hh_id, hh_i18]
     refine ⟨fun q hq => by (have : q = 0 := by ((try clear hh_ia); (try clear hh_ib); (try clear hh_ic); (try clear hh_id); (try clear hh_i18); omega)); subst this; exact ⟨rfl, trivial⟩, by ((try clear hh_ia); (try clear hh_ib); (try clear hh_ic); (try clear hh_id); (try clear hh_i18); omega), by ((try clear hh_ia); (try clear hh_ib); (try clear hh_ic); (try clear hh_id); (try clear hh_i18); omega), fun q hq => by (have : q = 0 := by ((try clear hh_ia); (try clear hh_ib); (try clear hh_ic); (try clear hh_id); (try clear hh_i18); omega)); subst this; exact ⟨rfl, trivial⟩, by ((try clear hh_ia); (try clear hh_ib); (try clear hh_ic); (try clear hh_id); (try clear hh_i18); omega), by ((try clear hh_ia); (try clear hh_ib); (try clear hh_ic); (try clear hh_id); (try clear hh_i18); omega), by simp only [InR_i64]; ((try clear hh_ia); (try clear hh_ib); (try clear hh_ic); (try clear hh_id); (try clear hh_i18); omega), loop_next (i + 1) (by ((try clear hh_ia); (try clear hh_ib); (try clear hh_ic); (try clear hh_id); (try clear hh_i18); omega)) (by ((try clear hh_ia); (try clear hh_ib); (try clear hh_ic); (try clear hh_id); (try clear hh_i18); omega)) ?_ ?_⟩
     ·simp only [vsAll, Nat.reduceEqDiff, ↓reduceIte, eq_self, Int.natCast_add, Int.natCast_one]
     ·rw [a1, a2]
      refine HSub_put_eq (by simp only [vsAll, ↓reduceIte, eq_self, hh_id, hh_i18]; try rfl) ?_
      refine HSub_put_eq (by simp only [vsAll, ↓reduceIte, eq_self, hh_ic, hh_id, hh_i18]; try rfl) ?_
      refine HSub_put_eq (by simp only [vsAll, ↓reduceIte, eq_self]; try rfl) ?_
      refine HSub_put_eq (by simp only [vsAll, ↓reduceIte, eq_self, hh_ib]; try rfl) ?_
      exact HSub_drop2 q2.1 (HSub_drop2 q1 (HSub_drop2 (by simp only [eq_self, hh_i18]) (HSub_drop2 (by simp only [eq_self, hh_i18]) (HSub_drop2 q4.1 (HSub_drop2 q3.1 (HSub_drop2 q2.1 (HSub_drop2 q1 HSub_rfl)))))))
    ·have ei : i = p.fl.length := by ((try clear hh_ia); (try clear hh_ib); (try clear hh_ic); (try clear hh_id); omega)
     subst ei
     rw [List.take_length]
     simp only [vsAll, loadA, loadRow, partA, partOk, fieldAddrA, lenA, opA, dstOk, Nat.reduceLT, Nat.reduceEqDiff, Int.reduceNeg, ↓reduceIte, eq_self, wtAll]
     refine vs_loop (σ := Nat) (fun i => i ≤ p.ws.length)
      (fun i => [(2, pptr p), (5, intsAV l), (6, i64 (startV p true)), (7, i64 (startV p false)), (9, spansAV (playV p l)), (11, i64 (floV p l)), (13, .sl ia 1 p.fl.length), (14, .sl ib 1 p.fl.length), (15, .sl ic 1 i), (16, .sl id 1 i), (92, wsAV p.ws), (93, i64 p.ws.length), (94, i64 i)])
      (fun i => (((H'.set ia (.row 1 p.fl.length (intF (floL p.fl true)))).set ib (.row 1 p.fl.length (intF (floL p.fl false)))).set ic (.row 1 i (intF (strL (p.ws.take i) false)))).set id (.row 1 i (intF (strL (p.ws.take i) true))))
      (fun i => p.ws.length - i) 0 (Nat.zero_le _) ?_ HSub_rfl fun i hi => ?_
     ·simp only [vsAll, Nat.reduceEqDiff, ↓reduceIte, eq_self, Int.natCast_zero]
     ·have hl1 : (strL (p.ws.take i) true).length = i := by rw [strL_len, List.length_take]; ((try clear hh_ia); (try clear hh_ib); (try clear hh_ic); (try clear hh_id); omega)
      have hl2 : (strL (p.ws.take i) false).length = i := by rw [strL_len, List.length_take]; ((try clear hh_ia); (try clear hh_ib); (try clear hh_ic); (try clear hh_id); omega)
      simp only [vsAll, binA, binLitA, intA, opA, dstOk, Nat.reduceLT, Nat.reduceEqDiff, Int.reduceNeg, ↓reduceIte, eq_self]
      refine condD (fun hd => ?_) (fun hd => ?_)
      ·have his : i < p.ws.length := by ((try clear hh_ia); (try clear hh_ib); (try clear hh_ic); (try clear hh_id); omega)
       have t1 := take_str true his
       have t2 := take_str false his
       simp only [if_true, Bool.false_eq_true, if_false] at t1 t2
       have a1 : appF i 1 (intF (strL (p.ws.take i) true)) (fun q => [[i64 (p.ws.getD i wt0).hi]].getD q []) = intF (strL (p.ws.take (i + 1)) true) := by rw [t1]; exact app_ints' hl1 _ _ rfl
       have a2 : appF i 1 (intF (strL (p.ws.take i) false)) (fun q => [[i64 (p.ws.getD i wt0).lo]].getD q []) = intF (strL (p.ws.take (i + 1)) false) := by rw [t2]; exact app_ints' hl2 _ _ rfl
       simp only [vsAll, loadA, loadRow, partA, partOk, indexAddrA, cellA, opA, allocA, newCells, okCells, storeObj, dstOk, Nat.reduceAdd, Nat.reduceLT, Nat.reduceEqDiff, Int.reduceNeg, ↓reduceIte, eq_self, wtAll, wsF_at]
       refine ⟨⟨by ((try clear hh_ia); (try clear hh_ib); (try clear hh_ic); (try clear hh_id); omega), by ((try clear hh_ia); (try clear hh_ib); (try clear hh_ic); (try clear hh_id); omega)⟩, his, ?_⟩
       intro i20 hh_i20; (try simp only [ite_none] at hh_i20)
       refine vs_draw2 [0, 0, 0, 0, 0, 1, 0, 0, 0, 0, 0, 3, 5, 7] [([0, 1, 2, 3, 4, 6, 7, 8, 9, 10], [9], 5), ([], [], 11), ([], [], 12), ([], [], 13)] [] (by decide +kernel) ?_
       simp only [vsAll, binA, binLitA, intA, loadA, loadRow, partA, partOk, fieldAddrA, cellA, cellsA, okParts, buildSliceA, partIdx, elemsA, lensA, partsA, partsOk, opA, appendA, dstOk, nilSliceOp, Nat.reduceMul, Nat.reduceLT, Nat.reduceLeDiff, Nat.reduceEqDiff, Nat.reduceBEq, Int.reduceNeg, ↓reduceIte, eq_self, wtAll, hh_id, hh_i20]
       refine ⟨fun q hq => by (have : q = 0 := by ((try clear hh_ia); (try clear hh_ib); (try clear hh_ic); (try clear hh_id); (try clear hh_i20); omega)); subst this; exact ⟨rfl, trivial⟩, by ((try clear hh_ia); (try clear hh_ib); (try clear hh_ic); (try clear hh_id); (try clear hh_i20); omega), by ((try clear hh_ia); (try clear hh_ib); (try clear hh_ic); (try clear hh_id); (try clear hh_i20); omega), fun q hq => by (have : q = 0 := by ((try clear hh_ia); (try clear hh_ib); (try clear hh_ic); (try clear hh_id); (try clear hh_i20); omega)); subst this; exact ⟨rfl, trivial⟩, by ((try clear hh_ia); (try clear hh_ib); (try clear hh_ic); (try clear hh_id); (try clear hh_i20); omega), by ((try clear hh_ia); (try clear hh_ib); (try clear hh_ic); (try clear hh_id); (try clear hh_i20); omega), by simp only [InR_i64]; ((try clear hh_ia); (try clear hh_ib); (try clear hh_ic); (try clear hh_id); (try clear hh_i20); omega), loop_next (i + 1) (by ((try clear hh_ia); (try clear hh_ib); (try clear hh_ic); (try clear hh_id); (try clear hh_i20); omega)) (by ((try clear hh_ia); (try clear hh_ib); (try clear hh_ic); (try clear hh_id); (try clear hh_i20); omega)) ?_ ?_⟩
       ·simp only [vsAll, Nat.reduceEqDiff, ↓reduceIte, eq_self, Int.natCast_add, Int.natCast_one]
       ·rw [a1, a2]
        refine HSub_put_eq (by simp only [vsAll, ↓reduceIte, eq_self]; try rfl) ?_
        refine HSub_put_eq (by simp only [vsAll, ↓reduceIte, eq_self, hh_id]; try rfl) ?_
        refine HSub_put_eq (by simp only [vsAll, ↓reduceIte, eq_self, hh_ic, hh_id, hh_i20]; try rfl) ?_
        refine HSub_put_eq (by simp only [vsAll, ↓reduceIte, eq_self, hh_ib, hh_ic, hh_id, hh_i20]; try rfl) ?_
        exact HSub_drop2 q4.1 (HSub_drop2 q3.1 (HSub_drop2 (by simp only [eq_self, hh_i20]) (HSub_drop2 (by simp only [eq_self, hh_i20]) (HSub_drop2 q4.1 (HSub_drop2 q3.1 (HSub_drop2 q2.1 (HSub_drop2 q1 HSub_rfl)))))))
      ·have ei : i = p.ws.length := by ((try clear hh_ia); (try clear hh_ib); (try clear hh_ic); (try clear hh_id); omega)
       subst ei
       rw [List.take_length]
       have lf1 := floL_len p.fl true
       have lf2 := floL_len p.fl false
       have ls1 := strL_len p.ws true
       have ls2 := strL_len p.ws false
       have w1 := tru_ends true hl
       have w2 := tru_ends false hl
       have t1 := truly_tri p l (startV p true) (floL p.fl true) (strL p.ws true)
       have t2 := truly_tri p l (startV p false) (floL p.fl false) (strL p.ws false)
       rw [w1] at t1
       rw [w2] at t2
       simp only [vsAll, Int.reduceNeg, ↓reduceIte, eq_self]
       refine vs_entR (Ent.of (H' := (((H'.set ia (.row 1 p.fl.length (intF (floL p.fl true)))).set ib (.row 1 p.fl.length (intF (floL p.fl false)))).set ic (.row 1 p.ws.length (intF (strL p.ws false)))).set id (.row 1 p.ws.length (intF (strL p.ws true)))) [(2, pptr p), (5, intsAV l), (6, i64 (startV p true)), (7, i64 (startV p false)), (9, spansAV (playV p l)), (11, i64 (floV p l)), (13, .sl ia 1 p.fl.length), (14, .sl ib 1 p.fl.length), (15, .sl ic 1 p.ws.length), (16, .sl id 1 p.ws.length)] (by simp only [vsAll, Nat.reduceEqDiff, ↓reduceIte, eq_self]) HSub_rfl ?_)
       refine vs_entR (Ent.freezeS (id := ia) (st := 1) (n := p.fl.length) (f := intF (floL p.fl true)) (s' := Fr.of [(2, pptr p), (5, intsAV l), (6, i64 (startV p true)), (7, i64 (startV p false)), (9, spansAV (playV p l)), (11, i64 (floV p l)), (13, intsAV (floL p.fl true)), (14, .sl ib 1 p.fl.length), (15, .sl ic 1 p.ws.length), (16, .sl id 1 p.ws.length)]) (by simp only [vsAll, ↓reduceIte, eq_self, hh_ib, hh_ic, hh_id]; try rfl) (FrzL.fr (.cons (.same _) (.cons (.same _) (.cons (.same _) (.cons (.same _) (.cons (.same _) (.cons (.same _) (.cons (.leaf ⟨rfl, _, fun _ _ => rfl, by rw [intsAV, lf1]⟩) (FrzL.refl _))))))))) ?_)
       refine vs_entR (Ent.freezeS (id := ib) (st := 1) (n := p.fl.length) (f := intF (floL p.fl false)) (s' := Fr.of [(2, pptr p), (5, intsAV l), (6, i64 (startV p true)), (7, i64 (startV p false)), (9, spansAV (playV p l)), (11, i64 (floV p l)), (13, intsAV (floL p.fl true)), (14, intsAV (floL p.fl false)), (15, .sl ic 1 p.ws.length), (16, .sl id 1 p.ws.length)]) (by simp only [vsAll, ↓reduceIte, eq_self, hh_ib, hh_ic, hh_id, Hp.del_get]; try rfl) (FrzL.fr (.cons (.same _) (.cons (.same _) (.cons (.same _) (.cons (.same _) (.cons (.same _) (.cons (.same _) (.cons (.same _) (.cons (.leaf ⟨rfl, _, fun _ _ => rfl, by rw [intsAV, lf2]⟩) (FrzL.refl _)))))))))) ?_)
       refine vs_entR (Ent.freezeS (id := ic) (st := 1) (n := p.ws.length) (f := intF (strL p.ws false)) (s' := Fr.of [(2, pptr p), (5, intsAV l), (6, i64 (startV p true)), (7, i64 (startV p false)), (9, spansAV (playV p l)), (11, i64 (floV p l)), (13, intsAV (floL p.fl true)), (14, intsAV (floL p.fl false)), (15, intsAV (strL p.ws false)), (16, .sl id 1 p.ws.length)]) (by simp only [vsAll, ↓reduceIte, eq_self, hh_ic, hh_id, Hp.del_get]; try rfl) (FrzL.fr (.cons (.same _) (.cons (.same _) (.cons (.same _) (.cons (.same _) (.cons (.same _) (.cons (.same _) (.cons (.same _) (.cons (.same _) (.cons (.leaf ⟨rfl, _, fun _ _ => rfl, by rw [intsAV, ls2]⟩) (FrzL.refl _))))))))))) ?_)
       refine vs_entR (Ent.freezeS (id := id) (st := 1) (n := p.ws.length) (f := intF (strL p.ws true)) (s' := Fr.of [(2, pptr p), (5, intsAV l), (6, i64 (startV p true)), (7, i64 (startV p false)), (9, spansAV (playV p l)), (11, i64 (floV p l)), (13, intsAV (floL p.fl true)), (14, intsAV (floL p.fl false)), (15, intsAV (strL p.ws false)), (16, intsAV (strL p.ws true))]) (by simp only [vsAll, ↓reduceIte, eq_self, hh_id, Hp.del_get]; try rfl) (FrzL.fr (.cons (.same _) (.cons (.same _) (.cons (.same _) (.cons (.same _) (.cons (.same _) (.cons (.same _) (.cons (.same _) (.cons (.same _) (.cons (.same _) (.cons (.leaf ⟨rfl, _, fun _ _ => rfl, by rw [intsAV, ls1]⟩) (FrzL.refl _)))))))))))) ?_)
       refine vs_entR (Ent.of (H' := H') [(2, pptr p), (5, intsAV l), (6, i64 (startV p true)), (7, i64 (startV p false)), (9, spansAV (playV p l)), (11, i64 (floV p l)), (13, intsAV (floL p.fl true)), (14, intsAV (floL p.fl false)), (15, intsAV (strL p.ws false)), (16, intsAV (strL p.ws true))] (by simp only [vsAll, Nat.reduceEqDiff, ↓reduceIte, eq_self]) (HSub_del q4.1 (HSub_del q3.1 (HSub_del q2.1 (HSub_del q1 (HSub_drop2 q4.1 (HSub_drop2 q3.1 (HSub_drop2 q2.1 (HSub_drop2 q1 HSub_rfl)))))))) ?_)
       refine vs_draw2 [0, 0, 0, 0, 0, 0, 0, 0, 0, 0, 0, 0, 0, 0] [] [0, 1, 2, 3, 4, 5, 6, 7, 8, 9, 10, 11, 12, 13] (by decide +kernel) ?_
       simp only [vsAll, loadA, loadRow, partA, partOk, opA, dstOk, Nat.reduceLT, Nat.reduceEqDiff, Int.reduceNeg, ↓reduceIte, eq_self, wtAll]
       refine qcall _ ⟨trivial, by simp only [vsAll, okAll, opsA, opA, Nat.reduceEqDiff, ↓reduceIte, eq_self], t1 _ k hl (hst true) lf1 (fun i hi => ?_) ls1 (fun i hi => ?_)⟩ ?_
       ·rw [floL_at _ _ (by ((try clear hh_ia); (try clear hh_ib); (try clear hh_ic); (try clear hh_id); omega))]
        exact flow_rng k (i := i) (by ((try clear hh_ia); (try clear hh_ib); (try clear hh_ic); (try clear hh_id); omega)) true
       ·rw [strL_at _ _ (by ((try clear hh_ia); (try clear hh_ib); (try clear hh_ic); (try clear hh_id); omega))]
        have := (k.m.wt (w := i) (by ((try clear hh_ia); (try clear hh_ib); (try clear hh_ic); (try clear hh_id); omega))).1
        have e : p.ws.getD i wt0 = p.wt i := rfl
        rw [e, if_pos rfl]
        ((try clear hh_ia); (try clear hh_ib); (try clear hh_ic); (try clear hh_id); omega)
       simp only [vsAll, loadA, loadRow, partA, partOk, opA, dstOk, Nat.reduceLT, Nat.reduceEqDiff, Int.reduceNeg, ↓reduceIte, eq_self, wtAll]
       refine qcall _ ⟨trivial, by simp only [vsAll, okAll, opsA, opA, Nat.reduceEqDiff, ↓reduceIte, eq_self], t2 _ k hl (hst false) lf2 (fun i hi => ?_) ls2 (fun i hi => ?_)⟩ ?_
       ·rw [floL_at _ _ (by ((try clear hh_ia); (try clear hh_ib); (try clear hh_ic); (try clear hh_id); omega))]
        exact flow_rng k (i := i) (by ((try clear hh_ia); (try clear hh_ib); (try clear hh_ic); (try clear hh_id); omega)) false
       ·rw [strL_at _ _ (by ((try clear hh_ia); (try clear hh_ib); (try clear hh_ic); (try clear hh_id); omega))]
        have := (k.m.wt (w := i) (by ((try clear hh_ia); (try clear hh_ib); (try clear hh_ic); (try clear hh_id); omega))).1
        have e : p.ws.getD i wt0 = p.wt i := rfl
        rw [e, if_neg (by decide)]
        ((try clear hh_ia); (try clear hh_ib); (try clear hh_ic); (try clear hh_id); omega)
       generalize hg : (fun i => watV p l false (i + 1)) = g
       generalize hh : (fun i => watV p l true (i + 1)) = h
       have hgi : ∀ i, watV p l false (i + 1) = g i := fun i => by rw [← hg]
       have hhi : ∀ i, watV p l true (i + 1) = h i := fun i => by rw [← hh]
       have hwb := fun b i (hi : i ≤ l.length) => wat_rng (flowLe_ok k (n := l.length) (by ((try clear hh_ia); (try clear hh_ib); (try clear hh_ic); (try clear hh_id); omega))) l b i hi
       have af1 : ∀ i, i < l.length → (aftL p l true l.length).getD i 0 = h i := fun i hi => by rw [aft_at p l true hi, hhi]
       have af2 : ∀ i, i < l.length → (aftL p l false l.length).getD i 0 = g i := fun i hi => by rw [aft_at p l false hi, hgi]
       have al1 := aft_len p l true l.length
       have al2 := aft_len p l false l.length
       simp only [vsAll, binA, binLitA, intA, lenA, opA, dstOk, nilSliceOp, Nat.reduceLT, Nat.reduceEqDiff, Nat.reduceBEq, Int.reduceNeg, ↓reduceIte, eq_self, wtAll, g1]
       refine vs_loop (σ := Nat) (fun i => i ≤ l.length)
        (fun i => [(2, pptr p), (5, intsAV l), (6, i64 (startV p true)), (9, spansAV (playV p l)), (11, i64 (floV p l)), (13, intsAV (floL p.fl true)), (15, intsAV (strL p.ws false)), (16, intsAV (strL p.ws true)), (21, intsAV (aftL p l true l.length)), (22, intsAV (aftL p l false l.length)), (23, i64 (lstI p.ca g i)), (24, boo (anyI p.ca h i)), (129, i64 l.length), (130, i64 i)])
        (fun _ => H') (fun i => l.length - i) 0 (Nat.zero_le _) ?_ HSub_rfl fun i hi => ?_
       ·simp only [vsAll, Nat.reduceEqDiff, Int.reduceNeg, ↓reduceIte, eq_self, Int.natCast_zero, lstI, any_zero]
       ·have hls := lst_cases p.ca g i
        have hnx : lstI p.ca g (i + 1) = if lstI p.ca g i < 0 ∧ p.ca < g i then (i : Int) else lstI p.ca g i := rfl
        have hny := any_succ p.ca h i
        have hai := any_iff p.ca h i
        generalize lstI p.ca g i = Z at hls hnx ⊢
        generalize anyI p.ca h i = Y at hny hai ⊢
        simp only [vsAll, binA, binLitA, intA, opA, dstOk, Nat.reduceLT, Nat.reduceEqDiff, ↓reduceIte, eq_self]
        refine condD (fun hd => ?_) (fun hd => ?_)
        ·have his : i < l.length := by ((try clear hh_ia); (try clear hh_ib); (try clear hh_ic); (try clear hh_id); omega)
         have hpi := g2 i his
         rw [hgi, hhi] at hpi
         have f1 := af1 i his
         have f2 := af2 i his
         simp only [vsAll, opA, dstOk, nilSliceOp, Nat.reduceLT, Nat.reduceEqDiff, Nat.reduceBEq, ↓reduceIte, eq_self]
         refine vs_draw2 [0, 0, 0, 0, 0, 0, 0, 0, 0, 0, 0, 0, 0, 0] [] [0, 1, 2, 3, 4, 5, 6, 7, 8, 9, 10, 11, 12, 13] (by decide +kernel) ?_
         have e0 : l.getD i 0 = l.getD i (-1) := by simp [List.getD_eq_getElem?_getD, his]
         have hx := hlr i (by ((try clear hh_ia); (try clear hh_ib); (try clear hh_ic); (try clear hh_id); omega))
         have eo1 : outE p l (i : Int) = 0 := by
          unfold outE
          rw [hl, decide_eq_true (by ((try clear hh_ia); (try clear hh_ib); (try clear hh_ic); (try clear hh_id); omega) : (0 : Int) ≤ i), decide_eq_true (by ((try clear hh_ia); (try clear hh_ib); (try clear hh_ic); (try clear hh_id); omega) : (i : Int) ≤ (p.fl.length : Int) - 1)]
          exact he
         have eo2 : outV p l (i : Int) = (strV p l i false, strV p l i true) := by
          unfold outV
          rw [if_pos eo1, Int.toNat_natCast]
         have sn := str_nn p l i false
         have hk0 : strV p l i false ≤ strV p l i true ∧ (l.getD i (-1) < 0 → strV p l i false = 0 ∧ strV p l i true = 0) ∧ (0 ≤ l.getD i (-1) → strV p l i false ≤ (p.wt (l.getD i (-1)).toNat).lo ∧ strV p l i true ≤ (p.wt (l.getD i (-1)).toNat).hi) := by
          unfold strV
          by_cases hx0 : l.getD i (-1) < 0
          ·rw [if_pos hx0, if_pos hx0]
           exact ⟨Int.le_refl _, fun _ => ⟨rfl, rfl⟩, fun h => by ((try clear hh_ia); (try clear hh_ib); (try clear hh_ic); (try clear hh_id); omega)⟩
          ·rw [if_neg hx0, if_neg hx0]
           have hkw := k.m.wt (w := (l.getD i (-1)).toNat) (by ((try clear hh_ia); (try clear hh_ib); (try clear hh_ic); (try clear hh_id); omega))
           have := Int.mul_nonneg hkw.2.1.1 (show (0 : Int) ≤ ((wornV p l (l.getD i (-1)).toNat i : Nat) : Int) by ((try clear hh_ia); (try clear hh_ib); (try clear hh_ic); (try clear hh_id); omega))
           simp only [freshV, if_true, Bool.false_eq_true, if_false]
           exact ⟨by ((try clear hh_ia); (try clear hh_ib); (try clear hh_ic); (try clear hh_id); omega), fun h => absurd h hx0, fun _ => by ((try clear hh_ia); (try clear hh_ib); (try clear hh_ic); (try clear hh_id); omega)⟩
         have hstep : h i = max 0 ((if i = 0 then startV p true else h (i - 1)) + (floL p.fl true).getD i 0 - strV p l i true) := by
          rw [← hhi, floL_at p.fl true (by ((try clear hh_ia); (try clear hh_ib); (try clear hh_ic); (try clear hh_id); omega)), watV]
          have ef : flowV p i true = if true = true then (p.fl.getD i (0, 0)).1 else (p.fl.getD i (0, 0)).2 := rfl
          rw [← ef]
          cases i with
          | zero => rfl
          | succ j => rw [← hhi]; rfl
         simp only [vsAll, loadA, loadRow, partA, partOk, indexAddrA, opA, dstOk, Nat.reduceLT, Nat.reduceEqDiff, ↓reduceIte, eq_self, wtAll, intF_at, spanF_at, f1, f2, al1, al2, hpi, g1]
         refine ⟨⟨by ((try clear hh_ia); (try clear hh_ib); (try clear hh_ic); (try clear hh_id); omega), by ((try clear hh_ia); (try clear hh_ib); (try clear hh_ic); (try clear hh_id); omega)⟩, his, ⟨by ((try clear hh_ia); (try clear hh_ib); (try clear hh_ic); (try clear hh_id); omega), by ((try clear hh_ia); (try clear hh_ib); (try clear hh_ic); (try clear hh_id); omega)⟩, his, ⟨by ((try clear hh_ia); (try clear hh_ib); (try clear hh_ic); (try clear hh_id); omega), by ((try clear hh_ia); (try clear hh_ib); (try clear hh_ic); (try clear hh_id); omega)⟩, his, qcall _ ⟨trivial, by simp only [vsAll, okAll, opsA, opA, Nat.reduceEqDiff, ↓reduceIte, eq_self], span_tri (h i) (g i) _⟩ ?_⟩
         simp only [vsAll, binA, aggA, opA, dstOk, Nat.reduceAdd, Nat.reduceLT, Nat.reduceEqDiff, ↓reduceIte, eq_self]
         refine ⟨eq_sp, ?_⟩
         refine vs_draw2 [0, 0, 0, 0, 0, 0, 0, 0, 0, 0, 0] [] [0, 1, 2, 3, 4, 5, 6, 7, 8, 9, 10] (by decide +kernel) ?_
         simp only [vsAll, binA, binLitA, intA, loadA, loadRow, partA, partOk, fieldAddrA, indexAddrA, pickA, opA, guardV, dstOk, Nat.reduceLT, Nat.reduceEqDiff, ↓reduceIte, implies_true, eq_self, wtAll, intF_at, f2, al2]
         refine ⟨fun g => ⟨g, g, by ((try clear hh_ia); (try clear hh_ib); (try clear hh_ic); (try clear hh_id); omega), by ((try clear hh_ia); (try clear hh_ib); (try clear hh_ic); (try clear hh_id); omega)⟩, fun g => ⟨g, his⟩, condV (fun hc2 => ?_) (fun hc2 => ?_)⟩
         ·rw [Bool.and_eq_true, decide_eq_true_eq, decide_eq_true_eq] at hc2
          rw [if_pos hc2] at hnx
          simp only [vsAll, opA, dstOk, nilSliceOp, Nat.reduceLT, Nat.reduceEqDiff, Nat.reduceBEq, ↓reduceIte, eq_self]
          refine vs_draw2 [0, 0, 0, 0, 0, 0, 0, 0, 0, 0, 1] [([0, 1, 2, 3, 4, 5, 6, 7, 8, 9], [], 10)] [] (by decide +kernel) ?_
          simp only [vsAll, binA, binLitA, intA, loadA, loadRow, partA, partOk, fieldAddrA, indexAddrA, pickA, okAll, stAll, opsA, opA, guardV, dstOk, nilSliceOp, Nat.reduceLT, Nat.reduceEqDiff, Nat.reduceBEq, ↓reduceIte, implies_true, eq_self, wtAll, intF_at, f1, al1]
          refine ⟨fun g => ⟨g, g, by ((try clear hh_ia); (try clear hh_ib); (try clear hh_ic); (try clear hh_id); omega), by ((try clear hh_ia); (try clear hh_ib); (try clear hh_ic); (try clear hh_id); omega)⟩, fun g => ⟨g, his⟩, ?_⟩
          refine callK_pure (wout_tri p l i _ kn (by ((try clear hh_ia); (try clear hh_ib); (try clear hh_ic); (try clear hh_id); omega))) ?_
          simp only [vsAll, loadA, loadRow, partA, partOk, indexAddrA, extractA, cellA, opA, allocA, newCells, okCells, storeObj, dstOk, nilSliceOp, Nat.reduceAdd, Nat.reduceLT, Nat.reduceEqDiff, Nat.reduceBEq, ↓reduceIte, eq_self, wtAll, eo1, eo2]
          intro i26 hh_i26; (try simp only [Hp.set_none, ite_none] at hh_i26)
          simp only [vsAll, Int.reduceNeg, intF_at, e0]
          refine ⟨⟨by ((try clear hh_ia); (try clear hh_ib); (try clear hh_ic); (try clear hh_id); (try clear hh_i26); omega), by ((try clear hh_ia); (try clear hh_ib); (try clear hh_ic); (try clear hh_id); (try clear hh_i26); omega)⟩, his, ?_⟩
          rcases Int.lt_or_le (l.getD i (-1)) 0 with hx0 | hx0
          ·obtain ⟨s0, s1⟩ := hk0.2.1 hx0
           have x1 : l.getD i (-1) = -1 := by ((try clear hh_ia); (try clear hh_ib); (try clear hh_ic); (try clear hh_id); (try clear hh_i26); omega)
           have hst2 : h i = max 0 ((if i = 0 then startV p true else h (i - 1)) + (floL p.fl true).getD i 0 - 0) := by rw [hstep, s1]
           rw [x1, s0, s1]
           refine vs_draw2 [0, 0, 0, 0, 0, 0, 0, 0, 0, 0, 0, 0, 0, 0, 0, 0, 0, 0, 0, 0, 0, 0, 0, 0, 0, 0, 0, 0, 0, 0, 0, 0, 0, 0, 0, 0, 0, 0, 0, 0, 0, 0, 0, 0, 0] [] [0, 1, 2, 3, 4, 5, 6, 7, 8, 9, 10, 11, 12, 13, 14, 15, 16, 17, 18, 19, 20, 21, 22, 23, 24, 25, 26, 27, 28, 29, 30, 31, 32, 33, 34, 35, 36, 37, 38, 39, 40, 41, 42, 43, 44] (by decide +kernel) ?_
           simp only [vsAll, binA, binLitA, intA, aggA, loadA, loadRow, partA, partOk, fieldAddrA, indexAddrA, fillA, okParts, pickA, partsA, partsOk, opA, guardV, dstOk, nilSliceOp, Nat.reduceAdd, Nat.reduceLT, Nat.reduceEqDiff, Nat.reduceBEq, Int.reduceNeg, Int.reduceLE, Int.reduceLT, Int.reduceToNat, ↓reduceIte, implies_true, forall_const, eq_self, wtAll, intF_at]
           refine ⟨eq_sp, ?_⟩
           refine condV (fun hi0 => ?_) (fun hi0 => ?_)
           ·have hi1 : 0 < i := by have := of_decide_eq_true hi0; ((try clear hh_ia); (try clear hh_ib); (try clear hh_ic); (try clear hh_id); (try clear hh_i26); omega)
            rw [if_neg (by ((try clear hh_ia); (try clear hh_ib); (try clear hh_ic); (try clear hh_id); (try clear hh_i26); omega))] at hst2
            have hbX : watV p l true i = h (i - 1) := by rw [← hhi, show i - 1 + 1 = i by ((try clear hh_ia); (try clear hh_ib); (try clear hh_ic); (try clear hh_id); (try clear hh_i26); omega)]
            have hJX : (aftL p l true l.length).getD (i - 1) 0 = h (i - 1) := af1 (i - 1) (by ((try clear hh_ia); (try clear hh_ib); (try clear hh_ic); (try clear hh_id); (try clear hh_i26); omega))
            have hKX : ((i : Int) - 1).toNat = i - 1 := by ((try clear hh_ia); (try clear hh_ib); (try clear hh_ic); (try clear hh_id); (try clear hh_i26); omega)
            simp only [vsAll, binA, binLitA, intA, loadA, loadRow, partA, partOk, indexAddrA, opA, dstOk, nilSliceOp, Nat.reduceLT, Nat.reduceEqDiff, Nat.reduceBEq, Int.reduceNeg, ↓reduceIte, eq_self, wtAll, intF_at, hKX, hJX, al1]
            refine ⟨by simp only [InR_i64]; ((try clear hh_ia); (try clear hh_ib); (try clear hh_ic); (try clear hh_id); (try clear hh_i26); omega), ⟨by ((try clear hh_ia); (try clear hh_ib); (try clear hh_ic); (try clear hh_id); (try clear hh_i26); omega), by ((try clear hh_ia); (try clear hh_ib); (try clear hh_ic); (try clear hh_id); (try clear hh_i26); omega)⟩, by ((try clear hh_ia); (try clear hh_ib); (try clear hh_ic); (try clear hh_id); (try clear hh_i26); omega), ?_⟩
            refine vs_draw2 [0, 0, 0, 0, 0, 0, 0, 0, 0, 0, 0, 0, 0, 0, 0] [] [0, 1, 2, 3, 4, 5, 6, 7, 8, 9, 10, 11, 12, 13, 14] (by decide +kernel) ?_
            simp only [vsAll, binA, binLitA, intA, loadA, loadRow, partA, partOk, fieldAddrA, indexAddrA, mmA, okAll, stAll, opsA, opA, dstOk, Nat.reduceLT, Nat.reduceEqDiff, Int.reduceNeg, ↓reduceIte, eq_self, wtAll, intF_at, f1, al1, lf1]
            have hb1 := hwb true i (by ((try clear hh_ia); (try clear hh_ib); (try clear hh_ic); (try clear hh_id); (try clear hh_i26); omega))
            rw [hbX] at hb1
            have hfr : 0 ≤ (floL p.fl true).getD i 0 ∧ (floL p.fl true).getD i 0 ≤ 40 := by rw [floL_at _ _ (by ((try clear hh_ia); (try clear hh_ib); (try clear hh_ic); (try clear hh_id); (try clear hh_i26); omega))]; exact flow_rng k (i := i) (by ((try clear hh_ia); (try clear hh_ib); (try clear hh_ic); (try clear hh_id); (try clear hh_i26); omega)) true
            have hsr := str_le k.m (firstP_of k hl) (i := i) his true
            have hsr0 := str_nn p l i true
            refine ⟨⟨by ((try clear hh_ia); (try clear hh_ib); (try clear hh_ic); (try clear hh_id); (try clear hh_i26); omega), by ((try clear hh_ia); (try clear hh_ib); (try clear hh_ic); (try clear hh_id); (try clear hh_i26); omega)⟩, his, ⟨by ((try clear hh_ia); (try clear hh_ib); (try clear hh_ic); (try clear hh_id); (try clear hh_i26); omega), by ((try clear hh_ia); (try clear hh_ib); (try clear hh_ic); (try clear hh_id); (try clear hh_i26); omega)⟩, by ((try clear hh_ia); (try clear hh_ib); (try clear hh_ic); (try clear hh_id); (try clear hh_i26); omega), by simp only [InR_i64]; ((try clear hh_ia); (try clear hh_ib); (try clear hh_ic); (try clear hh_id); (try clear hh_i26); omega), by simp only [InR_i64]; ((try clear hh_ia); (try clear hh_ib); (try clear hh_ic); (try clear hh_id); (try clear hh_i26); omega), ?_⟩
            rw [← hst2]
            simp only [vsAll, binA, binLitA, intA, opA, dstOk, Nat.reduceLT, Nat.reduceEqDiff, Int.reduceNeg, ↓reduceIte, eq_self]
            refine ⟨by simp only [InR_i64]; ((try clear hh_ia); (try clear hh_ib); (try clear hh_ic); (try clear hh_id); (try clear hh_i26); omega), loop_next (i + 1) (by ((try clear hh_ia); (try clear hh_ib); (try clear hh_ic); (try clear hh_id); (try clear hh_i26); omega)) (by ((try clear hh_ia); (try clear hh_ib); (try clear hh_ic); (try clear hh_id); (try clear hh_i26); omega)) ?_ (by (repeat (first | exact HSub_rfl | refine HSub_put_eq (by simp only [vsAll, binA, binLitA, intA, aggA, aggV, boolA, nilA2, isConst, unA, loadA, loadRow, partA, partOk, fieldAddrA, indexAddrA, indexA, fieldA, extractA, lenA, nilCheckA, boxA, boxZ, cellA, cellsA, fillA, okParts, buildSliceA, buildMutA, makeSliceA, partIdx, elemsA, lensA, ifaceA, convA, mmA, pickA, okAll, stAll, opsA, partsA, partsOk, opA, allocA, boxMutA, newCells, okCells, storeObj, appendA, guardV, taA, nM, mapUpA, lookA, sliceA, sliceS, boundsA, opO, okO, copyA, dstOk, nilA, quietOk, nilSliceOp, deferV, panA, resA, argFr, retA.eq_1, retA.eq_2, Nat.reduceAdd, Nat.reduceSub, Nat.reduceMul, Nat.reduceLT, Nat.reduceLeDiff, Nat.reduceEqDiff, Nat.reduceBEq, Int.reduceAdd, Int.reduceSub, Int.reduceMul, Int.reduceNeg, Int.reduceLE, Int.reduceLT, Int.reduceEq, Int.reduceNe, Int.reduceToNat, ↓reduceIte, reduceCtorEq, implies_true, forall_const, eq_self, ne_eq, wtAll, Try.ntmps5, Try.results5, hh_ia, hh_ib, hh_ic, hh_id, hh_i26]) ?_ | refine HSub_drop2 (by simp only [eq_self, hh_i26]) ?_ | refine HSub_keep_eq (by simp only [vsAll, binA, binLitA, intA, aggA, aggV, boolA, nilA2, isConst, unA, loadA, loadRow, partA, partOk, fieldAddrA, indexAddrA, indexA, fieldA, extractA, lenA, nilCheckA, boxA, boxZ, cellA, cellsA, fillA, okParts, buildSliceA, buildMutA, makeSliceA, partIdx, elemsA, lensA, ifaceA, convA, mmA, pickA, okAll, stAll, opsA, partsA, partsOk, opA, allocA, boxMutA, newCells, okCells, storeObj, appendA, guardV, taA, nM, mapUpA, lookA, sliceA, sliceS, boundsA, opO, okO, copyA, dstOk, nilA, quietOk, nilSliceOp, deferV, panA, resA, argFr, retA.eq_1, retA.eq_2, Nat.reduceAdd, Nat.reduceSub, Nat.reduceMul, Nat.reduceLT, Nat.reduceLeDiff, Nat.reduceEqDiff, Nat.reduceBEq, Int.reduceAdd, Int.reduceSub, Int.reduceMul, Int.reduceNeg, Int.reduceLE, Int.reduceLT, Int.reduceEq, Int.reduceNe, Int.reduceToNat, ↓reduceIte, reduceCtorEq, implies_true, forall_const, eq_self, ne_eq, wtAll, Try.ntmps5, Try.results5, hh_ia, hh_ib, hh_ic, hh_id, hh_i26]) ?_)))⟩
            simp only [vsAll, Nat.reduceEqDiff, Int.reduceNeg, ↓reduceIte, eq_self, hnx, hny, Int.natCast_add, Int.natCast_one]
           ·have hi1 : i = 0 := by have := of_decide_eq_false hi0; ((try clear hh_ia); (try clear hh_ib); (try clear hh_ic); (try clear hh_id); (try clear hh_i26); omega)
            rw [if_pos hi1] at hst2
            have hbX : watV p l true i = startV p true := by rw [hi1]; rfl
            simp only [vsAll, Int.reduceNeg]
            refine vs_draw2 [0, 0, 0, 0, 0, 0, 0, 0, 0, 0, 0, 0, 0, 0, 0] [] [0, 1, 2, 3, 4, 5, 6, 7, 8, 9, 10, 11, 12, 13, 14] (by decide +kernel) ?_
            simp only [vsAll, binA, binLitA, intA, loadA, loadRow, partA, partOk, fieldAddrA, indexAddrA, mmA, okAll, stAll, opsA, opA, dstOk, Nat.reduceLT, Nat.reduceEqDiff, Int.reduceNeg, ↓reduceIte, eq_self, wtAll, intF_at, f1, al1, lf1]
            have hb1 := hwb true i (by ((try clear hh_ia); (try clear hh_ib); (try clear hh_ic); (try clear hh_id); (try clear hh_i26); omega))
            rw [hbX] at hb1
            have hfr : 0 ≤ (floL p.fl true).getD i 0 ∧ (floL p.fl true).getD i 0 ≤ 40 := by rw [floL_at _ _ (by ((try clear hh_ia); (try clear hh_ib); (try clear hh_ic); (try clear hh_id); (try clear hh_i26); omega))]; exact flow_rng k (i := i) (by ((try clear hh_ia); (try clear hh_ib); (try clear hh_ic); (try clear hh_id); (try clear hh_i26); omega)) true
            have hsr := str_le k.m (firstP_of k hl) (i := i) his true
            have hsr0 := str_nn p l i true
            refine ⟨⟨by ((try clear hh_ia); (try clear hh_ib); (try clear hh_ic); (try clear hh_id); (try clear hh_i26); omega), by ((try clear hh_ia); (try clear hh_ib); (try clear hh_ic); (try clear hh_id); (try clear hh_i26); omega)⟩, his, ⟨by ((try clear hh_ia); (try clear hh_ib); (try clear hh_ic); (try clear hh_id); (try clear hh_i26); omega), by ((try clear hh_ia); (try clear hh_ib); (try clear hh_ic); (try clear hh_id); (try clear hh_i26); omega)⟩, by ((try clear hh_ia); (try clear hh_ib); (try clear hh_ic); (try clear hh_id); (try clear hh_i26); omega), by simp only [InR_i64]; ((try clear hh_ia); (try clear hh_ib); (try clear hh_ic); (try clear hh_id); (try clear hh_i26); omega), by simp only [InR_i64]; ((try clear hh_ia); (try clear hh_ib); (try clear hh_ic); (try clear hh_id); (try clear hh_i26); omega), ?_⟩
            rw [← hst2]
            simp only [vsAll, binA, binLitA, intA, opA, dstOk, Nat.reduceLT, Nat.reduceEqDiff, Int.reduceNeg, ↓reduceIte, eq_self]
            refine ⟨by simp only [InR_i64]; ((try clear hh_ia); (try clear hh_ib); (try clear hh_ic); (try clear hh_id); (try clear hh_i26); omega), loop_next (i + 1) (by ((try clear hh_ia); (try clear hh_ib); (try clear hh_ic); (try clear hh_id); (try clear hh_i26); omega)) (by ((try clear hh_ia); (try clear hh_ib); (try clear hh_ic); (try clear hh_id); (try clear hh_i26); omega)) ?_ (by (repeat (first | exact HSub_rfl | refine HSub_put_eq (by simp only [vsAll, binA, binLitA, intA, aggA, aggV, boolA, nilA2, isConst, unA, loadA, loadRow, partA, partOk, fieldAddrA, indexAddrA, indexA, fieldA, extractA, lenA, nilCheckA, boxA, boxZ, cellA, cellsA, fillA, okParts, buildSliceA, buildMutA, makeSliceA, partIdx, elemsA, lensA, ifaceA, convA, mmA, pickA, okAll, stAll, opsA, partsA, partsOk, opA, allocA, boxMutA, newCells, okCells, storeObj, appendA, guardV, taA, nM, mapUpA, lookA, sliceA, sliceS, boundsA, opO, okO, copyA, dstOk, nilA, quietOk, nilSliceOp, deferV, panA, resA, argFr, retA.eq_1, retA.eq_2, Nat.reduceAdd, Nat.reduceSub, Nat.reduceMul, Nat.reduceLT, Nat.reduceLeDiff, Nat.reduceEqDiff, Nat.reduceBEq, Int.reduceAdd, Int.reduceSub, Int.reduceMul, Int.reduceNeg, Int.reduceLE, Int.reduceLT, Int.reduceEq, Int.reduceNe, Int.reduceToNat, ↓reduceIte, reduceCtorEq, implies_true, forall_const, eq_self, ne_eq, wtAll, Try.ntmps5, Try.results5, hh_ia, hh_ib, hh_ic, hh_id, hh_i26]) ?_ | refine HSub_drop2 (by simp only [eq_self, hh_i26]) ?_ | refine HSub_keep_eq (by simp only [vsAll, binA, binLitA, intA, aggA, aggV, boolA, nilA2, isConst, unA, loadA, loadRow, partA, partOk, fieldAddrA, indexAddrA, indexA, fieldA, extractA, lenA, nilCheckA, boxA, boxZ, cellA, cellsA, fillA, okParts, buildSliceA, buildMutA, makeSliceA, partIdx, elemsA, lensA, ifaceA, convA, mmA, pickA, okAll, stAll, opsA, partsA, partsOk, opA, allocA, boxMutA, newCells, okCells, storeObj, appendA, guardV, taA, nM, mapUpA, lookA, sliceA, sliceS, boundsA, opO, okO, copyA, dstOk, nilA, quietOk, nilSliceOp, deferV, panA, resA, argFr, retA.eq_1, retA.eq_2, Nat.reduceAdd, Nat.reduceSub, Nat.reduceMul, Nat.reduceLT, Nat.reduceLeDiff, Nat.reduceEqDiff, Nat.reduceBEq, Int.reduceAdd, Int.reduceSub, Int.reduceMul, Int.reduceNeg, Int.reduceLE, Int.reduceLT, Int.reduceEq, Int.reduceNe, Int.reduceToNat, ↓reduceIte, reduceCtorEq, implies_true, forall_const, eq_self, ne_eq, wtAll, Try.ntmps5, Try.results5, hh_ia, hh_ib, hh_ic, hh_id, hh_i26]) ?_)))⟩
            simp only [vsAll, Nat.reduceEqDiff, Int.reduceNeg, ↓reduceIte, eq_self, hnx, hny, Int.natCast_add, Int.natCast_one]
          ·obtain ⟨s0, s1⟩ := hk0.2.2 hx0
           obtain ⟨w, hw⟩ : ∃ w : Nat, l.getD i (-1) = (w : Int) := ⟨(l.getD i (-1)).toNat, by ((try clear hh_ia); (try clear hh_ib); (try clear hh_ic); (try clear hh_id); (try clear hh_i26); omega)⟩
           have hwl : w < p.ws.length := by ((try clear hh_ia); (try clear hh_ib); (try clear hh_ic); (try clear hh_id); (try clear hh_i26); omega)
           have ew : p.ws.getD w wt0 = p.wt w := rfl
           have u1 := strL_at p.ws false hwl
           have u2 := strL_at p.ws true hwl
           rw [ew] at u1 u2
           simp only [if_true, Bool.false_eq_true, if_false] at u1 u2
           rw [hw, Int.toNat_natCast] at s0 s1
           have v1 : decide (strV p l i false < 0) = false := decide_eq_false (by ((try clear hh_ia); (try clear hh_ib); (try clear hh_ic); (try clear hh_id); (try clear hh_i26); omega))
           have v2 : decide (strV p l i true < strV p l i false) = false := decide_eq_false (by ((try clear hh_ia); (try clear hh_ib); (try clear hh_ic); (try clear hh_id); (try clear hh_i26); omega))
           have v3 : decide ((w : Int) < 0) = false := decide_eq_false (by ((try clear hh_ia); (try clear hh_ib); (try clear hh_ic); (try clear hh_id); (try clear hh_i26); omega))
           have v4 : decide (0 ≤ (w : Int)) = true := decide_eq_true (by ((try clear hh_ia); (try clear hh_ib); (try clear hh_ic); (try clear hh_id); (try clear hh_i26); omega))
           have v5 : decide ((p.wt w).lo < strV p l i false) = false := decide_eq_false (by ((try clear hh_ia); (try clear hh_ib); (try clear hh_ic); (try clear hh_id); (try clear hh_i26); omega))
           have v6 : decide ((p.wt w).hi < strV p l i true) = false := decide_eq_false (by ((try clear hh_ia); (try clear hh_ib); (try clear hh_ic); (try clear hh_id); (try clear hh_i26); omega))
           rw [hw]
           refine vs_draw2 [0, 0, 0, 0, 0, 0, 0, 0, 0, 0, 0, 0, 0, 0, 0, 0, 0, 0, 0, 0, 0, 0, 0, 0, 0, 0, 0, 0, 0, 0, 0, 0, 0, 0, 0, 0, 0, 0, 0, 0, 0, 0, 0, 0, 0] [] [0, 1, 2, 3, 4, 5, 6, 7, 8, 9, 10, 11, 12, 13, 14, 15, 16, 17, 18, 19, 20, 21, 22, 23, 24, 25, 26, 27, 28, 29, 30, 31, 32, 33, 34, 35, 36, 37, 38, 39, 40, 41, 42, 43, 44] (by decide +kernel) ?_
           simp only [vsAll, binA, binLitA, intA, aggA, loadA, loadRow, partA, partOk, fieldAddrA, indexAddrA, fillA, okParts, pickA, partsA, partsOk, opA, guardV, dstOk, nilSliceOp, Nat.reduceAdd, Nat.reduceLT, Nat.reduceEqDiff, Nat.reduceBEq, ↓reduceIte, implies_true, forall_const, eq_self, wtAll, intF_at, u1, u2, v1, v2, v3, v4, v5, v6, ls1, ls2]
           refine ⟨⟨by ((try clear hh_ia); (try clear hh_ib); (try clear hh_ic); (try clear hh_id); (try clear hh_i26); omega), by ((try clear hh_ia); (try clear hh_ib); (try clear hh_ic); (try clear hh_id); (try clear hh_i26); omega)⟩, hwl, ⟨by ((try clear hh_ia); (try clear hh_ib); (try clear hh_ic); (try clear hh_id); (try clear hh_i26); omega), by ((try clear hh_ia); (try clear hh_ib); (try clear hh_ic); (try clear hh_id); (try clear hh_i26); omega)⟩, hwl, ?_⟩
           refine condV (fun hi0 => ?_) (fun hi0 => ?_)
           ·have hi1 : 0 < i := by have := of_decide_eq_true hi0; ((try clear hh_ia); (try clear hh_ib); (try clear hh_ic); (try clear hh_id); (try clear hh_i26); omega)
            rw [if_neg (by ((try clear hh_ia); (try clear hh_ib); (try clear hh_ic); (try clear hh_id); (try clear hh_i26); omega))] at hstep
            have hbX : watV p l true i = h (i - 1) := by rw [← hhi, show i - 1 + 1 = i by ((try clear hh_ia); (try clear hh_ib); (try clear hh_ic); (try clear hh_id); (try clear hh_i26); omega)]
            have hJX : (aftL p l true l.length).getD (i - 1) 0 = h (i - 1) := af1 (i - 1) (by ((try clear hh_ia); (try clear hh_ib); (try clear hh_ic); (try clear hh_id); (try clear hh_i26); omega))
            have hKX : ((i : Int) - 1).toNat = i - 1 := by ((try clear hh_ia); (try clear hh_ib); (try clear hh_ic); (try clear hh_id); (try clear hh_i26); omega)
            simp only [vsAll, binA, binLitA, intA, loadA, loadRow, partA, partOk, indexAddrA, opA, dstOk, nilSliceOp, Nat.reduceLT, Nat.reduceEqDiff, Nat.reduceBEq, ↓reduceIte, eq_self, wtAll, intF_at, hKX, hJX, al1]
            refine ⟨by simp only [InR_i64]; ((try clear hh_ia); (try clear hh_ib); (try clear hh_ic); (try clear hh_id); (try clear hh_i26); omega), ⟨by ((try clear hh_ia); (try clear hh_ib); (try clear hh_ic); (try clear hh_id); (try clear hh_i26); omega), by ((try clear hh_ia); (try clear hh_ib); (try clear hh_ic); (try clear hh_id); (try clear hh_i26); omega)⟩, by ((try clear hh_ia); (try clear hh_ib); (try clear hh_ic); (try clear hh_id); (try clear hh_i26); omega), ?_⟩
            refine vs_draw2 [0, 0, 0, 0, 0, 0, 0, 0, 0, 0, 0, 0, 0, 0, 0] [] [0, 1, 2, 3, 4, 5, 6, 7, 8, 9, 10, 11, 12, 13, 14] (by decide +kernel) ?_
            simp only [vsAll, binA, binLitA, intA, loadA, loadRow, partA, partOk, fieldAddrA, indexAddrA, mmA, okAll, stAll, opsA, opA, dstOk, Nat.reduceLT, Nat.reduceEqDiff, ↓reduceIte, eq_self, wtAll, intF_at, f1, al1, lf1]
            have hb1 := hwb true i (by ((try clear hh_ia); (try clear hh_ib); (try clear hh_ic); (try clear hh_id); (try clear hh_i26); omega))
            rw [hbX] at hb1
            have hfr : 0 ≤ (floL p.fl true).getD i 0 ∧ (floL p.fl true).getD i 0 ≤ 40 := by rw [floL_at _ _ (by ((try clear hh_ia); (try clear hh_ib); (try clear hh_ic); (try clear hh_id); (try clear hh_i26); omega))]; exact flow_rng k (i := i) (by ((try clear hh_ia); (try clear hh_ib); (try clear hh_ic); (try clear hh_id); (try clear hh_i26); omega)) true
            have hsr := str_le k.m (firstP_of k hl) (i := i) his true
            have hsr0 := str_nn p l i true
            refine ⟨⟨by ((try clear hh_ia); (try clear hh_ib); (try clear hh_ic); (try clear hh_id); (try clear hh_i26); omega), by ((try clear hh_ia); (try clear hh_ib); (try clear hh_ic); (try clear hh_id); (try clear hh_i26); omega)⟩, his, ⟨by ((try clear hh_ia); (try clear hh_ib); (try clear hh_ic); (try clear hh_id); (try clear hh_i26); omega), by ((try clear hh_ia); (try clear hh_ib); (try clear hh_ic); (try clear hh_id); (try clear hh_i26); omega)⟩, by ((try clear hh_ia); (try clear hh_ib); (try clear hh_ic); (try clear hh_id); (try clear hh_i26); omega), by simp only [InR_i64]; ((try clear hh_ia); (try clear hh_ib); (try clear hh_ic); (try clear hh_id); (try clear hh_i26); omega), by simp only [InR_i64]; ((try clear hh_ia); (try clear hh_ib); (try clear hh_ic); (try clear hh_id); (try clear hh_i26); omega), ?_⟩
            rw [← hstep]
            simp only [vsAll, binA, binLitA, intA, opA, dstOk, Nat.reduceLT, Nat.reduceEqDiff, ↓reduceIte, eq_self]
            refine ⟨by simp only [InR_i64]; ((try clear hh_ia); (try clear hh_ib); (try clear hh_ic); (try clear hh_id); (try clear hh_i26); omega), loop_next (i + 1) (by ((try clear hh_ia); (try clear hh_ib); (try clear hh_ic); (try clear hh_id); (try clear hh_i26); omega)) (by ((try clear hh_ia); (try clear hh_ib); (try clear hh_ic); (try clear hh_id); (try clear hh_i26); omega)) ?_ (by (repeat (first | exact HSub_rfl | refine HSub_put_eq (by simp only [vsAll, binA, binLitA, intA, aggA, aggV, boolA, nilA2, isConst, unA, loadA, loadRow, partA, partOk, fieldAddrA, indexAddrA, indexA, fieldA, extractA, lenA, nilCheckA, boxA, boxZ, cellA, cellsA, fillA, okParts, buildSliceA, buildMutA, makeSliceA, partIdx, elemsA, lensA, ifaceA, convA, mmA, pickA, okAll, stAll, opsA, partsA, partsOk, opA, allocA, boxMutA, newCells, okCells, storeObj, appendA, guardV, taA, nM, mapUpA, lookA, sliceA, sliceS, boundsA, opO, okO, copyA, dstOk, nilA, quietOk, nilSliceOp, deferV, panA, resA, argFr, retA.eq_1, retA.eq_2, Nat.reduceAdd, Nat.reduceSub, Nat.reduceMul, Nat.reduceLT, Nat.reduceLeDiff, Nat.reduceEqDiff, Nat.reduceBEq, Int.reduceAdd, Int.reduceSub, Int.reduceMul, Int.reduceNeg, Int.reduceLE, Int.reduceLT, Int.reduceEq, Int.reduceNe, Int.reduceToNat, ↓reduceIte, reduceCtorEq, implies_true, forall_const, eq_self, ne_eq, wtAll, Try.ntmps5, Try.results5, hh_ia, hh_ib, hh_ic, hh_id, hh_i26]) ?_ | refine HSub_drop2 (by simp only [eq_self, hh_i26]) ?_ | refine HSub_keep_eq (by simp only [vsAll, binA, binLitA, intA, aggA, aggV, boolA, nilA2, isConst, unA, loadA, loadRow, partA, partOk, fieldAddrA, indexAddrA, indexA, fieldA, extractA, lenA, nilCheckA, boxA, boxZ, cellA, cellsA, fillA, okParts, buildSliceA, buildMutA, makeSliceA, partIdx, elemsA, lensA, ifaceA, convA, mmA, pickA, okAll, stAll, opsA, partsA, partsOk, opA, allocA, boxMutA, newCells, okCells, storeObj, appendA, guardV, taA, nM, mapUpA, lookA, sliceA, sliceS, boundsA, opO, okO, copyA, dstOk, nilA, quietOk, nilSliceOp, deferV, panA, resA, argFr, retA.eq_1, retA.eq_2, Nat.reduceAdd, Nat.reduceSub, Nat.reduceMul, Nat.reduceLT, Nat.reduceLeDiff, Nat.reduceEqDiff, Nat.reduceBEq, Int.reduceAdd, Int.reduceSub, Int.reduceMul, Int.reduceNeg, Int.reduceLE, Int.reduceLT, Int.reduceEq, Int.reduceNe, Int.reduceToNat, ↓reduceIte, reduceCtorEq, implies_true, forall_const, eq_self, ne_eq, wtAll, Try.ntmps5, Try.results5, hh_ia, hh_ib, hh_ic, hh_id, hh_i26]) ?_)))⟩
            simp only [vsAll, Nat.reduceEqDiff, ↓reduceIte, eq_self, hnx, hny, Int.natCast_add, Int.natCast_one]
           ·have hi1 : i = 0 := by have := of_decide_eq_false hi0; ((try clear hh_ia); (try clear hh_ib); (try clear hh_ic); (try clear hh_id); (try clear hh_i26); omega)
            rw [if_pos hi1] at hstep
            have hbX : watV p l true i = startV p true := by rw [hi1]; rfl
            simp only [vsAll]
            refine vs_draw2 [0, 0, 0, 0, 0, 0, 0, 0, 0, 0, 0, 0, 0, 0, 0] [] [0, 1, 2, 3, 4, 5, 6, 7, 8, 9, 10, 11, 12, 13, 14] (by decide +kernel) ?_
            simp only [vsAll, binA, binLitA, intA, loadA, loadRow, partA, partOk, fieldAddrA, indexAddrA, mmA, okAll, stAll, opsA, opA, dstOk, Nat.reduceLT, Nat.reduceEqDiff, ↓reduceIte, eq_self, wtAll, intF_at, f1, al1, lf1]
            have hb1 := hwb true i (by ((try clear hh_ia); (try clear hh_ib); (try clear hh_ic); (try clear hh_id); (try clear hh_i26); omega))
            rw [hbX] at hb1
            have hfr : 0 ≤ (floL p.fl true).getD i 0 ∧ (floL p.fl true).getD i 0 ≤ 40 := by rw [floL_at _ _ (by ((try clear hh_ia); (try clear hh_ib); (try clear hh_ic); (try clear hh_id); (try clear hh_i26); omega))]; exact flow_rng k (i := i) (by ((try clear hh_ia); (try clear hh_ib); (try clear hh_ic); (try clear hh_id); (try clear hh_i26); omega)) true
            have hsr := str_le k.m (firstP_of k hl) (i := i) his true
            have hsr0 := str_nn p l i true
            refine ⟨⟨by ((try clear hh_ia); (try clear hh_ib); (try clear hh_ic); (try clear hh_id); (try clear hh_i26); omega), by ((try clear hh_ia); (try clear hh_ib); (try clear hh_ic); (try clear hh_id); (try clear hh_i26); omega)⟩, his, ⟨by ((try clear hh_ia); (try clear hh_ib); (try clear hh_ic); (try clear hh_id); (try clear hh_i26); omega), by ((try clear hh_ia); (try clear hh_ib); (try clear hh_ic); (try clear hh_id); (try clear hh_i26); omega)⟩, by ((try clear hh_ia); (try clear hh_ib); (try clear hh_ic); (try clear hh_id); (try clear hh_i26); omega), by simp only [InR_i64]; ((try clear hh_ia); (try clear hh_ib); (try clear hh_ic); (try clear hh_id); (try clear hh_i26); omega), by simp only [InR_i64]; ((try clear hh_ia); (try clear hh_ib); (try clear hh_ic); (try clear hh_id); (try clear hh_i26); omega), ?_⟩
            rw [← hstep]
            simp only [vsAll, binA, binLitA, intA, opA, dstOk, Nat.reduceLT, Nat.reduceEqDiff, ↓reduceIte, eq_self]
            refine ⟨by simp only [InR_i64]; ((try clear hh_ia); (try clear hh_ib); (try clear hh_ic); (try clear hh_id); (try clear hh_i26); omega), loop_next (i + 1) (by ((try clear hh_ia); (try clear hh_ib); (try clear hh_ic); (try clear hh_id); (try clear hh_i26); omega)) (by ((try clear hh_ia); (try clear hh_ib); (try clear hh_ic); (try clear hh_id); (try clear hh_i26); omega)) ?_ (by (repeat (first | exact HSub_rfl | refine HSub_put_eq (by simp only [vsAll, binA, binLitA, intA, aggA, aggV, boolA, nilA2, isConst, unA, loadA, loadRow, partA, partOk, fieldAddrA, indexAddrA, indexA, fieldA, extractA, lenA, nilCheckA, boxA, boxZ, cellA, cellsA, fillA, okParts, buildSliceA, buildMutA, makeSliceA, partIdx, elemsA, lensA, ifaceA, convA, mmA, pickA, okAll, stAll, opsA, partsA, partsOk, opA, allocA, boxMutA, newCells, okCells, storeObj, appendA, guardV, taA, nM, mapUpA, lookA, sliceA, sliceS, boundsA, opO, okO, copyA, dstOk, nilA, quietOk, nilSliceOp, deferV, panA, resA, argFr, retA.eq_1, retA.eq_2, Nat.reduceAdd, Nat.reduceSub, Nat.reduceMul, Nat.reduceLT, Nat.reduceLeDiff, Nat.reduceEqDiff, Nat.reduceBEq, Int.reduceAdd, Int.reduceSub, Int.reduceMul, Int.reduceNeg, Int.reduceLE, Int.reduceLT, Int.reduceEq, Int.reduceNe, Int.reduceToNat, ↓reduceIte, reduceCtorEq, implies_true, forall_const, eq_self, ne_eq, wtAll, Try.ntmps5, Try.results5, hh_ia, hh_ib, hh_ic, hh_id, hh_i26]) ?_ | refine HSub_drop2 (by simp only [eq_self, hh_i26]) ?_ | refine HSub_keep_eq (by simp only [vsAll, binA, binLitA, intA, aggA, aggV, boolA, nilA2, isConst, unA, loadA, loadRow, partA, partOk, fieldAddrA, indexAddrA, indexA, fieldA, extractA, lenA, nilCheckA, boxA, boxZ, cellA, cellsA, fillA, okParts, buildSliceA, buildMutA, makeSliceA, partIdx, elemsA, lensA, ifaceA, convA, mmA, pickA, okAll, stAll, opsA, partsA, partsOk, opA, allocA, boxMutA, newCells, okCells, storeObj, appendA, guardV, taA, nM, mapUpA, lookA, sliceA, sliceS, boundsA, opO, okO, copyA, dstOk, nilA, quietOk, nilSliceOp, deferV, panA, resA, argFr, retA.eq_1, retA.eq_2, Nat.reduceAdd, Nat.reduceSub, Nat.reduceMul, Nat.reduceLT, Nat.reduceLeDiff, Nat.reduceEqDiff, Nat.reduceBEq, Int.reduceAdd, Int.reduceSub, Int.reduceMul, Int.reduceNeg, Int.reduceLE, Int.reduceLT, Int.reduceEq, Int.reduceNe, Int.reduceToNat, ↓reduceIte, reduceCtorEq, implies_true, forall_const, eq_self, ne_eq, wtAll, Try.ntmps5, Try.results5, hh_ia, hh_ib, hh_ic, hh_id, hh_i26]) ?_)))⟩
            simp only [vsAll, Nat.reduceEqDiff, ↓reduceIte, eq_self, hnx, hny, Int.natCast_add, Int.natCast_one]
         ·rw [Bool.and_eq_false_iff, decide_eq_false_iff_not, decide_eq_false_iff_not] at hc2
          rw [if_neg fun h => by rcases hc2 with h2 | h2; exact h2 h.1; exact h2 h.2] at hnx
          simp only [vsAll]
          refine vs_draw2 [0, 0, 0, 0, 0, 0, 0, 0, 0, 0, 1] [([0, 1, 2, 3, 4, 5, 6, 7, 8, 9], [], 10)] [] (by decide +kernel) ?_
          simp only [vsAll, binA, binLitA, intA, loadA, loadRow, partA, partOk, fieldAddrA, indexAddrA, pickA, okAll, stAll, opsA, opA, guardV, dstOk, nilSliceOp, Nat.reduceLT, Nat.reduceEqDiff, Nat.reduceBEq, ↓reduceIte, implies_true, eq_self, wtAll, intF_at, f1, al1]
          refine ⟨fun g => ⟨g, g, by ((try clear hh_ia); (try clear hh_ib); (try clear hh_ic); (try clear hh_id); omega), by ((try clear hh_ia); (try clear hh_ib); (try clear hh_ic); (try clear hh_id); omega)⟩, fun g => ⟨g, his⟩, ?_⟩
          refine callK_pure (wout_tri p l i _ kn (by ((try clear hh_ia); (try clear hh_ib); (try clear hh_ic); (try clear hh_id); omega))) ?_
          simp only [vsAll, loadA, loadRow, partA, partOk, indexAddrA, extractA, cellA, opA, allocA, newCells, okCells, storeObj, dstOk, nilSliceOp, Nat.reduceAdd, Nat.reduceLT, Nat.reduceEqDiff, Nat.reduceBEq, ↓reduceIte, eq_self, wtAll, eo1, eo2]
          intro i26 hh_i26; (try simp only [Hp.set_none, ite_none] at hh_i26)
          simp only [vsAll, Int.reduceNeg, intF_at, e0]
          refine ⟨⟨by ((try clear hh_ia); (try clear hh_ib); (try clear hh_ic); (try clear hh_id); (try clear hh_i26); omega), by ((try clear hh_ia); (try clear hh_ib); (try clear hh_ic); (try clear hh_id); (try clear hh_i26); omega)⟩, his, ?_⟩
          rcases Int.lt_or_le (l.getD i (-1)) 0 with hx0 | hx0
          ·obtain ⟨s0, s1⟩ := hk0.2.1 hx0
           have x1 : l.getD i (-1) = -1 := by ((try clear hh_ia); (try clear hh_ib); (try clear hh_ic); (try clear hh_id); (try clear hh_i26); omega)
           have hst2 : h i = max 0 ((if i = 0 then startV p true else h (i - 1)) + (floL p.fl true).getD i 0 - 0) := by rw [hstep, s1]
           rw [x1, s0, s1]
           refine vs_draw2 [0, 0, 0, 0, 0, 0, 0, 0, 0, 0, 0, 0, 0, 0, 0, 0, 0, 0, 0, 0, 0, 0, 0, 0, 0, 0, 0, 0, 0, 0, 0, 0, 0, 0, 0, 0, 0, 0, 0, 0, 0, 0, 0, 0, 0] [] [0, 1, 2, 3, 4, 5, 6, 7, 8, 9, 10, 11, 12, 13, 14, 15, 16, 17, 18, 19, 20, 21, 22, 23, 24, 25, 26, 27, 28, 29, 30, 31, 32, 33, 34, 35, 36, 37, 38, 39, 40, 41, 42, 43, 44] (by decide +kernel) ?_
           simp only [vsAll, binA, binLitA, intA, aggA, loadA, loadRow, partA, partOk, fieldAddrA, indexAddrA, fillA, okParts, pickA, partsA, partsOk, opA, guardV, dstOk, nilSliceOp, Nat.reduceAdd, Nat.reduceLT, Nat.reduceEqDiff, Nat.reduceBEq, Int.reduceNeg, Int.reduceLE, Int.reduceLT, Int.reduceToNat, ↓reduceIte, implies_true, forall_const, eq_self, wtAll, intF_at]
           refine ⟨eq_sp, ?_⟩
           refine condV (fun hi0 => ?_) (fun hi0 => ?_)
           ·have hi1 : 0 < i := by have := of_decide_eq_true hi0; ((try clear hh_ia); (try clear hh_ib); (try clear hh_ic); (try clear hh_id); (try clear hh_i26); omega)
            rw [if_neg (by ((try clear hh_ia); (try clear hh_ib); (try clear hh_ic); (try clear hh_id); (try clear hh_i26); omega))] at hst2
            have hbX : watV p l true i = h (i - 1) := by rw [← hhi, show i - 1 + 1 = i by ((try clear hh_ia); (try clear hh_ib); (try clear hh_ic); (try clear hh_id); (try clear hh_i26); omega)]
            have hJX : (aftL p l true l.length).getD (i - 1) 0 = h (i - 1) := af1 (i - 1) (by ((try clear hh_ia); (try clear hh_ib); (try clear hh_ic); (try clear hh_id); (try clear hh_i26); omega))
            have hKX : ((i : Int) - 1).toNat = i - 1 := by ((try clear hh_ia); (try clear hh_ib); (try clear hh_ic); (try clear hh_id); (try clear hh_i26); omega)
            simp only [vsAll, binA, binLitA, intA, loadA, loadRow, partA, partOk, indexAddrA, opA, dstOk, nilSliceOp, Nat.reduceLT, Nat.reduceEqDiff, Nat.reduceBEq, Int.reduceNeg, ↓reduceIte, eq_self, wtAll, intF_at, hKX, hJX, al1]
            refine ⟨by simp only [InR_i64]; ((try clear hh_ia); (try clear hh_ib); (try clear hh_ic); (try clear hh_id); (try clear hh_i26); omega), ⟨by ((try clear hh_ia); (try clear hh_ib); (try clear hh_ic); (try clear hh_id); (try clear hh_i26); omega), by ((try clear hh_ia); (try clear hh_ib); (try clear hh_ic); (try clear hh_id); (try clear hh_i26); omega)⟩, by ((try clear hh_ia); (try clear hh_ib); (try clear hh_ic); (try clear hh_id); (try clear hh_i26); omega), ?_⟩
            refine vs_draw2 [0, 0, 0, 0, 0, 0, 0, 0, 0, 0, 0, 0, 0, 0, 0] [] [0, 1, 2, 3, 4, 5, 6, 7, 8, 9, 10, 11, 12, 13, 14] (by decide +kernel) ?_
            simp only [vsAll, binA, binLitA, intA, loadA, loadRow, partA, partOk, fieldAddrA, indexAddrA, mmA, okAll, stAll, opsA, opA, dstOk, Nat.reduceLT, Nat.reduceEqDiff, Int.reduceNeg, ↓reduceIte, eq_self, wtAll, intF_at, f1, al1, lf1]
            have hb1 := hwb true i (by ((try clear hh_ia); (try clear hh_ib); (try clear hh_ic); (try clear hh_id); (try clear hh_i26); omega))
            rw [hbX] at hb1
            have hfr : 0 ≤ (floL p.fl true).getD i 0 ∧ (floL p.fl true).getD i 0 ≤ 40 := by rw [floL_at _ _ (by ((try clear hh_ia); (try clear hh_ib); (try clear hh_ic); (try clear hh_id); (try clear hh_i26); omega))]; exact flow_rng k (i := i) (by ((try clear hh_ia); (try clear hh_ib); (try clear hh_ic); (try clear hh_id); (try clear hh_i26); omega)) true
            have hsr := str_le k.m (firstP_of k hl) (i := i) his true
            have hsr0 := str_nn p l i true
            refine ⟨⟨by ((try clear hh_ia); (try clear hh_ib); (try clear hh_ic); (try clear hh_id); (try clear hh_i26); omega), by ((try clear hh_ia); (try clear hh_ib); (try clear hh_ic); (try clear hh_id); (try clear hh_i26); omega)⟩, his, ⟨by ((try clear hh_ia); (try clear hh_ib); (try clear hh_ic); (try clear hh_id); (try clear hh_i26); omega), by ((try clear hh_ia); (try clear hh_ib); (try clear hh_ic); (try clear hh_id); (try clear hh_i26); omega)⟩, by ((try clear hh_ia); (try clear hh_ib); (try clear hh_ic); (try clear hh_id); (try clear hh_i26); omega), by simp only [InR_i64]; ((try clear hh_ia); (try clear hh_ib); (try clear hh_ic); (try clear hh_id); (try clear hh_i26); omega), by simp only [InR_i64]; ((try clear hh_ia); (try clear hh_ib); (try clear hh_ic); (try clear hh_id); (try clear hh_i26); omega), ?_⟩
            rw [← hst2]
            simp only [vsAll, binA, binLitA, intA, opA, dstOk, Nat.reduceLT, Nat.reduceEqDiff, Int.reduceNeg, ↓reduceIte, eq_self]
            refine ⟨by simp only [InR_i64]; ((try clear hh_ia); (try clear hh_ib); (try clear hh_ic); (try clear hh_id); (try clear hh_i26); omega), loop_next (i + 1) (by ((try clear hh_ia); (try clear hh_ib); (try clear hh_ic); (try clear hh_id); (try clear hh_i26); omega)) (by ((try clear hh_ia); (try clear hh_ib); (try clear hh_ic); (try clear hh_id); (try clear hh_i26); omega)) ?_ (by (repeat (first | exact HSub_rfl | refine HSub_put_eq (by simp only [vsAll, binA, binLitA, intA, aggA, aggV, boolA, nilA2, isConst, unA, loadA, loadRow, partA, partOk, fieldAddrA, indexAddrA, indexA, fieldA, extractA, lenA, nilCheckA, boxA, boxZ, cellA, cellsA, fillA, okParts, buildSliceA, buildMutA, makeSliceA, partIdx, elemsA, lensA, ifaceA, convA, mmA, pickA, okAll, stAll, opsA, partsA, partsOk, opA, allocA, boxMutA, newCells, okCells, storeObj, appendA, guardV, taA, nM, mapUpA, lookA, sliceA, sliceS, boundsA, opO, okO, copyA, dstOk, nilA, quietOk, nilSliceOp, deferV, panA, resA, argFr, retA.eq_1, retA.eq_2, Nat.reduceAdd, Nat.reduceSub, Nat.reduceMul, Nat.reduceLT, Nat.reduceLeDiff, Nat.reduceEqDiff, Nat.reduceBEq, Int.reduceAdd, Int.reduceSub, Int.reduceMul, Int.reduceNeg, Int.reduceLE, Int.reduceLT, Int.reduceEq, Int.reduceNe, Int.reduceToNat, ↓reduceIte, reduceCtorEq, implies_true, forall_const, eq_self, ne_eq, wtAll, Try.ntmps5, Try.results5, hh_ia, hh_ib, hh_ic, hh_id, hh_i26]) ?_ | refine HSub_drop2 (by simp only [eq_self, hh_i26]) ?_ | refine HSub_keep_eq (by simp only [vsAll, binA, binLitA, intA, aggA, aggV, boolA, nilA2, isConst, unA, loadA, loadRow, partA, partOk, fieldAddrA, indexAddrA, indexA, fieldA, extractA, lenA, nilCheckA, boxA, boxZ, cellA, cellsA, fillA, okParts, buildSliceA, buildMutA, makeSliceA, partIdx, elemsA, lensA, ifaceA, convA, mmA, pickA, okAll, stAll, opsA, partsA, partsOk, opA, allocA, boxMutA, newCells, okCells, storeObj, appendA, guardV, taA, nM, mapUpA, lookA, sliceA, sliceS, boundsA, opO, okO, copyA, dstOk, nilA, quietOk, nilSliceOp, deferV, panA, resA, argFr, retA.eq_1, retA.eq_2, Nat.reduceAdd, Nat.reduceSub, Nat.reduceMul, Nat.reduceLT, Nat.reduceLeDiff, Nat.reduceEqDiff, Nat.reduceBEq, Int.reduceAdd, Int.reduceSub, Int.reduceMul, Int.reduceNeg, Int.reduceLE, Int.reduceLT, Int.reduceEq, Int.reduceNe, Int.reduceToNat, ↓reduceIte, reduceCtorEq, implies_true, forall_const, eq_self, ne_eq, wtAll, Try.ntmps5, Try.results5, hh_ia, hh_ib, hh_ic, hh_id, hh_i26]) ?_)))⟩
            simp only [vsAll, Nat.reduceEqDiff, Int.reduceNeg, ↓reduceIte, eq_self, hnx, hny, Int.natCast_add, Int.natCast_one]
           ·have hi1 : i = 0 := by have := of_decide_eq_false hi0; ((try clear hh_ia); (try clear hh_ib); (try clear hh_ic); (try clear hh_id); (try clear hh_i26); omega)
            rw [if_pos hi1] at hst2
            have hbX : watV p l true i = startV p true := by rw [hi1]; rfl
            simp only [vsAll, Int.reduceNeg]
            refine vs_draw2 [0, 0, 0, 0, 0, 0, 0, 0, 0, 0, 0, 0, 0, 0, 0] [] [0, 1, 2, 3, 4, 5, 6, 7, 8, 9, 10, 11, 12, 13, 14] (by decide +kernel) ?_
            simp only [vsAll, binA, binLitA, intA, loadA, loadRow, partA, partOk, fieldAddrA, indexAddrA, mmA, okAll, stAll, opsA, opA, dstOk, Nat.reduceLT, Nat.reduceEqDiff, Int.reduceNeg, ↓reduceIte, eq_self, wtAll, intF_at, f1, al1, lf1]
            have hb1 := hwb true i (by ((try clear hh_ia); (try clear hh_ib); (try clear hh_ic); (try clear hh_id); (try clear hh_i26); omega))
            rw [hbX] at hb1
            have hfr : 0 ≤ (floL p.fl true).getD i 0 ∧ (floL p.fl true).getD i 0 ≤ 40 := by rw [floL_at _ _ (by ((try clear hh_ia); (try clear hh_ib); (try clear hh_ic); (try clear hh_id); (try clear hh_i26); omega))]; exact flow_rng k (i := i) (by ((try clear hh_ia); (try clear hh_ib); (try clear hh_ic); (try clear hh_id); (try clear hh_i26); omega)) true
            have hsr := str_le k.m (firstP_of k hl) (i := i) his true
            have hsr0 := str_nn p l i true
            refine ⟨⟨by ((try clear hh_ia); (try clear hh_ib); (try clear hh_ic); (try clear hh_id); (try clear hh_i26); omega), by ((try clear hh_ia); (try clear hh_ib); (try clear hh_ic); (try clear hh_id); (try clear hh_i26); omega)⟩, his, ⟨by ((try clear hh_ia); (try clear hh_ib); (try clear hh_ic); (try clear hh_id); (try clear hh_i26); omega), by ((try clear hh_ia); (try clear hh_ib); (try clear hh_ic); (try clear hh_id); (try clear hh_i26); omega)⟩, by ((try clear hh_ia); (try clear hh_ib); (try clear hh_ic); (try clear hh_id); (try clear hh_i26); omega), by simp only [InR_i64]; ((try clear hh_ia); (try clear hh_ib); (try clear hh_ic); (try clear hh_id); (try clear hh_i26); omega), by simp only [InR_i64]; ((try clear hh_ia); (try clear hh_ib); (try clear hh_ic); (try clear hh_id); (try clear hh_i26); omega), ?_⟩
            rw [← hst2]
            simp only [vsAll, binA, binLitA, intA, opA, dstOk, Nat.reduceLT, Nat.reduceEqDiff, Int.reduceNeg, ↓reduceIte, eq_self]
            refine ⟨by simp only [InR_i64]; ((try clear hh_ia); (try clear hh_ib); (try clear hh_ic); (try clear hh_id); (try clear hh_i26); omega), loop_next (i + 1) (by ((try clear hh_ia); (try clear hh_ib); (try clear hh_ic); (try clear hh_id); (try clear hh_i26); omega)) (by ((try clear hh_ia); (try clear hh_ib); (try clear hh_ic); (try clear hh_id); (try clear hh_i26); omega)) ?_ (by (repeat (first | exact HSub_rfl | refine HSub_put_eq (by simp only [vsAll, binA, binLitA, intA, aggA, aggV, boolA, nilA2, isConst, unA, loadA, loadRow, partA, partOk, fieldAddrA, indexAddrA, indexA, fieldA, extractA, lenA, nilCheckA, boxA, boxZ, cellA, cellsA, fillA, okParts, buildSliceA, buildMutA, makeSliceA, partIdx, elemsA, lensA, ifaceA, convA, mmA, pickA, okAll, stAll, opsA, partsA, partsOk, opA, allocA, boxMutA, newCells, okCells, storeObj, appendA, guardV, taA, nM, mapUpA, lookA, sliceA, sliceS, boundsA, opO, okO, copyA, dstOk, nilA, quietOk, nilSliceOp, deferV, panA, resA, argFr, retA.eq_1, retA.eq_2, Nat.reduceAdd, Nat.reduceSub, Nat.reduceMul, Nat.reduceLT, Nat.reduceLeDiff, Nat.reduceEqDiff, Nat.reduceBEq, Int.reduceAdd, Int.reduceSub, Int.reduceMul, Int.reduceNeg, Int.reduceLE, Int.reduceLT, Int.reduceEq, Int.reduceNe, Int.reduceToNat, ↓reduceIte, reduceCtorEq, implies_true, forall_const, eq_self, ne_eq, wtAll, Try.ntmps5, Try.results5, hh_ia, hh_ib, hh_ic, hh_id, hh_i26]) ?_ | refine HSub_drop2 (by simp only [eq_self, hh_i26]) ?_ | refine HSub_keep_eq (by simp only [vsAll, binA, binLitA, intA, aggA, aggV, boolA, nilA2, isConst, unA, loadA, loadRow, partA, partOk, fieldAddrA, indexAddrA, indexA, fieldA, extractA, lenA, nilCheckA, boxA, boxZ, cellA, cellsA, fillA, okParts, buildSliceA, buildMutA, makeSliceA, partIdx, elemsA, lensA, ifaceA, convA, mmA, pickA, okAll, stAll, opsA, partsA, partsOk, opA, allocA, boxMutA, newCells, okCells, storeObj, appendA, guardV, taA, nM, mapUpA, lookA, sliceA, sliceS, boundsA, opO, okO, copyA, dstOk, nilA, quietOk, nilSliceOp, deferV, panA, resA, argFr, retA.eq_1, retA.eq_2, Nat.reduceAdd, Nat.reduceSub, Nat.reduceMul, Nat.reduceLT, Nat.reduceLeDiff, Nat.reduceEqDiff, Nat.reduceBEq, Int.reduceAdd, Int.reduceSub, Int.reduceMul, Int.reduceNeg, Int.reduceLE, Int.reduceLT, Int.reduceEq, Int.reduceNe, Int.reduceToNat, ↓reduceIte, reduceCtorEq, implies_true, forall_const, eq_self, ne_eq, wtAll, Try.ntmps5, Try.results5, hh_ia, hh_ib, hh_ic, hh_id, hh_i26]) ?_)))⟩
            simp only [vsAll, Nat.reduceEqDiff, Int.reduceNeg, ↓reduceIte, eq_self, hnx, hny, Int.natCast_add, Int.natCast_one]
          ·obtain ⟨s0, s1⟩ := hk0.2.2 hx0
           obtain ⟨w, hw⟩ : ∃ w : Nat, l.getD i (-1) = (w : Int) := ⟨(l.getD i (-1)).toNat, by ((try clear hh_ia); (try clear hh_ib); (try clear hh_ic); (try clear hh_id); (try clear hh_i26); omega)⟩
           have hwl : w < p.ws.length := by ((try clear hh_ia); (try clear hh_ib); (try clear hh_ic); (try clear hh_id); (try clear hh_i26); omega)
           have ew : p.ws.getD w wt0 = p.wt w := rfl
           have u1 := strL_at p.ws false hwl
           have u2 := strL_at p.ws true hwl
           rw [ew] at u1 u2
           simp only [if_true, Bool.false_eq_true, if_false] at u1 u2
           rw [hw, Int.toNat_natCast] at s0 s1
           have v1 : decide (strV p l i false < 0) = false := decide_eq_false (by ((try clear hh_ia); (try clear hh_ib); (try clear hh_ic); (try clear hh_id); (try clear hh_i26); omega))
           have v2 : decide (strV p l i true < strV p l i false) = false := decide_eq_false (by ((try clear hh_ia); (try clear hh_ib); (try clear hh_ic); (try clear hh_id); (try clear hh_i26); omega))
           have v3 : decide ((w : Int) < 0) = false := decide_eq_false (by ((try clear hh_ia); (try clear hh_ib); (try clear hh_ic); (try clear hh_id); (try clear hh_i26); omega))
           have v4 : decide (0 ≤ (w : Int)) = true := decide_eq_true (by ((try clear hh_ia); (try clear hh_ib); (try clear hh_ic); (try clear hh_id); (try clear hh_i26); omega))
           have v5 : decide ((p.wt w).lo < strV p l i false) = false := decide_eq_false (by ((try clear hh_ia); (try clear hh_ib); (try clear hh_ic); (try clear hh_id); (try clear hh_i26); omega))
           have v6 : decide ((p.wt w).hi < strV p l i true) = false := decide_eq_false (by ((try clear hh_ia); (try clear hh_ib); (try clear hh_ic); (try clear hh_id); (try clear hh_i26); omega))
           rw [hw]
           refine vs_draw2 [0, 0, 0, 0, 0, 0, 0, 0, 0, 0, 0, 0, 0, 0, 0, 0, 0, 0, 0, 0, 0, 0, 0, 0, 0, 0, 0, 0, 0, 0, 0, 0, 0, 0, 0, 0, 0, 0, 0, 0, 0, 0, 0, 0, 0] [] [0, 1, 2, 3, 4, 5, 6, 7, 8, 9, 10, 11, 12, 13, 14, 15, 16, 17, 18, 19, 20, 21, 22, 23, 24, 25, 26, 27, 28, 29, 30, 31, 32, 33, 34, 35, 36, 37, 38, 39, 40, 41, 42, 43, 44] (by decide +kernel) ?_
           simp only [vsAll, binA, binLitA, intA, aggA, loadA, loadRow, partA, partOk, fieldAddrA, indexAddrA, fillA, okParts, pickA, partsA, partsOk, opA, guardV, dstOk, nilSliceOp, Nat.reduceAdd, Nat.reduceLT, Nat.reduceEqDiff, Nat.reduceBEq, ↓reduceIte, implies_true, forall_const, eq_self, wtAll, intF_at, u1, u2, v1, v2, v3, v4, v5, v6, ls1, ls2]
           refine ⟨⟨by ((try clear hh_ia); (try clear hh_ib); (try clear hh_ic); (try clear hh_id); (try clear hh_i26); omega), by ((try clear hh_ia); (try clear hh_ib); (try clear hh_ic); (try clear hh_id); (try clear hh_i26); omega)⟩, hwl, ⟨by ((try clear hh_ia); (try clear hh_ib); (try clear hh_ic); (try clear hh_id); (try clear hh_i26); omega), by ((try clear hh_ia); (try clear hh_ib); (try clear hh_ic); (try clear hh_id); (try clear hh_i26); omega)⟩, hwl, ?_⟩
           refine condV (fun hi0 => ?_) (fun hi0 => ?_)
           ·have hi1 : 0 < i := by have := of_decide_eq_true hi0; ((try clear hh_ia); (try clear hh_ib); (try clear hh_ic); (try clear hh_id); (try clear hh_i26); omega)
            rw [if_neg (by ((try clear hh_ia); (try clear hh_ib); (try clear hh_ic); (try clear hh_id); (try clear hh_i26); omega))] at hstep
            have hbX : watV p l true i = h (i - 1) := by rw [← hhi, show i - 1 + 1 = i by ((try clear hh_ia); (try clear hh_ib); (try clear hh_ic); (try clear hh_id); (try clear hh_i26); omega)]
            have hJX : (aftL p l true l.length).getD (i - 1) 0 = h (i - 1) := af1 (i - 1) (by ((try clear hh_ia); (try clear hh_ib); (try clear hh_ic); (try clear hh_id); (try clear hh_i26); omega))
            have hKX : ((i : Int) - 1).toNat = i - 1 := by ((try clear hh_ia); (try clear hh_ib); (try clear hh_ic); (try clear hh_id); (try clear hh_i26); omega)
            simp only [vsAll, binA, binLitA, intA, loadA, loadRow, partA, partOk, indexAddrA, opA, dstOk, nilSliceOp, Nat.reduceLT, Nat.reduceEqDiff, Nat.reduceBEq, ↓reduceIte, eq_self, wtAll, intF_at, hKX, hJX, al1]
            refine ⟨by simp only [InR_i64]; ((try clear hh_ia); (try clear hh_ib); (try clear hh_ic); (try clear hh_id); (try clear hh_i26); omega), ⟨by ((try clear hh_ia); (try clear hh_ib); (try clear hh_ic); (try clear hh_id); (try clear hh_i26); omega), by ((try clear hh_ia); (try clear hh_ib); (try clear hh_ic); (try clear hh_id); (try clear hh_i26); omega)⟩, by ((try clear hh_ia); (try clear hh_ib); (try clear hh_ic); (try clear hh_id); (try clear hh_i26); omega), ?_⟩
            refine vs_draw2 [0, 0, 0, 0, 0, 0, 0, 0, 0, 0, 0, 0, 0, 0, 0] [] [0, 1, 2, 3, 4, 5, 6, 7, 8, 9, 10, 11, 12, 13, 14] (by decide +kernel) ?_
            simp only [vsAll, binA, binLitA, intA, loadA, loadRow, partA, partOk, fieldAddrA, indexAddrA, mmA, okAll, stAll, opsA, opA, dstOk, Nat.reduceLT, Nat.reduceEqDiff, ↓reduceIte, eq_self, wtAll, intF_at, f1, al1, lf1]
            have hb1 := hwb true i (by ((try clear hh_ia); (try clear hh_ib); (try clear hh_ic); (try clear hh_id); (try clear hh_i26); omega))
            rw [hbX] at hb1
            have hfr : 0 ≤ (floL p.fl true).getD i 0 ∧ (floL p.fl true).getD i 0 ≤ 40 := by rw [floL_at _ _ (by ((try clear hh_ia); (try clear hh_ib); (try clear hh_ic); (try clear hh_id); (try clear hh_i26); omega))]; exact flow_rng k (i := i) (by ((try clear hh_ia); (try clear hh_ib); (try clear hh_ic); (try clear hh_id); (try clear hh_i26); omega)) true
            have hsr := str_le k.m (firstP_of k hl) (i := i) his true
            have hsr0 := str_nn p l i true
            refine ⟨⟨by ((try clear hh_ia); (try clear hh_ib); (try clear hh_ic); (try clear hh_id); (try clear hh_i26); omega), by ((try clear hh_ia); (try clear hh_ib); (try clear hh_ic); (try clear hh_id); (try clear hh_i26); omega)⟩, his, ⟨by ((try clear hh_ia); (try clear hh_ib); (try clear hh_ic); (try clear hh_id); (try clear hh_i26); omega), by ((try clear hh_ia); (try clear hh_ib); (try clear hh_ic); (try clear hh_id); (try clear hh_i26); omega)⟩, by ((try clear hh_ia); (try clear hh_ib); (try clear hh_ic); (try clear hh_id); (try clear hh_i26); omega), by simp only [InR_i64]; ((try clear hh_ia); (try clear hh_ib); (try clear hh_ic); (try clear hh_id); (try clear hh_i26); omega), by simp only [InR_i64]; ((try clear hh_ia); (try clear hh_ib); (try clear hh_ic); (try clear hh_id); (try clear hh_i26); omega), ?_⟩
            rw [← hstep]
            simp only [vsAll, binA, binLitA, intA, opA, dstOk, Nat.reduceLT, Nat.reduceEqDiff, ↓reduceIte, eq_self]
            refine ⟨by simp only [InR_i64]; ((try clear hh_ia); (try clear hh_ib); (try clear hh_ic); (try clear hh_id); (try clear hh_i26); omega), loop_next (i + 1) (by ((try clear hh_ia); (try clear hh_ib); (try clear hh_ic); (try clear hh_id); (try clear hh_i26); omega)) (by ((try clear hh_ia); (try clear hh_ib); (try clear hh_ic); (try clear hh_id); (try clear hh_i26); omega)) ?_ (by (repeat (first | exact HSub_rfl | refine HSub_put_eq (by simp only [vsAll, binA, binLitA, intA, aggA, aggV, boolA, nilA2, isConst, unA, loadA, loadRow, partA, partOk, fieldAddrA, indexAddrA, indexA, fieldA, extractA, lenA, nilCheckA, boxA, boxZ, cellA, cellsA, fillA, okParts, buildSliceA, buildMutA, makeSliceA, partIdx, elemsA, lensA, ifaceA, convA, mmA, pickA, okAll, stAll, opsA, partsA, partsOk, opA, allocA, boxMutA, newCells, okCells, storeObj, appendA, guardV, taA, nM, mapUpA, lookA, sliceA, sliceS, boundsA, opO, okO, copyA, dstOk, nilA, quietOk, nilSliceOp, deferV, panA, resA, argFr, retA.eq_1, retA.eq_2, Nat.reduceAdd, Nat.reduceSub, Nat.reduceMul, Nat.reduceLT, Nat.reduceLeDiff, Nat.reduceEqDiff, Nat.reduceBEq, Int.reduceAdd, Int.reduceSub, Int.reduceMul, Int.reduceNeg, Int.reduceLE, Int.reduceLT, Int.reduceEq, Int.reduceNe, Int.reduceToNat, ↓reduceIte, reduceCtorEq, implies_true, forall_const, eq_self, ne_eq, wtAll, Try.ntmps5, Try.results5, hh_ia, hh_ib, hh_ic, hh_id, hh_i26]) ?_ | refine HSub_drop2 (by simp only [eq_self, hh_i26]) ?_ | refine HSub_keep_eq (by simp only [vsAll, binA, binLitA, intA, aggA, aggV, boolA, nilA2, isConst, unA, loadA, loadRow, partA, partOk, fieldAddrA, indexAddrA, indexA, fieldA, extractA, lenA, nilCheckA, boxA, boxZ, cellA, cellsA, fillA, okParts, buildSliceA, buildMutA, makeSliceA, partIdx, elemsA, lensA, ifaceA, convA, mmA, pickA, okAll, stAll, opsA, partsA, partsOk, opA, allocA, boxMutA, newCells, okCells, storeObj, appendA, guardV, taA, nM, mapUpA, lookA, sliceA, sliceS, boundsA, opO, okO, copyA, dstOk, nilA, quietOk, nilSliceOp, deferV, panA, resA, argFr, retA.eq_1, retA.eq_2, Nat.reduceAdd, Nat.reduceSub, Nat.reduceMul, Nat.reduceLT, Nat.reduceLeDiff, Nat.reduceEqDiff, Nat.reduceBEq, Int.reduceAdd, Int.reduceSub, Int.reduceMul, Int.reduceNeg, Int.reduceLE, Int.reduceLT, Int.reduceEq, Int.reduceNe, Int.reduceToNat, ↓reduceIte, reduceCtorEq, implies_true, forall_const, eq_self, ne_eq, wtAll, Try.ntmps5, Try.results5, hh_ia, hh_ib, hh_ic, hh_id, hh_i26]) ?_)))⟩
            simp only [vsAll, Nat.reduceEqDiff, ↓reduceIte, eq_self, hnx, hny, Int.natCast_add, Int.natCast_one]
           ·have hi1 : i = 0 := by have := of_decide_eq_false hi0; ((try clear hh_ia); (try clear hh_ib); (try clear hh_ic); (try clear hh_id); (try clear hh_i26); omega)
            rw [if_pos hi1] at hstep
            have hbX : watV p l true i = startV p true := by rw [hi1]; rfl
            simp only [vsAll]
            refine vs_draw2 [0, 0, 0, 0, 0, 0, 0, 0, 0, 0, 0, 0, 0, 0, 0] [] [0, 1, 2, 3, 4, 5, 6, 7, 8, 9, 10, 11, 12, 13, 14] (by decide +kernel) ?_
            simp only [vsAll, binA, binLitA, intA, loadA, loadRow, partA, partOk, fieldAddrA, indexAddrA, mmA, okAll, stAll, opsA, opA, dstOk, Nat.reduceLT, Nat.reduceEqDiff, ↓reduceIte, eq_self, wtAll, intF_at, f1, al1, lf1]
            have hb1 := hwb true i (by ((try clear hh_ia); (try clear hh_ib); (try clear hh_ic); (try clear hh_id); (try clear hh_i26); omega))
            rw [hbX] at hb1
            have hfr : 0 ≤ (floL p.fl true).getD i 0 ∧ (floL p.fl true).getD i 0 ≤ 40 := by rw [floL_at _ _ (by ((try clear hh_ia); (try clear hh_ib); (try clear hh_ic); (try clear hh_id); (try clear hh_i26); omega))]; exact flow_rng k (i := i) (by ((try clear hh_ia); (try clear hh_ib); (try clear hh_ic); (try clear hh_id); (try clear hh_i26); omega)) true
            have hsr := str_le k.m (firstP_of k hl) (i := i) his true
            have hsr0 := str_nn p l i true
            refine ⟨⟨by ((try clear hh_ia); (try clear hh_ib); (try clear hh_ic); (try clear hh_id); (try clear hh_i26); omega), by ((try clear hh_ia); (try clear hh_ib); (try clear hh_ic); (try clear hh_id); (try clear hh_i26); omega)⟩, his, ⟨by ((try clear hh_ia); (try clear hh_ib); (try clear hh_ic); (try clear hh_id); (try clear hh_i26); omega), by ((try clear hh_ia); (try clear hh_ib); (try clear hh_ic); (try clear hh_id); (try clear hh_i26); omega)⟩, by ((try clear hh_ia); (try clear hh_ib); (try clear hh_ic); (try clear hh_id); (try clear hh_i26); omega), by simp only [InR_i64]; ((try clear hh_ia); (try clear hh_ib); (try clear hh_ic); (try clear hh_id); (try clear hh_i26); omega), by simp only [InR_i64]; ((try clear hh_ia); (try clear hh_ib); (try clear hh_ic); (try clear hh_id); (try clear hh_i26); omega), ?_⟩
            rw [← hstep]
            simp only [vsAll, binA, binLitA, intA, opA, dstOk, Nat.reduceLT, Nat.reduceEqDiff, ↓reduceIte, eq_self]
            refine ⟨by simp only [InR_i64]; ((try clear hh_ia); (try clear hh_ib); (try clear hh_ic); (try clear hh_id); (try clear hh_i26); omega), loop_next (i + 1) (by ((try clear hh_ia); (try clear hh_ib); (try clear hh_ic); (try clear hh_id); (try clear hh_i26); omega)) (by ((try clear hh_ia); (try clear hh_ib); (try clear hh_ic); (try clear hh_id); (try clear hh_i26); omega)) ?_ (by (repeat (first | exact HSub_rfl | refine HSub_put_eq (by simp only [vsAll, binA, binLitA, intA, aggA, aggV, boolA, nilA2, isConst, unA, loadA, loadRow, partA, partOk, fieldAddrA, indexAddrA, indexA, fieldA, extractA, lenA, nilCheckA, boxA, boxZ, cellA, cellsA, fillA, okParts, buildSliceA, buildMutA, makeSliceA, partIdx, elemsA, lensA, ifaceA, convA, mmA, pickA, okAll, stAll, opsA, partsA, partsOk, opA, allocA, boxMutA, newCells, okCells, storeObj, appendA, guardV, taA, nM, mapUpA, lookA, sliceA, sliceS, boundsA, opO, okO, copyA, dstOk, nilA, quietOk, nilSliceOp, deferV, panA, resA, argFr, retA.eq_1, retA.eq_2, Nat.reduceAdd, Nat.reduceSub, Nat.reduceMul, Nat.reduceLT, Nat.reduceLeDiff, Nat.reduceEqDiff, Nat.reduceBEq, Int.reduceAdd, Int.reduceSub, Int.reduceMul, Int.reduceNeg, Int.reduceLE, Int.reduceLT, Int.reduceEq, Int.reduceNe, Int.reduceToNat, ↓reduceIte, reduceCtorEq, implies_true, forall_const, eq_self, ne_eq, wtAll, Try.ntmps5, Try.results5, hh_ia, hh_ib, hh_ic, hh_id, hh_i26]) ?_ | refine HSub_drop2 (by simp only [eq_self, hh_i26]) ?_ | refine HSub_keep_eq (by simp only [vsAll, binA, binLitA, intA, aggA, aggV, boolA, nilA2, isConst, unA, loadA, loadRow, partA, partOk, fieldAddrA, indexAddrA, indexA, fieldA, extractA, lenA, nilCheckA, boxA, boxZ, cellA, cellsA, fillA, okParts, buildSliceA, buildMutA, makeSliceA, partIdx, elemsA, lensA, ifaceA, convA, mmA, pickA, okAll, stAll, opsA, partsA, partsOk, opA, allocA, boxMutA, newCells, okCells, storeObj, appendA, guardV, taA, nM, mapUpA, lookA, sliceA, sliceS, boundsA, opO, okO, copyA, dstOk, nilA, quietOk, nilSliceOp, deferV, panA, resA, argFr, retA.eq_1, retA.eq_2, Nat.reduceAdd, Nat.reduceSub, Nat.reduceMul, Nat.reduceLT, Nat.reduceLeDiff, Nat.reduceEqDiff, Nat.reduceBEq, Int.reduceAdd, Int.reduceSub, Int.reduceMul, Int.reduceNeg, Int.reduceLE, Int.reduceLT, Int.reduceEq, Int.reduceNe, Int.reduceToNat, ↓reduceIte, reduceCtorEq, implies_true, forall_const, eq_self, ne_eq, wtAll, Try.ntmps5, Try.results5, hh_ia, hh_ib, hh_ic, hh_id, hh_i26]) ?_)))⟩
            simp only [vsAll, Nat.reduceEqDiff, ↓reduceIte, eq_self, hnx, hny, Int.natCast_add, Int.natCast_one]
        ·have ei : i = l.length := by ((try clear hh_ia); (try clear hh_ib); (try clear hh_ic); (try clear hh_id); omega)
         subst ei
         have hgh : ∀ j, j < l.length → h j ≤ g j := fun j hj => by
          have := tr_rng (p := p) (l := l) (w := startV p true) (f := fun i => (floL p.fl true).getD i 0) (st := fun i => (strL p.ws true).getD i 0) (n := p.fl.length) hlr ?_ (fun i hi => ?_) (fun w hw => ?_) (j + 1) (by ((try clear hh_ia); (try clear hh_ib); (try clear hh_ic); (try clear hh_id); omega))
          ·rw [hgi, hhi] at this
           ((try clear hh_ia); (try clear hh_ib); (try clear hh_ic); (try clear hh_id); omega)
          ·obtain ⟨_, e2, e3, e4, e5, _⟩ := water_ok k hA
           have := e5 0 e2
           ((try clear hh_ia); (try clear hh_ib); (try clear hh_ic); (try clear hh_id); omega)
          ·rw [floL_at _ _ hi, if_pos rfl]
           have := k.f i hi
           unfold okF at this
           simp only [flowV, if_true, Bool.false_eq_true, if_false]
           ((try clear hh_ia); (try clear hh_ib); (try clear hh_ic); (try clear hh_id); omega)
          ·rw [strL_at _ _ hw, if_pos rfl]
           have := (k.m.wt hw).1
           have e : p.ws.getD w wt0 = p.wt w := rfl
           rw [e]
           ((try clear hh_ia); (try clear hh_ib); (try clear hh_ic); (try clear hh_id); omega)
         have hfin : ((decide (floV p l = 2) == decide (Z < 0)) && (decide (floV p l = 0) == Y) && (decide (losE p l = 0) == decide (0 ≤ Z)) && (!decide (losE p l = 0) || decide (losV p l = Z))) = true := by
          rcases los_cases epl with ⟨s1, s2, s3⟩ | ⟨s1, s2, j, s3, s4, s5, s6⟩
          ·have hsf := (safe_iff p l).1 s1
           have hz : Z = -1 := by
            rcases hls with ⟨a1, _⟩ | ⟨q, a1, a2, a3, _⟩
            ·exact a1
            ·have := hsf q a2; rw [hgi] at this; ((try clear hh_ia); (try clear hh_ib); (try clear hh_ic); (try clear hh_id); omega)
           have hy : Y = false := by
            rw [← Bool.not_eq_true]
            intro hy
            obtain ⟨q, a2, a3⟩ := hai.1 hy
            have := hsf q a2; rw [hgi] at this
            have := hgh q a2
            ((try clear hh_ia); (try clear hh_ib); (try clear hh_ic); (try clear hh_id); omega)
           rcases flo_cases epl with ⟨t1, t2⟩ | ⟨t1, t2, _⟩ | ⟨t1, t2, _⟩
           ·rw [t1, s2, hz, hy]; rfl
           ·rw [s1] at t2; cases t2
           ·rw [s1] at t2; cases t2
          ·rw [hgi] at s5
           have hz : Z = (j : Int) := by
            rcases hls with ⟨a1, a2⟩ | ⟨q, a1, a2, a3, a4⟩
            ·have := a2 j s4; ((try clear hh_ia); (try clear hh_ib); (try clear hh_ic); (try clear hh_id); omega)
            ·rw [a1]
             have h1 : ¬ q < j := fun hq => by have := s6 q hq; rw [hgi] at this; ((try clear hh_ia); (try clear hh_ib); (try clear hh_ic); (try clear hh_id); omega)
             have h2 : ¬ j < q := fun hq => by have := a4 j hq; ((try clear hh_ia); (try clear hh_ib); (try clear hh_ic); (try clear hh_id); omega)
             ((try clear hh_ia); (try clear hh_ib); (try clear hh_ic); (try clear hh_id); omega)
           have d1 : decide ((j : Int) < 0) = false := decide_eq_false (by ((try clear hh_ia); (try clear hh_ib); (try clear hh_ic); (try clear hh_id); omega))
           have d2 : decide (0 ≤ (j : Int)) = true := decide_eq_true (by ((try clear hh_ia); (try clear hh_ib); (try clear hh_ic); (try clear hh_id); omega))
           rcases flo_cases epl with ⟨t1, t2⟩ | ⟨t1, t2, t3⟩ | ⟨t1, t2, t3⟩
           ·rw [s1] at t2; cases t2
           ·have hy : Y = false := by
             rw [← Bool.not_eq_true]
             intro hy
             obtain ⟨q, a2, a3⟩ := hai.1 hy
             have := t3 q a2; rw [hhi] at this
             ((try clear hh_ia); (try clear hh_ib); (try clear hh_ic); (try clear hh_id); omega)
            rw [t1, s2, s3, hz, hy, d1, d2]; simp
           ·have hy : Y = true := by
             obtain ⟨q, a2, a3⟩ := t3
             rw [hhi] at a3
             exact hai.2 ⟨q, a2, a3⟩
            rw [t1, s2, s3, hz, hy, d1, d2]; simp
         simp only [vsAll, loadA, loadRow, partA, partOk, okAll, stAll, opsA, opA, dstOk, Nat.reduceLT, Nat.reduceEqDiff, ↓reduceIte, eq_self, wtAll]
         refine callK_pure (los_tri p l _ kn (by ((try clear hh_ia); (try clear hh_ib); (try clear hh_ic); (try clear hh_id); omega))) ?_
         simp only [vsAll, binA, binLitA, intA, boolA, extractA, pickA, opA, guardV, dstOk, nilSliceOp, Nat.reduceAdd, Nat.reduceLT, Nat.reduceEqDiff, Nat.reduceBEq, ↓reduceIte, implies_true, eq_self, wtAll]
         refine ⟨fun g => ⟨g, fun g2 => by rw [g, g2]; rfl⟩, ?_⟩
         rw [hfin]
         refine gcall (boo true) (fun g => ⟨trivial, by simp only [okAll, opsA], awake_tri _⟩) ?_
         simp only [vsAll, pickA, opA, dstOk, nilSliceOp, resA, retA.eq_1, Nat.reduceLT, Nat.reduceEqDiff, Nat.reduceBEq, ↓reduceIte, implies_true, eq_self, Try.results5]
         exact dropR_pure rfl HSub_rfl
end Go.Proofs.Ytkcgocmjaggdiaa
end
section
set_option linter.unusedVariables false
set_option linter.unusedSimpArgs false
set_option maxRecDepth 100000
namespace Go.Proofs.Ytkcgocmjaggdiaa
open Go.V Go.ChangeShapes Go.WideShapes Go.ChangeAt Go.RowKit
theorem pumpEnds_lifted (os : Os) (started : os.Started) (H : Type) (enc : TypeId × Value → H) :
 ReturnsInHanded {} Try.checked os 5 .any (Rows.pumpEndsSpec.pre6 enc Try.prog Try.f5 Rows.pumpEndsRow.domain false) (Rows.pumpEndsSpec.post enc Try.prog Try.f5 false true false false) := by
 refine returnsInHanded_of_change (C := Try.checked) Try.own started (by kernel_rfl) Try.func5
  (ChangeSpec.witness6 (enc := enc) (C := Try.checked) false ⟨#[], #[.agg #[.slice none 0 0, .int .i64 0, .slice none 0 0, .slice none 0 0, .slice none 0 0], .slice none 0 0], []⟩ 8 (by kernel_rfl) (by kernel_rfl) (by kernel_rfl) (by kernel_rfl)) ?_
 intro W base args ds gs before hval hW hcnd _
 have hW' := hW
 obtain ⟨p, q, hA, hV, rfl, hfz, hnd⟩ := hW
 obtain ⟨rfl, rfl⟩ := trodVars_none hV
 rw [show Try.f5.params.toList = [29, 43] from by kernel_rfl] at hA
 obtain ⟨v0, v1, d0, d1, p0, p1, rfl, rfl, rfl, h0, h1⟩ := trodAll_two hA
 have hval : ∀ (j : Nat) t v, Try.f5.params[j]? = some t → (#[v0, v1] : Array Value)[j]? = some v → Value.okWide Try.prog W .any base t v := hval
 rw [show Try.f5.params = #[29, 43] from by kernel_rfl] at hval
 obtain ⟨x0, b0, r0⟩ := pump_rel (hval 0 29 v0 rfl rfl) h0
 obtain ⟨N1, x1, b1, r1⟩ := by_rel (hval 1 43 v1 rfl rfl) h1
 refine (law_calls (W := W) (args := #[v0, v1]) Try.func5 (by kernel_rfl) rfl (Tri.mono (ends_law x0 N1 x1 H0 b1) ?_) (fun p hp => by cases hp) ⟨rfl, fun k hk => match k, hk with | 0, _ => r0 | 1, _ => r1⟩).mono fun e W' he => ?_
 ·rintro r H' ⟨rfl, _⟩; rfl
 ·obtain ⟨rfl, hh, ho, hp⟩ := he
  exact ⟨_, rfl, law_post (d := 6) rfl (tb := 4) (by kernel_rfl) u4 (by decide +kernel) hW' rfl hh ho hp⟩

theorem pumpEnds_holds : Rows.PumpEndsSaid :=
 OpenClaim.holds_of_wide (p := Try.pinned) (s := Rows.pumpEndsSpec) (c := Rows.pumpEndsRow) 5 Try.f5 rfl rfl rfl rfl rfl rfl rfl ⟨rfl, rfl, rfl, rfl, rfl⟩ rfl rfl rfl rfl rfl (by kernel_rfl) Try.func5 (by kernel_rfl)
  (of_decide_eq_true (by kernel_rfl)) (by unfold Func.isWrapper; first | (rw [if_pos (by decide +kernel)]; kernel_rfl) | (rw [if_neg (by decide +kernel)]; exact ⟨rfl, rfl⟩))
  (fun os started H enc _ => pumpEnds_lifted os started H enc)

end Go.Proofs.Ytkcgocmjaggdiaa
end
