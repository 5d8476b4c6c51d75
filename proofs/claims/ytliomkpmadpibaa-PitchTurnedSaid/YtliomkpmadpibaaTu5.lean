/- Helper lemmas of this claim, part 5. -/
import Derived.Test.YtliomkpmadpibaaTu4
section
set_option linter.unusedVariables false
set_option linter.unusedSimpArgs false
set_option maxHeartbeats 4000000
set_option maxRecDepth 100000
namespace Go.Proofs.Ytliomkpmadpibaa
open Go.V
/-- A box frozen in what the slots hold. -/
inductive FzB (id st n : Nat) (f : Nat → List AV) : List (Nat × AV) → List (Nat × AV) → Prop
  | nil : FzB id st n f [] []
  | same {t : Nat} {v : AV} {l l' : List (Nat × AV)} : FzB id st n f l l' → FzB id st n f ((t, v) :: l) ((t, v) :: l')
  | hit {t i j : Nat} {l l' : List (Nat × AV)} : FzB id st n f l l' → FzB id st n f ((t, .ref id 0 st i j) :: l) ((t, .rptr n st f i j) :: l')
theorem FzB.frz {id st n : Nat} {f : Nat → List AV} {l l' : List (Nat × AV)} (h : FzB id st n f l l') : ∀ t, Fr.of l' t = Fr.of l t ∨ ∃ i j, Fr.of l t = .ref id 0 st i j ∧ Fr.of l' t = .rptr n st f i j := by
  intro t
  induction h with
  | nil => exact .inl rfl
  | same _ ih =>
    simp only [Fr.of]
    split
    · exact .inl rfl
    · exact ih
  | hit _ ih =>
    simp only [Fr.of]
    split
    · exact .inr ⟨_, _, rfl, rfl⟩
    · exact ih
theorem FzB.refl {id st n : Nat} {f : Nat → List AV} : ∀ l : List (Nat × AV), FzB id st n f l l
  | [] => .nil
  | (t, v) :: l => .same (FzB.refl l)
theorem azT98 : azT Try.prog 98 = some (1, 1, [.nilFunc]) := by kernel_rfl
abbrev ppA (p : Pt) : AV := .rptr 1 1 (fun _ => [pP p]) 0 0
theorem end_tri (p : Pt) (s : Nat) (x : Int × Int) (r : Int) (H : Hp) (k : Ok p) (hs : s < p.ps.length) (hx : x ∈ places p) : PTri Try.prog (.func (.func 74) [] [ppA p]) [i64 (s : Nat), plA x, i64 r] H (i64 (moreB p s x r)) := by
  obtain ⟨f, h, rfl, hf, hh⟩ := place_nat hx
  have e : moreB p s ((f : Int), (h : Int)) r = max r (hotV p true s h : Nat) := rfl
  rw [e]
  refine tri_v0 (fun _ => false) Try.func74 (by kernel_rfl) rfl (by simp only [List.length_append, List.length_cons, List.length_nil, Try.ntmps74]; decide) ?_
  simp only [vsAll, boxA, boxZ, opA, dstOk, nilSliceOp, argFr, Nat.reduceAdd, Nat.reduceLT, eq_self, wtAll, Try.ntmps74]
  refine vs_draw2 [0, 0, 0, 0, 0, 0, 0, 0, 0, 0, 0, 0] [] [0, 1, 2, 3, 4, 5, 6, 7, 8, 9, 10, 11] (by decide +kernel) ?_
  simp only [vsAll, loadA, loadRow, partA, partOk, fieldAddrA, nilCheckA, opA, dstOk, argFr, Nat.reduceLT, Nat.reduceEqDiff, ↓reduceIte, reduceCtorEq, eq_self, wtAll]
  refine qcall _ ⟨trivial, by simp only [vsAll, okAll, opsA, opA, Nat.reduceEqDiff, ↓reduceIte, eq_self], hot_tri p s h true _ k hs (by omega)⟩ ?_
  simp only [vsAll, mmA, okAll, stAll, opsA, opA, dstOk, resA, retA.eq_1, Nat.reduceLT, Nat.reduceEqDiff, ↓reduceIte, eq_self, Try.results74]
theorem min_tri (a b : Int) (H : Hp) : PTri Try.prog (.func (.func 76) [] []) [i64 a, i64 b] H (i64 (min a b)) := by
  refine tri_v0 (fun _ => false) Try.func76 (by kernel_rfl) rfl (by simp only [List.length_append, List.length_cons, List.length_nil, Try.ntmps76]; decide) ?_
  simp only [vsAll, mmA, okAll, stAll, opsA, opA, dstOk, nilSliceOp, resA, argFr, retA.eq_1, Nat.reduceLT, Nat.reduceEqDiff, ↓reduceIte, reduceCtorEq, eq_self, Try.ntmps76, Try.results76]
def bestT {p : Pt} (k : Ok p) : Tel p 0 (moreB p) joinB (.func 74) (.func 76) [ppA p] [] where
  V := fun _ _ _ => True
  vd := ⟨fun _ _ _ _ _ _ => trivial, trivial, fun _ _ _ _ _ _ _ => trivial, fun _ _ _ _ _ _ _ => trivial⟩
  tM := fun n _ s x r H _ _ hs hx _ => end_tri p s x r H k hs hx
  tJ := fun n j _ a b H _ _ _ _ => min_tri a b H
abbrev bonF (p : Pt) (i5 i6 : Nat) : AV := onF p 0 (.func 74) (.func 76) [ppA p] [] i5 i6
abbrev bH (p : Pt) (H : Hp) (i4 im i5 i6 : Nat) : Hp := telH p 0 (moreB p) joinB (.func 74) (.func 76) [ppA p] [] (H.set i4 (.box 1 1 fun _ => [i64 0])) im i5 i6
structure BI (p : Pt) (H : Hp) (i4 im i5 i6 : Nat) : Prop where
  k : Ok p
  e : rgtE p true = 0
  h4 : H i4 = none
  hm : H im = none
  h5 : H i5 = none
  h6 : H i6 = none
  d4 : (¬ im = i4 ∧ ¬ i4 = im) ∧ (¬ i5 = i4 ∧ ¬ i4 = i5) ∧ (¬ i6 = i4 ∧ ¬ i4 = i6)
  d5 : (¬ i5 = im ∧ ¬ im = i5) ∧ (¬ i6 = im ∧ ¬ im = i6) ∧ ¬ i6 = i5 ∧ ¬ i5 = i6
/-- What Best gives back: the plan in a row of its own. -/
def wbestR (p : Pt) (H : Hp) : Res → Hp → Prop := fun r H' =>
  (rgtE p true = 0 ∧ ∃ id, H id = none ∧ r = .ret (.tuple [i64 (bestV p), .sl id 2 (bestP p).length, i64 0]) ∧ H' = H.set id (.row 2 (bestP p).length (plF (bestP p)))) ∨
  (¬ rgtE p true = 0 ∧ r = .ret (.tuple [i64 0, nilA, i64 (rgtE p true)]) ∧ H' = H)
theorem find_at {α : Type} {l : List α} {P : α → Bool} {j : Nat} {d x : α} (hj : j < l.length) (hb : ∀ q, q < j → P (l.getD q d) = false) (hx : P x = true) (he : l.getD j d = x) : l.find? P = some x := by
  induction l generalizing j with
  | nil => exact absurd hj (Nat.not_lt_zero _)
  | cons a l ih =>
    cases j with
    | zero =>
      have e : a = x := he
      rw [List.find?_cons, e, hx]
    | succ j =>
      have h0 : P a = false := hb 0 (Nat.succ_pos _)
      rw [List.find?_cons, h0]
      exact ih (Nat.lt_of_succ_lt_succ hj) (fun q hq => hb (q + 1) (Nat.succ_lt_succ hq)) he
theorem wbestM_tri (p : Pt) (H : Hp) (kn : Near p) : Tri Try.prog (fnA 24) [p.av] H (wbestR p H) := by
  refine Tri.drop ?_
  refine tri_wam ans46 Try.func24 (by kernel_rfl) rfl (by simp only [List.length_append, List.length_cons, List.length_nil, Try.ntmps24]; decide) ?_
  refine wps_cutG3 (m := fun _ => false) (σ := Nat) (fun i4 => H i4 = none ∧ Ok p)
    (fun i4 => [(2, i64 0), (3, nilA), (4, .ref i4 0 1 0 0), (5, ppA p)])
    (fun i4 => H.set i4 (.box 1 1 fun _ => [i64 0])) (fun i4 => [.call 46 [.ref i4 0 1 0 0]]) ?_ fun i4 hy => ?_
  · simp only [vsAll, loadA, loadRow, partA, partOk, boxA, boxZ, okAll, stAll, opsA, opA, allocA, dstOk, nilA, nilSliceOp, argFr, Nat.reduceAdd, Nat.reduceLT, Nat.reduceEqDiff, ↓reduceIte, eq_self, wtAll, Try.ntmps24]
    intro i4 hh_i4; (try simp only [Hp.set_none, ite_none] at hh_i4)
    refine open_call (open_tri p (fnA 71) true _ kn trivial rfl (fun k H' => always_tri _ H')) (fun he => ?_) (fun k hv => ?_)
    · have e : rgtE p true = errE p true := if_neg he
      simp only [vsAll, loadA, loadRow, partA, partOk, resA, retA.eq_2, Nat.reduceEqDiff, ↓reduceIte, eq_self, wtAll, Try.results24, CutG_pan]
      refine ⟨errE p true, i4, _, rfl, rfl, by simp only [↓reduceIte, eq_self]; try rfl, ?_⟩
      simp only [vsAll, Nat.reduceLT, ↓reduceIte, eq_self]
      exact ⟨H, by (repeat (first | exact HSub_rfl | refine HSub_put_eq (by simp only [vsAll, binA, binLitA, intA, aggA, aggV, boolA, nilA2, isConst, unA, loadA, loadRow, partA, partOk, fieldAddrA, indexAddrA, indexA, fieldA, extractA, lenA, nilCheckA, boxA, boxZ, cellA, cellsA, fillA, okParts, buildSliceA, buildMutA, makeSliceA, partIdx, elemsA, lensA, ifaceA, convA, mmA, pickA, okAll, stAll, opsA, partsA, partsOk, opA, allocA, boxMutA, newCells, okCells, storeObj, appendA, guardV, taA, nM, mapUpA, lookA, sliceA, sliceS, boundsA, opO, okO, copyA, dstOk, nilA, quietOk, nilSliceOp, deferV, panA, resA, argFr, retA.eq_1, retA.eq_2, Nat.reduceAdd, Nat.reduceSub, Nat.reduceMul, Nat.reduceLT, Nat.reduceLeDiff, Nat.reduceEqDiff, Nat.reduceBEq, Int.reduceAdd, Int.reduceSub, Int.reduceMul, Int.reduceNeg, Int.reduceLE, Int.reduceLT, Int.reduceEq, Int.reduceNe, Int.reduceToNat, ↓reduceIte, reduceCtorEq, implies_true, forall_const, eq_self, ne_eq, arrL, wtAll, Try.ntmps24, Try.results24, hh_i4]) ?_ | refine HSub_drop2 (by simp only [eq_self, hh_i4]) ?_ | refine HSub_keep_eq (by simp only [vsAll, binA, binLitA, intA, aggA, aggV, boolA, nilA2, isConst, unA, loadA, loadRow, partA, partOk, fieldAddrA, indexAddrA, indexA, fieldA, extractA, lenA, nilCheckA, boxA, boxZ, cellA, cellsA, fillA, okParts, buildSliceA, buildMutA, makeSliceA, partIdx, elemsA, lensA, ifaceA, convA, mmA, pickA, okAll, stAll, opsA, partsA, partsOk, opA, allocA, boxMutA, newCells, okCells, storeObj, appendA, guardV, taA, nM, mapUpA, lookA, sliceA, sliceS, boundsA, opO, okO, copyA, dstOk, nilA, quietOk, nilSliceOp, deferV, panA, resA, argFr, retA.eq_1, retA.eq_2, Nat.reduceAdd, Nat.reduceSub, Nat.reduceMul, Nat.reduceLT, Nat.reduceLeDiff, Nat.reduceEqDiff, Nat.reduceBEq, Int.reduceAdd, Int.reduceSub, Int.reduceMul, Int.reduceNeg, Int.reduceLE, Int.reduceLT, Int.reduceEq, Int.reduceNe, Int.reduceToNat, ↓reduceIte, reduceCtorEq, implies_true, forall_const, eq_self, ne_eq, arrL, wtAll, Try.ntmps24, Try.results24, hh_i4]) ?_)), .inr ⟨by rw [e]; exact he, by rw [e], rfl⟩⟩
    · simp only [vsAll, cellA, cellsA, opA, allocA, newCells, okCells, storeObj, dstOk, Nat.reduceLT, Nat.reduceEqDiff, ↓reduceIte, eq_self, wtAll]
      intro i5 hh_i5; (try simp only [ite_none] at hh_i5)
      refine cutG_ent (Ent.of [(2, i64 0), (3, nilA), (4, .ref i4 0 1 0 0), (5, .ref i5 0 1 0 0)] (by simp only [vsAll, nilA, Nat.reduceEqDiff, ↓reduceIte, eq_self]) (H' := (H.set i4 (.box 1 1 fun _ => [i64 0])).set i5 (.box 1 1 fun _ => [pP p])) (by (repeat (first | exact HSub_rfl | refine HSub_put_eq (by simp only [vsAll, ↓reduceIte, eq_self, hh_i5]) ?_ | refine HSub_drop2 (by simp only [eq_self, hh_i4, hh_i5]) ?_ | refine HSub_keep_eq (by simp only [vsAll, binA, binLitA, intA, aggA, aggV, boolA, nilA2, isConst, unA, loadA, loadRow, partA, partOk, fieldAddrA, indexAddrA, indexA, fieldA, extractA, lenA, nilCheckA, boxA, boxZ, cellA, cellsA, fillA, okParts, buildSliceA, buildMutA, makeSliceA, partIdx, elemsA, lensA, ifaceA, convA, mmA, pickA, okAll, stAll, opsA, partsA, partsOk, opA, allocA, boxMutA, newCells, okCells, storeObj, appendA, guardV, taA, nM, mapUpA, lookA, sliceA, sliceS, boundsA, opO, okO, copyA, dstOk, nilA, quietOk, nilSliceOp, deferV, panA, resA, argFr, retA.eq_1, retA.eq_2, Nat.reduceAdd, Nat.reduceSub, Nat.reduceMul, Nat.reduceLT, Nat.reduceLeDiff, Nat.reduceEqDiff, Nat.reduceBEq, Int.reduceAdd, Int.reduceSub, Int.reduceMul, Int.reduceNeg, Int.reduceLE, Int.reduceLT, Int.reduceEq, Int.reduceNe, Int.reduceToNat, ↓reduceIte, reduceCtorEq, implies_true, forall_const, eq_self, ne_eq, arrL, wtAll, Try.ntmps24, Try.results24, hh_i4, hh_i5]) ?_))) ?_)
      refine cutG_ent (Ent.freezeB (id := i5) (st := 1) (n := 1) (f := fun _ => [pP p]) (s' := Fr.of [(2, i64 0), (3, nilA), (4, .ref i4 0 1 0 0), (5, ppA p)]) (Hp.set_same _ _ _) (FzB.frz (.same (.same (.same (.hit (FzB.refl _)))))) ?_)
      rw [Hp.del_set, Hp.del_none _ _ (by rw [Hp.set_ne _ _ hh_i5.1.1]; exact hh_i5.2)]
      exact cutG_of i4 ⟨hh_i4, k⟩ (by simp only [vsAll, nilA, Nat.reduceEqDiff, ↓reduceIte, eq_self]) rfl HSub_rfl
  · obtain ⟨h4, k⟩ := hy
    have nP := k.nP
    have eN : errE p true = 0 := errE_ok k
    refine wps_cutG4 (m := fun _ => false) (σ := Nat × Nat × Nat) (fun y => BI p H i4 y.1 y.2.1 y.2.2)
      (fun y => [(2, i64 0), (3, nilA), (4, .ref i4 0 1 0 0), (5, ppA p), (6, .rptr 1 1 (fun _ => [.func (.func 74) [] [ppA p]]) 0 0), (7, .rptr 1 1 (fun _ => [bonF p y.2.1 y.2.2]) 0 0), (8, .rptr 1 1 (fun _ => [i64 (bestV p)]) 0 0)])
      (fun y => bH p H i4 y.1 y.2.1 y.2.2) (fun _ => [.call 46 [.ref i4 0 1 0 0]]) ?_ fun y hy => ?_
    · skip
      simp only [vsAll, loadA, loadRow, partA, partOk, cellA, cellsA, fillA, okParts, okAll, stAll, opsA, partsA, partsOk, opA, allocA, newCells, okCells, storeObj, dstOk, nilA, Nat.reduceAdd, Nat.reduceLT, Nat.reduceLeDiff, Nat.reduceEqDiff, ↓reduceIte, eq_self, wtAll, Try.ntmps24, azT98]
      intro j6 hh_j6; (try simp only [ite_none] at hh_j6)
      refine callK (tell_tri p 0 (moreB p) joinB (.func 74) (.func 76) [ppA p] [] _) ?_
      rintro r H' ⟨i5, i6, im, rfl, hfr, hd, rfl⟩
      simp only [Hp.set_none] at hfr
      obtain ⟨⟨f1, f2, f3⟩, ⟨f4, f5, f6⟩, f7, f8, f9⟩ := hfr
      obtain ⟨⟨d1, d2⟩, ⟨d3, d4⟩, d5, d6⟩ := hd
      skip
      simp only [vsAll, loadA, loadRow, partA, partOk, cellA, cellsA, fillA, okParts, okAll, stAll, opsA, partsA, partsOk, opA, allocA, newCells, okCells, storeObj, dstOk, Nat.reduceLT, Nat.reduceEqDiff, ↓reduceIte, eq_self, wtAll, azT99]
      intro j7 hh_j7; (try simp only [ite_none] at hh_j7)
      refine callK_pure (on_tri (i5 := i5) (i6 := i6) (im := im) k (bestT k) p.ps.length 0 u0 _ (by ((try clear h4); (try clear hh_j6); (try clear f1); (try clear f2); (try clear f3); (try clear f4); (try clear f5); (try clear f6); (try clear f7); (try clear f8); (try clear f9); (try clear d1); (try clear d2); (try clear d3); (try clear d4); (try clear d5); (try clear d6); (try clear hh_j7); omega)) u0_bd (by simp only [vsAll, ↓reduceIte, eq_self, d6, hh_j7]) (by simp only [vsAll, ↓reduceIte, eq_self, hh_j7]) (by simp only [vsAll, ↓reduceIte, eq_self, d2, d4, hh_j7])) ?_
      have e3 : tl p 0 (moreB p) joinB p.ps.length 0 u0 = tlB p p.ps.length 0 u0 := rfl
      have e4 := best_none (p := p) k.nF
      rw [e3]
      simp only [vsAll, extractA, cellA, cellsA, okAll, stAll, opsA, opA, allocA, newCells, okCells, storeObj, dstOk, nilSliceOp, Nat.reduceAdd, Nat.reduceLT, Nat.reduceEqDiff, ↓reduceIte, eq_self, wtAll, e4]
      intro j8 hh_j8; (try simp only [ite_none] at hh_j8)
      refine ask_call (fun hc => ?_) (fun hc => ?_)
      · have h0 := of_decide_eq_true hc
        have er : rgtE p true = 0 := by rw [rgtE, if_pos eN, if_neg (by ((try clear h4); (try clear hh_j6); (try clear f1); (try clear f2); (try clear f3); (try clear f4); (try clear f5); (try clear f6); (try clear f7); (try clear f8); (try clear f9); (try clear d1); (try clear d2); (try clear d3); (try clear d4); (try clear d5); (try clear d6); (try clear hh_j7); (try clear hh_j8); omega))]
        have eb := (best_eq k.nF er).1
        rw [eb]
        simp only [vsAll, Option.getD_some]
        refine cutG_ent (Ent.of [(2, i64 0), (3, nilA), (4, .ref i4 0 1 0 0), (5, ppA p), (6, .ref j6 0 1 0 0), (7, .ref j7 0 1 0 0), (8, .ref j8 0 1 0 0)] (by simp only [vsAll, nilA, Nat.reduceEqDiff, ↓reduceIte, eq_self]) (H' := (((bH p H i4 im i5 i6).set j6 (.box 1 1 fun _ => [.func (.func 74) [] [ppA p]])).set j7 (.box 1 1 fun _ => [bonF p i5 i6])).set j8 (.box 1 1 fun _ => [i64 (bestV p)])) (by (repeat (first | exact HSub_rfl | refine HSub_put_eq (by simp only [vsAll, ↓reduceIte, eq_self, hh_j6, f1, f3, f4, f6, f7, f9, d2, d4, d6, hh_j7, hh_j8]) ?_ | refine HSub_drop2 (by simp only [eq_self, h4, hh_j6, f3, f6, f9, hh_j7, hh_j8]) ?_ | refine HSub_keep_eq (by simp only [vsAll, binA, binLitA, intA, aggA, aggV, boolA, nilA2, isConst, unA, loadA, loadRow, partA, partOk, fieldAddrA, indexAddrA, indexA, fieldA, extractA, lenA, nilCheckA, boxA, boxZ, cellA, cellsA, fillA, okParts, buildSliceA, buildMutA, makeSliceA, partIdx, elemsA, lensA, ifaceA, convA, mmA, pickA, okAll, stAll, opsA, partsA, partsOk, opA, allocA, boxMutA, newCells, okCells, storeObj, appendA, guardV, taA, nM, mapUpA, lookA, sliceA, sliceS, boundsA, opO, okO, copyA, dstOk, nilA, quietOk, nilSliceOp, deferV, panA, resA, argFr, retA.eq_1, retA.eq_2, Nat.reduceAdd, Nat.reduceSub, Nat.reduceMul, Nat.reduceLT, Nat.reduceLeDiff, Nat.reduceEqDiff, Nat.reduceBEq, Int.reduceAdd, Int.reduceSub, Int.reduceMul, Int.reduceNeg, Int.reduceLE, Int.reduceLT, Int.reduceEq, Int.reduceNe, Int.reduceToNat, ↓reduceIte, reduceCtorEq, implies_true, forall_const, eq_self, ne_eq, arrL, wtAll, Try.ntmps24, Try.results24, h4, hh_j6, f1, f2, f3, f4, f5, f6, f7, f8, f9, d1, d2, d3, d4, d5, d6, hh_j7, hh_j8]) ?_))) ?_)
        refine cutG_ent (Ent.freezeB (id := j8) (st := 1) (n := 1) (f := fun _ => [i64 (bestV p)]) (s' := Fr.of [(2, i64 0), (3, nilA), (4, .ref i4 0 1 0 0), (5, ppA p), (6, .ref j6 0 1 0 0), (7, .ref j7 0 1 0 0), (8, .rptr 1 1 (fun _ => [i64 (bestV p)]) 0 0)]) (Hp.set_same _ _ _) (FzB.frz (.same (.same (.same (.same (.same (.same (.hit (FzB.refl _))))))))) ?_)
        rw [Hp.del_set, Hp.del_none _ _ (by simp only [vsAll, ↓reduceIte, eq_self, hh_j8])]
        refine cutG_ent (Ent.freezeB (id := j7) (st := 1) (n := 1) (f := fun _ => [bonF p i5 i6]) (s' := Fr.of [(2, i64 0), (3, nilA), (4, .ref i4 0 1 0 0), (5, ppA p), (6, .ref j6 0 1 0 0), (7, .rptr 1 1 (fun _ => [bonF p i5 i6]) 0 0), (8, .rptr 1 1 (fun _ => [i64 (bestV p)]) 0 0)]) (Hp.set_same _ _ _) (FzB.frz (.same (.same (.same (.same (.same (.hit (FzB.refl _)))))))) ?_)
        rw [Hp.del_set, Hp.del_none _ _ (by simp only [vsAll, ↓reduceIte, eq_self, hh_j7])]
        refine cutG_ent (Ent.freezeB (id := j6) (st := 1) (n := 1) (f := fun _ => [.func (.func 74) [] [ppA p]]) (s' := Fr.of [(2, i64 0), (3, nilA), (4, .ref i4 0 1 0 0), (5, ppA p), (6, .rptr 1 1 (fun _ => [.func (.func 74) [] [ppA p]]) 0 0), (7, .rptr 1 1 (fun _ => [bonF p i5 i6]) 0 0), (8, .rptr 1 1 (fun _ => [i64 (bestV p)]) 0 0)]) (Hp.set_same _ _ _) (FzB.frz (.same (.same (.same (.same (.hit (FzB.refl _))))))) ?_)
        rw [Hp.del_set, Hp.del_none _ _ (by simp only [vsAll, ↓reduceIte, eq_self, hh_j6, f1, f4, f7])]
        refine cutG_of (im, i5, i6) ⟨k, er, h4, ?_, ?_, ?_, ?_, ?_⟩ (by simp only [vsAll, nilA, Nat.reduceEqDiff, ↓reduceIte, eq_self]) rfl HSub_rfl
        · simp_all
        · simp_all
        · simp_all
        · refine ⟨⟨?_, ?_⟩, ⟨?_, ?_⟩, ?_, ?_⟩ <;> simp_all
        · exact ⟨⟨d1, d2⟩, ⟨d3, d4⟩, d5, d6⟩
      · have h0 := of_decide_eq_false hc
        have er : rgtE p true = 4 := by rw [rgtE, if_pos eN, if_pos (by ((try clear h4); (try clear hh_j6); (try clear f1); (try clear f2); (try clear f3); (try clear f4); (try clear f5); (try clear f6); (try clear f7); (try clear f8); (try clear f9); (try clear d1); (try clear d2); (try clear d3); (try clear d4); (try clear d5); (try clear d6); (try clear hh_j7); (try clear hh_j8); omega))]
        simp only [vsAll, loadA, loadRow, partA, partOk, resA, retA.eq_2, Nat.reduceEqDiff, ↓reduceIte, eq_self, wtAll, Try.results24, hh_j6, f3, f6, f9, hh_j7, hh_j8, CutG_pan]
        refine ⟨4, i4, _, rfl, rfl, by simp only [↓reduceIte, eq_self, hh_j6, f3, f6, f9, hh_j7, hh_j8]; try rfl, ?_⟩
        simp only [vsAll, Nat.reduceLT, ↓reduceIte, eq_self]
        refine ⟨H, by (repeat (first | exact HSub_rfl | refine HSub_put_eq (by simp only [vsAll, binA, binLitA, intA, aggA, aggV, boolA, nilA2, isConst, unA, loadA, loadRow, partA, partOk, fieldAddrA, indexAddrA, indexA, fieldA, extractA, lenA, nilCheckA, boxA, boxZ, cellA, cellsA, fillA, okParts, buildSliceA, buildMutA, makeSliceA, partIdx, elemsA, lensA, ifaceA, convA, mmA, pickA, okAll, stAll, opsA, partsA, partsOk, opA, allocA, boxMutA, newCells, okCells, storeObj, appendA, guardV, taA, nM, mapUpA, lookA, sliceA, sliceS, boundsA, opO, okO, copyA, dstOk, nilA, quietOk, nilSliceOp, deferV, panA, resA, argFr, retA.eq_1, retA.eq_2, Nat.reduceAdd, Nat.reduceSub, Nat.reduceMul, Nat.reduceLT, Nat.reduceLeDiff, Nat.reduceEqDiff, Nat.reduceBEq, Int.reduceAdd, Int.reduceSub, Int.reduceMul, Int.reduceNeg, Int.reduceLE, Int.reduceLT, Int.reduceEq, Int.reduceNe, Int.reduceToNat, ↓reduceIte, reduceCtorEq, implies_true, forall_const, eq_self, ne_eq, arrL, wtAll, Try.ntmps24, Try.results24, h4, hh_j6, f1, f2, f3, f4, f5, f6, f7, f8, f9, d1, d2, d3, d4, d5, d6, hh_j7, hh_j8]) ?_ | refine HSub_drop2 (by simp only [eq_self, h4, hh_j6, f3, f6, f9, hh_j7, hh_j8]) ?_ | refine HSub_keep_eq (by simp only [vsAll, binA, binLitA, intA, aggA, aggV, boolA, nilA2, isConst, unA, loadA, loadRow, partA, partOk, fieldAddrA, indexAddrA, indexA, fieldA, extractA, lenA, nilCheckA, boxA, boxZ, cellA, cellsA, fillA, okParts, buildSliceA, buildMutA, makeSliceA, partIdx, elemsA, lensA, ifaceA, convA, mmA, pickA, okAll, stAll, opsA, partsA, partsOk, opA, allocA, boxMutA, newCells, okCells, storeObj, appendA, guardV, taA, nM, mapUpA, lookA, sliceA, sliceS, boundsA, opO, okO, copyA, dstOk, nilA, quietOk, nilSliceOp, deferV, panA, resA, argFr, retA.eq_1, retA.eq_2, Nat.reduceAdd, Nat.reduceSub, Nat.reduceMul, Nat.reduceLT, Nat.reduceLeDiff, Nat.reduceEqDiff, Nat.reduceBEq, Int.reduceAdd, Int.reduceSub, Int.reduceMul, Int.reduceNeg, Int.reduceLE, Int.reduceLT, Int.reduceEq, Int.reduceNe, Int.reduceToNat, ↓reduceIte, reduceCtorEq, implies_true, forall_const, eq_self, ne_eq, arrL, wtAll, Try.ntmps24, Try.results24, h4, hh_j6, f1, f2, f3, f4, f5, f6, f7, f8, f9, d1, d2, d3, d4, d5, d6, hh_j7, hh_j8]) ?_)), .inr ⟨by rw [er]; decide, by rw [er], rfl⟩⟩
    · obtain ⟨im, i5, i6⟩ := y
      obtain ⟨_, er, _, b1, b2, b3, ⟨⟨c1, c2⟩, ⟨c3, c4⟩, c5, c6⟩, ⟨d1, d2⟩, ⟨d3, d4⟩, d5, d6⟩ := hy
      simp only [] at b1 b2 b3 c1 c2 c3 c4 c5 c6 d1 d2 d3 d4 d5 d6
      obtain ⟨eb, eg⟩ := best_eq k.nF er
      obtain ⟨_, _, h0⟩ := rgtE_zero er
      have hbl : (bestP p).length = p.ps.length := by
        have : bestP p ∈ rpl p := by
          rw [show bestP p = mnG (lastV p) (rpl p) [] (rpl p).length from if_pos er]
          obtain ⟨q, hq, e, _⟩ := mnG_spec (lastV p) (rpl p) [] h0 (rpl p).length (Nat.le_refl _)
          rw [e]; exact mem_getD _ q [] hq
        exact (mem_rpl.1 this).len
      have hex : ∃ t ∈ cont p p.ps.length 0 u0, valT (0 : Int) (moreB p) 0 t ≤ bestV p := tlB_le.1 ⟨_, eb, Int.le_refl _⟩
      generalize hB : bH p H i4 im i5 i6 = B
      have g4 : B i4 = some (.box 1 1 fun _ => [i64 0]) := by rw [← hB]; skip; simp only [vsAll, ↓reduceIte, eq_self, c2, c4, c6]
      have g5 : B i5 = some (.box 1 1 fun _ => [.map im]) := by rw [← hB]; skip; simp only [vsAll, ↓reduceIte, eq_self, d6]
      have g6 : B i6 = some (.box 1 1 fun _ => [bonF p i5 i6]) := by rw [← hB]; skip; simp only [vsAll, ↓reduceIte, eq_self]
      have gm : B im = some (.memo (memT p 0 (moreB p) joinB)) := by rw [← hB]; skip; simp only [vsAll, ↓reduceIte, eq_self, d2, d4]
      have hBH : ∀ o, Go.V.HSub (B.set i4 o) H := fun o => by
        rw [← hB]
        refine HSub_drop2 h4 (HSub.trans (telH_sub ?_) (HSub_drop2 h4 (HSub.refl _)))
        refine ⟨?_, ?_, ?_⟩
        · rw [Hp.set_ne _ _ c1]; exact b1
        · rw [Hp.set_ne _ _ c3]; exact b2
        · rw [Hp.set_ne _ _ c5]; exact b3
      refine wps_vs (m := mset [76]) ?_
      skip
      simp only [vsAll, cellA, fillA, okParts, partsA, partsOk, opA, allocA, newCells, okCells, storeObj, dstOk, nilA, Nat.reduceAdd, Nat.reduceMul, Nat.reduceLT, Nat.reduceEqDiff, ↓reduceIte, eq_self, wtAll, Try.ntmps24]
      intro i10 hh_i10; (try simp only [Hp.set_none, ite_none] at hh_i10); intro i11 hh_i11; (try simp only [ite_none] at hh_i11)
      refine vs_loopD (σ := Nat × List Nat × List (Int × Int) × Hp × List Nat)
        (fun y => (y.1 ≤ p.ps.length ∧ Bd y.2.1 ∧ y.2.2.1.length = y.1 ∧ grd p (bestV p) p.ps.length 0 u0 = y.2.2.1 ++ grd p (bestV p) (p.ps.length - y.1) y.1 y.2.1 ∧ ∃ t ∈ cont p (p.ps.length - y.1) y.1 y.2.1, valT (0 : Int) (moreB p) y.1 t ≤ bestV p) ∧
          Mk B y.2.2.2.2 y.2.2.2.1 ∧ y.2.2.2.1 i10 = none ∧ y.2.2.2.1 i11 = none ∧ y.2.2.2.1 i4 = some (.box 1 1 fun _ => [i64 0]) ∧ y.2.2.2.1 i5 = some (.box 1 1 fun _ => [.map im]) ∧ y.2.2.2.1 i6 = some (.box 1 1 fun _ => [bonF p i5 i6]) ∧ y.2.2.2.1 im = some (.memo (memT p 0 (moreB p) joinB)))
        (fun y => [(4, .ref i4 0 1 0 0), (5, ppA p), (6, .rptr 1 1 (fun _ => [.func (.func 74) [] [ppA p]]) 0 0), (7, .rptr 1 1 (fun _ => [bonF p i5 i6]) 0 0), (8, .rptr 1 1 (fun _ => [i64 (bestV p)]) 0 0), (10, .ref i10 0 2 0 0), (11, .ref i11 0 4 0 0)]) (fun y => y.2.2.2.2.map AD.mark ++ [.call 46 [.ref i4 0 1 0 0]])
        (fun y => (y.2.2.2.1.set i10 (.box 2 4 (plF y.2.2.1))).set i11 (.box 4 1 fun _ => mkC y.1 y.2.1)) (fun y => p.ps.length - y.1) (0, u0, [], B, []) ⟨⟨Nat.zero_le _, u0_bd, rfl, by simp, by simpa using hex⟩, Mk.nil B, hh_i10, hh_i11.2.2, g4, g5, g6, gm⟩ ?_ rfl ?_ fun y hy => ?_
      · simp only [vsAll, Nat.reduceEqDiff, ↓reduceIte, eq_self]
      · refine HSub.trans (B := (B.set i10 (.box 2 4 fun k => List.take 2 (List.drop (k * 2) [i64 0, i64 0, i64 0, i64 0, i64 0, i64 0, i64 0, i64 0]))).set i11 (.box 4 1 fun _ => [i64 0, u64 0, u64 0, u64 0])) (by (repeat (first | exact HSub_rfl | refine HSub_put_eq (by simp only [vsAll, ↓reduceIte, eq_self, hh_i11]) ?_ | refine HSub_drop2 (by simp only [eq_self, hh_i10, hh_i11]) ?_ | refine HSub_keep_eq (by simp only [vsAll, binA, binLitA, intA, aggA, aggV, boolA, nilA2, isConst, unA, loadA, loadRow, partA, partOk, fieldAddrA, indexAddrA, indexA, fieldA, extractA, lenA, nilCheckA, boxA, boxZ, cellA, cellsA, fillA, okParts, buildSliceA, buildMutA, makeSliceA, partIdx, elemsA, lensA, ifaceA, convA, mmA, pickA, okAll, stAll, opsA, partsA, partsOk, opA, allocA, boxMutA, newCells, okCells, storeObj, appendA, guardV, taA, nM, mapUpA, lookA, sliceA, sliceS, boundsA, opO, okO, copyA, dstOk, nilA, quietOk, nilSliceOp, deferV, panA, resA, argFr, retA.eq_1, retA.eq_2, Nat.reduceAdd, Nat.reduceSub, Nat.reduceMul, Nat.reduceLT, Nat.reduceLeDiff, Nat.reduceEqDiff, Nat.reduceBEq, Int.reduceAdd, Int.reduceSub, Int.reduceMul, Int.reduceNeg, Int.reduceLE, Int.reduceLT, Int.reduceEq, Int.reduceNe, Int.reduceToNat, ↓reduceIte, reduceCtorEq, implies_true, forall_const, eq_self, ne_eq, arrL, wtAll, Try.ntmps24, Try.results24, h4, b1, b2, b3, c1, c2, c3, c4, c5, c6, d1, d2, d3, d4, d5, d6, h4, b1, b2, b3, c1, c2, c3, c4, c5, c6, d1, d2, d3, d4, d5, d6, h4, b1, b2, b3, c1, c2, c3, c4, c5, c6, d1, d2, d3, d4, d5, d6, h4, b1, b2, b3, c1, c2, c3, c4, c5, c6, d1, d2, d3, d4, d5, d6, g4, g5, g6, gm, hh_i10, hh_i11]) ?_))) (HSub.set (HSub.set HSub_rfl (box_ext fun q hq => ?_)) (box_ext fun q hq => rfl))
        have : q = 0 ∨ q = 1 ∨ q = 2 ∨ q = 3 := by ((try clear h4); (try clear b1); (try clear b2); (try clear b3); (try clear c1); (try clear c2); (try clear c3); (try clear c4); (try clear c5); (try clear c6); (try clear d1); (try clear d2); (try clear d3); (try clear d4); (try clear d5); (try clear d6); (try clear g4); (try clear g5); (try clear g6); (try clear gm); (try clear hh_i10); (try clear hh_i11); omega)
        rcases this with rfl | rfl | rfl | rfl <;> rfl
      · obtain ⟨s, u, l, G, lm⟩ := y
        obtain ⟨⟨hs, hbd, hll, hgr, hext⟩, hG, q10, q11, q4, q5, q6, qm⟩ := hy
        simp only [] at hs hbd hll hgr hext hG q10 q11 q4 q5 q6 qm
        have r1 := ne_some q10 q4
        have r2 := ne_some q10 q5
        have r3 := ne_some q10 q6
        have r4 := ne_some q10 qm
        have r5 := ne_some q11 q4
        have r6 := ne_some q11 q5
        have r7 := ne_some q11 q6
        have r8 := ne_some q11 qm
        skip
        simp only [vsAll]
        refine vs_draw2 [0, 0, 0, 0, 0, 0, 0, 0, 0] [] [0, 1, 2, 3, 4, 5, 6, 7, 8] (by decide +kernel) ?_
        simp only [vsAll, binA, binLitA, intA, loadA, loadRow, partA, partOk, fieldAddrA, lenA, nilCheckA, opA, dstOk, Nat.reduceLT, Nat.reduceEqDiff, ↓reduceIte, eq_self, wtAll]
        refine condD (fun hd => ?_) (fun hd => ?_)
        · have hsN : s < p.ps.length := by ((try clear h4); (try clear b1); (try clear b2); (try clear b3); (try clear c1); (try clear c2); (try clear c3); (try clear c4); (try clear c5); (try clear c6); (try clear d1); (try clear d2); (try clear d3); (try clear d4); (try clear d5); (try clear d6); (try clear g4); (try clear g5); (try clear g6); (try clear gm); (try clear hh_i10); (try clear hh_i11); (try clear q10); (try clear q11); (try clear q4); (try clear q5); (try clear q6); (try clear qm); (try clear r1); (try clear r2); (try clear r3); (try clear r4); (try clear r5); (try clear r6); (try clear r7); (try clear r8); omega)
          obtain ⟨n, hn⟩ : ∃ n, p.ps.length - s = n + 1 := ⟨p.ps.length - s - 1, by ((try clear h4); (try clear b1); (try clear b2); (try clear b3); (try clear c1); (try clear c2); (try clear c3); (try clear c4); (try clear c5); (try clear c6); (try clear d1); (try clear d2); (try clear d3); (try clear d4); (try clear d5); (try clear d6); (try clear g4); (try clear g5); (try clear g6); (try clear gm); (try clear hh_i10); (try clear hh_i11); (try clear q10); (try clear q11); (try clear q4); (try clear q5); (try clear q6); (try clear qm); (try clear r1); (try clear r2); (try clear r3); (try clear r4); (try clear r5); (try clear r6); (try clear r7); (try clear r8); omega)⟩
          rw [hn] at hgr hext
          simp only [vsAll, loadA, loadRow, partA, partOk, okAll, stAll, opsA, opA, dstOk, Nat.reduceLT, Nat.reduceEqDiff, ↓reduceIte, eq_self, wtAll]
          refine callK_pure (steps_tri p s u _) ?_
          simp only [vsAll]
          generalize hN : nxt p s u = N
          refine vs_rangeS (σ := Unit) (nextL p s u) (fun j _ => ∀ q, q < j → okB p (bestV p) n s (N.getD q ((0, 0), [])) = false)
            (fun _ _ => (G.set i10 (.box 2 4 (plF l))).set i11 (.box 4 1 fun _ => mkC s u)) () (fun _ => True) Try.func102 (by kernel_rfl) rfl (by simp only [vsAll, opA, ↓reduceIte, eq_self]) (by simp only [vsAll, opA, ↓reduceIte, eq_self]) (by decide) next_pair
            (fun yf H K hi => steps1_tri p s u k hsN hbd yf H _ K hi) (fun q hq => absurd hq (Nat.not_lt_zero q)) ?_ ?_ ?_ ?_ ?_
          · (repeat (first | exact HSub_rfl | refine HSub_put_eq (by simp only [vsAll, binA, binLitA, intA, aggA, aggV, boolA, nilA2, isConst, unA, loadA, loadRow, partA, partOk, fieldAddrA, indexAddrA, indexA, fieldA, extractA, lenA, nilCheckA, boxA, boxZ, cellA, cellsA, fillA, okParts, buildSliceA, buildMutA, makeSliceA, partIdx, elemsA, lensA, ifaceA, convA, mmA, pickA, okAll, stAll, opsA, partsA, partsOk, opA, allocA, boxMutA, newCells, okCells, storeObj, appendA, guardV, taA, nM, mapUpA, lookA, sliceA, sliceS, boundsA, opO, okO, copyA, dstOk, nilA, quietOk, nilSliceOp, deferV, panA, resA, argFr, retA.eq_1, retA.eq_2, Nat.reduceAdd, Nat.reduceSub, Nat.reduceMul, Nat.reduceLT, Nat.reduceLeDiff, Nat.reduceEqDiff, Nat.reduceBEq, Int.reduceAdd, Int.reduceSub, Int.reduceMul, Int.reduceNeg, Int.reduceLE, Int.reduceLT, Int.reduceEq, Int.reduceNe, Int.reduceToNat, ↓reduceIte, reduceCtorEq, implies_true, forall_const, eq_self, ne_eq, arrL, wtAll, Try.ntmps24, Try.results24, h4, b1, b2, b3, c1, c2, c3, c4, c5, c6, d1, d2, d3, d4, d5, d6, h4, b1, b2, b3, c1, c2, c3, c4, c5, c6, d1, d2, d3, d4, d5, d6, h4, b1, b2, b3, c1, c2, c3, c4, c5, c6, d1, d2, d3, d4, d5, d6, h4, b1, b2, b3, c1, c2, c3, c4, c5, c6, d1, d2, d3, d4, d5, d6, g4, g5, g6, gm, hh_i10, hh_i11, q10, q11, q4, q5, q6, qm, r1, r2, r3, r4, r5, r6, r7, r8]) ?_ | refine HSub_drop2 (by simp only [vsAll, binA, binLitA, intA, aggA, aggV, boolA, nilA2, isConst, unA, loadA, loadRow, partA, partOk, fieldAddrA, indexAddrA, indexA, fieldA, extractA, lenA, nilCheckA, boxA, boxZ, cellA, cellsA, fillA, okParts, buildSliceA, buildMutA, makeSliceA, partIdx, elemsA, lensA, ifaceA, convA, mmA, pickA, okAll, stAll, opsA, partsA, partsOk, opA, allocA, boxMutA, newCells, okCells, storeObj, appendA, guardV, taA, nM, mapUpA, lookA, sliceA, sliceS, boundsA, opO, okO, copyA, dstOk, nilA, quietOk, nilSliceOp, deferV, panA, resA, argFr, retA.eq_1, retA.eq_2, Nat.reduceAdd, Nat.reduceSub, Nat.reduceMul, Nat.reduceLT, Nat.reduceLeDiff, Nat.reduceEqDiff, Nat.reduceBEq, Int.reduceAdd, Int.reduceSub, Int.reduceMul, Int.reduceNeg, Int.reduceLE, Int.reduceLT, Int.reduceEq, Int.reduceNe, Int.reduceToNat, ↓reduceIte, reduceCtorEq, implies_true, forall_const, eq_self, ne_eq, arrL, wtAll, Try.ntmps24, Try.results24, h4, b1, b2, b3, c1, c2, c3, c4, c5, c6, d1, d2, d3, d4, d5, d6, h4, b1, b2, b3, c1, c2, c3, c4, c5, c6, d1, d2, d3, d4, d5, d6, h4, b1, b2, b3, c1, c2, c3, c4, c5, c6, d1, d2, d3, d4, d5, d6, h4, b1, b2, b3, c1, c2, c3, c4, c5, c6, d1, d2, d3, d4, d5, d6, g4, g5, g6, gm, hh_i10, hh_i11, q10, q11, q4, q5, q6, qm, r1, r2, r3, r4, r5, r6, r7, r8]) ?_ | refine HSub_keep_eq (by simp only [vsAll, binA, binLitA, intA, aggA, aggV, boolA, nilA2, isConst, unA, loadA, loadRow, partA, partOk, fieldAddrA, indexAddrA, indexA, fieldA, extractA, lenA, nilCheckA, boxA, boxZ, cellA, cellsA, fillA, okParts, buildSliceA, buildMutA, makeSliceA, partIdx, elemsA, lensA, ifaceA, convA, mmA, pickA, okAll, stAll, opsA, partsA, partsOk, opA, allocA, boxMutA, newCells, okCells, storeObj, appendA, guardV, taA, nM, mapUpA, lookA, sliceA, sliceS, boundsA, opO, okO, copyA, dstOk, nilA, quietOk, nilSliceOp, deferV, panA, resA, argFr, retA.eq_1, retA.eq_2, Nat.reduceAdd, Nat.reduceSub, Nat.reduceMul, Nat.reduceLT, Nat.reduceLeDiff, Nat.reduceEqDiff, Nat.reduceBEq, Int.reduceAdd, Int.reduceSub, Int.reduceMul, Int.reduceNeg, Int.reduceLE, Int.reduceLT, Int.reduceEq, Int.reduceNe, Int.reduceToNat, ↓reduceIte, reduceCtorEq, implies_true, forall_const, eq_self, ne_eq, arrL, wtAll, Try.ntmps24, Try.results24, h4, b1, b2, b3, c1, c2, c3, c4, c5, c6, d1, d2, d3, d4, d5, d6, h4, b1, b2, b3, c1, c2, c3, c4, c5, c6, d1, d2, d3, d4, d5, d6, h4, b1, b2, b3, c1, c2, c3, c4, c5, c6, d1, d2, d3, d4, d5, d6, h4, b1, b2, b3, c1, c2, c3, c4, c5, c6, d1, d2, d3, d4, d5, d6, g4, g5, g6, gm, hh_i10, hh_i11, q10, q11, q4, q5, q6, qm, r1, r2, r3, r4, r5, r6, r7, r8]) ?_))
          · intro j _ _ q hq; exact hq
          · intros; trivial
          · rintro j w ⟨⟩ hw hbef lid did l' lo h1 h2 h3'
            simp only [Hp.set_none] at h1 h2
            have h4' : ¬ did = lid := fun e => h3' e.symm
            have e1 := ne_some h1.2.2 q4
            have e2 := ne_some h1.2.2 q5
            have e3 := ne_some h1.2.2 q6
            have e4 := ne_some h1.2.2 qm
            have e5 := ne_some h2.2.2 q4
            have e6 := ne_some h2.2.2 q5
            have e7 := ne_some h2.2.2 q6
            have e8 := ne_some h2.2.2 qm
            skip
            obtain ⟨hj, rfl⟩ := next_get hw
            rw [hN] at hj ⊢
            have hmem : N.getD j ((0, 0), []) ∈ N := mem_getD N j _ hj
            have hmem2 : N.getD j ((0, 0), []) ∈ nxt p s u := by rw [hN]; exact hmem
            have hgiv := nxt_bd k hmem2 hbd
            have hpl := (nxt_mem hmem2).1
            generalize hq : N.getD j ((0, 0), []) = q at hmem hgiv hpl ⊢
            obtain ⟨x, y⟩ := q
            simp only [] at hgiv hpl ⊢
            simp only [vsAll, loadA, loadRow, partA, partOk, cellA, okAll, stAll, opsA, opA, allocA, newCells, okCells, storeObj, dstOk, quietOk, Nat.reduceAdd, Nat.reduceLT, Nat.reduceEqDiff, ↓reduceIte, eq_self, wtAll]
            intro i12 hh_i12; (try simp only [ite_none] at hh_i12)
            have m1 := ne_some hh_i12.2.2.2.2 q4
            have m2 := ne_some hh_i12.2.2.2.2 q5
            have m3 := ne_some hh_i12.2.2.2.2 q6
            have m4 := ne_some hh_i12.2.2.2.2 qm
            skip
            intro i13 hh_i13; (try simp only [ite_none] at hh_i13)
            have m5 := ne_some hh_i13.2.2.2.2.2.2 q4
            have m6 := ne_some hh_i13.2.2.2.2.2.2 q5
            have m7 := ne_some hh_i13.2.2.2.2.2.2 q6
            have m8 := ne_some hh_i13.2.2.2.2.2.2 qm
            skip
            simp only [vsAll, Nat.reduceLT, ↓reduceIte, eq_self, hh_i12, hh_i13]
            refine callK_pure (on_tri (i5 := i5) (i6 := i6) (im := im) k (bestT k) n (s + 1) y _ (by ((try clear h4); (try clear b1); (try clear b2); (try clear b3); (try clear c1); (try clear c2); (try clear c3); (try clear c4); (try clear c5); (try clear c6); (try clear d1); (try clear d2); (try clear d3); (try clear d4); (try clear d5); (try clear d6); (try clear g4); (try clear g5); (try clear g6); (try clear gm); (try clear hh_i10); (try clear hh_i11); (try clear q10); (try clear q11); (try clear q4); (try clear q5); (try clear q6); (try clear qm); (try clear r1); (try clear r2); (try clear r3); (try clear r4); (try clear r5); (try clear r6); (try clear r7); (try clear r8); (try clear h1); (try clear h2); (try clear h3'); (try clear h4'); (try clear e1); (try clear e2); (try clear e3); (try clear e4); (try clear e5); (try clear e6); (try clear e7); (try clear e8); (try clear hh_i12); (try clear m1); (try clear m2); (try clear m3); (try clear m4); (try clear hh_i13); (try clear m5); (try clear m6); (try clear m7); (try clear m8); omega)) hgiv (by simp only [vsAll, ↓reduceIte, eq_self, q5, r2, r6, e2, e6, m2, m6]) (by simp only [vsAll, ↓reduceIte, eq_self, q6, r3, r7, e3, e7, m3, m7]) (by simp only [vsAll, ↓reduceIte, eq_self, qm, r4, r8, e4, e8, m4, m8])) ?_
            have eok : okB p (bestV p) n s (x, y) = match tl p 0 (moreB p) joinB n (s + 1) y with | some r => decide (moreB p s x r ≤ bestV p) | none => false := rfl
            have nothing : okB p (bestV p) n s (x, y) = false → ∀ q, q < j + 1 → okB p (bestV p) n s (N.getD q ((0, 0), [])) = false := fun h q hq' => by
              by_cases e : q = j
              · rw [e, hq]; exact h
              · exact hbef q (by ((try clear h4); (try clear b1); (try clear b2); (try clear b3); (try clear c1); (try clear c2); (try clear c3); (try clear c4); (try clear c5); (try clear c6); (try clear d1); (try clear d2); (try clear d3); (try clear d4); (try clear d5); (try clear d6); (try clear g4); (try clear g5); (try clear g6); (try clear gm); (try clear hh_i10); (try clear hh_i11); (try clear q10); (try clear q11); (try clear q4); (try clear q5); (try clear q6); (try clear qm); (try clear r1); (try clear r2); (try clear r3); (try clear r4); (try clear r5); (try clear r6); (try clear r7); (try clear r8); (try clear h1); (try clear h2); (try clear h3'); (try clear h4'); (try clear e1); (try clear e2); (try clear e3); (try clear e4); (try clear e5); (try clear e6); (try clear e7); (try clear e8); (try clear hh_i12); (try clear m1); (try clear m2); (try clear m3); (try clear m4); (try clear hh_i13); (try clear m5); (try clear m6); (try clear m7); (try clear m8); omega))
            generalize htv : tl p 0 (moreB p) joinB n (s + 1) y = tv at eok ⊢
            cases tv with
            | none =>
              simp only [vsAll, extractA, opA, dstOk, nilSliceOp, Nat.reduceAdd, Nat.reduceLT, Nat.reduceEqDiff, Nat.reduceBEq, ↓reduceIte, eq_self]
              refine vs_draw2R [0, 0, 0, 0, 0, 0, 0, 0, 0, 0, 0] [] [0, 1, 2, 3, 4, 5, 6, 7, 8, 9, 10] (by repeat' constructor) (by decide +kernel) ?_
              simp only [vsAll, loadA, loadRow, partA, partOk, fieldAddrA, opA, guardV, dstOk, Nat.reduceLT, Nat.reduceEqDiff, ↓reduceIte, implies_true, eq_self, wtAll, h1, h2, hh_i12, hh_i13]
              refine qgcall (i64 0) (fun h => by cases h) ?_
              simp only [vsAll, binA, binLitA, intA, loadA, loadRow, partA, partOk, pickA, opA, guardV, dstOk, Nat.reduceLT, Nat.reduceEqDiff, ↓reduceIte, implies_true, eq_self, wtAll]
              exact ⟨⟨_, _, rfl⟩, _, ⟨(), nothing eok, rfl⟩, by (repeat (first | exact HSub_rfl | refine HSub_put_eq (by simp only [vsAll, ↓reduceIte, eq_self, hh_i11, h1, h2, h4', hh_i12, hh_i13]) ?_ | refine HSub_drop2 (by simp only [eq_self, q10, q11, h1, h2, hh_i12, hh_i13]) ?_ | refine HSub_keep_eq (by simp only [vsAll, binA, binLitA, intA, aggA, aggV, boolA, nilA2, isConst, unA, loadA, loadRow, partA, partOk, fieldAddrA, indexAddrA, indexA, fieldA, extractA, lenA, nilCheckA, boxA, boxZ, cellA, cellsA, fillA, okParts, buildSliceA, buildMutA, makeSliceA, partIdx, elemsA, lensA, ifaceA, convA, mmA, pickA, okAll, stAll, opsA, partsA, partsOk, opA, allocA, boxMutA, newCells, okCells, storeObj, appendA, guardV, taA, nM, mapUpA, lookA, sliceA, sliceS, boundsA, opO, okO, copyA, dstOk, nilA, quietOk, nilSliceOp, deferV, panA, resA, argFr, retA.eq_1, retA.eq_2, Nat.reduceAdd, Nat.reduceSub, Nat.reduceMul, Nat.reduceLT, Nat.reduceLeDiff, Nat.reduceEqDiff, Nat.reduceBEq, Int.reduceAdd, Int.reduceSub, Int.reduceMul, Int.reduceNeg, Int.reduceLE, Int.reduceLT, Int.reduceEq, Int.reduceNe, Int.reduceToNat, ↓reduceIte, reduceCtorEq, implies_true, forall_const, eq_self, ne_eq, arrL, wtAll, Try.ntmps24, Try.results24, h4, b1, b2, b3, c1, c2, c3, c4, c5, c6, d1, d2, d3, d4, d5, d6, h4, b1, b2, b3, c1, c2, c3, c4, c5, c6, d1, d2, d3, d4, d5, d6, h4, b1, b2, b3, c1, c2, c3, c4, c5, c6, d1, d2, d3, d4, d5, d6, h4, b1, b2, b3, c1, c2, c3, c4, c5, c6, d1, d2, d3, d4, d5, d6, g4, g5, g6, gm, hh_i10, hh_i11, q10, q11, q4, q5, q6, qm, r1, r2, r3, r4, r5, r6, r7, r8, h1, h2, h3', h4', e1, e2, e3, e4, e5, e6, e7, e8, hh_i12, m1, m2, m3, m4, hh_i13, m5, m6, m7, m8]) ?_))⟩
            | some r =>
              simp only [] at eok
              simp only [vsAll, extractA, opA, dstOk, nilSliceOp, Nat.reduceAdd, Nat.reduceLT, Nat.reduceEqDiff, Nat.reduceBEq, ↓reduceIte, eq_self, Option.getD_some]
              refine vs_draw2R [0, 0, 0, 0, 0, 0, 0, 0, 0, 0, 0] [] [0, 1, 2, 3, 4, 5, 6, 7, 8, 9, 10] (by repeat' constructor) (by decide +kernel) ?_
              simp only [vsAll, loadA, loadRow, partA, partOk, fieldAddrA, opA, guardV, dstOk, Nat.reduceLT, Nat.reduceEqDiff, ↓reduceIte, eq_self, wtAll, h1, h2, hh_i12, hh_i13]
              refine qgcall (i64 (moreB p s x r)) (fun _ => ⟨by simp only [vsAll, opA, Nat.reduceEqDiff, ↓reduceIte, eq_self], by simp only [vsAll, okAll, opsA, opA, Nat.reduceEqDiff, ↓reduceIte, eq_self], end_tri p s x r _ k hsN hpl⟩) ?_
              simp only [vsAll, binA, binLitA, intA, loadA, loadRow, partA, partOk, pickA, opA, guardV, dstOk, Nat.reduceLT, Nat.reduceEqDiff, ↓reduceIte, implies_true, eq_self, wtAll]
              refine condV (fun hc => ?_) (fun hc => ?_)
              · rw [← eok] at hc
                simp only [vsAll]
                refine vs_draw2R [0, 0, 0, 0, 0, 1, 3] [([0, 1, 2, 3, 4], [3], 5), ([], [], 6)] [] (by repeat' constructor) (by decide +kernel) ?_
                simp only [vsAll, loadA, loadRow, partA, partOk, fieldAddrA, indexAddrA, cellA, opA, newCells, okCells, storeObj, dstOk, Nat.reduceAdd, Nat.reduceLT, Nat.reduceEqDiff, ↓reduceIte, eq_self, wtAll, hh_i11, h1, h2, hh_i12, hh_i13]
                have hfd : (nxt p s u).find? (okB p (bestV p) n s) = some (x, y) := by
                  rw [hN]
                  refine find_at hj (fun q hq' => ?_) hc hq
                  exact hbef q hq'
                have hgs : grd p (bestV p) (n + 1) s u = x :: grd p (bestV p) n (s + 1) y := by
                  show (match (nxt p s u).find? (okB p (bestV p) n s) with | some q => q.1 :: grd p (bestV p) n (s + 1) q.2 | none => []) = _
                  rw [hfd]
                have hne := okB_iff.1 hc
                have nPl := k.nP
                have hx0 : updF 4 s (plF l) (i64 x.1 :: i64 x.2 :: List.drop 2 (plF l s)) = plF (l ++ [x]) := by
                  funext q
                  show (if q = s then _ else plF l q) = _
                  by_cases e : q = s
                  · subst e
                    rw [if_pos rfl, ← hll]
                    simp [plF]
                  · rw [if_neg e]
                    simp only [plF]
                    by_cases e' : q < l.length
                    · rw [List.getD_eq_getElem?_getD, List.getD_eq_getElem?_getD, List.getElem?_append_left e']
                    · rw [List.getD_eq_getElem?_getD, List.getD_eq_getElem?_getD, List.getElem?_eq_none (by ((try clear h4); (try clear b1); (try clear b2); (try clear b3); (try clear c1); (try clear c2); (try clear c3); (try clear c4); (try clear c5); (try clear c6); (try clear d1); (try clear d2); (try clear d3); (try clear d4); (try clear d5); (try clear d6); (try clear g4); (try clear g5); (try clear g6); (try clear gm); (try clear hh_i10); (try clear hh_i11); (try clear q10); (try clear q11); (try clear q4); (try clear q5); (try clear q6); (try clear qm); (try clear r1); (try clear r2); (try clear r3); (try clear r4); (try clear r5); (try clear r6); (try clear r7); (try clear r8); (try clear h1); (try clear h2); (try clear h3'); (try clear h4'); (try clear e1); (try clear e2); (try clear e3); (try clear e4); (try clear e5); (try clear e6); (try clear e7); (try clear e8); (try clear hh_i12); (try clear m1); (try clear m2); (try clear m3); (try clear m4); (try clear hh_i13); (try clear m5); (try clear m6); (try clear m7); (try clear m8); omega)), List.getElem?_eq_none (by simp; ((try clear h4); (try clear b1); (try clear b2); (try clear b3); (try clear c1); (try clear c2); (try clear c3); (try clear c4); (try clear c5); (try clear c6); (try clear d1); (try clear d2); (try clear d3); (try clear d4); (try clear d5); (try clear d6); (try clear g4); (try clear g5); (try clear g6); (try clear gm); (try clear hh_i10); (try clear hh_i11); (try clear q10); (try clear q11); (try clear q4); (try clear q5); (try clear q6); (try clear qm); (try clear r1); (try clear r2); (try clear r3); (try clear r4); (try clear r5); (try clear r6); (try clear r7); (try clear r8); (try clear h1); (try clear h2); (try clear h3'); (try clear h4'); (try clear e1); (try clear e2); (try clear e3); (try clear e4); (try clear e5); (try clear e6); (try clear e7); (try clear e8); (try clear hh_i12); (try clear m1); (try clear m2); (try clear m3); (try clear m4); (try clear hh_i13); (try clear m5); (try clear m6); (try clear m7); (try clear m8); omega))]
                refine ⟨⟨by ((try clear h4); (try clear b1); (try clear b2); (try clear b3); (try clear c1); (try clear c2); (try clear c3); (try clear c4); (try clear c5); (try clear c6); (try clear d1); (try clear d2); (try clear d3); (try clear d4); (try clear d5); (try clear d6); (try clear g4); (try clear g5); (try clear g6); (try clear gm); (try clear hh_i10); (try clear hh_i11); (try clear q10); (try clear q11); (try clear q4); (try clear q5); (try clear q6); (try clear qm); (try clear r1); (try clear r2); (try clear r3); (try clear r4); (try clear r5); (try clear r6); (try clear r7); (try clear r8); (try clear h1); (try clear h2); (try clear h3'); (try clear h4'); (try clear e1); (try clear e2); (try clear e3); (try clear e4); (try clear e5); (try clear e6); (try clear e7); (try clear e8); (try clear hh_i12); (try clear m1); (try clear m2); (try clear m3); (try clear m4); (try clear hh_i13); (try clear m5); (try clear m6); (try clear m7); (try clear m8); omega), by ((try clear h4); (try clear b1); (try clear b2); (try clear b3); (try clear c1); (try clear c2); (try clear c3); (try clear c4); (try clear c5); (try clear c6); (try clear d1); (try clear d2); (try clear d3); (try clear d4); (try clear d5); (try clear d6); (try clear g4); (try clear g5); (try clear g6); (try clear gm); (try clear hh_i10); (try clear hh_i11); (try clear q10); (try clear q11); (try clear q4); (try clear q5); (try clear q6); (try clear qm); (try clear r1); (try clear r2); (try clear r3); (try clear r4); (try clear r5); (try clear r6); (try clear r7); (try clear r8); (try clear h1); (try clear h2); (try clear h3'); (try clear h4'); (try clear e1); (try clear e2); (try clear e3); (try clear e4); (try clear e5); (try clear e6); (try clear e7); (try clear e8); (try clear hh_i12); (try clear m1); (try clear m2); (try clear m3); (try clear m4); (try clear hh_i13); (try clear m5); (try clear m6); (try clear m7); (try clear m8); omega)⟩, by ((try clear h4); (try clear b1); (try clear b2); (try clear b3); (try clear c1); (try clear c2); (try clear c3); (try clear c4); (try clear c5); (try clear c6); (try clear d1); (try clear d2); (try clear d3); (try clear d4); (try clear d5); (try clear d6); (try clear g4); (try clear g5); (try clear g6); (try clear gm); (try clear hh_i10); (try clear hh_i11); (try clear q10); (try clear q11); (try clear q4); (try clear q5); (try clear q6); (try clear qm); (try clear r1); (try clear r2); (try clear r3); (try clear r4); (try clear r5); (try clear r6); (try clear r7); (try clear r8); (try clear h1); (try clear h2); (try clear h3'); (try clear h4'); (try clear e1); (try clear e2); (try clear e3); (try clear e4); (try clear e5); (try clear e6); (try clear e7); (try clear e8); (try clear hh_i12); (try clear m1); (try clear m2); (try clear m3); (try clear m4); (try clear hh_i13); (try clear m5); (try clear m6); (try clear m7); (try clear m8); omega), ⟨_, _, rfl⟩, loopD_next (s + 1, y, l ++ [x], G.set did dfO, did :: lm)
                  ⟨⟨by simp only []; ((try clear h4); (try clear b1); (try clear b2); (try clear b3); (try clear c1); (try clear c2); (try clear c3); (try clear c4); (try clear c5); (try clear c6); (try clear d1); (try clear d2); (try clear d3); (try clear d4); (try clear d5); (try clear d6); (try clear g4); (try clear g5); (try clear g6); (try clear gm); (try clear hh_i10); (try clear hh_i11); (try clear q10); (try clear q11); (try clear q4); (try clear q5); (try clear q6); (try clear qm); (try clear r1); (try clear r2); (try clear r3); (try clear r4); (try clear r5); (try clear r6); (try clear r7); (try clear r8); (try clear h1); (try clear h2); (try clear h3'); (try clear h4'); (try clear e1); (try clear e2); (try clear e3); (try clear e4); (try clear e5); (try clear e6); (try clear e7); (try clear e8); (try clear hh_i12); (try clear m1); (try clear m2); (try clear m3); (try clear m4); (try clear hh_i13); (try clear m5); (try clear m6); (try clear m7); (try clear m8); omega), hgiv, by simp [hll], ?_, ?_⟩, hG.cons h2.2.2, by simp only [vsAll, ↓reduceIte, eq_self, q10, h2], by simp only [vsAll, ↓reduceIte, eq_self, q11, h2], by simp only [vsAll, ↓reduceIte, eq_self, q4, e5], by simp only [vsAll, ↓reduceIte, eq_self, q5, e6], by simp only [vsAll, ↓reduceIte, eq_self, q6, e7], by simp only [vsAll, ↓reduceIte, eq_self, qm, e8]⟩ (by simp only []; ((try clear h4); (try clear b1); (try clear b2); (try clear b3); (try clear c1); (try clear c2); (try clear c3); (try clear c4); (try clear c5); (try clear c6); (try clear d1); (try clear d2); (try clear d3); (try clear d4); (try clear d5); (try clear d6); (try clear g4); (try clear g5); (try clear g6); (try clear gm); (try clear hh_i10); (try clear hh_i11); (try clear q10); (try clear q11); (try clear q4); (try clear q5); (try clear q6); (try clear qm); (try clear r1); (try clear r2); (try clear r3); (try clear r4); (try clear r5); (try clear r6); (try clear r7); (try clear r8); (try clear h1); (try clear h2); (try clear h3'); (try clear h4'); (try clear e1); (try clear e2); (try clear e3); (try clear e4); (try clear e5); (try clear e6); (try clear e7); (try clear e8); (try clear hh_i12); (try clear m1); (try clear m2); (try clear m3); (try clear m4); (try clear hh_i13); (try clear m5); (try clear m6); (try clear m7); (try clear m8); omega)) ?_ rfl ?_⟩
                · simp only []
                  rw [hgr, hgs, show p.ps.length - (s + 1) = n by ((try clear h4); (try clear b1); (try clear b2); (try clear b3); (try clear c1); (try clear c2); (try clear c3); (try clear c4); (try clear c5); (try clear c6); (try clear d1); (try clear d2); (try clear d3); (try clear d4); (try clear d5); (try clear d6); (try clear g4); (try clear g5); (try clear g6); (try clear gm); (try clear hh_i10); (try clear hh_i11); (try clear q10); (try clear q11); (try clear q4); (try clear q5); (try clear q6); (try clear qm); (try clear r1); (try clear r2); (try clear r3); (try clear r4); (try clear r5); (try clear r6); (try clear r7); (try clear r8); (try clear h1); (try clear h2); (try clear h3'); (try clear h4'); (try clear e1); (try clear e2); (try clear e3); (try clear e4); (try clear e5); (try clear e6); (try clear e7); (try clear e8); (try clear hh_i12); (try clear m1); (try clear m2); (try clear m3); (try clear m4); (try clear hh_i13); (try clear m5); (try clear m6); (try clear m7); (try clear m8); omega), List.append_assoc]
                  rfl
                · simp only []
                  rw [show p.ps.length - (s + 1) = n by ((try clear h4); (try clear b1); (try clear b2); (try clear b3); (try clear c1); (try clear c2); (try clear c3); (try clear c4); (try clear c5); (try clear c6); (try clear d1); (try clear d2); (try clear d3); (try clear d4); (try clear d5); (try clear d6); (try clear g4); (try clear g5); (try clear g6); (try clear gm); (try clear hh_i10); (try clear hh_i11); (try clear q10); (try clear q11); (try clear q4); (try clear q5); (try clear q6); (try clear qm); (try clear r1); (try clear r2); (try clear r3); (try clear r4); (try clear r5); (try clear r6); (try clear r7); (try clear r8); (try clear h1); (try clear h2); (try clear h3'); (try clear h4'); (try clear e1); (try clear e2); (try clear e3); (try clear e4); (try clear e5); (try clear e6); (try clear e7); (try clear e8); (try clear hh_i12); (try clear m1); (try clear m2); (try clear m3); (try clear m4); (try clear hh_i13); (try clear m5); (try clear m6); (try clear m7); (try clear m8); omega)]
                  obtain ⟨t, ht, hle⟩ := hne
                  refine ⟨t, ht, ?_⟩
                  simp only [valT, moreB] at hle ⊢
                  ((try clear h4); (try clear b1); (try clear b2); (try clear b3); (try clear c1); (try clear c2); (try clear c3); (try clear c4); (try clear c5); (try clear c6); (try clear d1); (try clear d2); (try clear d3); (try clear d4); (try clear d5); (try clear d6); (try clear g4); (try clear g5); (try clear g6); (try clear gm); (try clear hh_i10); (try clear hh_i11); (try clear q10); (try clear q11); (try clear q4); (try clear q5); (try clear q6); (try clear qm); (try clear r1); (try clear r2); (try clear r3); (try clear r4); (try clear r5); (try clear r6); (try clear r7); (try clear r8); (try clear h1); (try clear h2); (try clear h3'); (try clear h4'); (try clear e1); (try clear e2); (try clear e3); (try clear e4); (try clear e5); (try clear e6); (try clear e7); (try clear e8); (try clear hh_i12); (try clear m1); (try clear m2); (try clear m3); (try clear m4); (try clear hh_i13); (try clear m5); (try clear m6); (try clear m7); (try clear m8); omega)
                · simp only [vsAll, Nat.reduceEqDiff, ↓reduceIte, eq_self]
                · simp only [hx0]; (repeat (first | exact HSub_rfl | refine HSub_put_eq (by simp only [vsAll, ↓reduceIte, eq_self, hh_i11, h1, h2, h4', hh_i12, hh_i13]) ?_ | refine HSub_drop2 (by simp only [eq_self, q10, q11, h1, h2, hh_i12, hh_i13]) ?_ | refine HSub_keep_eq (by simp only [vsAll, binA, binLitA, intA, aggA, aggV, boolA, nilA2, isConst, unA, loadA, loadRow, partA, partOk, fieldAddrA, indexAddrA, indexA, fieldA, extractA, lenA, nilCheckA, boxA, boxZ, cellA, cellsA, fillA, okParts, buildSliceA, buildMutA, makeSliceA, partIdx, elemsA, lensA, ifaceA, convA, mmA, pickA, okAll, stAll, opsA, partsA, partsOk, opA, allocA, boxMutA, newCells, okCells, storeObj, appendA, guardV, taA, nM, mapUpA, lookA, sliceA, sliceS, boundsA, opO, okO, copyA, dstOk, nilA, quietOk, nilSliceOp, deferV, panA, resA, argFr, retA.eq_1, retA.eq_2, Nat.reduceAdd, Nat.reduceSub, Nat.reduceMul, Nat.reduceLT, Nat.reduceLeDiff, Nat.reduceEqDiff, Nat.reduceBEq, Int.reduceAdd, Int.reduceSub, Int.reduceMul, Int.reduceNeg, Int.reduceLE, Int.reduceLT, Int.reduceEq, Int.reduceNe, Int.reduceToNat, ↓reduceIte, reduceCtorEq, implies_true, forall_const, eq_self, ne_eq, arrL, wtAll, Try.ntmps24, Try.results24, h4, b1, b2, b3, c1, c2, c3, c4, c5, c6, d1, d2, d3, d4, d5, d6, h4, b1, b2, b3, c1, c2, c3, c4, c5, c6, d1, d2, d3, d4, d5, d6, h4, b1, b2, b3, c1, c2, c3, c4, c5, c6, d1, d2, d3, d4, d5, d6, h4, b1, b2, b3, c1, c2, c3, c4, c5, c6, d1, d2, d3, d4, d5, d6, g4, g5, g6, gm, hh_i10, hh_i11, q10, q11, q4, q5, q6, qm, r1, r2, r3, r4, r5, r6, r7, r8, h1, h2, h3', h4', e1, e2, e3, e4, e5, e6, e7, e8, hh_i12, m1, m2, m3, m4, hh_i13, m5, m6, m7, m8]) ?_))
              · rw [← eok] at hc
                simp only [vsAll, ↓reduceIte, eq_self]
                exact ⟨⟨_, _, rfl⟩, _, ⟨(), nothing hc, rfl⟩, by (repeat (first | exact HSub_rfl | refine HSub_put_eq (by simp only [vsAll, ↓reduceIte, eq_self, hh_i11, h1, h2, h4', hh_i12, hh_i13]) ?_ | refine HSub_drop2 (by simp only [eq_self, q10, q11, h1, h2, hh_i12, hh_i13]) ?_ | refine HSub_keep_eq (by simp only [vsAll, binA, binLitA, intA, aggA, aggV, boolA, nilA2, isConst, unA, loadA, loadRow, partA, partOk, fieldAddrA, indexAddrA, indexA, fieldA, extractA, lenA, nilCheckA, boxA, boxZ, cellA, cellsA, fillA, okParts, buildSliceA, buildMutA, makeSliceA, partIdx, elemsA, lensA, ifaceA, convA, mmA, pickA, okAll, stAll, opsA, partsA, partsOk, opA, allocA, boxMutA, newCells, okCells, storeObj, appendA, guardV, taA, nM, mapUpA, lookA, sliceA, sliceS, boundsA, opO, okO, copyA, dstOk, nilA, quietOk, nilSliceOp, deferV, panA, resA, argFr, retA.eq_1, retA.eq_2, Nat.reduceAdd, Nat.reduceSub, Nat.reduceMul, Nat.reduceLT, Nat.reduceLeDiff, Nat.reduceEqDiff, Nat.reduceBEq, Int.reduceAdd, Int.reduceSub, Int.reduceMul, Int.reduceNeg, Int.reduceLE, Int.reduceLT, Int.reduceEq, Int.reduceNe, Int.reduceToNat, ↓reduceIte, reduceCtorEq, implies_true, forall_const, eq_self, ne_eq, arrL, wtAll, Try.ntmps24, Try.results24, h4, b1, b2, b3, c1, c2, c3, c4, c5, c6, d1, d2, d3, d4, d5, d6, h4, b1, b2, b3, c1, c2, c3, c4, c5, c6, d1, d2, d3, d4, d5, d6, h4, b1, b2, b3, c1, c2, c3, c4, c5, c6, d1, d2, d3, d4, d5, d6, h4, b1, b2, b3, c1, c2, c3, c4, c5, c6, d1, d2, d3, d4, d5, d6, g4, g5, g6, gm, hh_i10, hh_i11, q10, q11, q4, q5, q6, qm, r1, r2, r3, r4, r5, r6, r7, r8, h1, h2, h3', h4', e1, e2, e3, e4, e5, e6, e7, e8, hh_i12, m1, m2, m3, m4, hh_i13, m5, m6, m7, m8]) ?_))⟩
          · rintro ⟨⟩ hbef lid did lo h1 h2 h3'
            exfalso
            obtain ⟨t, ht, hle⟩ := hext
            simp only [cont, List.mem_flatMap, List.mem_map] at ht
            obtain ⟨q, hqm, t', ht', rfl⟩ := ht
            rw [hN] at hqm
            obtain ⟨j, hj, rfl⟩ := getD_mem ((0, 0), []) hqm
            have := hbef j (by rw [nextL_eq, hN, List.length_map]; exact hj)
            rw [okB_iff.2 ⟨t', ht', hle⟩] at this
            cases this
        · have es : s = p.ps.length := by ((try clear h4); (try clear b1); (try clear b2); (try clear b3); (try clear c1); (try clear c2); (try clear c3); (try clear c4); (try clear c5); (try clear c6); (try clear d1); (try clear d2); (try clear d3); (try clear d4); (try clear d5); (try clear d6); (try clear g4); (try clear g5); (try clear g6); (try clear gm); (try clear hh_i10); (try clear hh_i11); (try clear q10); (try clear q11); (try clear q4); (try clear q5); (try clear q6); (try clear qm); (try clear r1); (try clear r2); (try clear r3); (try clear r4); (try clear r5); (try clear r6); (try clear r7); (try clear r8); omega)
          subst es
          simp only [vsAll, loadA, loadRow, partA, partOk, fieldAddrA, lenA, nilCheckA, cellA, cellsA, makeSliceA, opA, newCells, okCells, storeObj, sliceA, boundsA, opO, okO, copyA, dstOk, nilSliceOp, Nat.reduceSub, Nat.reduceLT, Nat.reduceEqDiff, Nat.reduceBEq, ↓reduceIte, eq_self, wtAll, hh_i11, q4, r1, r5]
          refine ⟨by ((try clear h4); (try clear b1); (try clear b2); (try clear b3); (try clear c1); (try clear c2); (try clear c3); (try clear c4); (try clear c5); (try clear c6); (try clear d1); (try clear d2); (try clear d3); (try clear d4); (try clear d5); (try clear d6); (try clear g4); (try clear g5); (try clear g6); (try clear gm); (try clear hh_i10); (try clear hh_i11); (try clear q10); (try clear q11); (try clear q4); (try clear q5); (try clear q6); (try clear qm); (try clear r1); (try clear r2); (try clear r3); (try clear r4); (try clear r5); (try clear r6); (try clear r7); (try clear r8); omega), by ((try clear h4); (try clear b1); (try clear b2); (try clear b3); (try clear c1); (try clear c2); (try clear c3); (try clear c4); (try clear c5); (try clear c6); (try clear d1); (try clear d2); (try clear d3); (try clear d4); (try clear d5); (try clear d6); (try clear g4); (try clear g5); (try clear g6); (try clear gm); (try clear hh_i10); (try clear hh_i11); (try clear q10); (try clear q11); (try clear q4); (try clear q5); (try clear q6); (try clear qm); (try clear r1); (try clear r2); (try clear r3); (try clear r4); (try clear r5); (try clear r6); (try clear r7); (try clear r8); omega), by ((try clear h4); (try clear b1); (try clear b2); (try clear b3); (try clear c1); (try clear c2); (try clear c3); (try clear c4); (try clear c5); (try clear c6); (try clear d1); (try clear d2); (try clear d3); (try clear d4); (try clear d5); (try clear d6); (try clear g4); (try clear g5); (try clear g6); (try clear gm); (try clear hh_i10); (try clear hh_i11); (try clear q10); (try clear q11); (try clear q4); (try clear q5); (try clear q6); (try clear qm); (try clear r1); (try clear r2); (try clear r3); (try clear r4); (try clear r5); (try clear r6); (try clear r7); (try clear r8); omega), ?_⟩
          intro io hh_io; (try simp only [ite_none] at hh_io)
          simp only [vsAll, ↓reduceIte, eq_self, hh_io]
          refine ⟨fun q hq => ⟨rfl, rfl, trivial⟩, ?_⟩
          have ecp : cpF 0 (min 4 p.ps.length) (fun x => [i64 0, i64 0]) 0 (fun i => plF l i) = plF l := by
            funext q
            simp only [cpF, Nat.zero_add, Nat.sub_zero, Nat.zero_le, true_and]
            split
            · rfl
            · simp only [plF]
              rw [List.getD_eq_getElem?_getD, List.getElem?_eq_none (by have := k.nP; ((try clear h4); (try clear b1); (try clear b2); (try clear b3); (try clear c1); (try clear c2); (try clear c3); (try clear c4); (try clear c5); (try clear c6); (try clear d1); (try clear d2); (try clear d3); (try clear d4); (try clear d5); (try clear d6); (try clear g4); (try clear g5); (try clear g6); (try clear gm); (try clear hh_i10); (try clear hh_i11); (try clear q10); (try clear q11); (try clear q4); (try clear q5); (try clear q6); (try clear qm); (try clear r1); (try clear r2); (try clear r3); (try clear r4); (try clear r5); (try clear r6); (try clear r7); (try clear r8); (try clear hh_io); omega))]
              rfl
          have el : l = bestP p := by
            rw [← eg, hgr, Nat.sub_self]
            simp [grd]
          rw [ecp]
          have u0' := ne_some hh_io.2.2 q4
          skip
          simp only [vsAll, Nat.reduceLT, ↓reduceIte, eq_self, u0']
          refine popM_many (H := (B.set io (.row 2 p.ps.length (plF l))).set i4 (.box 1 1 fun _ => [i64 0])) hG.nodup (fun d hd' => ?_) (fun d hd' => ?_) ?_ (fun B K' => rfl) (fun B' hB' hs => ?_)
          · have hp := hG.at' d hd'
            have z1 : ¬ d = i10 := fun e => by rw [e, q10] at hp; cases hp
            have z2 : ¬ d = i11 := fun e => by rw [e, q11] at hp; cases hp
            have z3 : ¬ d = i4 := fun e => by rw [e, q4] at hp; cases hp
            have z4 : ¬ d = io := fun e => by rw [e, hh_io.2.2] at hp; cases hp
            simp only [vsAll, ↓reduceIte, eq_self, z1, z2, z3, z4, hp]
          · have hp := hG.at' d hd'
            have z3 : ¬ d = i4 := fun e => by rw [e, q4] at hp; cases hp
            have z4 : ¬ d = io := fun e => by rw [e, hh_io.2.2] at hp; cases hp
            rw [Hp.set_ne _ _ z3, Hp.set_ne _ _ z4]
            exact hG.base d hd'
          · rw [Hp.set_set]
            refine HSub.set (HSub.set ?_ (.refl _)) (.refl _)
            exact HSub_drop2 (hG.no q11) (HSub_drop2 (hG.no q10) hG.sub)
          · have hio : B io = none := hG.no hh_io.2.2
            have hioH : H io = none := by
              cases e : H io with
              | none => rfl
              | some o =>
                obtain ⟨o', e1, _⟩ := hBH (.box 1 1 fun _ => [i64 0]) io o e
                rw [Hp.set_ne _ _ u0'.1, hio] at e1
                cases e1
            have v4 : B' i4 = some (.box 1 1 fun _ => [i64 0]) := hB' i4 _ (Hp.set_same _ _ _) (by simp)
            simp only [vsAll, loadA, loadRow, partA, partOk, resA, retA.eq_2, Nat.reduceLT, Nat.reduceEqDiff, ↓reduceIte, eq_self, wtAll, Try.results24, v4]
            refine ⟨i4, _, rfl, v4, H.set io (.row 2 p.ps.length (plF l)), ?_, .inl ⟨er, io, hioH, by rw [hbl], by rw [hbl, el]⟩⟩
            refine HSub.trans hs ?_
            have ec : (B.set io (.row 2 p.ps.length (plF l))).set i4 (.box 1 1 fun _ => [i64 0]) = (B.set i4 (.box 1 1 fun _ => [i64 0])).set io (.row 2 p.ps.length (plF l)) := by
              funext q
              by_cases e1 : q = i4
              · subst e1
                rw [Hp.set_same, Hp.set_ne _ _ u0'.2, Hp.set_same]
              · rw [Hp.set_ne _ _ e1]
                by_cases e2 : q = io
                · subst e2; rw [Hp.set_same, Hp.set_same]
                · rw [Hp.set_ne _ _ e2, Hp.set_ne _ _ e2, Hp.set_ne _ _ e1]
            rw [ec]
            exact HSub.set (hBH _) (.refl _)
/-- The plan that the program's Best gives, frozen. -/
theorem wbest_tri (p : Pt) (H : Hp) (kn : Near p) : PTri Try.prog (fnA 24) [p.av] H (.tuple [i64 (bestV p), bestA p, i64 (rgtE p true)]) := by
  refine Tri.thawD (wbestM_tri p H kn) fun r H' hr => ?_
  rcases hr with ⟨he, id, hid, rfl, rfl⟩ | ⟨hn, rfl, rfl⟩
  · right
    refine ⟨_, .tuple [i64 (bestV p), bestA p, i64 (rgtE p true)], id, 2, (bestP p).length, plF (bestP p), rfl, Hp.set_same _ _ _, ?_, rfl, set_del hid⟩
    rw [bestA, if_pos he, he]
    refine .tuple rfl fun q hq => ?_
    match q, hq with
    | 0, _ => exact .same _
    | 1, _ => exact .hit fun i hi => rfl
    | 2, _ => exact .same _
  · refine .inl ⟨?_, rfl⟩
    rw [bestA, bestV, if_neg hn, if_neg hn]
end Go.Proofs.Ytliomkpmadpibaa
end
section
set_option linter.unusedVariables false
set_option linter.unusedSimpArgs false
namespace Go.Proofs.Ytliomkpmadpibaa
open Go.V
/-- A pitch with some pots alone, and a hull beside all fires but some, all the time. -/
def wthF (p : Pt) (S : Nat) : List Int := (List.range p.fs.length).map fun i => if S.testBit i = true then p.fs.getD i 0 else ((2 ^ p.H - 1 : Nat) : Int)
def wthP (p : Pt) (Q S : Nat) : Pt := { p with fs := wthF p S, ps := onL p Q p.ps.length }
theorem wthF_len (p : Pt) (S : Nat) : (wthF p S).length = p.fs.length := by simp [wthF]
theorem wthF_at {p : Pt} {S i : Nat} (hi : i < p.fs.length) : (wthF p S).getD i 0 = if S.testBit i = true then p.fs.getD i 0 else ((2 ^ p.H - 1 : Nat) : Int) := by
  simp [wthF, List.getD_eq_getElem?_getD, hi]
theorem onL_full {p : Pt} {S : Nat} : ∀ i, i ≤ p.ps.length → (∀ j, j < i → S.testBit j = true) → onL p S i = p.ps.take i := by
  intro i
  induction i with
  | zero => intro _ _; rfl
  | succ i ih =>
    intro hi h
    simp only [onL]
    rw [if_pos (h i (by omega)), ih (by omega) (fun j hj => h j (by omega)), take_snoc p.ps i po0 (by omega)]
theorem onL_every (p : Pt) : onL p (2 ^ p.ps.length - 1) p.ps.length = p.ps := by
  rw [onL_full _ (Nat.le_refl _) (fun j hj => full_bit _ _ hj), List.take_length]
theorem only_every (p : Pt) : onlyP p (2 ^ p.ps.length - 1) = p := by unfold onlyP; rw [onL_every]
theorem wth_ok {p : Pt} (k : Ok p) (S : Nat) : Ok (wthP p (2 ^ p.ps.length - 1) S) := by
  have hp0 : 0 < 2 ^ p.H := Nat.two_pow_pos _
  have hH := k.H_eq
  refine ⟨k.hr, by show (wthF p S).length ≤ 3; rw [wthF_len]; exact k.nF, by show (onL p _ p.ps.length).length ≤ 4; rw [onL_every]; exact k.nP, k.fro, k.per, fun i hi => ?_, fun i hi => ?_⟩
  · have hi : i < p.fs.length := by have : i < (wthF p S).length := hi; rwa [wthF_len] at this
    show okSet p ((wthF p S).getD i 0)
    rw [wthF_at hi]
    split
    · exact k.f i hi
    · unfold okSet; omega
  · have hi : i < p.ps.length := by have : i < (onL p (2 ^ p.ps.length - 1) p.ps.length).length := hi; rwa [onL_every] at this
    show okP p ((onL p (2 ^ p.ps.length - 1) p.ps.length).getD i po0)
    rw [onL_every]
    exact k.s i hi
/-- The fires that a plan has are among some. -/
theorem used_bit {l : List (Int × Int)} : ∀ i, ∀ f : Nat, (usedN l i).testBit f = true ↔ ∃ j, j < i ∧ (l.getD j (0, 0)).1.toNat = f := by
  intro i
  induction i with
  | zero => intro f; simp [usedN]
  | succ i ih =>
    intro f
    simp only [usedN]
    rw [Nat.testBit_or, Bool.or_eq_true, ih, Nat.testBit_two_pow, decide_eq_true_eq]
    constructor
    · rintro (⟨j, h1, h2⟩ | h)
      · exact ⟨j, by omega, h2⟩
      · exact ⟨i, by omega, h⟩
    · rintro ⟨j, h1, h2⟩
      by_cases e : j = i
      · subst e; exact .inr h2
      · exact .inl ⟨j, by omega, h2⟩
theorem hot_gt {p : Pt} {i h : Nat} (hh : h < p.H) : (tkN p i h).testBit h = true := by
  have := endN_gt (p.F true) (p.pot i).ht (show h ≤ p.H by omega)
  rw [tk_bit (by omega)]
  simp only [Bool.and_eq_true, decide_eq_true_eq]
  unfold hotV
  omega
theorem wth_rule {p : Pt} (k : Ok p) {S i : Nat} {x : Int × Int} (hx : x ∈ places p) (b : List (Int × Int)) : brR (wthP p (2 ^ p.ps.length - 1) S) i x b = 0 ↔ S.testBit x.1.toNat = true ∧ brR p i x b = 0 := by
  rw [mem_places] at hx
  have epot : (wthP p (2 ^ p.ps.length - 1) S).pot i = p.pot i := by show (onL p _ _).getD i po0 = p.ps.getD i po0; rw [onL_every]
  have ehot : ∀ b i h, hotV (wthP p (2 ^ p.ps.length - 1) S) b i h = hotV p b i h := fun b i h => by
    have : (wthP p (2 ^ p.ps.length - 1) S).pot i = p.pot i := by show (onL p _ _).getD i po0 = p.ps.getD i po0; rw [onL_every]
    unfold hotV
    rw [this]; rfl
  have etk : ∀ i h, tkN (wthP p (2 ^ p.ps.length - 1) S) i h = tkN p i h := fun i h => by
    unfold tkN
    rw [ehot]; rfl
  have efi : fireN (wthP p (2 ^ p.ps.length - 1) S) x.1.toNat = if S.testBit x.1.toNat = true then fireN p x.1.toNat else 2 ^ p.H - 1 := by
    show ((wthF p S).getD x.1.toNat 0).toNat = _
    rw [wthF_at (by omega)]
    split
    · rfl
    · simp
  have eal : alR (wthP p (2 ^ p.ps.length - 1) S) i x = 0 ↔ S.testBit x.1.toNat = true ∧ alR p i x = 0 := by
    unfold alR
    rw [epot, ehot, etk, efi]
    by_cases hb : S.testBit x.1.toNat = true
    · simp only [hb, if_true, true_and]
    · have hm : meet (tkN p i x.2.toNat) (2 ^ p.H - 1) = true := meet_iff.2 ⟨x.2.toNat, hot_gt (by omega), full_bit _ _ (by omega)⟩
      rw [if_neg hb, if_pos hm]
      constructor
      · intro h
        exfalso
        revert h
        split
        · decide
        · split <;> decide
      · rintro ⟨h, _⟩; exact absurd h hb
  have esh : ∀ j y, shrB (wthP p (2 ^ p.ps.length - 1) S) j y i x = shrB p j y i x := fun j y => by unfold shrB; rw [etk, etk]
  unfold brR
  simp only [esh]
  by_cases ha : alR p i x = 0
  · by_cases hb : S.testBit x.1.toNat = true
    · rw [if_pos (eal.2 ⟨hb, ha⟩), if_pos ha]
      exact ⟨fun h => ⟨hb, h⟩, fun h => h.2⟩
    · have : ¬ alR (wthP p (2 ^ p.ps.length - 1) S) i x = 0 := fun h => hb (eal.1 h).1
      rw [if_neg this]
      exact ⟨fun h => absurd h this, fun h => absurd h.1 hb⟩
  · have : ¬ alR (wthP p (2 ^ p.ps.length - 1) S) i x = 0 := fun h => ha (eal.1 h).2
    rw [if_neg this, if_neg ha]
    exact ⟨fun h => absurd h this, fun h => absurd h.2 ha⟩
theorem wth_places (p : Pt) (Q S : Nat) : places (wthP p Q S) = places p := by
  show (List.range (wthF p S).length).flatMap _ = _
  rw [wthF_len]; rfl
theorem wth_right {p : Pt} (k : Ok p) {S : Nat} {l : List (Int × Int)} : RightP (wthP p (2 ^ p.ps.length - 1) S) l ↔ RightP p l ∧ ∀ f, (used l).testBit f = true → S.testBit f = true := by
  have eN : (wthP p (2 ^ p.ps.length - 1) S).ps.length = p.ps.length := by show (onL p _ _).length = _; rw [onL_every]
  constructor
  · intro h
    have hp : ∀ i, i < l.length → l.getD i (0, 0) ∈ places p := fun i hi => by rw [← wth_places p (2 ^ p.ps.length - 1) S]; exact h.pl i hi
    refine ⟨⟨by rw [h.len, eN], hp, fun i hi => ((wth_rule k (hp i hi) l).1 (h.br i hi)).2⟩, fun f hf => ?_⟩
    obtain ⟨j, hj, rfl⟩ := (used_bit _ f).1 hf
    exact ((wth_rule k (hp j hj) l).1 (h.br j hj)).1
  · rintro ⟨h, hu⟩
    refine ⟨by rw [h.len, eN], fun i hi => by rw [wth_places]; exact h.pl i hi, fun i hi => (wth_rule k (h.pl i hi) l).2 ⟨hu _ ((used_bit _ _).2 ⟨i, hi, rfl⟩), h.br i hi⟩⟩
/-- Fires alone are enough. -/
def enoB (p : Pt) (S : Nat) : Bool := decide (0 < (rpl (wthP p (2 ^ p.ps.length - 1) S)).length)
theorem enoB_iff {p : Pt} (k : Ok p) {S : Nat} : enoB p S = true ↔ ∃ l ∈ rpl p, ∀ f, (used l).testBit f = true → S.testBit f = true := by
  unfold enoB
  rw [decide_eq_true_eq, List.length_pos_iff_exists_mem]
  constructor
  · rintro ⟨l, hl⟩
    rw [mem_rpl, wth_right k] at hl
    exact ⟨l, mem_rpl.2 hl.1, hl.2⟩
  · rintro ⟨l, hl, hu⟩
    exact ⟨l, mem_rpl.2 ((wth_right k).2 ⟨mem_rpl.1 hl, hu⟩)⟩
theorem lessU_iff (a b : Nat) : lessU a b = true ↔ pop a < pop b ∨ pop a = pop b ∧ a < b := by simp [lessU]
theorem fewU_spec {L : List (List (Int × Int))} (h0 : 0 < L.length) : ∀ i, i ≤ L.length → (∃ l ∈ L, fewU L i = used l) ∧ ∀ j, j < i → ¬ lessU (used (L.getD j [])) (fewU L i) = true := by
  intro i
  induction i with
  | zero => intro _; exact ⟨⟨_, mem_getD L 0 [] h0, rfl⟩, fun j hj => absurd hj (by omega)⟩
  | succ i ih =>
    intro hi
    obtain ⟨⟨l, hl, e⟩, h2⟩ := ih (by omega)
    simp only [fewU]
    by_cases hc : lessU (used (L.getD i [])) (fewU L i) = true
    · rw [if_pos hc]
      refine ⟨⟨_, mem_getD L i [] (by omega), rfl⟩, fun j hj => ?_⟩
      by_cases ej : j = i
      · subst ej; rw [lessU_iff]; omega
      · have := h2 j (by omega)
        rw [lessU_iff] at this hc ⊢
        omega
    · rw [if_neg hc]
      refine ⟨⟨l, hl, e⟩, fun j hj => ?_⟩
      by_cases ej : j = i
      · subst ej; exact hc
      · exact h2 j (by omega)
theorem pop_sub : ∀ a, a < 8 → ∀ b, b < 8 → (∀ f, f < 3 → a.testBit f = true → b.testBit f = true) → pop a ≤ pop b ∧ (pop a = pop b → a = b) := by decide +kernel
theorem used_lt3 {p : Pt} (k : Ok p) {l : List (Int × Int)} (h : RightP p l) : used l < 2 ^ p.fs.length := by
  have hb : ∀ f, (used l).testBit f = true → f < p.fs.length := fun f hf => by
    obtain ⟨j, hj, rfl⟩ := (used_bit _ f).1 hf
    have := h.pl j hj
    rw [mem_places] at this
    omega
  refine Nat.lt_pow_two_of_testBit _ fun f hf => ?_
  by_cases q : (used l).testBit f = true
  · have := hb f q; omega
  · simpa using q
/-- The fewest fires of the document are the least set that is enough. -/
theorem few_least {p : Pt} (k : Ok p) (h0 : 0 < (rpl p).length) : LeastSet (enoB p) p.fs.length (fewU (rpl p) (rpl p).length) := by
  obtain ⟨⟨l, hl, e⟩, h2⟩ := fewU_spec h0 (rpl p).length (Nat.le_refl _)
  have nF := k.nF
  have h8 : 2 ^ p.fs.length ≤ 2 ^ 3 := Nat.pow_le_pow_right (by decide) nF
  refine ⟨by rw [e]; exact used_lt3 k (mem_rpl.1 hl), (enoB_iff k).2 ⟨l, hl, fun f hf => by rw [e]; exact hf⟩, fun S hS he => ?_⟩
  obtain ⟨l', hl', hu⟩ := (enoB_iff k).1 he
  obtain ⟨j, hj, rfl⟩ := getD_mem [] hl'
  have h3 := h2 j hj
  rw [lessU_iff] at h3
  have hlt := used_lt3 k (mem_rpl.1 hl')
  have h4 := pop_sub (used ((rpl p).getD j [])) (by omega) S (by omega) (fun f _ hf => hu f hf)
  by_cases q : pop (used ((rpl p).getD j [])) = pop S
  · have := h4.2 q
    rw [this] at h3
    omega
  · omega
theorem few_eq {p : Pt} (k : Ok p) (h : rgtE p true = 0) : fewV (enoB p) p.fs.length = some (fewN p) := by
  obtain ⟨_, _, h0⟩ := rgtE_zero h
  have hl := few_least k h0
  have eN : fewN p = fewU (rpl p) (rpl p).length := if_pos h
  cases hf : fewV (enoB p) p.fs.length with
  | none =>
    have := fewV_none (by have := k.nF; omega) hf _ hl.lt
    rw [hl.is] at this; cases this
  | some r => rw [(fewV_some hf).uniq hl, eN]
theorem few_none {p : Pt} (k : Ok p) (h0 : (rpl p).length = 0) : fewV (enoB p) p.fs.length = none := by
  cases hf : fewV (enoB p) p.fs.length with
  | none => rfl
  | some r =>
    obtain ⟨l, hl, _⟩ := (enoB_iff k).1 (fewV_some hf).is
    rw [List.length_eq_zero_iff.1 h0] at hl; cases hl
theorem wth_only {p : Pt} (S : Nat) : wthF p (2 ^ p.fs.length - 1) = p.fs := by
  apply List.ext_getElem
  · exact wthF_len p _
  · intro i h1 h2
    have := wthF_at (p := p) (S := 2 ^ p.fs.length - 1) h2
    rw [if_pos (full_bit _ _ h2)] at this
    simpa [List.getD_eq_getElem?_getD, h1, h2] using this
theorem wth_every (p : Pt) (S : Nat) : wthP p S (2 ^ p.fs.length - 1) = onlyP p S := by unfold wthP onlyP; rw [wth_only 0]
end Go.Proofs.Ytliomkpmadpibaa
end
section
set_option linter.unusedVariables false
set_option linter.unusedSimpArgs false
namespace Go.V
set_option linter.unusedSectionVars false
variable [Inhabited GivT]
def slcT (P : Program) (T : TypeId) : Bool := match P.underlying T with
  | some (.slice _) => true
  | _ => false
theorem slcT_spec {P : Program} {t : TypeId} (h : slcT P t = true) : ∃ e, P.underlying t = some (.slice e) := by
  unfold slcT at h
  split at h
  · exact ⟨_, by assumption⟩
  · cases h
theorem eqIn_sl {P : Program} (w : World) (d : Nat) (t : TypeId) (a : Option Addr) (n cap : Nat) {e : TypeId} (h : P.underlying t = some (.slice e)) : (Op.equalIn (d + 1) t (.slice a n cap) (.slice none 0 0)).run P w = .ok a.isNone w := by
  cases a <;> simp [Op.equalIn, run_underlying h]
section
variable {P : Program} {m : Option Tmp → Bool} {n id : Nat} {ops : Array Oper} {s : Fr} {ds : List AD} {H : Hp} {Q : Post}
theorem wps_region_nil (l1 l2 : List Oper) (o : Oper) (he : ops.toList = l1 ++ o :: l2) {T yt : TypeId} {x : Operand} {d : Nat} (ho : o.op = .binOp .eql T x (.const (.slice none 0 0)) yt) (hg : o.guard = none) (hd : o.dst = some d) (hdn : d < n) (hT : slcT P T = true)
    (h : VS none P m n [.ops ops.toList l1] s ds H fun e s' ds' H' => match e with
      | .normal => ∃ k st f, opA s' x = .rsl k st f ∧ ∀ b, (b = true → k = 0) → VS none P m n [.ops ops.toList l2] (put s' (some d) (.lit (.bool b))) ds' H' Q
      | e => Q e s' ds' H') : WPS none P n (.region id ops false) s ds H Q := by
  intro S a hn hH hF hD
  refine wpIn_region ?_
  have hget : ∀ i : Nat, ops[i]? = ops.toList[i]? := fun i => Array.getElem?_toList.symm
  have hsz : ops.size = l1.length + (1 + l2.length) := by
    have := congrArg List.length he
    simpa [Nat.add_comm] using this
  have hr : List.range ops.size = List.range l1.length ++ (l1.length :: (List.range l2.length).map (l1.length + 1 + ·)) := by
    rw [hsz, List.range_add, Nat.add_comm 1, List.range_succ_eq_map]
    simp only [List.map_cons, List.map_map, Nat.add_zero]
    congr 2
    apply List.map_congr_left
    intro i _
    simp [Function.comp]; omega
  rw [hr]
  refine wpOpsIn_append _ _ _ _ ?_
  have h1 := vcOps_sound (r := none) (P := P) (m := m) (n := n) (ops := ops) (.inl rfl) l1 (List.range l1.length) s ds H (fun o ho => by rw [he]; simp [ho]) (by
    apply List.ext_getElem
    · simp
    · intro i h1 h2
      simp at h1
      simp only [List.getElem_map, List.getElem_range, hget, he, List.getElem?_append_left h1, List.getElem?_eq_getElem h1]) h S a hn hH hF hD
  refine wpOpsIn_mono' (fun e a1 w1 q => ?_) _ _ _ h1
  obtain ⟨S1, x1, s1, ds1, H1, rfl, hle, hH1, hF1, hD1, hsz1, hx, hq⟩ := q
  cases e with
  | normal =>
    cases x1 <;> simp [XRel] at hx
    obtain ⟨k, st, f, hxv, h2⟩ := hq
    simp only [wpOpsIn, hget, he, List.getElem?_append_right (Nat.le_refl _), Nat.sub_self, List.getElem?_cons_zero, Region.wanted, hg, if_true]
    have rx : VRel S1 (.rsl k st f) (a1.eval x) := by
      have := opA_rel (x := x) hF1
      rw [hxv] at this; exact this
    obtain ⟨e, hu⟩ := slcT_spec hT
    obtain ⟨ad, ln, cap, ev, hk⟩ : ∃ ad ln cap, a1.eval x = .slice ad ln cap ∧ (ad.isNone = true → k = 0) := by
      generalize a1.eval x = cv at rx
      cases rx with
      | rsl0 => exact ⟨_, _, _, rfl, fun _ => rfl⟩
      | rsl => exact ⟨_, _, _, rfl, fun h => by cases h⟩
    have ey : a1.eval (.const (.slice none 0 0)) = .slice none 0 0 := rfl
    have hrun : (execOp a1.eval o).run P S1.w = .ok (.value (.bool ad.isNone)) S1.w := by
      have hgd : ∀ (op : BinOp) (w : World), (eqGuard op T x (.const (.slice none 0 0)) (.slice ad ln cap) (.slice none 0 0)).run P w = .ok () w := by
        intro op w; unfold eqGuard; cases op <;> simp
      simp only [execOp, ho, ev, ey, Sem.run_bind, hgd, Result.andThen_ok]
      simp [binOp, Op.equal, Op.maxDepth, eqIn_sl _ 9999 T _ _ _ hu]
    have hs : StepOk none P o S1 a1 (fun v ds' H' => v = .lit (.bool ad.isNone) ∧ ds' = ds1 ∧ H' = H1) (fun _ _ => False) :=
      stepOk_value (fun c e => by rw [ho] at e; cases e) hrun (Le.refl S1) hH1 (.lit _) hD1 ⟨rfl, rfl, rfl⟩
    refine hs _ _ ?_ (fun _ _ _ _ _ _ _ hf => hf.elim)
    rintro S' cv v ds' df H' hle' hH' hv hD' ⟨rfl, rfl, rfl⟩
    have h3 := vcOps_sound (r := none) (P := P) (m := m) (n := n) (ops := ops) (Q := Q) (.inl rfl) l2 ((List.range l2.length).map (l1.length + 1 + ·)) _ _ _ (fun o ho => by rw [he]; simp [ho]) (by
      apply List.ext_getElem
      · simp
      · intro i h1 h2
        simp at h1
        simp only [List.getElem_map, List.getElem_range, hget, he]
        rw [List.getElem?_append_right (by omega), show l1.length + 1 + i - l1.length = i + 1 by omega, List.getElem?_cons_succ, List.getElem?_eq_getElem h1]) (h2 ad.isNone hk) S' ({ a1 with defers := df }.put o.dst cv) (by rw [put_size]; exact hsz1) hH' (by
        have := (hF1.mono hle').put (d := some d) (n := n) (by exact hdn) hsz1 hv df
        rw [hd]; exact this) (by rw [put_defers]; exact hD')
    exact wpOpsIn_mono' (fun e a w q => Lift.trans (hle.trans hle') q) _ _ _ h3
  | _ => cases x1 <;> simp [XRel] at hx <;> exact ⟨S1, _, s1, ds1, H1, rfl, hle, hH1, hF1, hD1, hsz1, by simp [XRel, hx], hq⟩
theorem wps_region_nilI (i : Nat) {o : Oper} (he : ops.toList[i]? = some o) {T yt : TypeId} {x : Operand} {d : Nat} (ho : o.op = .binOp .eql T x (.const (.slice none 0 0)) yt) (hg : o.guard = none) (hd : o.dst = some d) (hdn : d < n) (hT : slcT P T = true)
    (h : VS none P m n [.ops ops.toList (ops.toList.take i)] s ds H fun e s' ds' H' => match e with
      | .normal => ∃ k st f, opA s' x = .rsl k st f ∧ ∀ b, (b = true → k = 0) → VS none P m n [.ops ops.toList (ops.toList.drop (i + 1))] (put s' (some d) (.lit (.bool b))) ds' H' Q
      | e => Q e s' ds' H') : WPS none P n (.region id ops false) s ds H Q := by
  refine wps_region_nil _ _ o ?_ ho hg hd hdn hT h
  obtain ⟨hi, rfl⟩ := List.getElem?_eq_some_iff.1 he
  rw [← List.drop_eq_getElem_cons hi, List.take_append_drop]
end
end Go.V
end
section
set_option linter.unusedVariables false
set_option linter.unusedSimpArgs false
set_option maxHeartbeats 4000000
set_option maxRecDepth 100000
namespace Go.Proofs.Ytliomkpmadpibaa
open Go.V
theorem upd_at (n i : Nat) (f : Nat → List AV) (c : List AV) (q : Nat) (hi : i < n) (hq : q < n) : updF n i f c q = if q = i then c else f q := by
  unfold updF
  split
  · rw [if_pos (by omega)]
  · rfl
theorem app0 (n : Nat) (f g : Nat → List AV) (q : Nat) (hq : q < n) : appF 0 n f g q = g q := by
  unfold appF
  split
  · have : q = 0 := by omega
    subst this; rfl
  · simp
def cloneR (l : List Int) (H : Hp) : Res → Hp → Prop := fun r H' => ∃ id, H id = none ∧ r = .ret (.sl id 1 l.length) ∧ H' = H.set id (.row 1 l.length (intF l))
theorem clone_tri (l : List Int) (H : Hp) (hl : l.length < 2 ^ 40) : Tri Try.prog (fnA 105) [intsAV l] H (cloneR l H) := by
  refine Tri.drop ?_
  refine tri_wm Try.func105 (by kernel_rfl) rfl (by simp only [List.length_append, List.length_cons, List.length_nil, Try.ntmps105]; decide) ?_
  refine wps_cutG (m := fun _ => false) (σ := Unit) (fun _ => True) (fun _ => [(0, intsAV l)]) (fun _ => H) (fun _ => []) ?_ fun _ _ => ?_
  · simp only [vsAll, opA, dstOk, nilSliceOp, Nat.reduceLT, eq_self, Try.ntmps105]
    exact cutG_of () trivial (by simp only [vsAll, argFr, ↓reduceIte, reduceCtorEq]) rfl HSub_rfl
  · refine wps_seq ?_
    refine wps_seq ?_
    refine wps_region_nilI (m := fun _ => false) 1 rfl rfl rfl rfl (by decide) (by kernel_rfl) ?_
    simp only [vsAll, opA, dstOk, Nat.reduceAdd, Nat.reduceLT, ↓reduceIte, eq_self, Try.ntmps105]
    refine ⟨_, _, _, rfl, fun b hb => ?_⟩
    simp only [thn_normal]
    cases b with
    | true =>
      have h0 := hb rfl
      refine wps_vs (m := mset [2]) ?_
      simp only [vsAll, opA, dstOk, Nat.reduceLT, Nat.reduceBEq, ↓reduceIte, eq_self]
      simp only [Go.V.nilA, elT22]
      intro i2 hh_i2; (try simp only [Hp.set_none, ite_none] at hh_i2)
      simp only [vsAll, resA, retA.eq_1, ↓reduceIte, eq_self, Try.results105, Post.thn]
      refine ⟨H.set i2 (.row 1 0 (intF l)), HSub.set HSub_rfl (row_ext fun q hq => absurd hq (Nat.not_lt_zero q)), i2, hh_i2, ?_, ?_⟩
      · rw [h0]
      · rw [h0]
    | false =>
      refine wps_vs (m := fun _ => false) ?_
      simp only [vsAll, opA, ↓reduceIte, eq_self, thn_normal]
      refine wps_vs (m := mset [5]) ?_
      simp only [vsAll, okParts, buildMutA, partIdx, elemsA, lensA, partsA, partsOk, opA, appendA, dstOk, nilSliceOp, resA, retA.eq_1, Nat.reduceMul, Nat.reduceLT, Nat.reduceLeDiff, Nat.reduceEqDiff, Nat.reduceBEq, ↓reduceIte, reduceCtorEq, eq_self, wtAll, Try.results105]
      intro i5 hh_i5; (try simp only [Hp.set_none, ite_none] at hh_i5)
      refine ⟨fun i hi => ⟨rfl, trivial⟩, by ((try clear hh_i5); omega), by ((try clear hh_i5); omega), _, ?_, i5, hh_i5, rfl, rfl⟩
      rw [Hp.set_set]
      exact HSub.set HSub_rfl (row_ext fun q hq => app0 _ _ _ q hq)
theorem every_tri (p : Pt) (H : Hp) (nF : p.fs.length ≤ 3) (nP : p.ps.length ≤ 4) : PTri Try.prog (fnA 83) [pP p] H (.tuple [u64 ((2 ^ p.ps.length - 1 : Nat) : Int), u64 ((2 ^ p.fs.length - 1 : Nat) : Int)]) := by
  have h1 : 2 ^ p.ps.length ≤ 2 ^ 4 := Nat.pow_le_pow_right (by decide) nP
  have h2 : 2 ^ p.fs.length ≤ 2 ^ 3 := Nat.pow_le_pow_right (by decide) nF
  have h3 : 0 < 2 ^ p.ps.length := Nat.two_pow_pos _
  have h4 : 0 < 2 ^ p.fs.length := Nat.two_pow_pos _
  have e1 : (1 : Int) * 2 ^ p.ps.length = ((2 ^ p.ps.length : Nat) : Int) := by rw [Int.one_mul]; simp
  have e2 : (1 : Int) * 2 ^ p.fs.length = ((2 ^ p.fs.length : Nat) : Int) := by rw [Int.one_mul]; simp
  refine tri_v0 (fun _ => false) Try.func83 (by kernel_rfl) rfl (by simp only [List.length_append, List.length_cons, List.length_nil, Try.ntmps83]; decide) ?_
  simp only [vsAll, opA, dstOk, nilSliceOp, Nat.reduceLT, eq_self, Try.ntmps83]
  refine vs_draw2 [0, 0, 0, 0, 0, 0, 0, 0, 0, 0, 0, 0, 0, 0, 0, 0, 0, 0] [] [0, 1, 2, 3, 4, 5, 6, 7, 8, 9, 10, 11, 12, 13, 14, 15, 16, 17] (by decide +kernel) ?_
  simp only [vsAll, binA, binLitA, intA, loadA, loadRow, partA, partOk, fieldAddrA, lenA, nilCheckA, opA, dstOk, resA, argFr, retA.eq_2, Nat.reduceLT, Nat.reduceEqDiff, ↓reduceIte, reduceCtorEq, eq_self, wtAll, Try.results83, e1, e2]
  rw [show ((2 ^ p.ps.length - 1 : Nat) : Int) = ((2 ^ p.ps.length : Nat) : Int) - 1 by omega, show ((2 ^ p.fs.length - 1 : Nat) : Int) = ((2 ^ p.fs.length : Nat) : Int) - 1 by omega]
  simp only [InR_u64]
  refine ⟨⟨by omega, by omega, by omega⟩, by omega, ⟨by omega, by omega, by omega⟩, by omega, trivial⟩
theorem dec_cast (a b : Nat) (x : Bool) : (decide ((a : Int) = (b : Int)) && x) = (decide (a = b) && x) := by
  rw [show decide ((a : Int) = (b : Int)) = decide (a = b) from decide_eq_decide.2 (by omega)]
theorem fewest_tri (f : Nat → Bool) (m : Nat) (fv : AV) (H : Hp) (hm : m ≤ 8) (hok : fv.ok) (hst : fv.st = fv) (hf : ∀ j : Nat, j < 2 ^ m → PTri Try.prog fv [u64 j] H (boo (f j))) :
    PTri Try.prog (fnA 84) [i64 m, fv] H (.tuple [u64 ((fewV f m).getD 0 : Nat), boo (fewV f m).isSome]) := by
  have hp : 2 ^ m ≤ 2 ^ 8 := Nat.pow_le_pow_right (by decide) hm
  have hp0 : 0 < 2 ^ m := Nat.pow_pos (by decide)
  have ep : (1 : Int) * 2 ^ m = ((2 ^ m : Nat) : Int) := by rw [Int.one_mul]; simp
  refine tri_v0 (fun _ => false) Try.func84 (by kernel_rfl) rfl (by simp only [List.length_append, List.length_cons, List.length_nil, Try.ntmps84]; decide) ?_
  skip
  simp only [vsAll, binA, binLitA, intA, opA, dstOk, nilSliceOp, argFr, Nat.reduceLT, ↓reduceIte, reduceCtorEq, eq_self, Try.ntmps84]
  refine ⟨by simp only [InR_i64]; ((try clear hok); (try clear hst); omega), ?_⟩
  refine vs_loop (σ := Nat) (fun i => i ≤ m + 1 ∧ fewV f m = outF f m (m + 1 - i) i) (fun i => [(0, i64 m), (1, fv), (9, i64 ((m : Int) + 1)), (10, i64 i)]) (fun _ => H) (fun i => m + 1 - i) 0 ⟨by ((try clear hok); (try clear hst); omega), rfl⟩ ?_ (HSub.refl _) fun i hi => ?_
  · simp only [vsAll, argFr, Nat.reduceEqDiff, ↓reduceIte, reduceCtorEq, eq_self, Int.natCast_zero]
  · obtain ⟨hi, hv⟩ := hi
    simp only [vsAll, binA, binLitA, intA, opA, dstOk, Nat.reduceLT, Nat.reduceEqDiff, ↓reduceIte, reduceCtorEq, eq_self]
    refine condD (fun hd => ?_) (fun hd => ?_)
    · rw [show m + 1 - i = (m - i) + 1 by ((try clear hok); (try clear hst); omega)] at hv
      simp only [vsAll, binA, binLitA, intA, opA, dstOk, nilSliceOp, Nat.reduceLT, Nat.reduceEqDiff, ↓reduceIte, reduceCtorEq, eq_self, ep]
      refine ⟨⟨by ((try clear hok); (try clear hst); omega), by ((try clear hok); (try clear hst); omega), by simp only [InR_u64]; ((try clear hok); (try clear hst); omega)⟩, ?_⟩
      refine vs_loop (σ := Nat) (fun j => j ≤ 2 ^ m ∧ inn f i (2 ^ m) 0 = inn f i (2 ^ m - j) j) (fun j => [(0, i64 m), (1, fv), (6, i64 i), (9, i64 ((m : Int) + 1)), (10, i64 i), (14, u64 ((2 ^ m : Nat) : Int)), (15, u64 j)]) (fun _ => H) (fun j => 2 ^ m - j) 0 ⟨by ((try clear hok); (try clear hst); omega), rfl⟩ ?_ (HSub.refl _) fun j hj => ?_
      · simp only [vsAll, Nat.reduceEqDiff, ↓reduceIte, reduceCtorEq, eq_self, Int.natCast_zero]
      · obtain ⟨hj, hw⟩ := hj
        simp only [vsAll, binA, binLitA, intA, opA, dstOk, Nat.reduceLT, Nat.reduceEqDiff, ↓reduceIte, reduceCtorEq, eq_self]
        refine condD (fun hd2 => ?_) (fun hd2 => ?_)
        · rw [show 2 ^ m - j = (2 ^ m - (j + 1)) + 1 by ((try clear hok); (try clear hst); omega), inn] at hw
          simp only [vsAll, okAll, stAll, opsA, opA, dstOk, nilSliceOp, Nat.reduceLT, Nat.reduceEqDiff, ↓reduceIte, reduceCtorEq, eq_self]
          refine callK_pure (onesCount_tri j _ (by ((try clear hok); (try clear hst); omega))) ?_
          simp only [vsAll, binA, binLitA, intA, opA, guardV, dstOk, Nat.reduceLT, Nat.reduceEqDiff, ↓reduceIte, reduceCtorEq, implies_true, eq_self, hok, hst]
          refine gcall _ (fun g => ⟨by simp only [vsAll, opA, Nat.reduceEqDiff, ↓reduceIte, eq_self, g], by simp only [vsAll, okAll, opsA, opA, ↓reduceIte, eq_self, g], hf j (by ((try clear hok); (try clear hst); omega))⟩) ?_
          simp only [vsAll, pickA, opA, dstOk, Nat.reduceLT, Nat.reduceEqDiff, ↓reduceIte, implies_true, eq_self]
          rw [dec_cast]
          refine condV (fun hb => ?_) (fun hb => ?_)
          · rw [hb, if_pos rfl] at hw
            have hr : fewV f m = some j := by rw [hv, outF, hw]
            simp only [vsAll, opA, dstOk, nilSliceOp, resA, retA.eq_2, Nat.reduceLT, Nat.reduceEqDiff, ↓reduceIte, eq_self, Try.results84, hr, Option.getD_some]
          · rw [hb, if_neg (by decide)] at hw
            simp only [vsAll, binA, binLitA, intA, opA, dstOk, Nat.reduceLT, Nat.reduceEqDiff, ↓reduceIte, reduceCtorEq, eq_self]
            refine ⟨by simp only [InR_u64]; ((try clear hok); (try clear hst); omega), loop_next (j + 1) ⟨by ((try clear hok); (try clear hst); omega), hw⟩ (by ((try clear hok); (try clear hst); omega)) ?_ (HSub.refl _)⟩
            simp only [vsAll, Nat.reduceEqDiff, ↓reduceIte, reduceCtorEq, eq_self, Int.natCast_add, Int.natCast_one]
        · have ej : j = 2 ^ m := by ((try clear hok); (try clear hst); omega)
          subst ej
          rw [Nat.sub_self, inn] at hw
          rw [outF, hw, show m - i = m + 1 - (i + 1) by ((try clear hok); (try clear hst); omega)] at hv
          simp only [] at hv
          simp only [vsAll, binA, binLitA, intA, opA, dstOk, Nat.reduceLT, Nat.reduceEqDiff, ↓reduceIte, reduceCtorEq, eq_self]
          refine ⟨by simp only [InR_i64]; ((try clear hok); (try clear hst); omega), loop_next (i + 1) ⟨by ((try clear hok); (try clear hst); omega), hv⟩ (by ((try clear hok); (try clear hst); omega)) ?_ (HSub.refl _)⟩
          simp only [vsAll, Nat.reduceEqDiff, ↓reduceIte, reduceCtorEq, eq_self, Int.natCast_add, Int.natCast_one]
    · have ei : i = m + 1 := by ((try clear hok); (try clear hst); omega)
      subst ei
      rw [Nat.sub_self, outF] at hv
      simp only [vsAll, opA, dstOk, nilSliceOp, resA, retA.eq_2, Nat.reduceLT, Nat.reduceEqDiff, ↓reduceIte, eq_self, Try.results84, hv, Option.getD_none, Int.natCast_zero]
theorem bit1 (Q i : Nat) : (Q >>> i &&& 1) = if Q.testBit i = true then 1 else 0 := by
  rw [Nat.and_one_is_mod, Nat.testBit_eq_decide_div_mod_eq, Nat.shiftRight_eq_div_pow]
  by_cases h : Q / 2 ^ i % 2 = 1
  · rw [h]; simp
  · rw [if_neg (by simpa using h)]; omega
theorem ret_freezeB {P : Program} {fn : Func} {R : Res → Hp → Prop} {s : Fr} {H : Hp} {t id st n i j : Nat} {f : Nat → List AV} (hr : fn.results.toList = [.tmp t]) (hs : s t = .ref id 0 st i j)
    (ho : H id = some (.box st n f)) (h : R (.ret (.rptr n st f i j)) (H.del id)) : FnPost P fn R .ret s [] H := by
  refine Ent.freezeB (s' := put s (some t) (.rptr n st f i j)) ho (fun u => ?_) ?_
  · simp only [put]
    split
    · rename_i e; subst e; exact .inr ⟨i, j, hs, rfl⟩
    · exact .inl rfl
  · rw [hr]
    refine ⟨rfl, ?_⟩
    simp only [resA, put, if_pos]
    exact ⟨trivial, h⟩
/-- The fires so far. -/
def wthG (p : Pt) (S i : Nat) : List Int := (List.range p.fs.length).map fun j => if j < i then (if S.testBit j = true then p.fs.getD j 0 else ((2 ^ p.H - 1 : Nat) : Int)) else p.fs.getD j 0
theorem wthG_at {p : Pt} {S i j : Nat} (hj : j < p.fs.length) : (wthG p S i).getD j 0 = if j < i then (if S.testBit j = true then p.fs.getD j 0 else ((2 ^ p.H - 1 : Nat) : Int)) else p.fs.getD j 0 := by
  simp [wthG, List.getD_eq_getElem?_getD, hj]
theorem with_tri (p : Pt) (Q S : Nat) (H : Hp) (k : Ok p) (hQ : Q < 2 ^ 60) (hS : S < 2 ^ 60) : PTri Try.prog (fnA 86) [pP p, u64 Q, u64 S] H (pP (wthP p Q S)) := by
  have nP := k.nP
  have nF := k.nF
  refine tri_vs (m := fun _ => false) Try.func86 (by kernel_rfl) rfl (by simp only [List.length_append, List.length_cons, List.length_nil, Try.ntmps86]; decide) ?_
  simp only [vsAll, loadA, loadRow, partA, partOk, fieldAddrA, nilCheckA, cellA, okAll, stAll, opsA, opA, allocA, newCells, okCells, storeObj, dstOk, nilSliceOp, argFr, Nat.reduceAdd, Nat.reduceLT, Nat.reduceEqDiff, ↓reduceIte, reduceCtorEq, eq_self, wtAll, Try.ntmps86]
  intro i7 hh_i7; (try simp only [Hp.set_none, ite_none] at hh_i7)
  refine callK (clone_tri p.fs _ (by ((try clear hh_i7); omega))) ?_
  rintro r H' ⟨ic, hic, rfl, rfl⟩
  simp only [Hp.set_none] at hic
  skip
  simp only [vsAll, loadA, loadRow, partA, partOk, fieldAddrA, lenA, nilCheckA, cellA, cellsA, opA, newCells, okCells, storeObj, dstOk, argFr, Nat.reduceAdd, Nat.reduceLT, Nat.reduceLeDiff, Nat.reduceEqDiff, ↓reduceIte, reduceCtorEq, eq_self, wtAll, hic]
  refine vs_entL (Ent.nilBox 3 (psF []) (fun id _ => [i64 p.hr, i64 p.fro, i64 p.per, .sl ic 1 p.fs.length, .sl id 3 0, u64 (p.F false : Nat), u64 (p.F true : Nat)]) (j := i7) (st' := 7) (n' := 1) (g := fun _ => [i64 p.hr, i64 p.fro, i64 p.per, .sl ic 1 p.fs.length, .lit (.slice none 0 0), u64 (p.F false : Nat), u64 (p.F true : Nat)]) (by simp only [vsAll, ↓reduceIte, eq_self]; try rfl) (fun _ _ _ => rfl) (fun id q d hq hd => ?_) fun is his => ?_)
  · match d, hd with
    | 0, _ => exact .rfl
    | 1, _ => exact .rfl
    | 2, _ => exact .rfl
    | 3, _ => exact .rfl
    | 4, _ => exact .hit
    | 5, _ => exact .rfl
    | 6, _ => exact .rfl
  simp only [Hp.set_none] at his
  skip
  refine vs_loop (σ := Nat) (fun i => i ≤ p.ps.length) (fun i => [(0, pP p), (1, u64 Q), (2, u64 S), (7, .ref i7 0 7 0 0), (28, psAV p.ps), (29, i64 p.ps.length), (30, i64 i)])
    (fun i => ((H.set ic (.row 1 p.fs.length (intF p.fs))).set is (.row 3 (onL p Q i).length (psF (onL p Q i)))).set i7 (.box 7 1 fun _ => [i64 p.hr, i64 p.fro, i64 p.per, .sl ic 1 p.fs.length, .sl is 3 (onL p Q i).length, u64 (p.F false : Nat), u64 (p.F true : Nat)])) (fun i => p.ps.length - i) 0 (Nat.zero_le _) ?_ ?_ fun i hi => ?_
  · simp only [vsAll, argFr, Nat.reduceEqDiff, ↓reduceIte, reduceCtorEq, eq_self, Int.natCast_zero]
  · refine HSub.set (HSub.set (HSub_drop2 (by simp only [vsAll, ↓reduceIte, eq_self, hh_i7, hic]) (HSub_drop2 (by simp only [vsAll, ↓reduceIte, eq_self, hh_i7, hic]) (HSub.set (HSub_drop2 (by simp only [eq_self, hh_i7]) (HSub_drop2 (by simp only [eq_self, hh_i7]) HSub_rfl)) (.refl _)))) (.refl _)) (.refl _)
  · have hl := onL_len p Q i
    have e : onL p Q (i + 1) = if Q.testBit i = true then onL p Q i ++ [p.ps.getD i po0] else onL p Q i := rfl
    simp only [vsAll, binA, binLitA, intA, opA, dstOk, Nat.reduceLT, Nat.reduceEqDiff, ↓reduceIte, reduceCtorEq, eq_self]
    refine condD (fun hd => ?_) (fun hd => ?_)
    · have hil : i < p.ps.length := by ((try clear hh_i7); (try clear hic); (try clear his); omega)
      simp only [vsAll, binA, binLitA, intA, loadA, loadRow, partA, partOk, indexAddrA, cellA, opA, allocA, newCells, okCells, storeObj, dstOk, nilSliceOp, Nat.reduceAdd, Nat.reduceLT, Nat.reduceEqDiff, Int.reduceLE, Int.reduceToNat, ↓reduceIte, reduceCtorEq, eq_self, wtAll, psF_at, shr_int, bits64, InR_u64]
      refine ⟨⟨by ((try clear hh_i7); (try clear hic); (try clear his); omega), by ((try clear hh_i7); (try clear hic); (try clear his); omega)⟩, hil, ?_⟩
      intro i9 hh_i9; (try simp only [ite_none] at hh_i9)
      have hsr := shr_le Q i
      have h0 : (0 : Int) ≤ ((Q >>> i : Nat) : Int) := Int.natCast_nonneg _
      have hb := bit1 Q i
      refine ⟨⟨by ((try clear hh_i7); (try clear hic); (try clear his); (try clear hh_i9); omega), by ((try clear hh_i7); (try clear hic); (try clear his); (try clear hh_i9); omega)⟩, ⟨by ((try clear hh_i7); (try clear hic); (try clear his); (try clear hh_i9); omega), by ((try clear hh_i7); (try clear hic); (try clear his); (try clear hh_i9); omega), by ((try clear hh_i7); (try clear hic); (try clear his); (try clear hh_i9); omega)⟩, condV (fun hc => ?_) (fun hc => ?_)⟩
      · have hc : Q.testBit i = true := by
          rw [decide_eq_true_eq] at hc
          by_cases h : Q.testBit i = true
          · exact h
          · rw [if_neg h] at hb; ((try clear hh_i7); (try clear hic); (try clear his); (try clear hh_i9); omega)
        rw [if_pos hc] at e
        simp only [vsAll, binA, binLitA, intA, loadA, loadRow, partA, partOk, fieldAddrA, cellA, cellsA, okParts, buildSliceA, partIdx, elemsA, lensA, partsA, partsOk, opA, newCells, okCells, storeObj, appendA, dstOk, Nat.reduceAdd, Nat.reduceMul, Nat.reduceLT, Nat.reduceLeDiff, Nat.reduceEqDiff, ↓reduceIte, reduceCtorEq, eq_self, wtAll, his, hh_i9]
        refine ⟨fun q hq => by (have : q = 0 := by ((try clear hh_i7); (try clear hic); (try clear his); (try clear hh_i9); omega)); subst this; exact ⟨rfl, rfl, rfl, trivial⟩, by ((try clear hh_i7); (try clear hic); (try clear his); (try clear hh_i9); omega), by ((try clear hh_i7); (try clear hic); (try clear his); (try clear hh_i9); omega), by simp only [InR_i64]; ((try clear hh_i7); (try clear hic); (try clear his); (try clear hh_i9); omega), loop_next (i + 1) (by ((try clear hh_i7); (try clear hic); (try clear his); (try clear hh_i9); omega)) (by ((try clear hh_i7); (try clear hic); (try clear his); (try clear hh_i9); omega)) ?_ ?_⟩
        · simp only [vsAll, Nat.reduceEqDiff, ↓reduceIte, reduceCtorEq, eq_self, Int.natCast_add, Int.natCast_one]
        · rw [app_ps _ (p.ps.getD i po0) _ rfl, e]
          simp only [List.length_append, List.length_cons, List.length_nil, Nat.zero_add]
          (repeat (first | exact HSub_rfl | refine HSub_put_eq (by simp only [vsAll, ↓reduceIte, eq_self, hic, his, hh_i9]) ?_ | refine HSub_drop2 (by simp only [eq_self, hh_i7, hic, his, hh_i9]) ?_ | refine HSub_keep_eq (by simp only [vsAll, binA, binLitA, intA, aggA, aggV, boolA, nilA2, isConst, unA, loadA, loadRow, partA, partOk, fieldAddrA, indexAddrA, indexA, fieldA, extractA, lenA, nilCheckA, boxA, boxZ, cellA, cellsA, fillA, okParts, buildSliceA, buildMutA, makeSliceA, partIdx, elemsA, lensA, ifaceA, convA, mmA, pickA, okAll, stAll, opsA, partsA, partsOk, opA, allocA, boxMutA, newCells, okCells, storeObj, appendA, guardV, taA, nM, mapUpA, lookA, sliceA, sliceS, boundsA, opO, okO, copyA, dstOk, nilA, quietOk, nilSliceOp, deferV, panA, resA, argFr, retA.eq_1, retA.eq_2, Nat.reduceAdd, Nat.reduceSub, Nat.reduceMul, Nat.reduceLT, Nat.reduceLeDiff, Nat.reduceEqDiff, Nat.reduceBEq, Int.reduceAdd, Int.reduceSub, Int.reduceMul, Int.reduceNeg, Int.reduceLE, Int.reduceLT, Int.reduceEq, Int.reduceNe, Int.reduceToNat, ↓reduceIte, reduceCtorEq, implies_true, forall_const, eq_self, ne_eq, arrL, wtAll, Try.ntmps86, Try.results86, hh_i7, hic, his, hh_i9]) ?_))
      · have hc : ¬ Q.testBit i = true := fun h => by
          rw [decide_eq_false_iff_not] at hc
          rw [if_pos h] at hb; ((try clear hh_i7); (try clear hic); (try clear his); (try clear hh_i9); omega)
        rw [if_neg hc] at e
        simp only [vsAll, binA, binLitA, intA, opA, dstOk, Nat.reduceLT, Nat.reduceEqDiff, ↓reduceIte, reduceCtorEq, eq_self]
        refine ⟨by simp only [InR_i64]; ((try clear hh_i7); (try clear hic); (try clear his); (try clear hh_i9); omega), loop_next (i + 1) (by ((try clear hh_i7); (try clear hic); (try clear his); (try clear hh_i9); omega)) (by ((try clear hh_i7); (try clear hic); (try clear his); (try clear hh_i9); omega)) ?_ ?_⟩
        · simp only [vsAll, Nat.reduceEqDiff, ↓reduceIte, reduceCtorEq, eq_self, Int.natCast_add, Int.natCast_one]
        · rw [e]
          (repeat (first | exact HSub_rfl | refine HSub_put_eq (by simp only [vsAll, ↓reduceIte, eq_self, hic, his, hh_i9]) ?_ | refine HSub_drop2 (by simp only [eq_self, hh_i7, hic, his, hh_i9]) ?_ | refine HSub_keep_eq (by simp only [vsAll, binA, binLitA, intA, aggA, aggV, boolA, nilA2, isConst, unA, loadA, loadRow, partA, partOk, fieldAddrA, indexAddrA, indexA, fieldA, extractA, lenA, nilCheckA, boxA, boxZ, cellA, cellsA, fillA, okParts, buildSliceA, buildMutA, makeSliceA, partIdx, elemsA, lensA, ifaceA, convA, mmA, pickA, okAll, stAll, opsA, partsA, partsOk, opA, allocA, boxMutA, newCells, okCells, storeObj, appendA, guardV, taA, nM, mapUpA, lookA, sliceA, sliceS, boundsA, opO, okO, copyA, dstOk, nilA, quietOk, nilSliceOp, deferV, panA, resA, argFr, retA.eq_1, retA.eq_2, Nat.reduceAdd, Nat.reduceSub, Nat.reduceMul, Nat.reduceLT, Nat.reduceLeDiff, Nat.reduceEqDiff, Nat.reduceBEq, Int.reduceAdd, Int.reduceSub, Int.reduceMul, Int.reduceNeg, Int.reduceLE, Int.reduceLT, Int.reduceEq, Int.reduceNe, Int.reduceToNat, ↓reduceIte, reduceCtorEq, implies_true, forall_const, eq_self, ne_eq, arrL, wtAll, Try.ntmps86, Try.results86, hh_i7, hic, his, hh_i9]) ?_))
    · have ei : i = p.ps.length := by ((try clear hh_i7); (try clear hic); (try clear his); omega)
      subst ei
      simp only [vsAll, loadA, loadRow, partA, partOk, fieldAddrA, lenA, opA, dstOk, Nat.reduceLT, Nat.reduceEqDiff, ↓reduceIte, reduceCtorEq, eq_self, wtAll]
      generalize hL : onL p Q p.ps.length = L
      refine vs_loop (σ := Nat) (fun i => i ≤ p.fs.length) (fun i => [(0, pP p), (2, u64 S), (7, .ref i7 0 7 0 0), (52, i64 p.fs.length), (53, i64 i)])
        (fun i => ((H.set ic (.row 1 p.fs.length (intF (wthG p S i)))).set is (.row 3 L.length (psF L))).set i7 (.box 7 1 fun _ => [i64 p.hr, i64 p.fro, i64 p.per, .sl ic 1 p.fs.length, .sl is 3 L.length, u64 (p.F false : Nat), u64 (p.F true : Nat)])) (fun i => p.fs.length - i) 0 (Nat.zero_le _) ?_ ?_ fun i hi => ?_
      · simp only [vsAll, Nat.reduceEqDiff, ↓reduceIte, reduceCtorEq, eq_self, Int.natCast_zero]
      · refine HSub.set (HSub.set (HSub.set HSub_rfl (row_ext fun q hq => ?_)) (.refl _)) (.refl _)
        rw [intF_at, intF_at, wthG_at hq, if_neg (Nat.not_lt_zero q)]
      · simp only [vsAll, binA, binLitA, intA, opA, dstOk, Nat.reduceLT, Nat.reduceEqDiff, ↓reduceIte, reduceCtorEq, eq_self]
        refine condD (fun hd => ?_) (fun hd => ?_)
        · have hil : i < p.fs.length := by ((try clear hh_i7); (try clear hic); (try clear his); omega)
          simp only [vsAll, binA, binLitA, intA, opA, dstOk, nilSliceOp, Nat.reduceLT, Nat.reduceEqDiff, Int.reduceLE, Int.reduceToNat, ↓reduceIte, reduceCtorEq, eq_self, shr_int, bits64, InR_u64]
          have hsr := shr_le S i
          have h0 : (0 : Int) ≤ ((S >>> i : Nat) : Int) := Int.natCast_nonneg _
          have hb := bit1 S i
          refine ⟨⟨by ((try clear hh_i7); (try clear hic); (try clear his); omega), by ((try clear hh_i7); (try clear hic); (try clear his); omega)⟩, ⟨by ((try clear hh_i7); (try clear hic); (try clear his); omega), by ((try clear hh_i7); (try clear hic); (try clear his); omega), by ((try clear hh_i7); (try clear hic); (try clear his); omega)⟩, condV (fun hc => ?_) (fun hc => ?_)⟩
          · have hc : ¬ S.testBit i = true := fun h => by
              rw [decide_eq_true_eq] at hc
              rw [if_pos h] at hb; ((try clear hh_i7); (try clear hic); (try clear his); omega)
            have eH := k.H_eq
            have hH : 2 ^ p.H ≤ 2 ^ 12 := Nat.pow_le_pow_right (by decide) eH.2
            have hH0 : 0 < 2 ^ p.H := Nat.two_pow_pos _
            have eh : (1 : Int) * 2 ^ p.hr.toNat = ((2 ^ p.H : Nat) : Int) := by
              rw [Int.one_mul, show p.hr.toNat = p.H by ((try clear hh_i7); (try clear hic); (try clear his); omega)]; simp
            have eh2 : ((2 ^ p.H - 1 : Nat) : Int) = ((2 ^ p.H : Nat) : Int) - 1 := by ((try clear hh_i7); (try clear hic); (try clear his); omega)
            refine vs_draw2 [0, 0, 0, 0, 0, 0, 0, 0, 0, 0, 0, 0, 1] [([0, 1, 2, 3, 4, 5, 6, 7, 8, 9, 10, 11], [], 12)] [] (by decide +kernel) ?_
            simp only [vsAll, binA, binLitA, intA, loadA, loadRow, partA, partOk, fieldAddrA, indexAddrA, nilCheckA, cellA, cellsA, opA, newCells, okCells, storeObj, dstOk, Nat.reduceLT, Nat.reduceEqDiff, ↓reduceIte, reduceCtorEq, eq_self, wtAll, hic, his, eh]
            refine ⟨⟨by ((try clear hh_i7); (try clear hic); (try clear his); omega), by ((try clear hh_i7); (try clear hic); (try clear his); omega), by simp only [InR_i64]; ((try clear hh_i7); (try clear hic); (try clear his); omega)⟩, by simp only [InR_i64]; ((try clear hh_i7); (try clear hic); (try clear his); omega), ⟨by ((try clear hh_i7); (try clear hic); (try clear his); omega), by ((try clear hh_i7); (try clear hic); (try clear his); omega)⟩, hil, by simp only [InR_i64]; ((try clear hh_i7); (try clear hic); (try clear his); omega), loop_next (i + 1) (by ((try clear hh_i7); (try clear hic); (try clear his); omega)) (by ((try clear hh_i7); (try clear hic); (try clear his); omega)) ?_ ?_⟩
            · simp only [vsAll, Nat.reduceEqDiff, ↓reduceIte, reduceCtorEq, eq_self, Int.natCast_add, Int.natCast_one]
            · have eu : ∀ q, q < p.fs.length → updF p.fs.length i (intF (wthG p S i)) [AV.lit (Value.int IntKind.i64 (((2 ^ p.H : Nat) : Int) - 1))] q = intF (wthG p S (i + 1)) q := fun q hq => by
                rw [upd_at _ _ _ _ _ hil hq, intF_at, intF_at, wthG_at hq, wthG_at hq]
                by_cases e : q = i
                · subst e
                  rw [if_pos rfl, if_pos (Nat.lt_succ_self _), if_neg hc, eh2]
                · have : q < i + 1 ↔ q < i := by ((try clear hh_i7); (try clear hic); (try clear his); omega)
                  rw [if_neg e]
                  simp only [this]
              refine HSub_put_eq (by simp only [vsAll, ↓reduceIte, eq_self, hic]) (HSub_put_eq (by simp only [vsAll, ↓reduceIte, eq_self, his]) (HSub.set (HSub_drop2 (by simp only [eq_self, hh_i7]) (HSub_drop2 (by simp only [eq_self, his]) (HSub_drop2 (by simp only [eq_self, hic]) HSub_rfl))) (row_ext eu)))
          · have hc : S.testBit i = true := by
              rw [decide_eq_false_iff_not] at hc
              by_cases h : S.testBit i = true
              · exact h
              · rw [if_neg h] at hb; ((try clear hh_i7); (try clear hic); (try clear his); omega)
            simp only [vsAll, binA, binLitA, intA, opA, dstOk, Nat.reduceLT, Nat.reduceEqDiff, ↓reduceIte, reduceCtorEq, eq_self]
            refine ⟨by simp only [InR_i64]; ((try clear hh_i7); (try clear hic); (try clear his); omega), loop_next (i + 1) (by ((try clear hh_i7); (try clear hic); (try clear his); omega)) (by ((try clear hh_i7); (try clear hic); (try clear his); omega)) ?_ ?_⟩
            · simp only [vsAll, Nat.reduceEqDiff, ↓reduceIte, reduceCtorEq, eq_self, Int.natCast_add, Int.natCast_one]
            · refine HSub.set (HSub.set (HSub.set HSub_rfl (row_ext fun q hq => ?_)) (.refl _)) (.refl _)
              rw [intF_at, intF_at, wthG_at hq, wthG_at hq]
              by_cases e : q = i
              · subst e
                rw [if_neg (Nat.lt_irrefl _), if_pos (Nat.lt_succ_self _), if_pos hc]
              · have : q < i + 1 ↔ q < i := by ((try clear hh_i7); (try clear hic); (try clear his); omega)
                simp only [this]
        · have ei : i = p.fs.length := by ((try clear hh_i7); (try clear hic); (try clear his); omega)
          subst ei
          simp only [vsAll, opA, dstOk, nilSliceOp, Nat.reduceLT, Nat.reduceEqDiff, ↓reduceIte, reduceCtorEq, eq_self]
          have hlf := wthF_len p S
          have eF : pP (wthP p Q S) = .rptr 1 7 (fun _ => [i64 p.hr, i64 p.fro, i64 p.per, .rsl p.fs.length 1 (intF (wthF p S)), .rsl L.length 3 (psF L), u64 (p.F false : Nat), u64 (p.F true : Nat)]) 0 0 := by
            rw [← hL, ← hlf]; rfl
          rw [eF]
          refine Ent.step (Ent.of [(6, .ref i7 0 7 0 0)] (by simp only [vsAll, ↓reduceIte, eq_self]) (H' := ((H.set ic (.row 1 p.fs.length (intF (wthF p S)))).set is (.row 3 L.length (psF L))).set i7 (.box 7 1 fun _ => [i64 p.hr, i64 p.fro, i64 p.per, .sl ic 1 p.fs.length, .sl is 3 L.length, u64 (p.F false : Nat), u64 (p.F true : Nat)])) (HSub.set (HSub.set (HSub.set HSub_rfl (row_ext fun q hq => ?_)) (.refl _)) (.refl _)) ?_)
          · rw [intF_at, intF_at, wthG_at hq, wthF_at hq, if_pos hq]
          refine Ent.step (Ent.freezeBox (id := ic) (st := 1) (n := p.fs.length) (f := intF (wthF p S)) (j := i7) (st' := 7) (n' := 1) (g := fun _ => [i64 p.hr, i64 p.fro, i64 p.per, .sl ic 1 p.fs.length, .sl is 3 L.length, u64 (p.F false : Nat), u64 (p.F true : Nat)]) (g' := fun _ => [i64 p.hr, i64 p.fro, i64 p.per, .rsl p.fs.length 1 (intF (wthF p S)), .sl is 3 L.length, u64 (p.F false : Nat), u64 (p.F true : Nat)]) (by simp only [vsAll, ↓reduceIte, eq_self, hic, his]) (by simp only [vsAll, ↓reduceIte, eq_self]) (fun t => .rfl) (fun _ _ => rfl) (fun q c hq hc => ?_) ?_)
          · match c, hc with
            | 0, _ => exact .rfl
            | 1, _ => exact .rfl
            | 2, _ => exact .rfl
            | 3, _ => exact .hit
            | 4, _ => exact .rfl
            | 5, _ => exact .rfl
            | 6, _ => exact .rfl
          refine Ent.step (Ent.freezeBox (id := is) (st := 3) (n := L.length) (f := psF L) (j := i7) (st' := 7) (n' := 1) (g := fun _ => [i64 p.hr, i64 p.fro, i64 p.per, .rsl p.fs.length 1 (intF (wthF p S)), .sl is 3 L.length, u64 (p.F false : Nat), u64 (p.F true : Nat)]) (g' := fun _ => [i64 p.hr, i64 p.fro, i64 p.per, .rsl p.fs.length 1 (intF (wthF p S)), .rsl L.length 3 (psF L), u64 (p.F false : Nat), u64 (p.F true : Nat)]) ?_ (by simp only [vsAll, ↓reduceIte, eq_self]) (fun t => .rfl) (fun _ _ => rfl) (fun q c hq hc => ?_) ?_)
          · simp only [vsAll, ↓reduceIte, eq_self, his, Hp.del_get]
          · match c, hc with
            | 0, _ => exact .rfl
            | 1, _ => exact .rfl
            | 2, _ => exact .rfl
            | 3, _ => exact .rfl
            | 4, _ => exact .hit
            | 5, _ => exact .rfl
            | 6, _ => exact .rfl
          refine ret_freezeB (by rw [Try.results86]) (rfl) (Hp.set_same _ _ _) ?_
          refine ⟨H, HSub_del (by simp only [eq_self, hh_i7]) (HSub_drop2 (by simp only [eq_self, hh_i7]) (HSub_del (by simp only [eq_self, his]) (HSub_drop2 (by simp only [eq_self, hh_i7]) (HSub_del (by simp only [eq_self, hic]) (HSub_drop2 (by simp only [eq_self, hh_i7]) (HSub_drop2 (by simp only [eq_self, his]) (HSub_drop2 (by simp only [eq_self, hic]) HSub_rfl))))))), rfl, rfl⟩
end Go.Proofs.Ytliomkpmadpibaa
end
section
set_option linter.unusedVariables false
set_option linter.unusedSimpArgs false
namespace Go.Proofs.Ytliomkpmadpibaa
open Go.V
def onX (S : Nat) : Nat → List Nat
  | 0 => []
  | i + 1 => if S.testBit i = true then onX S i ++ [i] else onX S i
theorem onX_lt {S x : Nat} : ∀ {i}, x ∈ onX S i → x < i := by
  intro i
  induction i with
  | zero => intro h; cases h
  | succ i ih =>
    intro h
    simp only [onX] at h
    split at h
    · rcases List.mem_append.1 h with h | h
      · have := ih h; omega
      · have : x = i := by simpa using h
        omega
    · have := ih h; omega
theorem onX_inc {S a b : Nat} : ∀ {i}, a < b → b < (onX S i).length → (onX S i).getD a 0 < (onX S i).getD b 0 := by
  intro i
  induction i with
  | zero => intro h1 h2; cases h2
  | succ i ih =>
    intro h1 h2
    simp only [onX] at h2 ⊢
    split at h2
    · rename_i hs
      rw [if_pos hs]
      rw [List.length_append] at h2
      simp only [List.length_cons, List.length_nil] at h2
      have ha : a < (onX S i).length := by omega
      rw [List.getD_eq_getElem?_getD, List.getD_eq_getElem?_getD, List.getElem?_append_left ha]
      by_cases hb : b < (onX S i).length
      · rw [List.getElem?_append_left hb]
        have := ih h1 hb
        rwa [List.getD_eq_getElem?_getD, List.getD_eq_getElem?_getD] at this
      · have e : b = (onX S i).length := by omega
        subst e
        have hm : (onX S i).getD a 0 ∈ onX S i := mem_getD _ a 0 ha
        have := onX_lt hm
        rw [List.getD_eq_getElem?_getD] at this
        simpa using this
    · rename_i hs
      rw [if_neg hs]
      exact ih h1 h2
theorem onL_map (p : Pt) (S : Nat) : ∀ i, onL p S i = (onX S i).map fun t => p.ps.getD t po0 := by
  intro i
  induction i with
  | zero => rfl
  | succ i ih =>
    simp only [onL, onX]
    split
    · rw [List.map_append, ih]; rfl
    · exact ih
theorem getD_map' {α β : Type} (f : α → β) (l : List α) (i : Nat) (a : α) (b : β) (h : i < l.length) : (l.map f).getD i b = f (l.getD i a) := by
  simp [List.getD_eq_getElem?_getD, h]
theorem only_right {p : Pt} {S : Nat} {l : List (Int × Int)} (h : RightP p l) : RightP (onlyP p S) ((onX S p.ps.length).map fun t => l.getD t (0, 0)) := by
  have hlen : (onlyP p S).ps.length = (onX S p.ps.length).length := by
    show (onL p S p.ps.length).length = _
    rw [onL_map, List.length_map]
  have epot : ∀ j, j < (onX S p.ps.length).length → (onlyP p S).pot j = p.pot ((onX S p.ps.length).getD j 0) := fun j hj => by
    show (onL p S p.ps.length).getD j po0 = p.ps.getD _ po0
    rw [onL_map, getD_map' _ _ _ 0 _ hj]
  have ehot : ∀ b j h', j < (onX S p.ps.length).length → hotV (onlyP p S) b j h' = hotV p b ((onX S p.ps.length).getD j 0) h' := fun b j h' hj => by
    unfold hotV
    rw [epot j hj]; rfl
  have etk : ∀ j h', j < (onX S p.ps.length).length → tkN (onlyP p S) j h' = tkN p ((onX S p.ps.length).getD j 0) h' := fun j h' hj => by
    unfold tkN
    rw [ehot _ _ _ hj]; rfl
  refine ⟨by rw [List.length_map, hlen], fun i hi => ?_, fun i hi => ?_⟩
  · rw [List.length_map] at hi
    rw [getD_map' _ _ _ 0 _ hi]
    exact h.pl _ (by rw [h.len]; exact onX_lt (mem_getD _ i 0 hi))
  · rw [List.length_map] at hi
    have hX := onX_lt (mem_getD _ i 0 hi)
    have hb := h.br _ (by rw [h.len]; exact hX)
    rw [getD_map' _ _ _ 0 _ hi]
    generalize hx : l.getD ((onX S p.ps.length).getD i 0) (0, 0) = x at hb
    have eal : alR (onlyP p S) i x = alR p ((onX S p.ps.length).getD i 0) x := by
      unfold alR
      rw [epot i hi, ehot _ _ _ hi, etk _ _ hi]; rfl
    unfold brR at hb ⊢
    rw [eal]
    by_cases ha : alR p ((onX S p.ps.length).getD i 0) x = 0
    · rw [if_pos ha] at hb ⊢
      split at hb
      · cases hb
      · rename_i hn
        rw [if_neg]
        intro hy
        apply hn
        rw [List.any_eq_true] at hy ⊢
        obtain ⟨j, hj, hs⟩ := hy
        rw [List.mem_range] at hj
        have hjl : j < (onX S p.ps.length).length := by omega
        refine ⟨(onX S p.ps.length).getD j 0, List.mem_range.2 (onX_inc hj hi), ?_⟩
        rw [getD_map' _ _ _ 0 _ hjl] at hs
        unfold shrB at hs ⊢
        rw [etk _ _ hjl, etk _ _ hi] at hs
        exact hs
    · rw [if_neg ha] at hb
      exact absurd hb ha
theorem only_none {p : Pt} {S : Nat} (h : noneP p S = true) : (rpl p).length = 0 := by
  cases hr : rpl p with
  | nil => rfl
  | cons l L =>
    have hl : RightP p l := mem_rpl.1 (by rw [hr]; exact List.mem_cons_self)
    have h2 := mem_rpl.2 (only_right (S := S) hl)
    unfold noneP at h
    rw [decide_eq_true_eq, List.length_eq_zero_iff] at h
    rw [h] at h2
    cases h2
/-- The fewest pots for which there is no plan, found from the smallest set on. -/
theorem cl_few {p : Pt} (k : Ok p) : fewV (noneP p) p.ps.length = if (rpl p).length = 0 then some (bsN (noneP p) (2 ^ p.ps.length - 1) (2 ^ p.ps.length)) else none := by
  have e : noneP p (2 ^ p.ps.length - 1) = decide ((rpl p).length = 0) := by unfold noneP; rw [only_every]
  rw [few_rset (by have := k.nP; omega) (fun i _ h => by rw [e]; exact decide_eq_true (only_none h)), rset, e]
  by_cases h : (rpl p).length = 0
  · simp [h]
  · simp [h]
theorem cl_eq {p : Pt} (k : Ok p) : fewV (noneP p) p.ps.length = if clE p = 0 then some (clV p) else none := by
  rw [cl_few k]
  have e0 : errE p true = 0 := errE_ok k
  by_cases h : (rpl p).length = 0
  · have e : clE p = 0 := by rw [clE, if_pos e0, if_neg (by omega)]
    rw [if_pos h, if_pos e, clV, if_pos e]
  · have e : clE p = 4 := by rw [clE, if_pos e0, if_pos (by omega)]
    rw [if_neg h, if_neg (by rw [e]; decide)]
end Go.Proofs.Ytliomkpmadpibaa
end
section
set_option linter.unusedVariables false
set_option linter.unusedSimpArgs false
set_option maxHeartbeats 4000000
set_option maxRecDepth 100000
namespace Go.Proofs.Ytliomkpmadpibaa
open Go.V
theorem few1_tri (p : Pt) (i4 i5 Q S : Nat) (H : Hp) (k : Ok p) (ko : Ok (wthP p Q S)) (h4 : H i4 = some (.box 1 1 fun _ => [pP p])) (h5 : H i5 = some (.box 1 1 fun _ => [u64 Q])) (hQ : Q < 2 ^ 60) (hS : S < 2 ^ 60) :
    PTri Try.prog (.func (.func 85) [] [.ref i4 0 1 0 0, .ref i5 0 1 0 0]) [u64 S] H (boo (decide (0 < (rpl (wthP p Q S)).length))) := by
  refine tri_v0 (fun _ => false) Try.func85 (by kernel_rfl) rfl (by simp only [List.length_append, List.length_cons, List.length_nil, Try.ntmps85]; decide) ?_
  skip
  simp only [vsAll, loadA, loadRow, partA, partOk, okAll, stAll, opsA, opA, dstOk, nilSliceOp, argFr, Nat.reduceLT, Nat.reduceEqDiff, ↓reduceIte, reduceCtorEq, eq_self, wtAll, Try.ntmps85, h4, h5]
  refine callK_pure (with_tri p Q S _ k hQ hS) ?_
  simp only [vsAll, okAll, stAll, opsA, opA, dstOk, Nat.reduceLT, ↓reduceIte, eq_self]
  refine callK_pure (ways_tri _ _ ko) ?_
  simp only [vsAll, binA, binLitA, intA, opA, dstOk, nilSliceOp, resA, retA.eq_1, Nat.reduceLT, ↓reduceIte, eq_self, Try.results85]
  exact congrArg (fun b => Res.ret (boo b)) (decide_eq_decide.2 (by ((try clear h4); (try clear h5); omega)))
theorem cl1_tri (p : Pt) (i4 i5 Q S : Nat) (H : Hp) (k : Ok p) (ko : Ok (wthP p Q S)) (h4 : H i4 = some (.box 1 1 fun _ => [pP p])) (h5 : H i5 = some (.box 1 1 fun _ => [u64 S])) (hQ : Q < 2 ^ 60) (hS : S < 2 ^ 60) :
    PTri Try.prog (.func (.func 88) [] [.ref i4 0 1 0 0, .ref i5 0 1 0 0]) [u64 Q] H (boo (decide ((rpl (wthP p Q S)).length = 0))) := by
  refine tri_v0 (fun _ => false) Try.func88 (by kernel_rfl) rfl (by simp only [List.length_append, List.length_cons, List.length_nil, Try.ntmps88]; decide) ?_
  skip
  simp only [vsAll, loadA, loadRow, partA, partOk, okAll, stAll, opsA, opA, dstOk, nilSliceOp, argFr, Nat.reduceLT, Nat.reduceEqDiff, ↓reduceIte, reduceCtorEq, eq_self, wtAll, Try.ntmps88, h4, h5]
  refine callK_pure (with_tri p Q S _ k hQ hS) ?_
  simp only [vsAll, okAll, stAll, opsA, opA, dstOk, Nat.reduceLT, ↓reduceIte, eq_self]
  refine callK_pure (ways_tri _ _ ko) ?_
  simp only [vsAll, binA, binLitA, intA, opA, dstOk, nilSliceOp, resA, retA.eq_1, Nat.reduceLT, ↓reduceIte, eq_self, Try.results88]
  exact congrArg (fun b => Res.ret (boo b)) (decide_eq_decide.2 (by ((try clear h4); (try clear h5); omega)))
theorem wfewest_tri (p : Pt) (H : Hp) (kn : Near p) : PTri Try.prog (fnA 29) [p.av] H (.tuple [i64 (fewN p : Nat), i64 (rgtE p true)]) := by
  refine Tri.drop ?_
  refine tri_a (m := fun _ => false) ans46 Try.func29 (by kernel_rfl) rfl (by simp only [List.length_append, List.length_cons, List.length_nil, Try.ntmps29]; decide) ?_
  simp only [vsAll, loadA, loadRow, partA, partOk, boxA, boxZ, okAll, stAll, opsA, opA, allocA, dstOk, nilSliceOp, argFr, Nat.reduceAdd, Nat.reduceLT, Nat.reduceEqDiff, ↓reduceIte, eq_self, wtAll, Try.ntmps29]
  intro i3 hh_i3; (try simp only [Hp.set_none, ite_none] at hh_i3)
  refine open_call (open_tri p (fnA 71) true _ kn trivial rfl (fun k H' => always_tri _ H')) (fun he => ?_) (fun k hv => ?_)
  · have e : rgtE p true = errE p true := if_neg he
    have e2 : fewN p = 0 := if_neg (by rw [e]; exact he)
    simp only [vsAll]
    refine ⟨errE p true, i3, _, rfl, rfl, by simp only [vsAll, ↓reduceIte, eq_self]; try rfl, ?_⟩
    simp only [vsAll, loadA, loadRow, partA, partOk, resA, retA.eq_2, Nat.reduceLT, Nat.reduceEqDiff, ↓reduceIte, eq_self, wtAll, Try.results29]
    refine dropR_pure ?_ (by (repeat (first | exact HSub_rfl | refine HSub_put_eq (by simp only [vsAll, binA, binLitA, intA, aggA, aggV, boolA, nilA2, isConst, unA, loadA, loadRow, partA, partOk, fieldAddrA, indexAddrA, indexA, fieldA, extractA, lenA, nilCheckA, boxA, boxZ, cellA, cellsA, fillA, okParts, buildSliceA, buildMutA, makeSliceA, partIdx, elemsA, lensA, ifaceA, convA, mmA, pickA, okAll, stAll, opsA, partsA, partsOk, opA, allocA, boxMutA, newCells, okCells, storeObj, appendA, guardV, taA, nM, mapUpA, lookA, sliceA, sliceS, boundsA, opO, okO, copyA, dstOk, nilA, quietOk, nilSliceOp, deferV, panA, resA, argFr, retA.eq_1, retA.eq_2, Nat.reduceAdd, Nat.reduceSub, Nat.reduceMul, Nat.reduceLT, Nat.reduceLeDiff, Nat.reduceEqDiff, Nat.reduceBEq, Int.reduceAdd, Int.reduceSub, Int.reduceMul, Int.reduceNeg, Int.reduceLE, Int.reduceLT, Int.reduceEq, Int.reduceNe, Int.reduceToNat, ↓reduceIte, reduceCtorEq, implies_true, forall_const, eq_self, ne_eq, arrL, wtAll, Try.ntmps29, Try.results29, hh_i3]) ?_ | refine HSub_drop2 (by simp only [eq_self, hh_i3]) ?_ | refine HSub_keep_eq (by simp only [vsAll, binA, binLitA, intA, aggA, aggV, boolA, nilA2, isConst, unA, loadA, loadRow, partA, partOk, fieldAddrA, indexAddrA, indexA, fieldA, extractA, lenA, nilCheckA, boxA, boxZ, cellA, cellsA, fillA, okParts, buildSliceA, buildMutA, makeSliceA, partIdx, elemsA, lensA, ifaceA, convA, mmA, pickA, okAll, stAll, opsA, partsA, partsOk, opA, allocA, boxMutA, newCells, okCells, storeObj, appendA, guardV, taA, nM, mapUpA, lookA, sliceA, sliceS, boundsA, opO, okO, copyA, dstOk, nilA, quietOk, nilSliceOp, deferV, panA, resA, argFr, retA.eq_1, retA.eq_2, Nat.reduceAdd, Nat.reduceSub, Nat.reduceMul, Nat.reduceLT, Nat.reduceLeDiff, Nat.reduceEqDiff, Nat.reduceBEq, Int.reduceAdd, Int.reduceSub, Int.reduceMul, Int.reduceNeg, Int.reduceLE, Int.reduceLT, Int.reduceEq, Int.reduceNe, Int.reduceToNat, ↓reduceIte, reduceCtorEq, implies_true, forall_const, eq_self, ne_eq, arrL, wtAll, Try.ntmps29, Try.results29, hh_i3]) ?_)))
    simp only [eq_self, e, e2, Int.natCast_zero]
  · have he := errE_ok k
    have nP := k.nP
    have nF := k.nF
    have h1 : 2 ^ p.ps.length ≤ 2 ^ 4 := Nat.pow_le_pow_right (by decide) nP
    have h2 : 2 ^ p.fs.length ≤ 2 ^ 3 := Nat.pow_le_pow_right (by decide) nF
    simp only [vsAll, loadA, loadRow, partA, partOk, cellA, cellsA, okAll, stAll, opsA, opA, allocA, newCells, okCells, storeObj, dstOk, Nat.reduceLT, Nat.reduceEqDiff, ↓reduceIte, eq_self, wtAll]
    intro i4 hh_i4; (try simp only [ite_none] at hh_i4)
    refine callK_pure (every_tri p _ nF nP) ?_
    simp only [vsAll, loadA, loadRow, partA, partOk, fieldAddrA, extractA, lenA, nilCheckA, cellA, cellsA, okAll, stAll, opsA, opA, allocA, newCells, okCells, storeObj, dstOk, nilSliceOp, Nat.reduceAdd, Nat.reduceLT, Nat.reduceEqDiff, ↓reduceIte, eq_self, wtAll]
    intro i5 hh_i5; (try simp only [ite_none] at hh_i5)
    simp only [vsAll, Nat.reduceLT, ↓reduceIte, eq_self, hh_i5]
    refine callK_pure (fewest_tri (enoB p) p.fs.length _ _ (by ((try clear hh_i3); (try clear hh_i4); (try clear hh_i5); omega)) (by simp only [vsAll]) (by simp only [vsAll, eq_self]) (fun S hS => few1_tri p i4 i5 _ S _ k (wth_ok k S) (by simp only [vsAll, ↓reduceIte, eq_self, hh_i5]) (by simp only [vsAll, ↓reduceIte, eq_self]) (by ((try clear hh_i3); (try clear hh_i4); (try clear hh_i5); omega)) (by ((try clear hh_i3); (try clear hh_i4); (try clear hh_i5); omega)))) ?_
    by_cases h0 : (rpl p).length = 0
    · have er : rgtE p true = 4 := by rw [rgtE, if_pos he, if_pos h0]
      have ef := few_none k h0
      have e2 : fewN p = 0 := if_neg (by rw [er]; decide)
      simp only [vsAll, extractA, okAll, stAll, opsA, opA, dstOk, nilSliceOp, Nat.reduceAdd, Nat.reduceLT, Nat.reduceEqDiff, ↓reduceIte, eq_self, ef, Option.getD_none]
      refine ask_call (fun hc => by cases hc) (fun hc => ?_)
      simp only [vsAll]
      refine ⟨4, i3, _, rfl, rfl, by simp only [vsAll, ↓reduceIte, eq_self, hh_i4, hh_i5]; try rfl, ?_⟩
      simp only [vsAll, loadA, loadRow, partA, partOk, resA, retA.eq_2, Nat.reduceLT, Nat.reduceEqDiff, ↓reduceIte, eq_self, wtAll, Try.results29]
      refine dropR_pure ?_ (by (repeat (first | exact HSub_rfl | refine HSub_put_eq (by simp only [vsAll, binA, binLitA, intA, aggA, aggV, boolA, nilA2, isConst, unA, loadA, loadRow, partA, partOk, fieldAddrA, indexAddrA, indexA, fieldA, extractA, lenA, nilCheckA, boxA, boxZ, cellA, cellsA, fillA, okParts, buildSliceA, buildMutA, makeSliceA, partIdx, elemsA, lensA, ifaceA, convA, mmA, pickA, okAll, stAll, opsA, partsA, partsOk, opA, allocA, boxMutA, newCells, okCells, storeObj, appendA, guardV, taA, nM, mapUpA, lookA, sliceA, sliceS, boundsA, opO, okO, copyA, dstOk, nilA, quietOk, nilSliceOp, deferV, panA, resA, argFr, retA.eq_1, retA.eq_2, Nat.reduceAdd, Nat.reduceSub, Nat.reduceMul, Nat.reduceLT, Nat.reduceLeDiff, Nat.reduceEqDiff, Nat.reduceBEq, Int.reduceAdd, Int.reduceSub, Int.reduceMul, Int.reduceNeg, Int.reduceLE, Int.reduceLT, Int.reduceEq, Int.reduceNe, Int.reduceToNat, ↓reduceIte, reduceCtorEq, implies_true, forall_const, eq_self, ne_eq, arrL, wtAll, Try.ntmps29, Try.results29, hh_i3, hh_i4, hh_i5]) ?_ | refine HSub_drop2 (by simp only [eq_self, hh_i3, hh_i4, hh_i5]) ?_ | refine HSub_keep_eq (by simp only [vsAll, binA, binLitA, intA, aggA, aggV, boolA, nilA2, isConst, unA, loadA, loadRow, partA, partOk, fieldAddrA, indexAddrA, indexA, fieldA, extractA, lenA, nilCheckA, boxA, boxZ, cellA, cellsA, fillA, okParts, buildSliceA, buildMutA, makeSliceA, partIdx, elemsA, lensA, ifaceA, convA, mmA, pickA, okAll, stAll, opsA, partsA, partsOk, opA, allocA, boxMutA, newCells, okCells, storeObj, appendA, guardV, taA, nM, mapUpA, lookA, sliceA, sliceS, boundsA, opO, okO, copyA, dstOk, nilA, quietOk, nilSliceOp, deferV, panA, resA, argFr, retA.eq_1, retA.eq_2, Nat.reduceAdd, Nat.reduceSub, Nat.reduceMul, Nat.reduceLT, Nat.reduceLeDiff, Nat.reduceEqDiff, Nat.reduceBEq, Int.reduceAdd, Int.reduceSub, Int.reduceMul, Int.reduceNeg, Int.reduceLE, Int.reduceLT, Int.reduceEq, Int.reduceNe, Int.reduceToNat, ↓reduceIte, reduceCtorEq, implies_true, forall_const, eq_self, ne_eq, arrL, wtAll, Try.ntmps29, Try.results29, hh_i3, hh_i4, hh_i5]) ?_)))
      simp only [eq_self, er, e2, Int.natCast_zero]
    · have er : rgtE p true = 0 := by rw [rgtE, if_pos he, if_neg h0]
      have ef := few_eq k er
      have hlt := (fewV_some ef).lt
      simp only [vsAll, extractA, okAll, stAll, opsA, opA, dstOk, nilSliceOp, Nat.reduceAdd, Nat.reduceLT, Nat.reduceEqDiff, ↓reduceIte, eq_self, ef, Option.getD_some]
      refine ask_call (fun hc => ?_) (fun hc => by cases hc)
      simp only [vsAll, cellA, cellsA, convA, opA, newCells, okCells, storeObj, dstOk, nilSliceOp, Nat.reduceLT, Nat.reduceEqDiff, ↓reduceIte, eq_self, wtAll, hh_i4, hh_i5]
      refine ⟨by simp only [InR_i64]; ((try clear hh_i3); (try clear hh_i4); (try clear hh_i5); omega), Ent.ret ⟨i3, _, rfl, by simp only [vsAll, ↓reduceIte, eq_self]; try rfl, ?_⟩⟩
      simp only [vsAll, loadA, loadRow, partA, partOk, resA, retA.eq_2, Nat.reduceLT, Nat.reduceEqDiff, ↓reduceIte, eq_self, wtAll, Try.results29]
      refine dropR_pure ?_ (by (repeat (first | exact HSub_rfl | refine HSub_put_eq (by simp only [vsAll, binA, binLitA, intA, aggA, aggV, boolA, nilA2, isConst, unA, loadA, loadRow, partA, partOk, fieldAddrA, indexAddrA, indexA, fieldA, extractA, lenA, nilCheckA, boxA, boxZ, cellA, cellsA, fillA, okParts, buildSliceA, buildMutA, makeSliceA, partIdx, elemsA, lensA, ifaceA, convA, mmA, pickA, okAll, stAll, opsA, partsA, partsOk, opA, allocA, boxMutA, newCells, okCells, storeObj, appendA, guardV, taA, nM, mapUpA, lookA, sliceA, sliceS, boundsA, opO, okO, copyA, dstOk, nilA, quietOk, nilSliceOp, deferV, panA, resA, argFr, retA.eq_1, retA.eq_2, Nat.reduceAdd, Nat.reduceSub, Nat.reduceMul, Nat.reduceLT, Nat.reduceLeDiff, Nat.reduceEqDiff, Nat.reduceBEq, Int.reduceAdd, Int.reduceSub, Int.reduceMul, Int.reduceNeg, Int.reduceLE, Int.reduceLT, Int.reduceEq, Int.reduceNe, Int.reduceToNat, ↓reduceIte, reduceCtorEq, implies_true, forall_const, eq_self, ne_eq, arrL, wtAll, Try.ntmps29, Try.results29, hh_i3, hh_i4, hh_i5]) ?_ | refine HSub_drop2 (by simp only [eq_self, hh_i3, hh_i4, hh_i5]) ?_ | refine HSub_keep_eq (by simp only [vsAll, binA, binLitA, intA, aggA, aggV, boolA, nilA2, isConst, unA, loadA, loadRow, partA, partOk, fieldAddrA, indexAddrA, indexA, fieldA, extractA, lenA, nilCheckA, boxA, boxZ, cellA, cellsA, fillA, okParts, buildSliceA, buildMutA, makeSliceA, partIdx, elemsA, lensA, ifaceA, convA, mmA, pickA, okAll, stAll, opsA, partsA, partsOk, opA, allocA, boxMutA, newCells, okCells, storeObj, appendA, guardV, taA, nM, mapUpA, lookA, sliceA, sliceS, boundsA, opO, okO, copyA, dstOk, nilA, quietOk, nilSliceOp, deferV, panA, resA, argFr, retA.eq_1, retA.eq_2, Nat.reduceAdd, Nat.reduceSub, Nat.reduceMul, Nat.reduceLT, Nat.reduceLeDiff, Nat.reduceEqDiff, Nat.reduceBEq, Int.reduceAdd, Int.reduceSub, Int.reduceMul, Int.reduceNeg, Int.reduceLE, Int.reduceLT, Int.reduceEq, Int.reduceNe, Int.reduceToNat, ↓reduceIte, reduceCtorEq, implies_true, forall_const, eq_self, ne_eq, arrL, wtAll, Try.ntmps29, Try.results29, hh_i3, hh_i4, hh_i5]) ?_)))
      simp only [eq_self, er]
theorem wclash_tri (p : Pt) (H : Hp) (kn : Near p) : PTri Try.prog (fnA 31) [p.av] H (.tuple [i64 (clV p : Nat), i64 (clE p)]) := by
  refine Tri.drop ?_
  refine tri_a (m := fun _ => false) ans46 Try.func31 (by kernel_rfl) rfl (by simp only [List.length_append, List.length_cons, List.length_nil, Try.ntmps31]; decide) ?_
  simp only [vsAll, loadA, loadRow, partA, partOk, boxA, boxZ, okAll, stAll, opsA, opA, allocA, dstOk, nilSliceOp, argFr, Nat.reduceAdd, Nat.reduceLT, Nat.reduceEqDiff, ↓reduceIte, eq_self, wtAll, Try.ntmps31]
  intro i3 hh_i3; (try simp only [Hp.set_none, ite_none] at hh_i3)
  refine open_call (open_tri p (fnA 71) true _ kn trivial rfl (fun k H' => always_tri _ H')) (fun he => ?_) (fun k hv => ?_)
  · have e : clE p = errE p true := if_neg he
    have e2 : clV p = 0 := if_neg (by rw [e]; exact he)
    simp only [vsAll]
    refine ⟨errE p true, i3, _, rfl, rfl, by simp only [vsAll, ↓reduceIte, eq_self]; try rfl, ?_⟩
    simp only [vsAll, loadA, loadRow, partA, partOk, resA, retA.eq_2, Nat.reduceLT, Nat.reduceEqDiff, ↓reduceIte, eq_self, wtAll, Try.results31]
    refine dropR_pure ?_ (by (repeat (first | exact HSub_rfl | refine HSub_put_eq (by simp only [vsAll, binA, binLitA, intA, aggA, aggV, boolA, nilA2, isConst, unA, loadA, loadRow, partA, partOk, fieldAddrA, indexAddrA, indexA, fieldA, extractA, lenA, nilCheckA, boxA, boxZ, cellA, cellsA, fillA, okParts, buildSliceA, buildMutA, makeSliceA, partIdx, elemsA, lensA, ifaceA, convA, mmA, pickA, okAll, stAll, opsA, partsA, partsOk, opA, allocA, boxMutA, newCells, okCells, storeObj, appendA, guardV, taA, nM, mapUpA, lookA, sliceA, sliceS, boundsA, opO, okO, copyA, dstOk, nilA, quietOk, nilSliceOp, deferV, panA, resA, argFr, retA.eq_1, retA.eq_2, Nat.reduceAdd, Nat.reduceSub, Nat.reduceMul, Nat.reduceLT, Nat.reduceLeDiff, Nat.reduceEqDiff, Nat.reduceBEq, Int.reduceAdd, Int.reduceSub, Int.reduceMul, Int.reduceNeg, Int.reduceLE, Int.reduceLT, Int.reduceEq, Int.reduceNe, Int.reduceToNat, ↓reduceIte, reduceCtorEq, implies_true, forall_const, eq_self, ne_eq, arrL, wtAll, Try.ntmps31, Try.results31, hh_i3]) ?_ | refine HSub_drop2 (by simp only [eq_self, hh_i3]) ?_ | refine HSub_keep_eq (by simp only [vsAll, binA, binLitA, intA, aggA, aggV, boolA, nilA2, isConst, unA, loadA, loadRow, partA, partOk, fieldAddrA, indexAddrA, indexA, fieldA, extractA, lenA, nilCheckA, boxA, boxZ, cellA, cellsA, fillA, okParts, buildSliceA, buildMutA, makeSliceA, partIdx, elemsA, lensA, ifaceA, convA, mmA, pickA, okAll, stAll, opsA, partsA, partsOk, opA, allocA, boxMutA, newCells, okCells, storeObj, appendA, guardV, taA, nM, mapUpA, lookA, sliceA, sliceS, boundsA, opO, okO, copyA, dstOk, nilA, quietOk, nilSliceOp, deferV, panA, resA, argFr, retA.eq_1, retA.eq_2, Nat.reduceAdd, Nat.reduceSub, Nat.reduceMul, Nat.reduceLT, Nat.reduceLeDiff, Nat.reduceEqDiff, Nat.reduceBEq, Int.reduceAdd, Int.reduceSub, Int.reduceMul, Int.reduceNeg, Int.reduceLE, Int.reduceLT, Int.reduceEq, Int.reduceNe, Int.reduceToNat, ↓reduceIte, reduceCtorEq, implies_true, forall_const, eq_self, ne_eq, arrL, wtAll, Try.ntmps31, Try.results31, hh_i3]) ?_)))
    simp only [eq_self, e, e2, Int.natCast_zero]
  · have he := errE_ok k
    have nP := k.nP
    have nF := k.nF
    have h1 : 2 ^ p.ps.length ≤ 2 ^ 4 := Nat.pow_le_pow_right (by decide) nP
    have h2 : 2 ^ p.fs.length ≤ 2 ^ 3 := Nat.pow_le_pow_right (by decide) nF
    simp only [vsAll, loadA, loadRow, partA, partOk, cellA, cellsA, okAll, stAll, opsA, opA, allocA, newCells, okCells, storeObj, dstOk, Nat.reduceLT, Nat.reduceEqDiff, ↓reduceIte, eq_self, wtAll]
    intro i4 hh_i4; (try simp only [ite_none] at hh_i4)
    refine callK_pure (every_tri p _ nF nP) ?_
    simp only [vsAll, loadA, loadRow, partA, partOk, fieldAddrA, extractA, lenA, nilCheckA, cellA, cellsA, okAll, stAll, opsA, opA, allocA, newCells, okCells, storeObj, dstOk, nilSliceOp, Nat.reduceAdd, Nat.reduceLT, Nat.reduceEqDiff, ↓reduceIte, eq_self, wtAll]
    intro i6 hh_i6; (try simp only [ite_none] at hh_i6)
    simp only [vsAll, Nat.reduceLT, ↓reduceIte, eq_self, hh_i6]
    have cl1 : ∀ Q : Nat, Q < 2 ^ p.ps.length → ∀ H, H i4 = some (.box 1 1 fun _ => [pP p]) → H i6 = some (.box 1 1 fun _ => [u64 (2 ^ p.fs.length - 1 : Nat)]) → PTri Try.prog (.func (.func 88) [] [.ref i4 0 1 0 0, .ref i6 0 1 0 0]) [u64 Q] H (boo (noneP p Q)) := fun Q hQ H a b => by
      have t := cl1_tri p i4 i6 Q (2 ^ p.fs.length - 1) H k (by rw [wth_every]; exact only_ok k Q) a b (by ((try clear hh_i3); (try clear hh_i4); (try clear hh_i6); omega)) (by ((try clear hh_i3); (try clear hh_i4); (try clear hh_i6); omega))
      rw [wth_every] at t
      exact t
    refine callK_pure (fewest_tri (noneP p) p.ps.length _ _ (by ((try clear hh_i3); (try clear hh_i4); (try clear hh_i6); omega)) (by simp only [vsAll]) (by simp only [vsAll, eq_self]) (fun Q hQ => cl1 Q hQ _ (by simp only [vsAll, ↓reduceIte, eq_self, hh_i6]) (by simp only [vsAll, ↓reduceIte, eq_self]))) ?_
    have ef := cl_eq k
    by_cases h0 : clE p = 0
    · rw [if_pos h0] at ef
      have hlt := (fewV_some ef).lt
      simp only [vsAll, extractA, okAll, stAll, opsA, opA, dstOk, nilSliceOp, Nat.reduceAdd, Nat.reduceLT, Nat.reduceEqDiff, ↓reduceIte, eq_self, ef, Option.getD_some]
      refine ask_call (fun hc => ?_) (fun hc => by cases hc)
      simp only [vsAll, cellA, cellsA, convA, opA, newCells, okCells, storeObj, dstOk, nilSliceOp, Nat.reduceLT, Nat.reduceEqDiff, ↓reduceIte, eq_self, wtAll, hh_i4, hh_i6]
      refine ⟨by simp only [InR_i64]; ((try clear hh_i3); (try clear hh_i4); (try clear hh_i6); omega), Ent.ret ⟨i3, _, rfl, by simp only [vsAll, ↓reduceIte, eq_self]; try rfl, ?_⟩⟩
      simp only [vsAll, loadA, loadRow, partA, partOk, resA, retA.eq_2, Nat.reduceLT, Nat.reduceEqDiff, ↓reduceIte, eq_self, wtAll, Try.results31]
      refine dropR_pure ?_ (by (repeat (first | exact HSub_rfl | refine HSub_put_eq (by simp only [vsAll, binA, binLitA, intA, aggA, aggV, boolA, nilA2, isConst, unA, loadA, loadRow, partA, partOk, fieldAddrA, indexAddrA, indexA, fieldA, extractA, lenA, nilCheckA, boxA, boxZ, cellA, cellsA, fillA, okParts, buildSliceA, buildMutA, makeSliceA, partIdx, elemsA, lensA, ifaceA, convA, mmA, pickA, okAll, stAll, opsA, partsA, partsOk, opA, allocA, boxMutA, newCells, okCells, storeObj, appendA, guardV, taA, nM, mapUpA, lookA, sliceA, sliceS, boundsA, opO, okO, copyA, dstOk, nilA, quietOk, nilSliceOp, deferV, panA, resA, argFr, retA.eq_1, retA.eq_2, Nat.reduceAdd, Nat.reduceSub, Nat.reduceMul, Nat.reduceLT, Nat.reduceLeDiff, Nat.reduceEqDiff, Nat.reduceBEq, Int.reduceAdd, Int.reduceSub, Int.reduceMul, Int.reduceNeg, Int.reduceLE, Int.reduceLT, Int.reduceEq, Int.reduceNe, Int.reduceToNat, ↓reduceIte, reduceCtorEq, implies_true, forall_const, eq_self, ne_eq, arrL, wtAll, Try.ntmps31, Try.results31, hh_i3, hh_i4, hh_i6]) ?_ | refine HSub_drop2 (by simp only [eq_self, hh_i3, hh_i4, hh_i6]) ?_ | refine HSub_keep_eq (by simp only [vsAll, binA, binLitA, intA, aggA, aggV, boolA, nilA2, isConst, unA, loadA, loadRow, partA, partOk, fieldAddrA, indexAddrA, indexA, fieldA, extractA, lenA, nilCheckA, boxA, boxZ, cellA, cellsA, fillA, okParts, buildSliceA, buildMutA, makeSliceA, partIdx, elemsA, lensA, ifaceA, convA, mmA, pickA, okAll, stAll, opsA, partsA, partsOk, opA, allocA, boxMutA, newCells, okCells, storeObj, appendA, guardV, taA, nM, mapUpA, lookA, sliceA, sliceS, boundsA, opO, okO, copyA, dstOk, nilA, quietOk, nilSliceOp, deferV, panA, resA, argFr, retA.eq_1, retA.eq_2, Nat.reduceAdd, Nat.reduceSub, Nat.reduceMul, Nat.reduceLT, Nat.reduceLeDiff, Nat.reduceEqDiff, Nat.reduceBEq, Int.reduceAdd, Int.reduceSub, Int.reduceMul, Int.reduceNeg, Int.reduceLE, Int.reduceLT, Int.reduceEq, Int.reduceNe, Int.reduceToNat, ↓reduceIte, reduceCtorEq, implies_true, forall_const, eq_self, ne_eq, arrL, wtAll, Try.ntmps31, Try.results31, hh_i3, hh_i4, hh_i6]) ?_)))
      simp only [eq_self, h0]
    · rw [if_neg h0] at ef
      have e4 : clE p = 4 := by
        unfold clE at h0 ⊢
        rw [if_pos he] at h0 ⊢
        split
        · rfl
        · rename_i h; rw [if_neg h] at h0; exact absurd rfl h0
      have e2 : clV p = 0 := if_neg h0
      simp only [vsAll, extractA, okAll, stAll, opsA, opA, dstOk, nilSliceOp, Nat.reduceAdd, Nat.reduceLT, Nat.reduceEqDiff, ↓reduceIte, eq_self, ef, Option.getD_none]
      refine ask_call (fun hc => by cases hc) (fun hc => ?_)
      simp only [vsAll]
      refine ⟨4, i3, _, rfl, rfl, by simp only [vsAll, ↓reduceIte, eq_self, hh_i4, hh_i6]; try rfl, ?_⟩
      simp only [vsAll, loadA, loadRow, partA, partOk, resA, retA.eq_2, Nat.reduceLT, Nat.reduceEqDiff, ↓reduceIte, eq_self, wtAll, Try.results31]
      refine dropR_pure ?_ (by (repeat (first | exact HSub_rfl | refine HSub_put_eq (by simp only [vsAll, binA, binLitA, intA, aggA, aggV, boolA, nilA2, isConst, unA, loadA, loadRow, partA, partOk, fieldAddrA, indexAddrA, indexA, fieldA, extractA, lenA, nilCheckA, boxA, boxZ, cellA, cellsA, fillA, okParts, buildSliceA, buildMutA, makeSliceA, partIdx, elemsA, lensA, ifaceA, convA, mmA, pickA, okAll, stAll, opsA, partsA, partsOk, opA, allocA, boxMutA, newCells, okCells, storeObj, appendA, guardV, taA, nM, mapUpA, lookA, sliceA, sliceS, boundsA, opO, okO, copyA, dstOk, nilA, quietOk, nilSliceOp, deferV, panA, resA, argFr, retA.eq_1, retA.eq_2, Nat.reduceAdd, Nat.reduceSub, Nat.reduceMul, Nat.reduceLT, Nat.reduceLeDiff, Nat.reduceEqDiff, Nat.reduceBEq, Int.reduceAdd, Int.reduceSub, Int.reduceMul, Int.reduceNeg, Int.reduceLE, Int.reduceLT, Int.reduceEq, Int.reduceNe, Int.reduceToNat, ↓reduceIte, reduceCtorEq, implies_true, forall_const, eq_self, ne_eq, arrL, wtAll, Try.ntmps31, Try.results31, hh_i3, hh_i4, hh_i6]) ?_ | refine HSub_drop2 (by simp only [eq_self, hh_i3, hh_i4, hh_i6]) ?_ | refine HSub_keep_eq (by simp only [vsAll, binA, binLitA, intA, aggA, aggV, boolA, nilA2, isConst, unA, loadA, loadRow, partA, partOk, fieldAddrA, indexAddrA, indexA, fieldA, extractA, lenA, nilCheckA, boxA, boxZ, cellA, cellsA, fillA, okParts, buildSliceA, buildMutA, makeSliceA, partIdx, elemsA, lensA, ifaceA, convA, mmA, pickA, okAll, stAll, opsA, partsA, partsOk, opA, allocA, boxMutA, newCells, okCells, storeObj, appendA, guardV, taA, nM, mapUpA, lookA, sliceA, sliceS, boundsA, opO, okO, copyA, dstOk, nilA, quietOk, nilSliceOp, deferV, panA, resA, argFr, retA.eq_1, retA.eq_2, Nat.reduceAdd, Nat.reduceSub, Nat.reduceMul, Nat.reduceLT, Nat.reduceLeDiff, Nat.reduceEqDiff, Nat.reduceBEq, Int.reduceAdd, Int.reduceSub, Int.reduceMul, Int.reduceNeg, Int.reduceLE, Int.reduceLT, Int.reduceEq, Int.reduceNe, Int.reduceToNat, ↓reduceIte, reduceCtorEq, implies_true, forall_const, eq_self, ne_eq, arrL, wtAll, Try.ntmps31, Try.results31, hh_i3, hh_i4, hh_i6]) ?_)))
      simp only [eq_self, e4, e2, Int.natCast_zero]
end Go.Proofs.Ytliomkpmadpibaa
end
section
set_option linter.unusedVariables false
set_option linter.unusedSimpArgs false
namespace Go.V
set_option linter.unusedSectionVars false
variable [Inhabited GivT]
/-- What one cell holds. -/
inductive CK where
  | int (k : IntKind)
  | bool
  | sl (ks : List CK)

/-- The cells of a type. -/
def cellsT (P : Program) : Nat → TypeId → Option (List CK)
  | 0, _ => none
  | d + 1, t => match P.underlying t with
    | some .bool => some [.bool]
    | some (.int k) => some [.int k]
    | some (.slice e) => match cellsT P d e with
      | some ks => if P.cellsOf e = ks.length ∧ 0 < ks.length then some [.sl ks] else none
      | none => none
    | some (.array n e) => match cellsT P d e with
      | some ks => if P.cellsOf e = ks.length ∧ P.cellsOf t = n * ks.length then some ((List.replicate n ks).flatten) else none
      | none => none
    | some (.struct fs) => match fs.toList.foldl (fun acc f => match acc with
        | some ks => match cellsT P d f.type with
          | some l => if f.offset = ks.length ∧ P.cellsOf f.type = l.length then some (ks ++ l) else none
          | none => none
        | none => none) (some []) with
      | some ks => if P.cellsOf t = ks.length then some ks else none
      | none => none
    | _ => none

/-- Such an abstract value. -/
inductive CKA : CK → AV → Prop
  | int {k : IntKind} {z : Int} (h : (Lit.int k z).wf = true) : CKA (.int k) (.lit (.int k z))
  | bool {b : Bool} : CKA .bool (.lit (.bool b))
  | sl {ks : List CK} {n : Nat} {f : Nat → List AV} (hn : n ≤ maxLen) (hl : ∀ i, i < n → (f i).length = ks.length) (h : ∀ i j k, i < n → ks[j]? = some k → CKA k ((f i).getD j .any)) : CKA (.sl ks) (.rsl n ks.length f)

def CellIs (W : World) (k : CK) (v : Value) : Prop := ∃ av, CKA k av ∧ VRel (st0 W) av v
def CellsOk (W : World) (ks : List CK) (cs : List Value) : Prop := cs.length = ks.length ∧ ∀ (i : Nat) (k : CK) (v : Value), ks[i]? = some k → cs[i]? = some v → CellIs W k v

theorem CellsOk.append {W : World} {ks ls : List CK} {cs ds : List Value} (h : CellsOk W ks cs) (h' : CellsOk W ls ds) : CellsOk W (ks ++ ls) (cs ++ ds) := by
  refine ⟨by simp [h.1, h'.1], fun i k v hk hv => ?_⟩
  by_cases hi : i < ks.length
  · rw [List.getElem?_append_left hi] at hk
    rw [List.getElem?_append_left (by rw [h.1]; exact hi)] at hv
    exact h.2 i k v hk hv
  · rw [List.getElem?_append_right (by omega)] at hk
    rw [List.getElem?_append_right (by rw [h.1]; omega), h.1] at hv
    exact h'.2 _ k v hk hv

theorem trod_cells {H : Type} {enc : TypeId × Value → H} {P : Program} {W : World} {held : Bool} {sp : Nat → Bool} :
    ∀ (d fuel : Nat) (t : TypeId) (cs : List Value) (x : DataW H × List MemPlace) (ks : List CK), cellsT P d t = some ks → DataW.trod enc P W 0 sp held fuel t cs = some x → CellsOk W ks cs := by
  intro d
  induction d with
  | zero => intro fuel t cs x ks hg; cases hg
  | succ d ih =>
    intro fuel t cs x ks hg h
    cases fuel with
    | zero => cases h
    | succ fuel =>
      unfold cellsT at hg
      unfold DataW.trod at h
      cases hu : P.underlying t with
      | none => rw [hu] at hg; cases hg
      | some td =>
        rw [hu] at hg h
        cases td <;> simp only at hg <;> try (cases hg; done)
        case bool =>
          cases hg
          split at h <;> simp_all
          rename_i b
          exact ⟨rfl, fun i k v hk hv => by cases i <;> simp at hk hv; subst hk hv; exact ⟨_, .bool, .lit _⟩⟩
        case int k =>
          cases hg
          split at h <;> simp_all
          rename_i n hh
          exact ⟨rfl, fun i k v hk hv => by cases i <;> simp at hk hv; subst hk hv; exact ⟨_, .int h.1.2, .lit _⟩⟩
        case array n e =>
          cases hke : cellsT P d e with
          | none => rw [hke] at hg; cases hg
          | some lk =>
            rw [hke] at hg
            simp only at hg
            by_cases hc : P.cellsOf e = lk.length ∧ P.cellsOf t = n * lk.length
            case neg => rw [if_neg hc] at hg; cases hg
            rw [if_pos hc] at hg
            cases hg
            split at h <;> try (simp_all; done)
            case _ n' e' heq =>
              simp only [Option.some.injEq, TypeDesc.array.injEq] at heq
              obtain ⟨rfl, rfl⟩ := heq
              split at h
              case isFalse hl => cases h
              case isTrue hl =>
                rw [Option.map_eq_some_iff] at h
                obtain ⟨ys, hy, rfl⟩ := h
                have key : ∀ (c : List Value), (∀ i, i < n → ∃ y, DataW.trod enc P W 0 sp held fuel e ((c.drop (i * P.cellsOf e)).take (P.cellsOf e)) = some y) → ∀ m, m ≤ n → CellsOk W (List.replicate m lk).flatten (c.take (m * lk.length)) := by
                  intro c hcy m
                  induction m with
                  | zero => intro _; exact ⟨by simp, fun i k v hk => by simp at hk⟩
                  | succ m ihm =>
                    intro hm
                    have h0 := ihm (by omega)
                    obtain ⟨y, h2⟩ := hcy m (by omega)
                    have h3 := ih fuel e _ y lk hke h2
                    rw [hc.1] at h3
                    have := h0.append h3
                    rw [List.replicate_succ', List.flatten_append, Nat.succ_mul, List.take_add]
                    simpa using this
                have := key _ (fun i hi => by
                  obtain ⟨y, _, h2⟩ := (mapM_get _ _ hy).2 i i (by simp [hi])
                  exact ⟨y, h2⟩) n (Nat.le_refl _)
                rw [List.take_of_length_le (by rw [hl, hc.2]; exact Nat.le_refl _)] at this
                exact this
        case slice e =>
          cases hke : cellsT P d e with
          | none => rw [hke] at hg; cases hg
          | some lk =>
            rw [hke] at hg
            simp only at hg
            by_cases hc : P.cellsOf e = lk.length ∧ 0 < lk.length
            case neg => rw [if_neg hc] at hg; cases hg
            rw [if_pos hc] at hg
            cases hg
            obtain ⟨hsz, hpos⟩ := hc
            split at h <;> try (simp_all; done)
            · rename_i heq
              refine ⟨rfl, fun i k v hk hv => ?_⟩
              cases i <;> simp at hk hv
              subst hk hv
              exact ⟨.rsl 0 lk.length fun _ => [], .sl (Nat.zero_le _) (fun i hi => by omega) (fun i j k hi => by omega), .rsl0⟩
            · rename_i e' a len cap heq
              simp only [Option.some.injEq, TypeDesc.slice.injEq] at heq
              subst heq
              simp only at h
              split at h
              case isFalse hl => cases h
              case isTrue hl =>
                rw [Option.bind_eq_some_iff] at h
                obtain ⟨es, he, -⟩ := h
                let g : Nat → List Value := fun i => match W.cells? 0 (a.add (i * P.cellsOf e)) (P.cellsOf e) with
                  | some c => c
                  | none => []
                have hel : ∀ i, i < len → W.cells? 0 (a.add (i * P.cellsOf e)) (P.cellsOf e) = some (g i) ∧ CellsOk W lk (g i) := by
                  intro i hi
                  obtain ⟨y, _, hy⟩ := (mapM_get _ _ he).2 i i (by simp [hi])
                  rw [Option.bind_eq_some_iff] at hy
                  obtain ⟨c, h1, h2⟩ := hy
                  have : g i = c := by simp only [g, h1]
                  rw [this]
                  exact ⟨h1, ih fuel e c y lk hke h2⟩
                -- the abstract cells
                have hch : ∀ i j, ∃ av, i < len → j < lk.length → ∃ k v, lk[j]? = some k ∧ (g i)[j]? = some v ∧ CKA k av ∧ VRel (st0 W) av v := by
                  intro i j
                  by_cases hi : i < len
                  · by_cases hj : j < lk.length
                    · obtain ⟨l1, l2⟩ := (hel i hi).2
                      obtain ⟨av, c1, c2⟩ := l2 j lk[j] (g i)[j] (List.getElem?_eq_getElem hj) (List.getElem?_eq_getElem (by omega))
                      exact ⟨av, fun _ _ => ⟨_, _, List.getElem?_eq_getElem hj, List.getElem?_eq_getElem (by omega), c1, c2⟩⟩
                    · exact ⟨.any, fun _ x => absurd x hj⟩
                  · exact ⟨.any, fun x => absurd x hi⟩
                have hf := fun i => Classical.axiomOfChoice (hch i)
                obtain ⟨F, hF⟩ := Classical.axiomOfChoice hf
                have hget : ∀ i j, j < lk.length → ((List.range lk.length).map (F i)).getD j .any = F i j := fun i j hj => by
                  rw [List.getD_eq_getElem?_getD, List.getElem?_map, List.getElem?_range hj]; rfl
                refine ⟨rfl, fun i k v hk hv => ?_⟩
                cases i <;> simp at hk hv
                subst hk hv
                refine ⟨.rsl len lk.length fun i => (List.range lk.length).map (F i), .sl (Nat.le_trans hl.2.1 hl.2.2) (fun i hi => by simp) (fun i j k hi hk => ?_), ?_⟩
                · have hj := (List.getElem?_eq_some_iff.1 hk).1
                  rw [hget i j hj]
                  obtain ⟨k', v, h1, h2, h3, h4⟩ := hF i j hi hj
                  rw [hk] at h1; cases h1
                  exact h3
                by_cases h0 : len = 0
                · subst h0; exact .rsl0
                have hcell : ∀ i j, i < len → j < lk.length → ∃ u, (g i)[j]? = some u ∧ W.cell? ((a.add (i * P.cellsOf e)).add j) = some u := by
                  intro i j hi hj
                  have h1 := (hel i hi).1
                  unfold World.cells? at h1
                  rw [if_pos (Nat.zero_le _)] at h1
                  exact (mapM_get _ _ h1).2 j j (by simp [hsz, hj])
                obtain ⟨b, off, spot⟩ := a
                obtain ⟨u0, _, hc0⟩ := hcell 0 0 (by omega) hpos
                rw [show ((⟨b, off, spot⟩ : Addr).add (0 * P.cellsOf e)).add 0 = ⟨b, off, spot⟩ from by simp [Addr.add]] at hc0
                unfold World.cell? at hc0
                split at hc0
                case h_2 => cases hc0
                case h_1 c ct fz hb =>
                  have hspot : spot = none := by
                    cases spot with
                    | none => rfl
                    | some s => simp at hc0
                  subst hspot
                  have hadd : ∀ i j, (((⟨b, off, none⟩ : Addr).add (i * P.cellsOf e)).add j) = ⟨b, off + i * P.cellsOf e + j, none⟩ := fun i j => by rw [addr_add, addr_add]
                  have hall : ∀ i j, i < len → j < lk.length → ∃ u, (g i)[j]? = some u ∧ c[off + i * lk.length + j]? = some u := by
                    intro i j hi hj
                    obtain ⟨u, h1, h2⟩ := hcell i j hi hj
                    rw [hadd] at h2
                    unfold World.cell? at h2
                    simp only at hb
                    rw [show W.heap[(⟨b, off + i * P.cellsOf e + j, none⟩ : Addr).block]? = some (.cells c ct fz) from hb] at h2
                    simp only [Option.isSome_none, Bool.false_eq_true, if_false, hsz] at h2
                    exact ⟨u, h1, h2⟩
                  refine .rsl (c := c) (e := ct) (fz := fz) ?_ hb ?_ (fun i hi => by simp) (fun i j hi hj => ?_) hl.2.1
                  · exact (Array.getElem?_eq_some_iff.1 hb).1
                  · obtain ⟨u, _, h2⟩ := hall (len - 1) (lk.length - 1) (by omega) (by omega)
                    have := (Array.getElem?_eq_some_iff.1 h2).1
                    have e1 : len * lk.length = (len - 1) * lk.length + lk.length := by
                      obtain ⟨q, rfl⟩ : ∃ q, len = q + 1 := ⟨len - 1, by omega⟩
                      rw [Nat.add_sub_cancel, Nat.succ_mul]
                    omega
                  · obtain ⟨u, h1, h2⟩ := hall i j hi hj
                    obtain ⟨k', v, q1, q2, q3, q4⟩ := hF i j hi hj
                    rw [h1] at q2; cases q2
                    rw [hget i j hj, Array.getD_eq_getD_getElem?, h2]
                    exact q4
        case struct fs =>
          split at h <;> try (simp_all; done)
          case _ fs' heq =>
            simp only [Option.some.injEq, TypeDesc.struct.injEq] at heq
            subst heq
            split at h
            case isFalse hl => cases h
            case isTrue hl =>
              rw [Option.map_eq_some_iff] at h
              obtain ⟨ys, hy, rfl⟩ := h
              have key : ∀ (c : List Value) (l : List Field) (acc ks : List CK), (∀ f ∈ l, ∃ y, DataW.trod enc P W 0 sp held fuel f.type ((c.drop f.offset).take (P.cellsOf f.type)) = some y) → CellsOk W acc (c.take acc.length) →
                  l.foldl (fun acc f => match acc with
                    | some ks => match cellsT P d f.type with
                      | some l => if f.offset = ks.length ∧ P.cellsOf f.type = l.length then some (ks ++ l) else none
                      | none => none
                    | none => none) (some acc) = some ks → CellsOk W ks (c.take ks.length) := by
                intro c l
                induction l with
                | nil => intro acc ks _ ha he; simp at he; subst he; exact ha
                | cons f l ih2 =>
                  intro acc ks hf ha he
                  simp only [List.foldl_cons] at he
                  have hnone : ∀ l : List Field, l.foldl (fun acc f => match acc with
                    | some ks => match cellsT P d f.type with
                      | some l => if f.offset = ks.length ∧ P.cellsOf f.type = l.length then some (ks ++ l) else none
                      | none => none
                    | none => none) none = (none : Option (List CK)) := by
                    intro l; induction l with
                    | nil => rfl
                    | cons a l ih => simpa using ih
                  cases hl2 : cellsT P d f.type with
                  | none => rw [hl2] at he; simp only at he; rw [hnone] at he; cases he
                  | some lk =>
                    rw [hl2] at he
                    simp only at he
                    by_cases hc : f.offset = acc.length ∧ P.cellsOf f.type = lk.length
                    · rw [if_pos hc] at he
                      obtain ⟨y, hy⟩ := hf f (by simp)
                      have := ih fuel f.type _ y lk hl2 hy
                      rw [hc.1, hc.2] at this
                      have hap := ha.append this
                      refine ih2 (acc ++ lk) ks (fun g hg => hf g (by simp [hg])) ?_ he
                      rw [List.length_append, List.take_add]
                      exact hap
                    · rw [if_neg hc, hnone] at he; cases he
              split at hg
              case h_2 => cases hg
              case h_1 ks' he =>
                split at hg
                case isFalse => cases hg
                case isTrue hc =>
                  cases hg
                  have := key _ fs.toList [] ks (fun f hf => by
                    obtain ⟨i, hi⟩ := List.getElem?_of_mem hf
                    obtain ⟨y, _, h2⟩ := (mapM_get _ _ hy).2 i f hi
                    exact ⟨y, h2⟩) ⟨by simp, fun i k v hk => by simp at hk⟩ he
                  rw [List.take_of_length_le (by rw [hl, hc]; exact Nat.le_refl _)] at this
                  exact this

end Go.V
end
section
set_option linter.unusedVariables false
set_option linter.unusedSimpArgs false
namespace Go.V
set_option linter.unusedSectionVars false
variable [Inhabited GivT]
open Go.ChangeShapes
theorem AV.Le.rslD {n st : Nat} {f g : Nat → List AV} (h : ∀ i, i < n → (g i).length = st ∧ ∀ j, j < st → AV.Le ((f i).getD j .any) ((g i).getD j .any)) : AV.Le (.rsl n st f) (.rsl n st g) := by
  intro S v hv
  cases hv with
  | rsl0 => exact .rsl0
  | rsl hi hb hsz hf hh hcap => exact .rsl hi hb hsz (fun i hi => (h i hi).1) (fun i j hi hj => (h i hi).2 j hj _ _ (hh i j hi hj)) hcap
theorem AV.Le.aggD {cs ds : List AV} (hl : ds.length = cs.length) (h : ∀ j, j < cs.length → AV.Le (cs.getD j .any) (ds.getD j .any)) : AV.Le (.agg cs) (.agg ds) := by
  intro S v hv
  cases hv with
  | agg hn hh => exact .agg (hn.trans hl.symm) fun k hk => h k (by omega) _ _ (hh k (by omega))

/-- Cells that are told. -/
def Told (ks : List CK) (cs : List AV) : Prop := cs.length = ks.length ∧ ∀ j k, ks[j]? = some k → CKA k (cs.getD j .any)

/-- A struct that is handed in. -/
theorem trod_agg {H : Type} {enc : TypeId × Value → H} {P : Program} {W : World} {held : Bool} {sp : Nat → Bool} {t dd : Nat} {v : Value} {d : DataW H} {ps : List MemPlace} {ks : List CK}
    (hk : cellsT P dd t = some ks) (hn : 2 ≤ ks.length) (h : DataW.Trod enc P W 0 sp held t v d ps) : ∃ cs : List AV, Told ks cs ∧ VRel (st0 W) (.agg cs) v := by
  obtain ⟨fuel, h⟩ := h
  obtain ⟨hl, hz⟩ := trod_cells dd fuel t _ _ ks hk h
  cases v with
  | agg vs =>
    simp only [Value.cells] at hl hz
    have hl2 : vs.size = ks.length := by simpa using hl
    have hch : ∀ j : Nat, ∃ av : AV, ∀ (k : CK) (u : Value), ks[j]? = some k → vs[j]? = some u → CKA k av ∧ VRel (st0 W) av u := fun j => by
      cases hkj : ks[j]? with
      | none => exact ⟨.any, fun k u h => by cases h⟩
      | some k =>
        cases hvj : vs[j]? with
        | none => exact ⟨.any, fun k u _ h => by cases h⟩
        | some u =>
          obtain ⟨av, h1, h2⟩ := hz j k u hkj (by simpa using hvj)
          exact ⟨av, fun k' u' e1 e2 => by cases e1; cases e2; exact ⟨h1, h2⟩⟩
    obtain ⟨F, hF⟩ := Classical.axiomOfChoice hch
    have hget : ∀ j, j < ks.length → ((List.range ks.length).map F).getD j .any = F j := fun j hj => by
      rw [List.getD_eq_getElem?_getD, List.getElem?_map, List.getElem?_range hj]; rfl
    refine ⟨(List.range ks.length).map F, ⟨by simp, fun j k hk => ?_⟩, .agg (by simpa using hl2) fun j hj => ?_⟩
    · have hj := (List.getElem?_eq_some_iff.1 hk).1
      rw [hget j hj]
      exact (hF j k vs[j] hk (by simp [show j < vs.size by omega])).1
    · have hj : j < ks.length := by simpa using hj
      rw [hget j hj, Array.getD_eq_getD_getElem?, Array.getElem?_eq_getElem (by omega)]
      exact (hF j ks[j] vs[j] (List.getElem?_eq_getElem hj) (by simp [show j < vs.size by omega])).2
  | _ => simp [Value.cells] at hl; omega
/-- A slice of what can be told. -/
theorem told_slice {α : Type} {ks : List CK} (en : α → List AV) (d0 : α) (hd : ∀ cs, Told ks cs → ∃ x : α, (en x).length = ks.length ∧ ∀ j, j < ks.length → AV.Le (cs.getD j .any) ((en x).getD j .any)) {av : AV} (h : CKA (.sl ks) av) :
    ∃ l : List α, l.length ≤ maxLen ∧ AV.Le av (.rsl l.length ks.length fun i => en (l.getD i d0)) := by
  cases h with
  | @sl _ n f hn hl hh =>
    have hch : ∀ i, ∃ x : α, i < n → (en x).length = ks.length ∧ ∀ j, j < ks.length → AV.Le ((f i).getD j .any) ((en x).getD j .any) := fun i => by
      by_cases hi : i < n
      · obtain ⟨x, h1⟩ := hd (f i) ⟨hl i hi, fun j k hk => hh i j k hi hk⟩
        exact ⟨x, fun _ => h1⟩
      · exact ⟨d0, fun x => absurd x hi⟩
    obtain ⟨F, hF⟩ := Classical.axiomOfChoice hch
    refine ⟨(List.range n).map F, by simpa using hn, ?_⟩
    rw [List.length_map, List.length_range]
    refine AV.Le.rslD fun i hi => ?_
    have e : ((List.range n).map F).getD i d0 = F i := by
      rw [List.getD_eq_getElem?_getD, List.getElem?_map, List.getElem?_range hi]; rfl
    rw [e]
    exact hF i hi
theorem told_int {cs : List AV} {k : IntKind} (j : Nat) {ks : List CK} (h : Told ks cs) (hk : ks[j]? = some (.int k)) : ∃ z : Int, cs.getD j .any = .lit (.int k z) ∧ (Lit.int k z).wf = true := by
  have := h.2 j _ hk
  generalize cs.getD j .any = x at *
  cases this with
  | int hw => exact ⟨_, rfl, hw⟩
end Go.V
end
section
set_option linter.unusedVariables false
set_option linter.unusedSimpArgs false
set_option maxHeartbeats 4000000
set_option maxRecDepth 100000
namespace Go.Proofs.Ytliomkpmadpibaa
open Go.V
/-- Too large to be looked at. -/
def farB (p : Pt) (n : Nat) : Bool := decide ((40 : Int) < max (max (p.fs.length : Int) (p.ps.length : Int)) (n : Int))
theorem far_near {p : Pt} {n : Nat} (h : farB p n = false) : Near p ∧ n ≤ 40 := by
  have := of_decide_eq_false h
  exact ⟨⟨by omega, by omega⟩, by omega⟩
theorem far0_tri (p : Pt) (H : Hp) : PTri Try.prog (fnA 13) [p.av, nilA] H (boo (farB p 0)) := by
  refine tri_v0 (fun _ => false) Try.func13 (by kernel_rfl) rfl (by simp only [List.length_append, List.length_cons, List.length_nil, Try.ntmps13]; decide) ?_
  simp only [vsAll, binA, binLitA, intA, loadA, loadRow, partA, partOk, fieldAddrA, lenA, boxA, boxZ, mmA, okAll, stAll, opsA, opA, dstOk, nilA, nilSliceOp, resA, argFr, retA.eq_1, Nat.reduceAdd, Nat.reduceLT, Nat.reduceEqDiff, ↓reduceIte, eq_self, wtAll, Try.ntmps13, Try.results13]
  rfl
def fineB (p : Pt) : Bool := !farB p 0 && decide (Ok p)
theorem fine_ok {p : Pt} (h : fineB p = true) : Ok p ∧ Near p := by
  unfold fineB at h
  rw [Bool.and_eq_true, Bool.not_eq_true', decide_eq_true_eq] at h
  exact ⟨h.2, (far_near h.1).1⟩
theorem fine_tri (p : Pt) (H : Hp) : PTri Try.prog (fnA 33) [p.av] H (boo (fineB p)) := by
  refine tri_v0 (fun _ => false) Try.func33 (by kernel_rfl) rfl (by simp only [List.length_append, List.length_cons, List.length_nil, Try.ntmps33]; decide) ?_
  simp only [vsAll, loadA, loadRow, partA, partOk, boxA, boxZ, okAll, stAll, opsA, opA, dstOk, nilSliceOp, argFr, Nat.reduceAdd, Nat.reduceLT, Nat.reduceEqDiff, ↓reduceIte, eq_self, wtAll, Try.ntmps33]
  refine callK_pure (far0_tri p _) ?_
  simp only [vsAll, unA, loadA, loadRow, partA, partOk, opA, guardV, dstOk, Nat.reduceLT, Nat.reduceEqDiff, ↓reduceIte, implies_true, eq_self, wtAll]
  refine gcall (boo (decide (Ok p))) (fun hg => ⟨by simp only [vsAll, opA], by simp only [vsAll, okAll, opsA, opA, ↓reduceIte, eq_self, hg], rpitch_tri p _ (far_near (by simpa using hg)).1⟩) ?_
  simp only [vsAll, pickA, opA, dstOk, nilSliceOp, resA, retA.eq_1, Nat.reduceLT, Nat.reduceEqDiff, ↓reduceIte, implies_true, eq_self, Try.results33]
  exact congrArg (fun b => Res.ret (boo b)) (by unfold fineB; cases farB p 0 <;> rfl)
def hevB (p : Pt) (most : Int) : Bool := if farB p 0 = true then true else if Ok p then decide (most < ((max 1 (p.fs.length * p.H)) ^ p.ps.length : Nat)) else false
theorem ret_le {P : Program} {fv : AV} {args : List AV} {H : Hp} {v v' : AV} (h : PTri P fv args H v) (hle : AV.Le v v') : PTri P fv args H v' := by
  intro S vf vs hH hvf ha
  obtain ⟨nx, h1, h2⟩ := h S vf vs hH hvf ha
  have ho : ∀ e w, Out S (fun r H' => r = .ret v ∧ H' = H) e w → Out S (fun r H' => r = .ret v' ∧ H' = H) e w := by
    rintro e w ⟨S', r, H', hw, hl, hH', hrr, rfl, rfl⟩
    refine ⟨S', .ret v', H', hw, hl, hH', ?_, rfl, rfl⟩
    cases e with
    | returned cv => exact hle S' cv hrr
    | panicked ch => exact hrr.elim
    | outgrown => exact hrr.elim
  refine ⟨nx, h1, ?_⟩
  cases nx <;> simp only [NextOk] at h2 ⊢
  · exact Calls.mono h2 ho
  · exact h2.mono ho
abbrev smR : AV := .rsl 8 2 fun i => [[i64 5, i64 6], [i64 4, i64 5], [i64 6, i64 6], [i64 3, i64 4], [i64 5, i64 5], [i64 5, i64 6], [i64 2, i64 3], [i64 6, i64 6]].getD i []
def smP (by_ : Int) : Pt := ⟨8, 1, 16, [4, 0], [⟨4, 0, 8⟩, ⟨6, 0, by_⟩]⟩
theorem sample_tri (n : Int) (H : Hp) : PTri Try.prog (fnA 44) [i64 n] H (smP n).av := by
  refine ret_le (v := .agg [i64 8, i64 1, i64 16, .rsl 2 1 (fun i => [[i64 4], [i64 0]].getD i []), .rsl 2 3 (fun i => [[i64 4, i64 0, i64 8], [i64 6, i64 0, i64 n]].getD i [])]) ?_ ?_
  · refine Tri.drop ?_
    refine tri_v0 (fun _ => false) Try.func44 (by kernel_rfl) rfl (by simp only [List.length_append, List.length_cons, List.length_nil, Try.ntmps44]; decide) ?_
    simp only [vsAll, loadA, loadRow, partA, partOk, cellA, cellsA, fillA, okParts, buildSliceA, partIdx, elemsA, lensA, partsA, partsOk, opA, allocA, newCells, okCells, storeObj, dstOk, resA, argFr, retA.eq_1, Nat.reduceAdd, Nat.reduceMul, Nat.reduceLT, Nat.reduceLeDiff, Nat.reduceEqDiff, ↓reduceIte, reduceCtorEq, eq_self, wtAll, Try.ntmps44, Try.results44]
    intro i2 hh_i2; (try simp only [Hp.set_none, ite_none] at hh_i2)
    exact dropR_pure rfl (by (repeat (first | exact HSub_rfl | refine HSub_put_eq (by simp only [vsAll, binA, binLitA, intA, aggA, aggV, boolA, nilA2, isConst, unA, loadA, loadRow, partA, partOk, fieldAddrA, indexAddrA, indexA, fieldA, extractA, lenA, nilCheckA, boxA, boxZ, cellA, cellsA, fillA, okParts, buildSliceA, buildMutA, makeSliceA, partIdx, elemsA, lensA, ifaceA, convA, mmA, pickA, okAll, stAll, opsA, partsA, partsOk, opA, allocA, boxMutA, newCells, okCells, storeObj, appendA, guardV, taA, nM, mapUpA, lookA, sliceA, sliceS, boundsA, opO, okO, copyA, dstOk, nilA, quietOk, nilSliceOp, deferV, panA, resA, argFr, retA.eq_1, retA.eq_2, Nat.reduceAdd, Nat.reduceSub, Nat.reduceMul, Nat.reduceLT, Nat.reduceLeDiff, Nat.reduceEqDiff, Nat.reduceBEq, Int.reduceAdd, Int.reduceSub, Int.reduceMul, Int.reduceNeg, Int.reduceLE, Int.reduceLT, Int.reduceEq, Int.reduceNe, Int.reduceToNat, ↓reduceIte, reduceCtorEq, implies_true, forall_const, eq_self, ne_eq, arrL, wtAll, Try.ntmps44, Try.results44, hh_i2]) ?_ | refine HSub_drop2 (by simp only [eq_self, hh_i2]) ?_ | refine HSub_keep_eq (by simp only [vsAll, binA, binLitA, intA, aggA, aggV, boolA, nilA2, isConst, unA, loadA, loadRow, partA, partOk, fieldAddrA, indexAddrA, indexA, fieldA, extractA, lenA, nilCheckA, boxA, boxZ, cellA, cellsA, fillA, okParts, buildSliceA, buildMutA, makeSliceA, partIdx, elemsA, lensA, ifaceA, convA, mmA, pickA, okAll, stAll, opsA, partsA, partsOk, opA, allocA, boxMutA, newCells, okCells, storeObj, appendA, guardV, taA, nM, mapUpA, lookA, sliceA, sliceS, boundsA, opO, okO, copyA, dstOk, nilA, quietOk, nilSliceOp, deferV, panA, resA, argFr, retA.eq_1, retA.eq_2, Nat.reduceAdd, Nat.reduceSub, Nat.reduceMul, Nat.reduceLT, Nat.reduceLeDiff, Nat.reduceEqDiff, Nat.reduceBEq, Int.reduceAdd, Int.reduceSub, Int.reduceMul, Int.reduceNeg, Int.reduceLE, Int.reduceLT, Int.reduceEq, Int.reduceNe, Int.reduceToNat, ↓reduceIte, reduceCtorEq, implies_true, forall_const, eq_self, ne_eq, arrL, wtAll, Try.ntmps44, Try.results44, hh_i2]) ?_)))
  · refine AV.Le.aggD rfl fun j hj => ?_
    match j, hj with
    | 0, _ => exact AV.Le.refl _
    | 1, _ => exact AV.Le.refl _
    | 2, _ => exact AV.Le.refl _
    | 3, _ =>
      refine AV.Le.rsl fun i hi => ?_
      match i, hi with
      | 0, _ => rfl
      | 1, _ => rfl
    | 4, _ =>
      refine AV.Le.rsl fun i hi => ?_
      match i, hi with
      | 0, _ => rfl
      | 1, _ => rfl
theorem span_tri (a b : Int) (H : Hp) : PTri Try.prog (fnA 45) [i64 a, i64 b] H (.agg [i64 a, i64 b]) := by
  refine Tri.drop ?_
  refine tri_v0 (fun _ => false) Try.func45 (by kernel_rfl) rfl (by simp only [List.length_append, List.length_cons, List.length_nil, Try.ntmps45]; decide) ?_
  simp only [vsAll, loadA, loadRow, partA, partOk, cellA, cellsA, fillA, okParts, partsA, partsOk, opA, allocA, newCells, okCells, storeObj, dstOk, resA, argFr, retA.eq_1, Nat.reduceAdd, Nat.reduceLT, Nat.reduceLeDiff, Nat.reduceEqDiff, ↓reduceIte, reduceCtorEq, eq_self, wtAll, Try.ntmps45, Try.results45]
  intro i4 hh_i4; (try simp only [Hp.set_none, ite_none] at hh_i4)
  refine dropR_pure ?_ (by (repeat (first | exact HSub_rfl | refine HSub_put_eq (by simp only [vsAll, binA, binLitA, intA, aggA, aggV, boolA, nilA2, isConst, unA, loadA, loadRow, partA, partOk, fieldAddrA, indexAddrA, indexA, fieldA, extractA, lenA, nilCheckA, boxA, boxZ, cellA, cellsA, fillA, okParts, buildSliceA, buildMutA, makeSliceA, partIdx, elemsA, lensA, ifaceA, convA, mmA, pickA, okAll, stAll, opsA, partsA, partsOk, opA, allocA, boxMutA, newCells, okCells, storeObj, appendA, guardV, taA, nM, mapUpA, lookA, sliceA, sliceS, boundsA, opO, okO, copyA, dstOk, nilA, quietOk, nilSliceOp, deferV, panA, resA, argFr, retA.eq_1, retA.eq_2, Nat.reduceAdd, Nat.reduceSub, Nat.reduceMul, Nat.reduceLT, Nat.reduceLeDiff, Nat.reduceEqDiff, Nat.reduceBEq, Int.reduceAdd, Int.reduceSub, Int.reduceMul, Int.reduceNeg, Int.reduceLE, Int.reduceLT, Int.reduceEq, Int.reduceNe, Int.reduceToNat, ↓reduceIte, reduceCtorEq, implies_true, forall_const, eq_self, ne_eq, arrL, wtAll, Try.ntmps45, Try.results45, hh_i4]) ?_ | refine HSub_drop2 (by simp only [eq_self, hh_i4]) ?_ | refine HSub_keep_eq (by simp only [vsAll, binA, binLitA, intA, aggA, aggV, boolA, nilA2, isConst, unA, loadA, loadRow, partA, partOk, fieldAddrA, indexAddrA, indexA, fieldA, extractA, lenA, nilCheckA, boxA, boxZ, cellA, cellsA, fillA, okParts, buildSliceA, buildMutA, makeSliceA, partIdx, elemsA, lensA, ifaceA, convA, mmA, pickA, okAll, stAll, opsA, partsA, partsOk, opA, allocA, boxMutA, newCells, okCells, storeObj, appendA, guardV, taA, nM, mapUpA, lookA, sliceA, sliceS, boundsA, opO, okO, copyA, dstOk, nilA, quietOk, nilSliceOp, deferV, panA, resA, argFr, retA.eq_1, retA.eq_2, Nat.reduceAdd, Nat.reduceSub, Nat.reduceMul, Nat.reduceLT, Nat.reduceLeDiff, Nat.reduceEqDiff, Nat.reduceBEq, Int.reduceAdd, Int.reduceSub, Int.reduceMul, Int.reduceNeg, Int.reduceLE, Int.reduceLT, Int.reduceEq, Int.reduceNe, Int.reduceToNat, ↓reduceIte, reduceCtorEq, implies_true, forall_const, eq_self, ne_eq, arrL, wtAll, Try.ntmps45, Try.results45, hh_i4]) ?_)))
  rfl
theorem sm_ok : Ok (smP 8) ∧ Ok (smP 3) := by decide +kernel
theorem sm1 : hotS (smP 8) 0 3 = (5, 6) := by decide +kernel
theorem sm2 : hotE (smP 8) 0 3 = 0 := by decide +kernel
theorem sm3 : ((stV (smP 8) 1 0 : Nat) : Int) = 56 := by decide +kernel
theorem sm4 : stE (smP 8) 1 0 = 0 := by decide +kernel
theorem sm5 : ((checkW (smP 8) [(1, 0), (1, 2)] : Nat) : Int) = 1 := by decide +kernel
theorem sm6 : checkR (smP 8) [(1, 0), (1, 2)] = 4 := by decide +kernel
theorem sm7 : checkE (smP 8) [(1, 0), (1, 2)] = 0 := by decide +kernel
theorem sm8 : ((cntV (smP 8) : Nat) : Int) = 60 := by decide +kernel
theorem sm9 : cntE (smP 8) = 0 := by decide +kernel
theorem sm10 : bestV (smP 8) = 6 := by decide +kernel
theorem sm11 : bestP (smP 8) = [(0, 3), (1, 0)] := by decide +kernel
theorem sm12 : rgtE (smP 8) true = 0 := by decide +kernel
theorem sm13 : latV (smP 8) 1 = 5 := by decide +kernel
theorem sm14 : latE (smP 8) 1 = 0 := by decide +kernel
theorem sm15 : ((fewN (smP 8) : Nat) : Int) = 2 := by decide +kernel
theorem sm16 : ((clV (smP 3) : Nat) : Int) = 2 := by decide +kernel
theorem sm17 : clE (smP 3) = 0 := by decide +kernel
theorem sm18 : bestA (smP 8) = plsAV [(0, 3), (1, 0)] := by rw [bestA, if_pos sm12, sm11]
theorem eq_sp : eqT Try.prog 30 2 := eqT_of (by kernel_rfl) (by kernel_rfl) (by kernel_rfl) (by kernel_rfl) (by kernel_rfl)
theorem two_le (a b c d : Int) : AV.Le (.rsl 2 2 (fun i => [[i64 a, i64 b], [i64 c, i64 d]].getD i [])) (plsAV [(a, b), (c, d)]) := AV.Le.rsl fun i hi => by
  match i, hi with
  | 0, _ => rfl
  | 1, _ => rfl
theorem awake_tri (H : Hp) : PTri Try.prog (fnA 14) [] H (boo true) := by
  have k8 := sm_ok.1
  have k3 := sm_ok.2
  have n8 : Near (smP 8) := ⟨by decide, by decide⟩
  have n3 : Near (smP 3) := ⟨by decide, by decide⟩
  refine Tri.drop ?_
  refine tri_v0 (fun _ => false) Try.func14 (by kernel_rfl) rfl (by simp only [List.length_append, List.length_nil, Try.ntmps14]; decide) ?_
  simp only [vsAll, okAll, stAll, opsA, opA, dstOk, nilSliceOp, Nat.reduceLT, eq_self, Try.ntmps14]
  refine callK_pure (sample_tri 8 _) ?_
  simp only [vsAll, loadA, loadRow, partA, partOk, cellA, okAll, stAll, opsA, opA, allocA, newCells, okCells, storeObj, dstOk, Nat.reduceAdd, Nat.reduceLT, Nat.reduceEqDiff, ↓reduceIte, eq_self, wtAll]
  intro i1 hh_i1; (try simp only [Hp.set_none, ite_none] at hh_i1)
  refine callK_pure (whot_tri (smP 8) 0 3 _ n8) ?_
  simp only [vsAll, loadA, loadRow, partA, partOk, extractA, cellA, okAll, stAll, opsA, opA, allocA, newCells, okCells, storeObj, dstOk, nilSliceOp, Nat.reduceAdd, Nat.reduceLT, Nat.reduceEqDiff, ↓reduceIte, eq_self, wtAll, sm1, sm2]
  intro i2 hh_i2; (try simp only [ite_none] at hh_i2)
  simp only [vsAll, Nat.reduceLT, ↓reduceIte, eq_self, hh_i2]
  refine callK_pure (wstarts_tri (smP 8) 1 0 _ n8) ?_
  simp only [vsAll, loadA, loadRow, partA, partOk, extractA, cellA, cellsA, fillA, okParts, buildSliceA, partIdx, elemsA, lensA, okAll, stAll, opsA, partsA, partsOk, opA, dstOk, nilSliceOp, Nat.reduceAdd, Nat.reduceMul, Nat.reduceLT, Nat.reduceLeDiff, Nat.reduceEqDiff, ↓reduceIte, eq_self, wtAll, hh_i2, sm3, sm4]
  refine callK_pure (Tri.args (args' := [(smP 8).av, plsAV [(1, 0), (1, 2)]]) (wcheck_tri (smP 8) [(1, 0), (1, 2)] _ n8 (by decide)) rfl fun j hj => ?_) ?_
  · match j, hj with
    | 0, _ => exact AV.Le.refl _
    | 1, _ => exact two_le 1 0 1 2
  simp only [vsAll, loadA, loadRow, partA, partOk, extractA, okAll, stAll, opsA, opA, dstOk, nilSliceOp, Nat.reduceAdd, Nat.reduceLT, Nat.reduceEqDiff, ↓reduceIte, eq_self, wtAll, hh_i2, sm5, sm6, sm7]
  refine callK_pure (wcount_tri (smP 8) _ n8) ?_
  simp only [vsAll, loadA, loadRow, partA, partOk, extractA, okAll, stAll, opsA, opA, dstOk, nilSliceOp, Nat.reduceAdd, Nat.reduceLT, Nat.reduceEqDiff, ↓reduceIte, eq_self, wtAll, hh_i2, sm8, sm9]
  refine callK_pure (wbest_tri (smP 8) _ n8) ?_
  simp only [vsAll, loadA, loadRow, partA, partOk, extractA, okAll, stAll, opsA, opA, dstOk, nilSliceOp, Nat.reduceAdd, Nat.reduceLT, Nat.reduceEqDiff, ↓reduceIte, eq_self, wtAll, hh_i2, sm10, sm12, sm18]
  refine callK_pure (wlatest_tri (smP 8) 1 _ n8) ?_
  simp only [vsAll, loadA, loadRow, partA, partOk, extractA, okAll, stAll, opsA, opA, dstOk, nilSliceOp, Nat.reduceAdd, Nat.reduceLT, Nat.reduceEqDiff, ↓reduceIte, eq_self, wtAll, hh_i2, sm13, sm14]
  refine callK_pure (wfewest_tri (smP 8) _ n8) ?_
  simp only [vsAll, extractA, okAll, stAll, opsA, opA, dstOk, nilSliceOp, Nat.reduceAdd, Nat.reduceLT, Nat.reduceEqDiff, ↓reduceIte, eq_self, sm15, sm12]
  refine callK_pure (sample_tri 3 _) ?_
  simp only [vsAll, okAll, stAll, opsA, opA, dstOk, Nat.reduceLT, ↓reduceIte, eq_self]
  refine callK_pure (wclash_tri (smP 3) _ n3) ?_
  simp only [vsAll, extractA, opA, dstOk, nilSliceOp, Nat.reduceAdd, Nat.reduceLT, Nat.reduceEqDiff, ↓reduceIte, eq_self, sm16, sm17]
  refine vs_draw2 [0, 0, 0, 0, 0, 0, 0, 0, 0, 0, 0, 0, 0, 0, 0, 0, 0, 0, 0, 0, 0, 0, 0, 0, 0, 0, 0, 0, 0, 0, 0, 0, 0, 0, 0] [] [0, 1, 2, 3, 4, 5, 6, 7, 8, 9, 10, 11, 12, 13, 14, 15, 16, 17, 18, 19, 20, 21, 22, 23, 24, 25, 26, 27, 28, 29, 30, 31, 32, 33, 34] (by decide +kernel) ?_
  simp only [vsAll, loadA, loadRow, partA, partOk, opA, dstOk, Nat.reduceLT, Nat.reduceEqDiff, ↓reduceIte, eq_self, wtAll]
  refine qcall _ ⟨trivial, by simp only [vsAll, okAll, opsA, opA], span_tri 5 6 _⟩ ?_
  simp only [vsAll, binA, binLitA, intA, aggA, cellA, cellsA, fillA, okParts, buildSliceA, partIdx, elemsA, lensA, pickA, partsA, partsOk, opA, guardV, dstOk, Nat.reduceAdd, Nat.reduceMul, Nat.reduceLT, Nat.reduceLeDiff, Nat.reduceEqDiff, ↓reduceIte, implies_true, eq_self, wtAll]
  refine ⟨eq_sp, gcall (boo true) (fun hg => ⟨by simp only [vsAll, opA], by simp only [vsAll, okAll, opsA, opA, Nat.reduceEqDiff, ↓reduceIte, eq_self], Tri.args (args' := [plsAV [(0, 3), (1, 0)], plsAV [(0, 3), (1, 0)]]) (rsame_tri [(0, 3), (1, 0)] [(0, 3), (1, 0)] _ (by decide) (by decide)) rfl fun j hj => ?_⟩) ?_⟩
  · match j, hj with
    | 0, _ => exact AV.Le.refl _
    | 1, _ => exact two_le 0 3 1 0
  simp only [vsAll, binA, binLitA, intA, pickA, opA, guardV, dstOk, nilSliceOp, resA, retA.eq_1, Nat.reduceLT, Nat.reduceEqDiff, ↓reduceIte, implies_true, eq_self, Try.results14]
  exact dropR_pure rfl (by (repeat (first | exact HSub_rfl | refine HSub_put_eq (by simp only [vsAll, binA, binLitA, intA, aggA, aggV, boolA, nilA2, isConst, unA, loadA, loadRow, partA, partOk, fieldAddrA, indexAddrA, indexA, fieldA, extractA, lenA, nilCheckA, boxA, boxZ, cellA, cellsA, fillA, okParts, buildSliceA, buildMutA, makeSliceA, partIdx, elemsA, lensA, ifaceA, convA, mmA, pickA, okAll, stAll, opsA, partsA, partsOk, opA, allocA, boxMutA, newCells, okCells, storeObj, appendA, guardV, taA, nM, mapUpA, lookA, sliceA, sliceS, boundsA, opO, okO, copyA, dstOk, nilA, quietOk, nilSliceOp, deferV, panA, resA, argFr, retA.eq_1, retA.eq_2, Nat.reduceAdd, Nat.reduceSub, Nat.reduceMul, Nat.reduceLT, Nat.reduceLeDiff, Nat.reduceEqDiff, Nat.reduceBEq, Int.reduceAdd, Int.reduceSub, Int.reduceMul, Int.reduceNeg, Int.reduceLE, Int.reduceLT, Int.reduceEq, Int.reduceNe, Int.reduceToNat, ↓reduceIte, reduceCtorEq, implies_true, forall_const, eq_self, ne_eq, arrL, wtAll, Try.ntmps14, Try.results14, hh_i1, hh_i2]) ?_ | refine HSub_drop2 (by simp only [eq_self, hh_i1, hh_i2]) ?_ | refine HSub_keep_eq (by simp only [vsAll, binA, binLitA, intA, aggA, aggV, boolA, nilA2, isConst, unA, loadA, loadRow, partA, partOk, fieldAddrA, indexAddrA, indexA, fieldA, extractA, lenA, nilCheckA, boxA, boxZ, cellA, cellsA, fillA, okParts, buildSliceA, buildMutA, makeSliceA, partIdx, elemsA, lensA, ifaceA, convA, mmA, pickA, okAll, stAll, opsA, partsA, partsOk, opA, allocA, boxMutA, newCells, okCells, storeObj, appendA, guardV, taA, nM, mapUpA, lookA, sliceA, sliceS, boundsA, opO, okO, copyA, dstOk, nilA, quietOk, nilSliceOp, deferV, panA, resA, argFr, retA.eq_1, retA.eq_2, Nat.reduceAdd, Nat.reduceSub, Nat.reduceMul, Nat.reduceLT, Nat.reduceLeDiff, Nat.reduceEqDiff, Nat.reduceBEq, Int.reduceAdd, Int.reduceSub, Int.reduceMul, Int.reduceNeg, Int.reduceLE, Int.reduceLT, Int.reduceEq, Int.reduceNe, Int.reduceToNat, ↓reduceIte, reduceCtorEq, implies_true, forall_const, eq_self, ne_eq, arrL, wtAll, Try.ntmps14, Try.results14, hh_i1, hh_i2]) ?_)))
theorem bestA_ok (p : Pt) : (bestA p).ok = True := by
  unfold bestA
  split
  · exact eq_true trivial
  · exact eq_true trivial
theorem bestA_st (p : Pt) : (bestA p).st = bestA p := by
  unfold bestA
  split
  · rfl
  · rfl
end Go.Proofs.Ytliomkpmadpibaa
end
section
set_option linter.unusedVariables false
namespace Go.Proofs.Ytliomkpmadpibaa
open Go.V
def byF (b : Nat → Int) : Nat → List AV := fun i => [.lit (.int .u8 (b i))]
theorem byF_at (b : Nat → Int) (i : Nat) : byF b i = [.lit (.int .u8 (b i))] := rfl
end Go.Proofs.Ytliomkpmadpibaa
end
section
set_option linter.unusedVariables false
set_option linter.unusedSimpArgs false
set_option maxHeartbeats 4000000
set_option maxRecDepth 100000
namespace Go.Proofs.Ytliomkpmadpibaa
open Go.V
def woP (p : Pt) (S : Nat) : Pt := { p with fs := wthF p S }
end Go.Proofs.Ytliomkpmadpibaa
end
section
set_option linter.unusedVariables false
set_option linter.unusedSimpArgs false
namespace Go.Proofs.Ytliomkpmadpibaa
open Go.V
def plLt (x y : Int × Int) : Prop := x.1 < y.1 ∨ (x.1 = y.1 ∧ x.2 < y.2)
/-- The first place where two lists differ decides. -/
def lsLt (l m : List (Int × Int)) : Prop := ∃ i, (∀ j, j < i → l.getD j (0, 0) = m.getD j (0, 0)) ∧ plLt (l.getD i (0, 0)) (m.getD i (0, 0))
theorem plLt_ne {x : Int × Int} : ¬ plLt x x := by unfold plLt; omega
theorem lsLt_ne {l : List (Int × Int)} : ¬ lsLt l l := fun ⟨_, _, h⟩ => plLt_ne h
theorem lt_range (n : Nat) : (List.range n).Pairwise (· < ·) := List.pairwise_lt_range
theorem places_lt (p : Pt) : (places p).Pairwise plLt := by
  unfold places
  rw [List.flatMap_def, List.pairwise_flatten]
  refine ⟨fun l hl => ?_, ?_⟩
  · obtain ⟨f, _, rfl⟩ := List.mem_map.1 hl
    rw [List.pairwise_map]
    exact (lt_range p.H).imp fun {a b} h => .inr ⟨rfl, by simp only []; omega⟩
  · rw [List.pairwise_map]
    refine (lt_range p.fs.length).imp fun {a b} h x hx y hy => ?_
    obtain ⟨c, _, rfl⟩ := List.mem_map.1 hx
    obtain ⟨d, _, rfl⟩ := List.mem_map.1 hy
    exact .inl (by simp only []; omega)
theorem take_at {l b : List (Int × Int)} {x : Int × Int} (h : l.take (b ++ [x]).length = b ++ [x]) {j : Nat} (hj : j < b.length + 1) : l.getD j (0, 0) = (b ++ [x]).getD j (0, 0) := by
  rw [← h, List.getD_eq_getElem?_getD, List.getD_eq_getElem?_getD, List.getElem?_take_of_lt (by simp; omega)]
theorem pls_lt (p : Pt) : ∀ (n : Nat) (b : List (Int × Int)), (pls p n b).Pairwise lsLt := by
  intro n
  induction n with
  | zero => intro b; exact List.pairwise_singleton _ _
  | succ n ih =>
    intro b
    simp only [pls]
    rw [List.flatMap_def, List.pairwise_flatten]
    refine ⟨fun l hl => ?_, ?_⟩
    · obtain ⟨x, _, rfl⟩ := List.mem_map.1 hl
      split
      · exact ih _
      · exact List.Pairwise.nil
    · rw [List.pairwise_map]
      refine (places_lt p).imp fun {x y} h l hl m hm => ?_
      split at hl
      · split at hm
        · have h1 := ((mem_pls n _ l).1 hl).2.1
          have h2 := ((mem_pls n _ m).1 hm).2.1
          refine ⟨b.length, fun j hj => ?_, ?_⟩
          · rw [take_at h1 (by omega), take_at h2 (by omega), List.getD_eq_getElem?_getD, List.getD_eq_getElem?_getD, List.getElem?_append_left hj, List.getElem?_append_left hj]
          · rw [take_at h1 (by omega), take_at h2 (by omega)]
            simpa [List.getD_eq_getElem?_getD] using h
        · cases hm
      · cases hl
theorem rpl_lt (p : Pt) : (rpl p).Pairwise lsLt := pls_lt p _ _
theorem rpl_nodup (p : Pt) : (rpl p).Nodup := (rpl_lt p).imp fun {a b} h e => by subst e; exact lsLt_ne h
theorem len_sub {α : Type} [DecidableEq α] : ∀ {l m : List α}, l.Nodup → (∀ x ∈ l, x ∈ m) → l.length ≤ m.length := by
  intro l
  induction l with
  | nil => intro m _ _; exact Nat.zero_le _
  | cons a l ih =>
    intro m hn h
    rw [List.nodup_cons] at hn
    have h1 := ih (m := m.erase a) hn.2 (fun x hx => (List.mem_erase_of_ne (fun e => by subst e; exact hn.1 hx)).2 (h x (List.mem_cons_of_mem _ hx)))
    have ha := h a List.mem_cons_self
    rw [List.length_erase_of_mem ha] at h1
    have := List.length_pos_of_mem ha
    simp only [List.length_cons]
    omega
theorem len_inj {α β : Type} [DecidableEq β] {l : List α} {m : List β} (f : α → β) (hn : l.Nodup) (hf : ∀ x ∈ l, f x ∈ m) (hi : ∀ x ∈ l, ∀ y ∈ l, f x = f y → x = y) : l.length ≤ m.length := by
  have h : (l.map f).Nodup := by
    rw [List.nodup_iff_pairwise_ne, List.pairwise_map]
    exact (List.nodup_iff_pairwise_ne.1 hn).imp_of_mem fun ha hb hab e => hab (hi _ ha _ hb e)
  have := len_sub h (fun y hy => by obtain ⟨x, hx, rfl⟩ := List.mem_map.1 hy; exact hf x hx)
  rwa [List.length_map] at this
end Go.Proofs.Ytliomkpmadpibaa
end
section
set_option linter.unusedVariables false
set_option linter.unusedSimpArgs false
set_option maxHeartbeats 4000000
set_option maxRecDepth 100000
namespace Go.Proofs.Ytliomkpmadpibaa
open Go.V
theorem app_pl (l : List (Int × Int)) (x : Int × Int) (g : Nat → List AV) (hg : g 0 = plC x) : appF l.length 1 (plF l) g = plF (l ++ [x]) := app_lF plC (0, 0) l x g hg
structure PlanM (p : Pt) (l : List (Int × Int)) : Prop where
  pl : ∀ x ∈ l, x ∈ places p
  len : l.length ≤ p.ps.length
def madeR (p : Pt) (H : Hp) : Res → Hp → Prop := fun r H' => H' = H ∧ ∃ l, PlanM p l ∧ r = .ret (plsAV l)
end Go.Proofs.Ytliomkpmadpibaa
end
section
set_option linter.unusedVariables false
set_option linter.unusedSimpArgs false
set_option maxHeartbeats 4000000
set_option maxRecDepth 100000
namespace Go.Proofs.Ytliomkpmadpibaa
open Go.V
theorem planB_of {p : Pt} (k : Ok p) {l : List (Int × Int)} (h1 : l.length = p.ps.length) (h2 : ∀ i, i < l.length → l.getD i (0, 0) ∈ places p) : planB p l = true := by
  rw [planB, Bool.and_eq_true, List.all_eq_true, decide_eq_true_eq]
  refine ⟨fun x hx => ?_, h1⟩
  obtain ⟨i, hi, rfl⟩ := getD_mem (0, 0) hx
  exact (placeB_iff k).2 (h2 i hi)
theorem ck_right {p : Pt} (k : Ok p) {l : List (Int × Int)} : checkE p l = 4 ↔ RightP p l := by
  by_cases hp : planB p l = true
  · obtain ⟨h1, h2⟩ := planB_pl k hp
    rcases ck_facts k hp with ⟨e, _, _, hb⟩ | ⟨e, hw, hr, hn, _⟩
    · exact ⟨fun _ => ⟨h1, h2, hb⟩, fun _ => e⟩
    · exact ⟨fun h => by (rw [e] at h; cases h), fun h => absurd (hr.trans (h.br _ hw)) hn⟩
  · have hp' : planB p l = false := by simpa using hp
    have e : checkE p l = 2 := by
      have he : errE p (planB p l) = 2 := by rw [hp']; exact errE_bad k
      unfold checkE
      rw [if_neg (by rw [he]; decide), he]
    exact ⟨fun h => by (rw [e] at h; cases h), fun h => absurd (planB_of k h.len h.pl) hp⟩
def rtB (p : Pt) (l : List (Int × Int)) : Bool := decide (checkE p l = 4)
theorem rtB_iff {p : Pt} (k : Ok p) {l : List (Int × Int)} : rtB p l = true ↔ RightP p l := by
  unfold rtB; rw [decide_eq_true_eq]; exact ck_right k
theorem right_tri (p : Pt) (l : List (Int × Int)) (H : Hp) (kn : Near p) (hl : l.length ≤ 41) : PTri Try.prog (fnA 36) [p.av, plsAV l] H (boo (rtB p l)) := by
  refine tri_v0 (fun _ => false) Try.func36 (by kernel_rfl) rfl (by simp only [List.length_append, List.length_cons, List.length_nil, Try.ntmps36]; decide) ?_
  simp only [vsAll, loadA, loadRow, partA, partOk, boxA, boxZ, okAll, stAll, opsA, opA, dstOk, nilSliceOp, argFr, Nat.reduceAdd, Nat.reduceLT, Nat.reduceEqDiff, ↓reduceIte, eq_self, wtAll, Try.ntmps36]
  refine callK_pure (wcheck_tri p l _ kn hl) ?_
  simp only [vsAll, binA, binLitA, intA, extractA, opA, dstOk, nilSliceOp, resA, retA.eq_1, Nat.reduceAdd, Nat.reduceLT, Nat.reduceEqDiff, ↓reduceIte, eq_self, Try.results36]
  rfl
end Go.Proofs.Ytliomkpmadpibaa
end
section
set_option linter.unusedVariables false
set_option linter.unusedSimpArgs false
namespace Go.Proofs.Ytliomkpmadpibaa
open Go.V
/-- The best plan is right, ends first, and stands first among those. -/
theorem best_first {p : Pt} (h : rgtE p true = 0) : bestP p ∈ rpl p ∧ bestV p = lastV p (bestP p) ∧ ∀ l ∈ rpl p, bestV p ≤ lastV p l ∧ (lastV p l = bestV p → l = bestP p ∨ lsLt (bestP p) l) := by
  obtain ⟨_, _, h0⟩ := rgtE_zero h
  have eP : bestP p = mnG (lastV p) (rpl p) [] (rpl p).length := if_pos h
  have eV : bestV p = lastV p (bestP p) := if_pos h
  obtain ⟨q, hq, e, h1, h2⟩ := mnG_spec (lastV p) (rpl p) [] h0 (rpl p).length (Nat.le_refl _)
  have eq : bestP p = (rpl p).getD q [] := eP.trans e
  refine ⟨by rw [eq]; exact mem_getD _ q [] hq, eV, fun l hl => ?_⟩
  obtain ⟨j, hj, rfl⟩ := getD_mem [] hl
  rw [eV, eq]
  refine ⟨h1 j hj, fun he => ?_⟩
  have hqj : q ≤ j := by
    rcases Nat.lt_or_ge j q with hlt | hge
    · have := h2 j hlt; omega
    · exact hge
  by_cases ej : j = q
  · subst ej; exact .inl rfl
  · right
    have := List.pairwise_iff_getElem.1 (rpl_lt p) q j hq hj (by omega)
    rw [List.getD_eq_getElem?_getD, List.getD_eq_getElem?_getD, List.getElem?_eq_getElem hq, List.getElem?_eq_getElem hj]
    exact this
theorem lat_all {p : Pt} (h : rgtE p true = 0) {t : Nat} (ht : t < p.ps.length) : latE p t = 0 ∧ (∀ l ∈ rpl p, (l.getD t (0, 0)).2 ≤ latV p t) ∧ ∃ l ∈ rpl p, (l.getD t (0, 0)).2 = latV p t := by
  obtain ⟨k, _, h0⟩ := rgtE_zero h
  have e1 : isPot p t = true := (isPot_iff p _).2 ⟨by omega, by omega⟩
  have eE : latE p t = 0 := by unfold latE; rw [e1]; exact h
  have eV : latV p t = latN (rpl p) t (rpl p).length := by unfold latV; rw [if_pos eE, Int.toNat_natCast]
  have hle := fun m => latN_le (L := rpl p) (t := t) (m := m) (rpl p).length (Nat.le_refl _)
  refine ⟨eE, fun l hl => ?_, ?_⟩
  · rw [eV]
    obtain ⟨j, hj, rfl⟩ := getD_mem [] hl
    exact ((hle _).1 (Int.le_refl _)).2 j hj
  · rw [eV]
    apply Classical.byContradiction
    intro hno
    have hall : ∀ j, j < (rpl p).length → (((rpl p).getD j []).getD t (0, 0)).2 ≤ latN (rpl p) t (rpl p).length - 1 := fun j hj => by
      have h1 := ((hle _).1 (Int.le_refl _)).2 j hj
      have h2 : (((rpl p).getD j []).getD t (0, 0)).2 ≠ latN (rpl p) t (rpl p).length := fun e => hno ⟨_, mem_getD _ j [] hj, e⟩
      omega
    by_cases hz : latN (rpl p) t (rpl p).length ≤ 0
    · have h1 := hall 0 h0
      have hm := mem_rpl.1 (mem_getD (rpl p) 0 [] h0)
      have := mem_places.1 (hm.pl t (by rw [hm.len]; exact ht))
      omega
    · have := (hle (latN (rpl p) t (rpl p).length - 1)).2 ⟨by omega, hall⟩
      omega
end Go.Proofs.Ytliomkpmadpibaa
end
section
set_option linter.unusedVariables false
set_option linter.unusedSimpArgs false
namespace Go.Proofs.Ytliomkpmadpibaa
open Go.V
/-- How often a pot can be put on by itself, fire by fire. -/
def sumA (p : Pt) (i : Nat) : Nat → Nat
  | 0 => 0
  | f + 1 => sumA p i f + pop (stN p i f p.H)
def orA (p : Pt) (i : Nat) : Nat → Nat
  | 0 => 0
  | f + 1 => orA p i f ||| stN p i f p.H
end Go.Proofs.Ytliomkpmadpibaa
end
section
set_option linter.unusedVariables false
set_option linter.unusedSimpArgs false
namespace Go.Proofs.Ytliomkpmadpibaa
open Go.V
/-- A pitch is no harder than another one. -/
structure Eas (p x : Pt) : Prop where
  hr : x.hr = p.hr
  nF : x.fs.length = p.fs.length
  nP : x.ps.length = p.ps.length
  F : ∀ t, (x.F true).testBit t = true → (p.F true).testBit t = true
  f : ∀ i t, (fireN x i).testBit t = true → (fireN p i).testBit t = true
  ht : ∀ i, i < p.ps.length → (x.pot i).ht ≤ (p.pot i).ht
  fr : ∀ i, i < p.ps.length → (x.pot i).fr ≤ (p.pot i).fr
  bb : ∀ i, i < p.ps.length → (p.pot i).bb ≤ (x.pot i).bb
theorem alR_zero {p : Pt} {i : Nat} {x : Int × Int} : alR p i x = 0 ↔ (p.pot i).fr ≤ x.2 ∧ ((hotV p true i x.2.toNat : Nat) : Int) ≤ (p.pot i).bb ∧ ¬ meet (tkN p i x.2.toNat) (fireN p x.1.toNat) = true := by
  unfold alR
  split
  · rename_i h; constructor
    · intro h0; cases h0
    · rintro ⟨h1, _⟩; omega
  · split
    · constructor
      · intro h0; cases h0
      · rintro ⟨_, h1, _⟩; omega
    · split
      · rename_i h; constructor
        · intro h0; cases h0
        · rintro ⟨_, _, h1⟩; exact absurd h h1
      · rename_i h1 h2 h3
        exact ⟨fun _ => ⟨by omega, by omega, h3⟩, fun _ => rfl⟩
theorem brR_zero {p : Pt} {i : Nat} {x : Int × Int} {b : List (Int × Int)} : brR p i x b = 0 ↔ alR p i x = 0 ∧ ∀ j, j < i → ¬ shrB p j (b.getD j (0, 0)) i x = true := by
  unfold brR
  by_cases ha : alR p i x = 0
  · rw [if_pos ha]
    constructor
    · intro h
      refine ⟨ha, fun j hj hs => ?_⟩
      rw [if_pos (List.any_eq_true.2 ⟨j, List.mem_range.2 hj, hs⟩)] at h
      cases h
    · rintro ⟨_, h⟩
      rw [if_neg]
      intro hy
      obtain ⟨j, hj, hs⟩ := List.any_eq_true.1 hy
      exact h j (List.mem_range.1 hj) hs
  · rw [if_neg ha]
    exact ⟨fun h => absurd h ha, fun h => absurd h.1 ha⟩
namespace Eas
variable {p x : Pt} (h : Eas p x)
include h
theorem H : x.H = p.H := by unfold Pt.H; rw [h.hr]
theorem places : places x = places p := by unfold Go.Proofs.Ytliomkpmadpibaa.places; rw [h.nF, h.H]
theorem hot {i : Nat} (hi : i < p.ps.length) {t : Nat} (ht : t ≤ p.H) : hotV x true i t ≤ hotV p true i t := by
  unfold hotV
  rw [h.H]
  exact endN_mono h.F (h.ht i hi) ht
theorem tk {i : Nat} (hi : i < p.ps.length) {t : Nat} (ht : t ≤ p.H) (q : Nat) (hq : (tkN x i t).testBit q = true) : (tkN p i t).testBit q = true := by
  have := h.hot hi ht
  rw [tk_bit (by rw [h.H]; exact ht), h.H] at hq
  rw [tk_bit ht]
  simp only [Bool.and_eq_true, decide_eq_true_eq] at hq ⊢
  omega
theorem al {i : Nat} (hi : i < p.ps.length) {y : Int × Int} (hy : y.2.toNat ≤ p.H) (ha : alR p i y = 0) : alR x i y = 0 := by
  rw [alR_zero] at ha ⊢
  obtain ⟨h1, h2, h3⟩ := ha
  have a1 := h.fr i hi
  have a2 := h.bb i hi
  have a3 := h.hot hi hy
  refine ⟨by omega, by omega, fun hm => h3 ?_⟩
  obtain ⟨t, b1, b2⟩ := meet_iff.1 hm
  exact meet_iff.2 ⟨t, h.tk hi hy t b1, h.f _ t b2⟩
theorem shr {i j : Nat} (hi : i < p.ps.length) (hj : j < p.ps.length) {y z : Int × Int} (hy : y.2.toNat ≤ p.H) (hz : z.2.toNat ≤ p.H) (hs : shrB x j y i z = true) : shrB p j y i z = true := by
  unfold shrB at hs ⊢
  rw [Bool.and_eq_true, decide_eq_true_eq, meet_iff] at hs ⊢
  obtain ⟨h1, t, h2, h3⟩ := hs
  exact ⟨h1, t, h.tk hj hy t h2, h.tk hi hz t h3⟩
theorem right {l : List (Int × Int)} (hl : RightP p l) : RightP x l := by
  refine ⟨by rw [h.nP]; exact hl.len, fun i hi => by rw [h.places]; exact hl.pl i hi, fun i hi => ?_⟩
  have hle : ∀ j, j < l.length → (l.getD j (0, 0)).2.toNat ≤ p.H := fun j hj => by
    have := mem_places.1 (hl.pl j hj)
    omega
  have hb := hl.br i hi
  have e := hl.len
  rw [brR_zero] at hb ⊢
  exact ⟨h.al (by omega) (hle i hi) hb.1, fun j hj hs => hb.2 j hj (h.shr (by omega) (by omega) (hle j (by omega)) (hle i hi) hs)⟩
theorem sub : ∀ l ∈ rpl p, l ∈ rpl x := fun l hl => mem_rpl.2 (h.right (mem_rpl.1 hl))
theorem last {l : List (Int × Int)} (hl : RightP p l) : lastV x l ≤ lastV p l := by
  have h1 := (lastN_le (p := p) (l := l) (m := lastV p l) l.length).1 (Int.le_refl _)
  refine (lastN_le (p := x) (l := l) (m := lastV p l) l.length).2 ⟨h1.1, fun j hj => ?_⟩
  have h2 := h1.2 j hj
  have h3 := mem_places.1 (hl.pl j hj)
  have h4 := h.hot (i := j) (by rw [← hl.len]; exact hj) (t := (l.getD j (0, 0)).2.toNat) (by omega)
  omega
end Eas
end Go.Proofs.Ytliomkpmadpibaa
end
section
set_option linter.unusedVariables false
set_option linter.unusedSimpArgs false
namespace Go.Proofs.Ytliomkpmadpibaa
open Go.V
theorem mem_onX {S x : Nat} : ∀ {i}, x ∈ onX S i ↔ x < i ∧ S.testBit x = true := by
  intro i
  induction i with
  | zero => simp [onX]
  | succ i ih =>
    simp only [onX]
    by_cases hs : S.testBit i = true
    · rw [if_pos hs, List.mem_append, ih, List.mem_singleton]
      constructor
      · rintro (⟨h1, h2⟩ | rfl)
        · exact ⟨by omega, h2⟩
        · exact ⟨by omega, hs⟩
      · rintro ⟨h1, h2⟩
        by_cases e : x = i
        · exact .inr e
        · exact .inl ⟨by omega, h2⟩
    · rw [if_neg hs, ih]
      constructor
      · rintro ⟨h1, h2⟩; exact ⟨by omega, h2⟩
      · rintro ⟨h1, h2⟩
        by_cases e : x = i
        · subst e; exact absurd h2 hs
        · exact ⟨by omega, h2⟩
def setFr (p : Pt) (i : Nat) (v : Int) : Pt := { p with ps := p.ps.set i ⟨(p.pot i).ht, v, (p.pot i).bb⟩ }
end Go.Proofs.Ytliomkpmadpibaa
end
section
set_option linter.unusedVariables false
set_option linter.unusedSimpArgs false
namespace Go.Proofs.Ytliomkpmadpibaa
open Go.V
/-- A set without another one. -/
def dif (a b : Nat) : Nat := a ^^^ (a &&& b)
def lesF (p : Pt) (h : Nat) : Pt := { p with fro := (dif p.fro.toNat (2 ^ h) : Nat) }
def lesP (p : Pt) (h : Nat) : Pt := { p with per := (dif p.per.toNat (2 ^ h) : Nat) }
def setFi (p : Pt) (i : Nat) (v : Int) : Pt := { p with fs := p.fs.set i v }
def setPo (p : Pt) (i : Nat) (t : Po) : Pt := { p with ps := p.ps.set i t }
end Go.Proofs.Ytliomkpmadpibaa
end
section
set_option linter.unusedVariables false
set_option linter.unusedSimpArgs false
set_option maxHeartbeats 4000000
set_option maxRecDepth 100000
namespace Go.Proofs.Ytliomkpmadpibaa
open Go.V
/-- What is known behind the copying. -/
structure MoreA (H : Hp) (y : Nat × Nat × Nat) : Prop where
  h1 : H y.1 = none
  h2 : H y.2.1 = none
  h3 : H y.2.2 = none
  n12 : ¬ y.1 = y.2.1
  n13 : ¬ y.1 = y.2.2
  n23 : ¬ y.2.1 = y.2.2
abbrev mxC (x : Pt) (a b : Nat) : List AV := [i64 x.hr, i64 x.fro, i64 x.per, .sl a 1 x.fs.length, .sl b 3 x.ps.length]
end Go.Proofs.Ytliomkpmadpibaa
end
section
set_option linter.unusedVariables false
set_option linter.unusedSimpArgs false
namespace Go.Proofs.Ytliomkpmadpibaa
open Go.V
/-- The first ones of a list, from behind. -/
def bkL {α : Type} (l : List α) (d : α) : Nat → List α
  | 0 => []
  | i + 1 => bkL l d i ++ [l.getD (l.length - 1 - i) d]
theorem bkL_len {α : Type} (l : List α) (d : α) (i : Nat) : (bkL l d i).length = i := by
  induction i with
  | zero => rfl
  | succ i ih => simp [bkL, ih]
theorem bkL_get {α : Type} (l : List α) (d : α) : ∀ n k, k < n → (bkL l d n).getD k d = l.getD (l.length - 1 - k) d := by
  intro n
  induction n with
  | zero => intro k hk; omega
  | succ n ih =>
    intro k hk
    simp only [bkL]
    rw [getD_snoc, bkL_len]
    by_cases e : k = n
    · subst e; rw [if_pos rfl]
    · rw [if_neg e]; exact ih k (by omega)
def bk {α : Type} (l : List α) (d : α) : List α := bkL l d l.length
theorem bk_len {α : Type} (l : List α) (d : α) : (bk l d).length = l.length := bkL_len _ _ _
theorem bk_get {α : Type} (l : List α) (d : α) {k : Nat} (hk : k < l.length) : (bk l d).getD k d = l.getD (l.length - 1 - k) d := bkL_get _ _ _ _ hk
theorem ext_getG {α : Type} {l l' : List α} (d : α) (hl : l.length = l'.length) (h : ∀ i, i < l.length → l.getD i d = l'.getD i d) : l = l' := by
  refine List.ext_getElem hl fun i h1 h2 => ?_
  have := h i h1
  rwa [List.getD_eq_getElem?_getD, List.getD_eq_getElem?_getD, List.getElem?_eq_getElem h1, List.getElem?_eq_getElem h2] at this
theorem bk_bk {α : Type} (l : List α) (d : α) : bk (bk l d) d = l := by
  refine ext_getG d (by rw [bk_len, bk_len]) fun i hi => ?_
  rw [bk_len, bk_len] at hi
  rw [bk_get _ _ (by rw [bk_len]; exact hi), bk_len, bk_get _ _ (by omega)]
  congr 1
  omega
/-- The pitch, numbered from behind. -/
def turnP (p : Pt) : Pt := { p with fs := bk p.fs 0, ps := bk p.ps po0 }
def turnX (p : Pt) (x : Int × Int) : Int × Int := ((p.fs.length : Int) - 1 - x.1, x.2)
/-- A plan's first places from behind. -/
def turnL (p : Pt) (l : List (Int × Int)) : List (Int × Int) := (List.range l.length).map fun i => turnX p (l.getD (l.length - 1 - i) (0, 0))
theorem turn_turn (p : Pt) : turnP (turnP p) = p := by
  show ({ p with fs := bk (bk p.fs 0) 0, ps := bk (bk p.ps po0) po0 } : Pt) = p
  rw [bk_bk, bk_bk]
theorem turn_nF (p : Pt) : (turnP p).fs.length = p.fs.length := bk_len _ _
theorem turn_nP (p : Pt) : (turnP p).ps.length = p.ps.length := bk_len _ _
theorem turn_ok {p : Pt} (k : Ok p) : Ok (turnP p) := by
  refine ⟨k.hr, by rw [turn_nF]; exact k.nF, by rw [turn_nP]; exact k.nP, k.fro, k.per, fun i hi => ?_, fun i hi => ?_⟩
  · rw [turn_nF] at hi
    show okSet p ((bk p.fs 0).getD i 0)
    rw [bk_get _ _ hi]; exact k.f _ (by omega)
  · rw [turn_nP] at hi
    show okP p ((bk p.ps po0).getD i po0)
    rw [bk_get _ _ hi]; exact k.s _ (by omega)
theorem turn_pot {p : Pt} {i : Nat} (hi : i < p.ps.length) : (turnP p).pot i = p.pot (p.ps.length - 1 - i) := bk_get _ _ hi
theorem turn_fire {p : Pt} {f : Nat} (hf : f < p.fs.length) : fireN (turnP p) f = fireN p (p.fs.length - 1 - f) := by
  unfold fireN
  rw [show (turnP p).fs.getD f 0 = p.fs.getD (p.fs.length - 1 - f) 0 from bk_get _ _ hf]
theorem turn_hot {p : Pt} (b : Bool) {i : Nat} (hi : i < p.ps.length) (h : Nat) : hotV (turnP p) b i h = hotV p b (p.ps.length - 1 - i) h := by
  unfold hotV
  rw [turn_pot hi]; rfl
theorem turn_tk {p : Pt} {i : Nat} (hi : i < p.ps.length) (h : Nat) : tkN (turnP p) i h = tkN p (p.ps.length - 1 - i) h := by
  unfold tkN
  rw [turn_hot _ hi]; rfl
theorem turn_al {p : Pt} {i : Nat} (hi : i < p.ps.length) {x : Int × Int} (hx : 0 ≤ x.1 ∧ x.1 < p.fs.length) : alR (turnP p) i (turnX p x) = alR p (p.ps.length - 1 - i) x := by
  unfold alR turnX
  rw [turn_pot hi, turn_hot _ hi, turn_tk hi, turn_fire (by simp only []; omega)]
  simp only []
  rw [show p.fs.length - 1 - ((p.fs.length : Int) - 1 - x.1).toNat = x.1.toNat by omega]
theorem turn_shr {p : Pt} {i j : Nat} (hi : i < p.ps.length) (hj : j < p.ps.length) (y x : Int × Int) : shrB (turnP p) j (turnX p y) i (turnX p x) = shrB p (p.ps.length - 1 - j) y (p.ps.length - 1 - i) x := by
  unfold shrB turnX
  rw [turn_tk hi, turn_tk hj]
  simp only []
  congr 1
  exact decide_eq_decide.2 (by omega)
theorem shr_comm (p : Pt) (a b : Nat) (x y : Int × Int) : shrB p a x b y = shrB p b y a x := by
  unfold shrB meet
  rw [Nat.and_comm]
  congr 1
  exact decide_eq_decide.2 ⟨fun h => h.symm, fun h => h.symm⟩
theorem right_iff {p : Pt} {l : List (Int × Int)} : RightP p l ↔ l.length = p.ps.length ∧ (∀ i, i < l.length → l.getD i (0, 0) ∈ places p) ∧ (∀ i, i < l.length → alR p i (l.getD i (0, 0)) = 0) ∧ ∀ i j, i < l.length → j < l.length → i ≠ j → ¬ shrB p j (l.getD j (0, 0)) i (l.getD i (0, 0)) = true := by
  constructor
  · intro h
    refine ⟨h.len, h.pl, fun i hi => (brR_zero.1 (h.br i hi)).1, fun i j hi hj hne => ?_⟩
    rcases Nat.lt_or_gt_of_ne hne with hlt | hgt
    · rw [shr_comm]
      exact (brR_zero.1 (h.br j hj)).2 i hlt
    · exact (brR_zero.1 (h.br i hi)).2 j hgt
  · rintro ⟨h1, h2, h3, h4⟩
    exact ⟨h1, h2, fun i hi => brR_zero.2 ⟨h3 i hi, fun j hj => h4 i j hi (by omega) (by omega)⟩⟩
theorem turnL_len (p : Pt) (l : List (Int × Int)) : (turnL p l).length = l.length := by simp [turnL]
theorem turnL_get (p : Pt) (l : List (Int × Int)) {i : Nat} (hi : i < l.length) : (turnL p l).getD i (0, 0) = turnX p (l.getD (l.length - 1 - i) (0, 0)) := by
  simp [turnL, List.getD_eq_getElem?_getD, hi]
theorem turn_places {p : Pt} {x : Int × Int} (hx : x ∈ places p) : turnX p x ∈ places (turnP p) := by
  rw [mem_places] at hx ⊢
  rw [turn_nF]
  show (0 ≤ (p.fs.length : Int) - 1 - x.1 ∧ (p.fs.length : Int) - 1 - x.1 < p.fs.length) ∧ 0 ≤ x.2 ∧ x.2 < p.H
  omega
theorem turn_right {p : Pt} {l : List (Int × Int)} (h : RightP p l) : RightP (turnP p) (turnL p l) := by
  obtain ⟨h1, h2, h3, h4⟩ := right_iff.1 h
  rw [right_iff, turnL_len, turn_nP]
  refine ⟨h1, fun i hi => ?_, fun i hi => ?_, fun i j hi hj hne => ?_⟩
  · rw [turnL_get p l hi]; exact turn_places (h2 _ (by omega))
  · rw [turnL_get p l hi, turn_al (by omega) (mem_places.1 (h2 _ (by omega))).1, ← h1]
    exact h3 _ (by omega)
  · rw [turnL_get p l hi, turnL_get p l hj, turn_shr (by omega) (by omega), ← h1]
    exact h4 _ _ (by omega) (by omega) (by omega)
theorem turnX_inj {p : Pt} {x y : Int × Int} (h : turnX p x = turnX p y) : x = y := by
  unfold turnX at h
  rw [Prod.mk.injEq] at h
  exact Prod.ext (by omega) h.2
theorem turnL_inj {p : Pt} {l m : List (Int × Int)} (hl : l.length = m.length) (h : turnL p l = turnL p m) : l = m := by
  refine ext_getG (0, 0) hl fun i hi => ?_
  have e : (turnL p l).getD (l.length - 1 - i) (0, 0) = (turnL p m).getD (l.length - 1 - i) (0, 0) := by rw [h]
  rw [turnL_get p l (by omega), turnL_get p m (by omega)] at e
  have := turnX_inj e
  rwa [show l.length - 1 - (l.length - 1 - i) = i by omega, show m.length - 1 - (l.length - 1 - i) = i by omega] at this
theorem turnL_turnL {p : Pt} (l : List (Int × Int)) : turnL (turnP p) (turnL p l) = l := by
  refine ext_getG (0, 0) (by rw [turnL_len, turnL_len]) fun i hi => ?_
  rw [turnL_len, turnL_len] at hi
  rw [turnL_get _ _ (by rw [turnL_len]; exact hi), turnL_len, turnL_get _ _ (by omega), show l.length - 1 - (l.length - 1 - i) = i by omega]
  unfold turnX
  rw [turn_nF]
  exact Prod.ext (by simp only []; omega) rfl
theorem turn_right_iff {p : Pt} {l : List (Int × Int)} : RightP (turnP p) (turnL p l) ↔ RightP p l := by
  constructor
  · intro h
    have := turn_right h
    rwa [turn_turn, turnL_turnL] at this
  · exact turn_right
theorem turn_le (p : Pt) : (rpl p).length ≤ (rpl (turnP p)).length :=
  len_inj (turnL p) (rpl_nodup p) (fun l hl => mem_rpl.2 (turn_right (mem_rpl.1 hl))) fun l hl m hm e => turnL_inj (by rw [(mem_rpl.1 hl).len, (mem_rpl.1 hm).len]) e
theorem turn_cnt (p : Pt) : (rpl (turnP p)).length = (rpl p).length := by
  have h1 := turn_le p
  have h2 := turn_le (turnP p)
  rw [turn_turn] at h2
  omega
theorem turn_E {p : Pt} (k : Ok p) : rgtE (turnP p) true = rgtE p true := by
  rw [rgtE, rgtE, errE_ok k, errE_ok (turn_ok k), turn_cnt]
theorem turn_last {p : Pt} {l : List (Int × Int)} (h : RightP p l) : lastV (turnP p) (turnL p l) ≤ lastV p l := by
  have h1 := (lastN_le (p := p) (l := l) (m := lastV p l) l.length).1 (Int.le_refl _)
  refine (lastN_le (p := turnP p) (l := turnL p l) (m := lastV p l) (turnL p l).length).2 ⟨h1.1, fun j hj => ?_⟩
  rw [turnL_len] at hj
  have h2 := h1.2 (l.length - 1 - j) (by omega)
  have hl := h.len
  rw [turnL_get p l hj, turn_hot _ (by omega), ← hl]
  exact h2
theorem turn_bestL {p : Pt} (k : Ok p) (h0 : rgtE p true = 0) : bestV (turnP p) ≤ bestV p := by
  obtain ⟨b1, b2, _⟩ := best_first h0
  obtain ⟨_, _, b3⟩ := best_first (show rgtE (turnP p) true = 0 by rw [turn_E k]; exact h0)
  have b4 := (b3 _ (mem_rpl.2 (turn_right (mem_rpl.1 b1)))).1
  have b5 := turn_last (mem_rpl.1 b1)
  omega
theorem turn_best {p : Pt} (k : Ok p) : bestV (turnP p) = bestV p := by
  by_cases h0 : rgtE p true = 0
  · have h1 := turn_bestL k h0
    have h2 := turn_bestL (turn_ok k) (by rw [turn_E k]; exact h0)
    rw [turn_turn] at h2
    omega
  · rw [bestV, bestV, if_neg h0, if_neg (by rw [turn_E k]; exact h0)]
theorem turn_latL {p : Pt} (k : Ok p) (h0 : rgtE p true = 0) {t : Nat} (ht : t < p.ps.length) : latV p t ≤ latV (turnP p) ((p.ps.length - 1 - t : Nat) : Int) := by
  obtain ⟨_, _, l, hl, e⟩ := lat_all h0 ht
  have hR := mem_rpl.1 hl
  obtain ⟨_, h1, _⟩ := lat_all (show rgtE (turnP p) true = 0 by rw [turn_E k]; exact h0) (t := p.ps.length - 1 - t) (by rw [turn_nP]; omega)
  have h2 := h1 _ (mem_rpl.2 (turn_right hR))
  rw [turnL_get p l (by rw [hR.len]; omega), hR.len, show p.ps.length - 1 - (p.ps.length - 1 - t) = t by omega] at h2
  have h3 : (turnX p (l.getD t (0, 0))).2 = (l.getD t (0, 0)).2 := rfl
  omega
theorem turn_latE {p : Pt} (k : Ok p) {t : Nat} (ht : t < p.ps.length) : latE (turnP p) ((p.ps.length - 1 - t : Nat) : Int) = latE p t := by
  unfold latE
  rw [(isPot_iff p _).2 ⟨by omega, by omega⟩, (isPot_iff (turnP p) _).2 ⟨by omega, by rw [turn_nP]; omega⟩, turn_E k]
theorem turn_lat {p : Pt} (k : Ok p) {t : Nat} (ht : t < p.ps.length) : latV (turnP p) ((p.ps.length - 1 - t : Nat) : Int) = latV p t := by
  have eE := turn_latE k ht
  by_cases h0 : rgtE p true = 0
  · have h1 := turn_latL k h0 ht
    have h2 := turn_latL (turn_ok k) (by rw [turn_E k]; exact h0) (t := p.ps.length - 1 - t) (by rw [turn_nP]; omega)
    rw [turn_turn, turn_nP, show p.ps.length - 1 - (p.ps.length - 1 - t) = t by omega] at h2
    omega
  · have h1 : ¬ latE p t = 0 := by
      unfold latE
      rw [(isPot_iff p _).2 ⟨by omega, by omega⟩]; exact h0
    rw [latV, latV, if_neg h1, if_neg (by rw [eE]; exact h1)]
theorem stN_congr {p q : Pt} {i j : Nat} {f g : Int} (h : ∀ t : Nat, alR p i (f, (t : Int)) = alR q j (g, (t : Int))) : ∀ n, stN p i f n = stN q j g n := by
  intro n
  induction n with
  | zero => rfl
  | succ n ih => simp only [stN]; rw [ih, h n]
theorem turn_st {p : Pt} {i f : Nat} (hi : i < p.ps.length) (hf : f < p.fs.length) (n : Nat) : stN (turnP p) (p.ps.length - 1 - i) ((p.fs.length - 1 - f : Nat) : Int) n = stN p i f n := by
  refine stN_congr (fun t => ?_) n
  have := turn_al (p := p) (i := p.ps.length - 1 - i) (by omega) (x := ((f : Int), (t : Int))) (by simp only []; omega)
  rw [show p.ps.length - 1 - (p.ps.length - 1 - i) = i by omega] at this
  rw [← this]
  unfold turnX
  rw [show ((p.fs.length - 1 - f : Nat) : Int) = (p.fs.length : Int) - 1 - f by omega]
def rvN (m S : Nat) : Nat → Nat
  | 0 => 0
  | k + 1 => rvN m S k + if S.testBit (m - 1 - k) = true then 2 ^ k else 0
def rv (m S : Nat) : Nat := rvN m S m
theorem rv_f1 : ∀ m, m < 5 → ∀ S, S < 16 → S < 2 ^ m → rv m S < 2 ^ m ∧ pop (rv m S) = pop S ∧ rv m (rv m S) = S := by decide +kernel
theorem rv_f2 : ∀ m, m < 5 → ∀ S, S < 16 → ∀ i, i < 4 → S < 2 ^ m → i < m → (rv m S).testBit i = S.testBit (m - 1 - i) := by decide +kernel
theorem rv_ok {m S : Nat} (hm : m ≤ 4) (hS : S < 2 ^ m) : rv m S < 2 ^ m ∧ pop (rv m S) = pop S ∧ rv m (rv m S) = S ∧ ∀ i, i < m → (rv m S).testBit i = S.testBit (m - 1 - i) := by
  have h := Nat.pow_le_pow_right (show 0 < 2 by decide) hm
  obtain ⟨h1, h2, h3⟩ := rv_f1 m (by omega) S (by omega) hS
  exact ⟨h1, h2, h3, fun i hi => rv_f2 m (by omega) S (by omega) i (by omega) hS hi⟩
/-- What is least of the turned sets has as many. -/
theorem least_turn {f g : Nat → Bool} {m a b : Nat} (hm : m ≤ 4) (h : ∀ S, S < 2 ^ m → f S = true → g (rv m S) = true) (ha : LeastSet f m a) (hb : LeastSet g m b) : pop b ≤ pop a := by
  obtain ⟨h1, h2, _, _⟩ := rv_ok hm ha.lt
  have := hb.le _ h1 (h a ha.lt ha.is)
  omega
theorem used_le {l : List (Int × Int)} {S : Nat} : (∀ f, (used l).testBit f = true → S.testBit f = true) ↔ ∀ i, i < l.length → S.testBit (l.getD i (0, 0)).1.toNat = true := by
  constructor
  · intro h i hi; exact h _ ((used_bit _ _).2 ⟨i, hi, rfl⟩)
  · intro h f hf
    obtain ⟨j, hj, rfl⟩ := (used_bit _ f).1 hf
    exact h j hj
theorem turn_eno {p : Pt} (k : Ok p) {S : Nat} (hS : S < 2 ^ p.fs.length) (h : enoB p S = true) : enoB (turnP p) (rv p.fs.length S) = true := by
  have nF := k.nF
  obtain ⟨_, _, _, hb⟩ := rv_ok (by omega) hS
  rw [enoB_iff k] at h
  rw [enoB_iff (turn_ok k)]
  obtain ⟨l, hl, hu⟩ := h
  have hR := mem_rpl.1 hl
  rw [used_le] at hu
  refine ⟨turnL p l, mem_rpl.2 (turn_right hR), used_le.2 fun i hi => ?_⟩
  rw [turnL_len] at hi
  have hp := mem_places.1 (hR.pl (l.length - 1 - i) (by omega))
  rw [turnL_get p l hi, show (turnX p (l.getD (l.length - 1 - i) (0, 0))).1 = (p.fs.length : Int) - 1 - (l.getD (l.length - 1 - i) (0, 0)).1 from rfl, hb _ (by omega), show p.fs.length - 1 - ((p.fs.length : Int) - 1 - (l.getD (l.length - 1 - i) (0, 0)).1).toNat = (l.getD (l.length - 1 - i) (0, 0)).1.toNat by omega]
  exact hu _ (by omega)
theorem few_is {p : Pt} (k : Ok p) (h0 : rgtE p true = 0) : LeastSet (enoB p) p.fs.length (fewN p) := by
  have := few_least k (rgtE_zero h0).2.2
  rwa [show fewU (rpl p) (rpl p).length = fewN p from (if_pos h0).symm] at this
theorem turn_few {p : Pt} (k : Ok p) : pop (fewN (turnP p)) = pop (fewN p) := by
  have nF := k.nF
  have kt := turn_ok k
  by_cases h0 : rgtE p true = 0
  · have h0' : rgtE (turnP p) true = 0 := by rw [turn_E k]; exact h0
    have l1 := few_is k h0
    have l2 := few_is kt h0'
    rw [turn_nF] at l2
    have a := least_turn (by omega) (fun S hS h => turn_eno k hS h) l1 l2
    have b := least_turn (by omega) (fun S hS h => by
      have := turn_eno kt (by rw [turn_nF]; exact hS) h
      rwa [turn_turn, turn_nF] at this) l2 l1
    omega
  · rw [fewN, fewN, if_neg h0, if_neg (by rw [turn_E k]; exact h0)]
theorem onX_filter (S : Nat) : ∀ n, onX S n = (List.range n).filter fun i => S.testBit i := by
  intro n
  induction n with
  | zero => rfl
  | succ n ih =>
    simp only [onX]
    rw [List.range_succ, List.filter_append, ih, List.filter_cons, List.filter_nil]
    split
    · rfl
    · rw [List.append_nil]
theorem range_rev (n : Nat) : (List.range n).map (fun i => n - 1 - i) = (List.range n).reverse := by
  apply List.ext_getElem
  · simp
  · intro i h1 h2
    simp
theorem onX_rev {m S : Nat} (hm : m ≤ 4) (hS : S < 2 ^ m) : (onX (rv m S) m).map (fun i => m - 1 - i) = (onX S m).reverse := by
  obtain ⟨_, _, _, hb⟩ := rv_ok hm hS
  generalize rv m S = R at hb
  rw [onX_filter, onX_filter, ← List.filter_reverse, ← range_rev, List.filter_map]
  refine congrArg (List.map fun i => m - 1 - i) (List.filter_congr fun i hi => ?_)
  rw [List.mem_range] at hi
  exact hb i hi
theorem bk_rev {α : Type} (l : List α) (d : α) : bk l d = l.reverse := by
  refine ext_getG d (by rw [bk_len, List.length_reverse]) fun i hi => ?_
  rw [bk_len] at hi
  rw [bk_get _ _ hi]
  have : l.length - 1 - i < l.length := by omega
  simp [List.getD_eq_getElem?_getD, List.getElem?_reverse, hi, this]
theorem turn_only {p : Pt} (k : Ok p) {S : Nat} (hS : S < 2 ^ p.ps.length) : onlyP (turnP p) (rv p.ps.length S) = turnP (onlyP p S) := by
  have nP := k.nP
  have e : onL (turnP p) (rv p.ps.length S) (turnP p).ps.length = bk (onL p S p.ps.length) po0 := by
    rw [turn_nP, onL_map, onL_map, bk_rev, ← List.map_reverse, ← onX_rev nP hS, List.map_map]
    refine List.map_congr_left fun i hi => ?_
    exact turn_pot (mem_onX.1 hi).1
  show ({ turnP p with ps := onL (turnP p) (rv p.ps.length S) (turnP p).ps.length } : Pt) = { onlyP p S with fs := bk p.fs 0, ps := bk (onL p S p.ps.length) po0 }
  rw [e]
  rfl
theorem turn_none {p : Pt} (k : Ok p) {S : Nat} (hS : S < 2 ^ p.ps.length) (h : noneP p S = true) : noneP (turnP p) (rv p.ps.length S) = true := by
  unfold noneP at h ⊢
  rw [turn_only k hS, turn_cnt]
  exact h
theorem turn_clE {p : Pt} (k : Ok p) : clE (turnP p) = clE p := by
  rw [clE, clE, errE_ok k, errE_ok (turn_ok k), turn_cnt]
theorem turn_cl {p : Pt} (k : Ok p) : pop (clV (turnP p)) = pop (clV p) := by
  have nP := k.nP
  have kt := turn_ok k
  by_cases h0 : clE p = 0
  · have l1 := fewV_some ((cl_eq k).trans (if_pos h0))
    have l2 := fewV_some ((cl_eq kt).trans (if_pos (by rw [turn_clE k]; exact h0)))
    rw [turn_nP] at l2
    have a := least_turn nP (fun S hS h => turn_none k hS h) l1 l2
    have b := least_turn nP (fun S hS h => by
      have := turn_none kt (by rw [turn_nP]; exact hS) h
      rwa [turn_turn, turn_nP] at this) l2 l1
    omega
  · rw [clV, clV, if_neg h0, if_neg (by rw [turn_clE k]; exact h0)]
end Go.Proofs.Ytliomkpmadpibaa
end
section
set_option linter.unusedVariables false
set_option linter.unusedSimpArgs false
set_option maxHeartbeats 4000000
set_option maxRecDepth 100000
namespace Go.Proofs.Ytliomkpmadpibaa
open Go.V
structure PlanF (p : Pt) (l : List (Int × Int)) : Prop where
  pl : ∀ x ∈ l, x ∈ places p
  len : l.length = 0 ∨ l.length = p.ps.length
def madeF (p : Pt) (H : Hp) : Res → Hp → Prop := fun r H' => H' = H ∧ ∃ l, PlanF p l ∧ r = .ret (plsAV l)
theorem madeF_tri (p : Pt) (N : Nat) (b : Nat → Int) (H : Hp) (k : Ok p) (hN : N < 2 ^ 63) (hb : ∀ i, i < N → 0 ≤ b i ∧ b i ≤ 255) : Tri Try.prog (fnA 34) [p.av, .rsl N 1 (byF b)] H (madeF p H) := by
  have nF := k.nF
  have nP := k.nP
  have eH := k.H_eq
  refine tri_vs (m := mset [5]) Try.func34 (by kernel_rfl) rfl (by simp only [List.length_append, List.length_cons, List.length_nil, Try.ntmps34]; decide) ?_
  simp only [vsAll, binA, binLitA, intA, loadA, loadRow, partA, partOk, fieldAddrA, lenA, boxA, boxZ, pickA, opA, guardV, dstOk, nilSliceOp, argFr, Nat.reduceAdd, Nat.reduceLT, Nat.reduceEqDiff, Nat.reduceBEq, ↓reduceIte, implies_true, eq_self, wtAll, Try.ntmps34]
  refine condV (fun hc => ?_) (fun hc => ?_)
  · simp only [vsAll, opA, dstOk, nilSliceOp, Nat.reduceLT, Nat.reduceBEq, eq_self]
    refine Ent.step (Ent.of [(4, plsAV [])] (by simp only [vsAll, ↓reduceIte, eq_self]; exact AV.Le.nil _ _) HSub_rfl ?_)
    refine Ent.ret ?_
    simp only [vsAll, resA, retA.eq_1, ↓reduceIte, eq_self, Try.results34]
    exact ⟨H, HSub_rfl, rfl, [], ⟨fun x hx => by (cases hx), .inl rfl⟩, rfl⟩
  · simp only [vsAll, dstOk, Nat.reduceLT, Nat.reduceBEq, eq_self]
    simp only [Go.V.nilA, elT26]
    intro il hh_il; (try simp only [Hp.set_none, ite_none] at hh_il)
    simp only [vsAll, loadA, loadRow, partA, partOk, fieldAddrA, lenA, opA, dstOk, Nat.reduceLT, Nat.reduceEqDiff, ↓reduceIte, eq_self, wtAll]
    have hF : 0 < p.fs.length ∧ 0 < p.H := by
      simp only [Bool.or_eq_false_iff, decide_eq_false_iff_not] at hc
      ((try clear hh_il); omega)
    refine vs_loop (σ := Nat × List (Int × Int)) (fun y => y.1 ≤ p.ps.length ∧ y.2.length = y.1 ∧ ∀ x ∈ y.2, x ∈ places p) (fun y => [(1, .rsl N 1 (byF b)), (2, pptr p), (5, .sl il 2 y.1), (19, i64 p.ps.length), (20, i64 y.1)])
      (fun y => H.set il (.row 2 y.1 (plF y.2))) (fun y => p.ps.length - y.1) (0, []) ⟨Nat.zero_le _, rfl, fun x hx => by cases hx⟩ ?_ ?_ fun y hy => ?_
    · simp only [vsAll, argFr, Nat.reduceEqDiff, ↓reduceIte, eq_self, Int.natCast_zero]
    · exact HSub.set HSub_rfl (row_ext fun q hq => absurd hq (Nat.not_lt_zero q))
    · obtain ⟨i, l⟩ := y
      obtain ⟨hi, hll, hl⟩ := hy
      simp only [] at hi hll hl
      simp only [vsAll, binA, binLitA, intA, opA, dstOk, Nat.reduceLT, Nat.reduceEqDiff, ↓reduceIte, eq_self]
      refine condD (fun hd => ?_) (fun hd => ?_)
      · have his : i < p.ps.length := by ((try clear hh_il); omega)
        simp only [vsAll, binA, binLitA, intA, lenA, opA, dstOk, nilSliceOp, Nat.reduceLT, Nat.reduceEqDiff, Nat.reduceBEq, ↓reduceIte, eq_self, wtAll]
        refine condV (fun hc2 => ?_) (fun hc2 => ?_)
        · have hN0 : 0 < N := by
            have := of_decide_eq_true hc2
            ((try clear hh_il); omega)
          simp only [vsAll, binA, binLitA, intA, loadA, loadRow, partA, partOk, indexAddrA, lenA, convA, opA, dstOk, nilSliceOp, Nat.reduceLT, Nat.reduceEqDiff, Nat.reduceBEq, ↓reduceIte, eq_self, ne_eq, wtAll, byF_at]
          have hm0 : 0 ≤ (i : Int).tmod N := Int.tmod_nonneg _ (by ((try clear hh_il); omega))
          have hm1 : (i : Int).tmod N < N := Int.tmod_lt_of_pos _ (by ((try clear hh_il); omega))
          generalize (i : Int).tmod N = r at hm0 hm1 ⊢
          have hbr := hb r.toNat (by ((try clear hh_il); omega))
          generalize b r.toNat = br at hbr ⊢
          refine ⟨by ((try clear hh_il); omega), ⟨hm0, hm1⟩, by ((try clear hh_il); omega), by simp only [InR_i64]; ((try clear hh_il); omega), ?_⟩
          refine vs_draw2 [0, 0, 0, 0, 0, 0, 0, 0, 0, 0, 0, 0, 0, 0, 1, 3] [([0, 1, 2, 3, 4, 5, 6, 7, 8, 9, 10, 11, 12, 13], [], 14), ([], [], 15)] [] (by decide +kernel) ?_
          simp only [vsAll, binA, binLitA, intA, loadA, loadRow, partA, partOk, fieldAddrA, lenA, cellA, cellsA, fillA, okParts, buildSliceA, partIdx, elemsA, lensA, partsA, partsOk, opA, appendA, dstOk, nilSliceOp, Nat.reduceAdd, Nat.reduceMul, Nat.reduceLT, Nat.reduceLeDiff, Nat.reduceEqDiff, Nat.reduceBEq, Int.reduceEq, ↓reduceIte, eq_self, ne_eq, wtAll]
          have hq0 : 0 ≤ ((br).tdiv 16).tmod p.fs.length := Int.tmod_nonneg _ (Int.tdiv_nonneg (by ((try clear hh_il); omega)) (by decide))
          have hq1 : ((br).tdiv 16).tmod p.fs.length < p.fs.length := Int.tmod_lt_of_pos _ (by ((try clear hh_il); omega))
          have hr0 : 0 ≤ ((br).tmod 16).tmod p.hr := Int.tmod_nonneg _ (Int.tmod_nonneg _ (by ((try clear hh_il); omega)))
          have hr1 : ((br).tmod 16).tmod p.hr < p.hr := Int.tmod_lt_of_pos _ (by ((try clear hh_il); omega))
          have hd0 : 0 ≤ (br).tdiv 16 ∧ (br).tdiv 16 ≤ 255 := ⟨Int.tdiv_nonneg (by ((try clear hh_il); omega)) (by decide), by rw [Int.tdiv_eq_ediv_of_nonneg (by ((try clear hh_il); omega))]; ((try clear hh_il); omega)⟩
          generalize ((br).tdiv 16).tmod p.fs.length = x1 at hq0 hq1 ⊢
          generalize ((br).tmod 16).tmod p.hr = x2 at hr0 hr1 ⊢
          generalize (br).tdiv 16 = dd at hd0 ⊢
          refine ⟨by simp only [InR_i64]; ((try clear hh_il); omega), by ((try clear hh_il); omega), by ((try clear hh_il); omega), fun q hq => by (have : q = 0 := by ((try clear hh_il); omega)); subst this; exact ⟨rfl, rfl, trivial⟩, by ((try clear hh_il); omega), by ((try clear hh_il); omega), by simp only [InR_i64]; ((try clear hh_il); omega), loop_next (i + 1, l ++ [(x1, x2)]) ⟨by simp only []; ((try clear hh_il); omega), by simp [hll], fun x hx => ?_⟩ (by simp only []; ((try clear hh_il); omega)) ?_ ?_⟩
          · rcases List.mem_append.1 hx with h | h
            · exact hl x h
            · rw [List.mem_singleton] at h
              subst h
              exact mem_places.2 ⟨⟨hq0, hq1⟩, hr0, by simp only []; ((try clear hh_il); omega)⟩
          · simp only [vsAll, Nat.reduceEqDiff, ↓reduceIte, eq_self, Int.natCast_add, Int.natCast_one]
          · have e := app_pl l (x1, x2) (fun i => [[i64 x1, i64 x2]].getD i []) rfl
            rw [hll] at e
            rw [e]
            (repeat (first | exact HSub_rfl | refine HSub_put_eq (by simp only [vsAll, ↓reduceIte, eq_self]) ?_ | refine HSub_drop2 (by simp only [eq_self, hh_il]) ?_ | refine HSub_keep_eq (by simp only [vsAll, binA, binLitA, intA, aggA, aggV, boolA, nilA2, isConst, unA, loadA, loadRow, partA, partOk, fieldAddrA, indexAddrA, indexA, fieldA, extractA, lenA, nilCheckA, boxA, boxZ, cellA, cellsA, fillA, okParts, buildSliceA, buildMutA, makeSliceA, partIdx, elemsA, lensA, ifaceA, convA, mmA, pickA, okAll, stAll, opsA, partsA, partsOk, opA, allocA, boxMutA, newCells, okCells, storeObj, appendA, guardV, taA, nM, mapUpA, lookA, sliceA, sliceS, boundsA, opO, okO, copyA, dstOk, nilA, quietOk, nilSliceOp, deferV, panA, resA, argFr, retA.eq_1, retA.eq_2, Nat.reduceAdd, Nat.reduceSub, Nat.reduceMul, Nat.reduceLT, Nat.reduceLeDiff, Nat.reduceEqDiff, Nat.reduceBEq, Int.reduceAdd, Int.reduceSub, Int.reduceMul, Int.reduceNeg, Int.reduceLE, Int.reduceLT, Int.reduceEq, Int.reduceNe, Int.reduceToNat, ↓reduceIte, reduceCtorEq, implies_true, forall_const, eq_self, ne_eq, arrL, wtAll, Try.ntmps34, Try.results34, hh_il]) ?_))
        · simp only [vsAll]
          refine vs_draw2 [0, 0, 0, 0, 0, 0, 0, 0, 0, 0, 0, 0, 0, 0, 1, 3] [([0, 1, 2, 3, 4, 5, 6, 7, 8, 9, 10, 11, 12, 13], [], 14), ([], [], 15)] [] (by decide +kernel) ?_
          simp only [vsAll, binA, binLitA, intA, loadA, loadRow, partA, partOk, fieldAddrA, lenA, cellA, cellsA, fillA, okParts, buildSliceA, partIdx, elemsA, lensA, partsA, partsOk, opA, appendA, dstOk, nilSliceOp, Nat.reduceAdd, Nat.reduceMul, Nat.reduceLT, Nat.reduceLeDiff, Nat.reduceEqDiff, Nat.reduceBEq, Int.reduceEq, ↓reduceIte, eq_self, ne_eq, wtAll]
          have hq0 : 0 ≤ ((i : Int).tdiv 16).tmod p.fs.length := Int.tmod_nonneg _ (Int.tdiv_nonneg (by ((try clear hh_il); omega)) (by decide))
          have hq1 : ((i : Int).tdiv 16).tmod p.fs.length < p.fs.length := Int.tmod_lt_of_pos _ (by ((try clear hh_il); omega))
          have hr0 : 0 ≤ ((i : Int).tmod 16).tmod p.hr := Int.tmod_nonneg _ (Int.tmod_nonneg _ (by ((try clear hh_il); omega)))
          have hr1 : ((i : Int).tmod 16).tmod p.hr < p.hr := Int.tmod_lt_of_pos _ (by ((try clear hh_il); omega))
          have hd0 : 0 ≤ (i : Int).tdiv 16 ∧ (i : Int).tdiv 16 ≤ 255 := ⟨Int.tdiv_nonneg (by ((try clear hh_il); omega)) (by decide), by rw [Int.tdiv_eq_ediv_of_nonneg (by ((try clear hh_il); omega))]; ((try clear hh_il); omega)⟩
          generalize ((i : Int).tdiv 16).tmod p.fs.length = x1 at hq0 hq1 ⊢
          generalize ((i : Int).tmod 16).tmod p.hr = x2 at hr0 hr1 ⊢
          generalize (i : Int).tdiv 16 = dd at hd0 ⊢
          refine ⟨by simp only [InR_i64]; ((try clear hh_il); omega), by ((try clear hh_il); omega), by ((try clear hh_il); omega), fun q hq => by (have : q = 0 := by ((try clear hh_il); omega)); subst this; exact ⟨rfl, rfl, trivial⟩, by ((try clear hh_il); omega), by ((try clear hh_il); omega), by simp only [InR_i64]; ((try clear hh_il); omega), loop_next (i + 1, l ++ [(x1, x2)]) ⟨by simp only []; ((try clear hh_il); omega), by simp [hll], fun x hx => ?_⟩ (by simp only []; ((try clear hh_il); omega)) ?_ ?_⟩
          · rcases List.mem_append.1 hx with h | h
            · exact hl x h
            · rw [List.mem_singleton] at h
              subst h
              exact mem_places.2 ⟨⟨hq0, hq1⟩, hr0, by simp only []; ((try clear hh_il); omega)⟩
          · simp only [vsAll, Nat.reduceEqDiff, ↓reduceIte, eq_self, Int.natCast_add, Int.natCast_one]
          · have e := app_pl l (x1, x2) (fun i => [[i64 x1, i64 x2]].getD i []) rfl
            rw [hll] at e
            rw [e]
            (repeat (first | exact HSub_rfl | refine HSub_put_eq (by simp only [vsAll, ↓reduceIte, eq_self]) ?_ | refine HSub_drop2 (by simp only [eq_self, hh_il]) ?_ | refine HSub_keep_eq (by simp only [vsAll, binA, binLitA, intA, aggA, aggV, boolA, nilA2, isConst, unA, loadA, loadRow, partA, partOk, fieldAddrA, indexAddrA, indexA, fieldA, extractA, lenA, nilCheckA, boxA, boxZ, cellA, cellsA, fillA, okParts, buildSliceA, buildMutA, makeSliceA, partIdx, elemsA, lensA, ifaceA, convA, mmA, pickA, okAll, stAll, opsA, partsA, partsOk, opA, allocA, boxMutA, newCells, okCells, storeObj, appendA, guardV, taA, nM, mapUpA, lookA, sliceA, sliceS, boundsA, opO, okO, copyA, dstOk, nilA, quietOk, nilSliceOp, deferV, panA, resA, argFr, retA.eq_1, retA.eq_2, Nat.reduceAdd, Nat.reduceSub, Nat.reduceMul, Nat.reduceLT, Nat.reduceLeDiff, Nat.reduceEqDiff, Nat.reduceBEq, Int.reduceAdd, Int.reduceSub, Int.reduceMul, Int.reduceNeg, Int.reduceLE, Int.reduceLT, Int.reduceEq, Int.reduceNe, Int.reduceToNat, ↓reduceIte, reduceCtorEq, implies_true, forall_const, eq_self, ne_eq, arrL, wtAll, Try.ntmps34, Try.results34, hh_il]) ?_))
      · have ei : i = p.ps.length := by ((try clear hh_il); omega)
        subst ei
        simp only [vsAll, opA, dstOk, nilSliceOp, Nat.reduceLT, Nat.reduceEqDiff, Nat.reduceBEq, ↓reduceIte, eq_self]
        rw [← hll]
        refine ret_freeze (by rw [Try.results34]) rfl (Hp.set_same _ _ _) ?_
        rw [set_del hh_il]
        exact ⟨H, HSub_rfl, rfl, l, ⟨hl, .inr (by ((try clear hh_il); omega))⟩, rfl⟩
end Go.Proofs.Ytliomkpmadpibaa
end
section
set_option linter.unusedVariables false
set_option linter.unusedSimpArgs false
set_option maxHeartbeats 4000000
set_option maxRecDepth 100000
namespace Go.Proofs.Ytliomkpmadpibaa
open Go.V
theorem st_ok {p : Pt} (k : Ok p) {i f : Nat} (hi : i < p.ps.length) (hf : f < p.fs.length) : stE p i f = 0 ∧ stV p i f = stN p i f p.H := by
  have e : stE p i f = 0 := by
    unfold stE
    rw [(isPot_iff p _).2 ⟨by omega, by omega⟩, (isFire_iff p _).2 ⟨by omega, by omega⟩]
    exact errE_ok k
  exact ⟨e, by unfold stV; rw [if_pos e, Int.toNat_natCast]⟩
end Go.Proofs.Ytliomkpmadpibaa
end
